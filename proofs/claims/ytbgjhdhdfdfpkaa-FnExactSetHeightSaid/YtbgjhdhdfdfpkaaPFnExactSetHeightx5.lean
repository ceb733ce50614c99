/- Text written by a program for this claim: contracts of the functions of one law. -/
import Derived.Test.YtbgjhdhdfdfpkaaPFnExactSetHeightx0
import Derived.Test.YtbgjhdhdfdfpkaaPFnExactSetHeightx1
import Derived.Test.YtbgjhdhdfdfpkaaPFnExactSetHeightx2
import Derived.Test.YtbgjhdhdfdfpkaaPFnExactSetHeightx4
namespace Go.Proofs.Ytbgjhdhdfdfpkaa.PFnExactSetHeight
open Go.RowKit Go.Proofs.YtbgjhdhdfdfpkaaW.PrintWords Go.Proofs.YtbgjhdhdfdfpkaaW.PrintLast Go.Proofs.YtbgjhdhdfdfpkaaW.PrintMore
attribute [local go_sem] max2_int min2_int max_two min_two max_three min_three max_four min_four   -- for this text's walks alone
set_option linter.unusedVariables false
set_option linter.unusedSimpArgs false
namespace ShortPFnExactSetHeight5
theorem odt {p : Prop} [Decidable p] (h : decide p = true := by first | (with_reducible assumption) | assumption) : p := of_decide_eq_true h
theorem am {p : Prop} (h : p) : Aside0 p := ⟨h⟩
theorem ba {w W : World} (h : Below w.heap.size w W) (o : Obj) : Below w.heap.size w (W.alloc o) := below_alloc h o
theorem bn {B : Nat} {w W : World} (h : Below B w W) (n : Nat) : Below B w (W.drewN n) := pw_below_drewN h n
theorem kn {w : World} {g : Nat} {o : Obj} (h : w.heap[g]? = some o) (n : Nat) : (w.drewN n).heap[g]? = some o := h
theorem kd {w : World} {g : Nat} {o : Obj} (h : w.heap[g]? = some o) : w.drew.heap[g]? = some o := h
theorem ka {w : World} {g : Nat} {o : Obj} (h : w.heap[g]? = some o) (o' : Obj) : (w.alloc o').heap[g]? = some o := blk_alloc h o'
end ShortPFnExactSetHeight5
open ShortPFnExactSetHeight5

/-! ### laws_FnExactSetHeight: function 4 -/
mutual
def laws_FnExactSetHeight.j0 : Nat → Int → Int → Bool → Bool → Bool → Int → Int → List Int → Int → Int → Int → Int → Int → Int → List Int → Int → Int → Int → Int → Int → Int → List Int → Int → Int → Int → Int → Int → Int → List Int → Int → Int → Int → Int → Option (Bool)
 | 0, _, _, _, _, _, _, _, _, _, _, _, _, _, _, _, _, _, _, _, _, _, _, _, _, _, _, _, _, _, _, _, _, _ => none
 | k + 1, x1, x2, x9, x12, x48, x178000, x178001, x178002, x178003, x178004, x178005, x178006, x199000, x199001, x199002, x199003, x199004, x199005, x199006, x209000, x209001, x209002, x209003, x209004, x209005, x209006, x220000, x220001, x220002, x220003, x220004, x220005, x220006 => if x48 = true then (some false) else ((laws_toTerrain.f k x178000 x178001 x178002 x178003 x178004 x178005 x178006).bind fun bt221 => ((laws_eqTerrain.f k x209000 x209001 x209002 x209003 x209004 x209005 x209006 bt221.1 bt221.2.1 bt221.2.2.1 bt221.2.2.2.1 bt221.2.2.2.2.1 bt221.2.2.2.2.2.1 bt221.2.2.2.2.2.2).bind fun t230 => (if t230 = true then ((laws_markTerrain.f k x209000 x209001 x209002 x209003 x209004 x209005 x209006 1).bind fun bt231 => (if bt231.1 < 0 then (laws_FnExactSetHeight.j1 k x1 x2 x9 true x178000 x178001 x178002 x178003 x178004 x178005 x178006 x199000 x199001 x199002 x199003 x199004 x199005 x199006 x220000 x220001 x220002 x220003 x220004 x220005 x220006) else ((laws_eqTerrain.f k x220000 x220001 x220002 x220003 x220004 x220005 x220006 x199000 x199001 x199002 x199003 x199004 x199005 x199006).bind fun t233 => (if t233 = true then (laws_FnExactSetHeight.j1 k x1 x2 x9 (x12 != x9) x178000 x178001 x178002 x178003 x178004 x178005 x178006 x199000 x199001 x199002 x199003 x199004 x199005 x199006 x220000 x220001 x220002 x220003 x220004 x220005 x220006) else (laws_FnExactSetHeight.j1 k x1 x2 x9 true x178000 x178001 x178002 x178003 x178004 x178005 x178006 x199000 x199001 x199002 x199003 x199004 x199005 x199006 x220000 x220001 x220002 x220003 x220004 x220005 x220006))))) else (some false))))
def laws_FnExactSetHeight.j1 : Nat → Int → Int → Bool → Bool → Int → Int → List Int → Int → Int → Int → Int → Int → Int → List Int → Int → Int → Int → Int → Int → Int → List Int → Int → Int → Int → Int → Option (Bool)
 | 0, _, _, _, _, _, _, _, _, _, _, _, _, _, _, _, _, _, _, _, _, _, _, _, _, _ => none
 | k + 1, x1, x2, x9, x69, x178000, x178001, x178002, x178003, x178004, x178005, x178006, x199000, x199001, x199002, x199003, x199004, x199005, x199006, x220000, x220001, x220002, x220003, x220004, x220005, x220006 => if x69 = true then (some false) else ((laws_markTerrain.f k x220000 x220001 x220002 x220003 x220004 x220005 x220006 1).bind fun bt234 => ((laws_heldTerrain.f k x220000 x220001 bt234.2 x220003 x220004 x220005 x220006 1).bind fun t236 => (if t236 < 0 then (some false) else (if t236 = bt234.1 then ((laws_toTerrain.f k x178000 x178001 x178002 x178003 x178004 x178005 x178006).bind fun bt237 => ((impl_SetHeight.f k bt237.1 bt237.2.1 bt237.2.2.1 bt237.2.2.2.1 bt237.2.2.2.2.1 bt237.2.2.2.2.2.1 bt237.2.2.2.2.2.2 x1 x2).bind fun bt246 => ((laws_eqTerrain.f k bt246.1 bt246.2.1 bt246.2.2.1 bt246.2.2.2.1 bt246.2.2.2.2.1 bt246.2.2.2.2.2.1 bt246.2.2.2.2.2.2.1 x199000 x199001 x199002 x199003 x199004 x199005 x199006).bind fun t257 => (if t257 = true then (laws_FnExactSetHeight.j2 k bt234.1 (bt246.2.2.2.2.2.2.2 != x9) x220000 x220001 bt234.2 x220003 x220004 x220005 x220006) else (laws_FnExactSetHeight.j2 k bt234.1 true x220000 x220001 bt234.2 x220003 x220004 x220005 x220006))))) else (some false)))))
def laws_FnExactSetHeight.j2 : Nat → Int → Bool → Int → Int → List Int → Int → Int → Int → Int → Option (Bool)
 | 0, _, _, _, _, _, _, _, _, _ => none
 | k + 1, x14, x97, x220000, x220001, x220002, x220003, x220004, x220005, x220006 => if x97 = true then (some false) else ((laws_heldTerrain.f k x220000 x220001 x220002 x220003 x220004 x220005 x220006 1).bind fun t258 => (if t258 < 0 then (some false) else (if t258 = x14 then (some true) else (some false))))
end
def laws_FnExactSetHeight.f (k : Nat) (a0_0 : Int) (a0_1 : Int) (l0_2 : List Int) (a0_3 : Int) (a0_4 : Int) (a0_5 : Int) (a0_6 : Int) (a1 : Int) (a2 : Int) : Option (Bool) := (laws_szTerrain.f a0_0 a0_1 l0_2 a0_3 a0_4 a0_5 a0_6 1048576).bind fun t178 => (if t178 < 0 then (some true) else ((laws_toTerrain.f k a0_0 a0_1 l0_2 a0_3 a0_4 a0_5 a0_6).bind fun bt179 => ((spec_SetHeight.f k bt179.1 bt179.2.1 bt179.2.2.1 bt179.2.2.2.1 bt179.2.2.2.2.1 bt179.2.2.2.2.2.1 bt179.2.2.2.2.2.2 a1 a2).bind fun bt188 => ((laws_toTerrain.f k a0_0 a0_1 l0_2 a0_3 a0_4 a0_5 a0_6).bind fun bt199 => ((impl_SetHeight.f k bt199.1 bt199.2.1 bt199.2.2.1 bt199.2.2.2.1 bt199.2.2.2.2.1 bt199.2.2.2.2.2.1 bt199.2.2.2.2.2.2 a1 a2).bind fun bt209 => ((laws_eqTerrain.f k bt209.1 bt209.2.1 bt209.2.2.1 bt209.2.2.2.1 bt209.2.2.2.2.1 bt209.2.2.2.2.2.1 bt209.2.2.2.2.2.2.1 bt188.1 bt188.2.1 bt188.2.2.1 bt188.2.2.2.1 bt188.2.2.2.2.1 bt188.2.2.2.2.2.1 bt188.2.2.2.2.2.2.1).bind fun t220 => (if t220 = true then (laws_FnExactSetHeight.j0 k a1 a2 bt188.2.2.2.2.2.2.2 bt209.2.2.2.2.2.2.2 (bt209.2.2.2.2.2.2.2 != bt188.2.2.2.2.2.2.2) a0_0 a0_1 l0_2 a0_3 a0_4 a0_5 a0_6 bt188.1 bt188.2.1 bt188.2.2.1 bt188.2.2.2.1 bt188.2.2.2.2.1 bt188.2.2.2.2.2.1 bt188.2.2.2.2.2.2.1 bt199.1 bt199.2.1 bt199.2.2.1 bt199.2.2.2.1 bt199.2.2.2.2.1 bt199.2.2.2.2.2.1 bt199.2.2.2.2.2.2 bt209.1 bt209.2.1 bt209.2.2.1 bt209.2.2.2.1 bt209.2.2.2.2.1 bt209.2.2.2.2.2.1 bt209.2.2.2.2.2.2.1) else (laws_FnExactSetHeight.j0 k a1 a2 bt188.2.2.2.2.2.2.2 bt209.2.2.2.2.2.2.2 true a0_0 a0_1 l0_2 a0_3 a0_4 a0_5 a0_6 bt188.1 bt188.2.1 bt188.2.2.1 bt188.2.2.2.1 bt188.2.2.2.2.1 bt188.2.2.2.2.2.1 bt188.2.2.2.2.2.2.1 bt199.1 bt199.2.1 bt199.2.2.1 bt199.2.2.2.1 bt199.2.2.2.2.1 bt199.2.2.2.2.2.1 bt199.2.2.2.2.2.2 bt209.1 bt209.2.1 bt209.2.2.1 bt209.2.2.2.1 bt209.2.2.2.2.1 bt209.2.2.2.2.2.1 bt209.2.2.2.2.2.2.1))))))))
theorem laws_FnExactSetHeight.mono_l : ∀ k, (∀ y0 y1 y2 y3 y4 y5 y6 y7 y8 y9 y10 y11 y12 y13 y14 y15 y16 y17 y18 y19 y20 y21 y22 y23 y24 y25 y26 y27 y28 y29 y30 y31 y32, LeO (laws_FnExactSetHeight.j0 k y0 y1 y2 y3 y4 y5 y6 y7 y8 y9 y10 y11 y12 y13 y14 y15 y16 y17 y18 y19 y20 y21 y22 y23 y24 y25 y26 y27 y28 y29 y30 y31 y32) (laws_FnExactSetHeight.j0 (k + 1) y0 y1 y2 y3 y4 y5 y6 y7 y8 y9 y10 y11 y12 y13 y14 y15 y16 y17 y18 y19 y20 y21 y22 y23 y24 y25 y26 y27 y28 y29 y30 y31 y32)) ∧ (∀ y0 y1 y2 y3 y4 y5 y6 y7 y8 y9 y10 y11 y12 y13 y14 y15 y16 y17 y18 y19 y20 y21 y22 y23 y24, LeO (laws_FnExactSetHeight.j1 k y0 y1 y2 y3 y4 y5 y6 y7 y8 y9 y10 y11 y12 y13 y14 y15 y16 y17 y18 y19 y20 y21 y22 y23 y24) (laws_FnExactSetHeight.j1 (k + 1) y0 y1 y2 y3 y4 y5 y6 y7 y8 y9 y10 y11 y12 y13 y14 y15 y16 y17 y18 y19 y20 y21 y22 y23 y24)) ∧ (∀ y0 y1 y2 y3 y4 y5 y6 y7 y8, LeO (laws_FnExactSetHeight.j2 k y0 y1 y2 y3 y4 y5 y6 y7 y8) (laws_FnExactSetHeight.j2 (k + 1) y0 y1 y2 y3 y4 y5 y6 y7 y8))
 | 0 => ⟨fun _ _ _ _ _ _ _ _ _ _ _ _ _ _ _ _ _ _ _ _ _ _ _ _ _ _ _ _ _ _ _ _ _ r h => by simp [laws_FnExactSetHeight.j0] at h, fun _ _ _ _ _ _ _ _ _ _ _ _ _ _ _ _ _ _ _ _ _ _ _ _ _ r h => by simp [laws_FnExactSetHeight.j1] at h, fun _ _ _ _ _ _ _ _ _ r h => by simp [laws_FnExactSetHeight.j2] at h⟩
 | k + 1 => by
  obtain ⟨ih0, ih1, ih2⟩ := laws_FnExactSetHeight.mono_l k
  refine ⟨?_, ?_, ?_⟩
  ·intro y0 y1 y2 y3 y4 y5 y6 y7 y8 y9 y10 y11 y12 y13 y14 y15 y16 y17 y18 y19 y20 y21 y22 y23 y24 y25 y26 y27 y28 y29 y30 y31 y32
   unfold laws_FnExactSetHeight.j0
   repeat' first
   | (with_reducible exact ih0 _ _ _ _ _ _ _ _ _ _ _ _ _ _ _ _ _ _ _ _ _ _ _ _ _ _ _ _ _ _ _ _ _)
   | (with_reducible exact ih1 _ _ _ _ _ _ _ _ _ _ _ _ _ _ _ _ _ _ _ _ _ _ _ _ _)
   | (with_reducible exact ih2 _ _ _ _ _ _ _ _ _)
   | (with_reducible exact impl_SetHeight.mono _ _ _ _ _ _ _ _ _ _)
   | (with_reducible exact laws_eqTerrain.mono _ _ _ _ _ _ _ _ _ _ _ _ _ _ _)
   | (with_reducible exact laws_heldTerrain.mono _ _ _ _ _ _ _ _ _)
   | (with_reducible exact laws_markTerrain.mono _ _ _ _ _ _ _ _ _)
   | (with_reducible exact laws_toTerrain.mono _ _ _ _ _ _ _ _)
   | (with_reducible exact spec_SetHeight.mono _ _ _ _ _ _ _ _ _ _)
   | (with_reducible exact LeO.refl _)
   | (with_reducible exact LeO.none _)
   | (with_reducible refine LeO.ite ?_ ?_)
   | (with_reducible refine LeO.bind ?_ (fun _ => ?_))
   | exact ih0 _ _ _ _ _ _ _ _ _ _ _ _ _ _ _ _ _ _ _ _ _ _ _ _ _ _ _ _ _ _ _ _ _
   | exact ih1 _ _ _ _ _ _ _ _ _ _ _ _ _ _ _ _ _ _ _ _ _ _ _ _ _
   | exact ih2 _ _ _ _ _ _ _ _ _
   | exact impl_SetHeight.mono _ _ _ _ _ _ _ _ _ _
   | exact laws_eqTerrain.mono _ _ _ _ _ _ _ _ _ _ _ _ _ _ _
   | exact laws_heldTerrain.mono _ _ _ _ _ _ _ _ _
   | exact laws_markTerrain.mono _ _ _ _ _ _ _ _ _
   | exact laws_toTerrain.mono _ _ _ _ _ _ _ _
   | exact spec_SetHeight.mono _ _ _ _ _ _ _ _ _ _
   | exact LeO.none _
   | refine LeO.ite ?_ ?_
   | refine LeO.bind ?_ (fun _ => ?_)
  ·intro y0 y1 y2 y3 y4 y5 y6 y7 y8 y9 y10 y11 y12 y13 y14 y15 y16 y17 y18 y19 y20 y21 y22 y23 y24
   unfold laws_FnExactSetHeight.j1
   repeat' first
   | (with_reducible exact ih0 _ _ _ _ _ _ _ _ _ _ _ _ _ _ _ _ _ _ _ _ _ _ _ _ _ _ _ _ _ _ _ _ _)
   | (with_reducible exact ih1 _ _ _ _ _ _ _ _ _ _ _ _ _ _ _ _ _ _ _ _ _ _ _ _ _)
   | (with_reducible exact ih2 _ _ _ _ _ _ _ _ _)
   | (with_reducible exact impl_SetHeight.mono _ _ _ _ _ _ _ _ _ _)
   | (with_reducible exact laws_eqTerrain.mono _ _ _ _ _ _ _ _ _ _ _ _ _ _ _)
   | (with_reducible exact laws_heldTerrain.mono _ _ _ _ _ _ _ _ _)
   | (with_reducible exact laws_markTerrain.mono _ _ _ _ _ _ _ _ _)
   | (with_reducible exact laws_toTerrain.mono _ _ _ _ _ _ _ _)
   | (with_reducible exact spec_SetHeight.mono _ _ _ _ _ _ _ _ _ _)
   | (with_reducible exact LeO.refl _)
   | (with_reducible exact LeO.none _)
   | (with_reducible refine LeO.ite ?_ ?_)
   | (with_reducible refine LeO.bind ?_ (fun _ => ?_))
   | exact ih0 _ _ _ _ _ _ _ _ _ _ _ _ _ _ _ _ _ _ _ _ _ _ _ _ _ _ _ _ _ _ _ _ _
   | exact ih1 _ _ _ _ _ _ _ _ _ _ _ _ _ _ _ _ _ _ _ _ _ _ _ _ _
   | exact ih2 _ _ _ _ _ _ _ _ _
   | exact impl_SetHeight.mono _ _ _ _ _ _ _ _ _ _
   | exact laws_eqTerrain.mono _ _ _ _ _ _ _ _ _ _ _ _ _ _ _
   | exact laws_heldTerrain.mono _ _ _ _ _ _ _ _ _
   | exact laws_markTerrain.mono _ _ _ _ _ _ _ _ _
   | exact laws_toTerrain.mono _ _ _ _ _ _ _ _
   | exact spec_SetHeight.mono _ _ _ _ _ _ _ _ _ _
   | exact LeO.none _
   | refine LeO.ite ?_ ?_
   | refine LeO.bind ?_ (fun _ => ?_)
  ·intro y0 y1 y2 y3 y4 y5 y6 y7 y8
   unfold laws_FnExactSetHeight.j2
   repeat' first
   | (with_reducible exact ih0 _ _ _ _ _ _ _ _ _ _ _ _ _ _ _ _ _ _ _ _ _ _ _ _ _ _ _ _ _ _ _ _ _)
   | (with_reducible exact ih1 _ _ _ _ _ _ _ _ _ _ _ _ _ _ _ _ _ _ _ _ _ _ _ _ _)
   | (with_reducible exact ih2 _ _ _ _ _ _ _ _ _)
   | (with_reducible exact impl_SetHeight.mono _ _ _ _ _ _ _ _ _ _)
   | (with_reducible exact laws_eqTerrain.mono _ _ _ _ _ _ _ _ _ _ _ _ _ _ _)
   | (with_reducible exact laws_heldTerrain.mono _ _ _ _ _ _ _ _ _)
   | (with_reducible exact laws_markTerrain.mono _ _ _ _ _ _ _ _ _)
   | (with_reducible exact laws_toTerrain.mono _ _ _ _ _ _ _ _)
   | (with_reducible exact spec_SetHeight.mono _ _ _ _ _ _ _ _ _ _)
   | (with_reducible exact LeO.refl _)
   | (with_reducible exact LeO.none _)
   | (with_reducible refine LeO.ite ?_ ?_)
   | (with_reducible refine LeO.bind ?_ (fun _ => ?_))
   | exact ih0 _ _ _ _ _ _ _ _ _ _ _ _ _ _ _ _ _ _ _ _ _ _ _ _ _ _ _ _ _ _ _ _ _
   | exact ih1 _ _ _ _ _ _ _ _ _ _ _ _ _ _ _ _ _ _ _ _ _ _ _ _ _
   | exact ih2 _ _ _ _ _ _ _ _ _
   | exact impl_SetHeight.mono _ _ _ _ _ _ _ _ _ _
   | exact laws_eqTerrain.mono _ _ _ _ _ _ _ _ _ _ _ _ _ _ _
   | exact laws_heldTerrain.mono _ _ _ _ _ _ _ _ _
   | exact laws_markTerrain.mono _ _ _ _ _ _ _ _ _
   | exact laws_toTerrain.mono _ _ _ _ _ _ _ _
   | exact spec_SetHeight.mono _ _ _ _ _ _ _ _ _ _
   | exact LeO.none _
   | refine LeO.ite ?_ ?_
   | refine LeO.bind ?_ (fun _ => ?_)
theorem laws_FnExactSetHeight.mono : ∀ a0 a1 a2 a3 a4 a5 a6 a7 a8 k, LeO (laws_FnExactSetHeight.f k a0 a1 a2 a3 a4 a5 a6 a7 a8) (laws_FnExactSetHeight.f (k + 1) a0 a1 a2 a3 a4 a5 a6 a7 a8) := by
 intro a0 a1 a2 a3 a4 a5 a6 a7 a8 k
 obtain ⟨ih0, ih1, ih2⟩ := laws_FnExactSetHeight.mono_l k
 unfold laws_FnExactSetHeight.f
 repeat' first
   | (with_reducible exact ih0 _ _ _ _ _ _ _ _ _ _ _ _ _ _ _ _ _ _ _ _ _ _ _ _ _ _ _ _ _ _ _ _ _)
   | (with_reducible exact ih1 _ _ _ _ _ _ _ _ _ _ _ _ _ _ _ _ _ _ _ _ _ _ _ _ _)
   | (with_reducible exact ih2 _ _ _ _ _ _ _ _ _)
   | (with_reducible exact impl_SetHeight.mono _ _ _ _ _ _ _ _ _ _)
   | (with_reducible exact laws_eqTerrain.mono _ _ _ _ _ _ _ _ _ _ _ _ _ _ _)
   | (with_reducible exact laws_heldTerrain.mono _ _ _ _ _ _ _ _ _)
   | (with_reducible exact laws_markTerrain.mono _ _ _ _ _ _ _ _ _)
   | (with_reducible exact laws_toTerrain.mono _ _ _ _ _ _ _ _)
   | (with_reducible exact spec_SetHeight.mono _ _ _ _ _ _ _ _ _ _)
   | (with_reducible exact LeO.refl _)
   | (with_reducible exact LeO.none _)
   | (with_reducible refine LeO.ite ?_ ?_)
   | (with_reducible refine LeO.bind ?_ (fun _ => ?_))
   | exact ih0 _ _ _ _ _ _ _ _ _ _ _ _ _ _ _ _ _ _ _ _ _ _ _ _ _ _ _ _ _ _ _ _ _
   | exact ih1 _ _ _ _ _ _ _ _ _ _ _ _ _ _ _ _ _ _ _ _ _ _ _ _ _
   | exact ih2 _ _ _ _ _ _ _ _ _
   | exact impl_SetHeight.mono _ _ _ _ _ _ _ _ _ _
   | exact laws_eqTerrain.mono _ _ _ _ _ _ _ _ _ _ _ _ _ _ _
   | exact laws_heldTerrain.mono _ _ _ _ _ _ _ _ _
   | exact laws_markTerrain.mono _ _ _ _ _ _ _ _ _
   | exact laws_toTerrain.mono _ _ _ _ _ _ _ _
   | exact spec_SetHeight.mono _ _ _ _ _ _ _ _ _ _
   | exact LeO.none _
   | refine LeO.ite ?_ ?_
   | refine LeO.bind ?_ (fun _ => ?_)
set_option maxHeartbeats 8000000 in
set_option maxRecDepth 100000 in
theorem laws_FnExactSetHeight.calls (k : Nat) (a0_0 : Int) (a0_1 : Int) (A0_2 : Option Addr) (c0_2 : Nat) (l0_2 : List Int) (a0_3 : Int) (a0_4 : Int) (a0_5 : Int) (a0_6 : Int) (a1 : Int) (a2 : Int) (r : Bool) (w : World) (hr0_2 : Kd.C (Kd.int .i64) w A0_2 l0_2.length l0_2) (hc0_2 : l0_2.length ≤ c0_2) (h : laws_FnExactSetHeight.f k a0_0 a0_1 l0_2 a0_3 a0_4 a0_5 a0_6 a1 a2 = some r) :
  Calls Try.prog 4 #[.agg #[.int .i64 a0_0, .int .i64 a0_1, .slice A0_2 l0_2.length c0_2, .int .i64 a0_3, .int .i64 a0_4, .int .i64 a0_5, .int .i64 a0_6], .int .i64 a1, .int .i64 a2] w fun e w' => e = .returned (.bool r) ∧ Below w.heap.size w w' := by
 have hu24 := Try.underlying24
 have hu27 := Try.underlying27
 have HR0_2 := Aside0.mk hr0_2
 have HC0_2 := Aside0.mk hc0_2
 clear hr0_2 hc0_2
 have HB := am (Below.refl w.heap.size w)
 have H : ((laws_szTerrain.f a0_0 a0_1 l0_2 a0_3 a0_4 a0_5 a0_6 1048576).bind fun t178 => (if t178 < 0 then (some true) else ((laws_toTerrain.f k a0_0 a0_1 l0_2 a0_3 a0_4 a0_5 a0_6).bind fun bt179 => ((spec_SetHeight.f k bt179.1 bt179.2.1 bt179.2.2.1 bt179.2.2.2.1 bt179.2.2.2.2.1 bt179.2.2.2.2.2.1 bt179.2.2.2.2.2.2 a1 a2).bind fun bt188 => ((laws_toTerrain.f k a0_0 a0_1 l0_2 a0_3 a0_4 a0_5 a0_6).bind fun bt199 => ((impl_SetHeight.f k bt199.1 bt199.2.1 bt199.2.2.1 bt199.2.2.2.1 bt199.2.2.2.2.1 bt199.2.2.2.2.2.1 bt199.2.2.2.2.2.2 a1 a2).bind fun bt209 => ((laws_eqTerrain.f k bt209.1 bt209.2.1 bt209.2.2.1 bt209.2.2.2.1 bt209.2.2.2.2.1 bt209.2.2.2.2.2.1 bt209.2.2.2.2.2.2.1 bt188.1 bt188.2.1 bt188.2.2.1 bt188.2.2.2.1 bt188.2.2.2.2.1 bt188.2.2.2.2.2.1 bt188.2.2.2.2.2.2.1).bind fun t220 => (if t220 = true then (laws_FnExactSetHeight.j0 k a1 a2 bt188.2.2.2.2.2.2.2 bt209.2.2.2.2.2.2.2 (bt209.2.2.2.2.2.2.2 != bt188.2.2.2.2.2.2.2) a0_0 a0_1 l0_2 a0_3 a0_4 a0_5 a0_6 bt188.1 bt188.2.1 bt188.2.2.1 bt188.2.2.2.1 bt188.2.2.2.2.1 bt188.2.2.2.2.2.1 bt188.2.2.2.2.2.2.1 bt199.1 bt199.2.1 bt199.2.2.1 bt199.2.2.2.1 bt199.2.2.2.2.1 bt199.2.2.2.2.2.1 bt199.2.2.2.2.2.2 bt209.1 bt209.2.1 bt209.2.2.1 bt209.2.2.2.1 bt209.2.2.2.2.1 bt209.2.2.2.2.2.1 bt209.2.2.2.2.2.2.1) else (laws_FnExactSetHeight.j0 k a1 a2 bt188.2.2.2.2.2.2.2 bt209.2.2.2.2.2.2.2 true a0_0 a0_1 l0_2 a0_3 a0_4 a0_5 a0_6 bt188.1 bt188.2.1 bt188.2.2.1 bt188.2.2.2.1 bt188.2.2.2.2.1 bt188.2.2.2.2.2.1 bt188.2.2.2.2.2.2.1 bt199.1 bt199.2.1 bt199.2.2.1 bt199.2.2.2.1 bt199.2.2.2.2.1 bt199.2.2.2.2.2.1 bt199.2.2.2.2.2.2 bt209.1 bt209.2.1 bt209.2.2.1 bt209.2.2.2.1 bt209.2.2.2.2.1 bt209.2.2.2.2.2.1 bt209.2.2.2.2.2.2.1))))))))) = some r := h
 clear h
 replace H := Option.bind_eq_some_iff.mp H
 obtain ⟨t178, A40, H⟩ := H
 replace H : (if t178 < 0 then (some true) else ((laws_toTerrain.f k a0_0 a0_1 l0_2 a0_3 a0_4 a0_5 a0_6).bind fun bt179 => ((spec_SetHeight.f k bt179.1 bt179.2.1 bt179.2.2.1 bt179.2.2.2.1 bt179.2.2.2.2.1 bt179.2.2.2.2.2.1 bt179.2.2.2.2.2.2 a1 a2).bind fun bt188 => ((laws_toTerrain.f k a0_0 a0_1 l0_2 a0_3 a0_4 a0_5 a0_6).bind fun bt199 => ((impl_SetHeight.f k bt199.1 bt199.2.1 bt199.2.2.1 bt199.2.2.2.1 bt199.2.2.2.2.1 bt199.2.2.2.2.2.1 bt199.2.2.2.2.2.2 a1 a2).bind fun bt209 => ((laws_eqTerrain.f k bt209.1 bt209.2.1 bt209.2.2.1 bt209.2.2.2.1 bt209.2.2.2.2.1 bt209.2.2.2.2.2.1 bt209.2.2.2.2.2.2.1 bt188.1 bt188.2.1 bt188.2.2.1 bt188.2.2.2.1 bt188.2.2.2.2.1 bt188.2.2.2.2.2.1 bt188.2.2.2.2.2.2.1).bind fun t220 => (if t220 = true then (laws_FnExactSetHeight.j0 k a1 a2 bt188.2.2.2.2.2.2.2 bt209.2.2.2.2.2.2.2 (bt209.2.2.2.2.2.2.2 != bt188.2.2.2.2.2.2.2) a0_0 a0_1 l0_2 a0_3 a0_4 a0_5 a0_6 bt188.1 bt188.2.1 bt188.2.2.1 bt188.2.2.2.1 bt188.2.2.2.2.1 bt188.2.2.2.2.2.1 bt188.2.2.2.2.2.2.1 bt199.1 bt199.2.1 bt199.2.2.1 bt199.2.2.2.1 bt199.2.2.2.2.1 bt199.2.2.2.2.2.1 bt199.2.2.2.2.2.2 bt209.1 bt209.2.1 bt209.2.2.1 bt209.2.2.2.1 bt209.2.2.2.2.1 bt209.2.2.2.2.2.1 bt209.2.2.2.2.2.2.1) else (laws_FnExactSetHeight.j0 k a1 a2 bt188.2.2.2.2.2.2.2 bt209.2.2.2.2.2.2.2 true a0_0 a0_1 l0_2 a0_3 a0_4 a0_5 a0_6 bt188.1 bt188.2.1 bt188.2.2.1 bt188.2.2.2.1 bt188.2.2.2.2.1 bt188.2.2.2.2.2.1 bt188.2.2.2.2.2.2.1 bt199.1 bt199.2.1 bt199.2.2.1 bt199.2.2.2.1 bt199.2.2.2.2.1 bt199.2.2.2.2.2.1 bt199.2.2.2.2.2.2 bt209.1 bt209.2.1 bt209.2.2.1 bt209.2.2.2.1 bt209.2.2.2.2.1 bt209.2.2.2.2.2.1 bt209.2.2.2.2.2.2.1)))))))) = some r := H
 have A4 := Aside0.mk A40
 clear A40
 by_cases c5 : t178 < 0
 ·rw [if_pos c5] at H
  have c5b0 : decide (t178 < 0) = true := decide_eq_true c5
  clear c5
  obtain rfl := Option.some.inj H
  go_enter Try.func4, Try.ntmps4
  go_wp2_with (first | ((with_reducible refine gate_dst (N := 3) rfl ?_); refine box_event ?hg (N := 3) ?hd (cs := #[.int .i64 a0_0, .int .i64 a0_1, .slice A0_2 l0_2.length c0_2, .int .i64 a0_3, .int .i64 a0_4, .int .i64 a0_5, .int .i64 a0_6]) (t := 24) ?hr ?_; (case hd => rfl); (case hg => rfl); (case hr => first | (go_simp; done) | (go_simp; rfl)); intro gb177 hg w6 hbox hb; have n0_ := am (below_step (by repeat (first | (with_reducible first | exact HB.out | apply ba | apply bn | apply below_drew1) | exact HB.out)) hb); have n1_ := am (hbox); have n2_ := am ((by rw [hg]; exact (below_size (by repeat (first | (with_reducible first | exact HB.out | apply ba | apply bn | apply below_drew1) | exact HB.out))) : w.heap.size ≤ gb177)); have n3_ := am ((by rw [hg]; exact (below_size (by repeat (first | (with_reducible first | exact HB.out | apply ba | apply bn | apply below_drew1) | exact HB.out))) : w.heap.size ≤ gb177)); clear HB; have HB := n0_; have BK177 := n1_; have GW177 := n2_; have GE177 := n3_; clear n0_ n1_ n2_ n3_; clear hb hbox hg; have hcz7_0 : w6.cell? ⟨gb177, 0, none⟩ = some (.int .i64 a0_0) := (blk_cell BK177.out 0).trans rfl; have hcz7_1 : w6.cell? ⟨gb177, 1, none⟩ = some (.int .i64 a0_1) := (blk_cell BK177.out 1).trans rfl; have hcz7_2 : w6.cell? ⟨gb177, 2, none⟩ = some (.slice A0_2 l0_2.length c0_2) := (blk_cell BK177.out 2).trans rfl; have hcz7_3 : w6.cell? ⟨gb177, 3, none⟩ = some (.int .i64 a0_3) := (blk_cell BK177.out 3).trans rfl; have hcz7_4 : w6.cell? ⟨gb177, 4, none⟩ = some (.int .i64 a0_4) := (blk_cell BK177.out 4).trans rfl; have hcz7_5 : w6.cell? ⟨gb177, 5, none⟩ = some (.int .i64 a0_5) := (blk_cell BK177.out 5).trans rfl; have hcz7_6 : w6.cell? ⟨gb177, 6, none⟩ = some (.int .i64 a0_6) := (blk_cell BK177.out 6).trans rfl; have hfz7_0 := blk_frozen BK177.out 0; have hfz7_1 := blk_frozen BK177.out 1; have hfz7_2 := blk_frozen BK177.out 2; have hfz7_3 := blk_frozen BK177.out 3; have hfz7_4 := blk_frozen BK177.out 4; have hfz7_5 := blk_frozen BK177.out 5; have hfz7_6 := blk_frozen BK177.out 6) | ((with_reducible refine gate_callee (f := 9) rfl ?_); refine goesL_ (some 20) rfl rfl Try.func9 (by kernel_rfl) rfl #[.agg #[.int .i64 a0_0, .int .i64 a0_1, .slice A0_2 l0_2.length c0_2, .int .i64 a0_3, .int .i64 a0_4, .int .i64 a0_5, .int .i64 a0_6], .int .i64 1048576] rfl (by (try simp only [List.map_toArray, List.map_cons, List.map_nil]); first | done | rfl | (simp only [List.length_drop, List.length_take]; rfl)) ?_; (with_reducible refine (laws_szTerrain.calls a0_0 a0_1 _ _ l0_2 a0_3 a0_4 a0_5 a0_6 1048576 t178 _ ?side1 ?side2 A4.out).mono ?_); (case side1 => repeat (first | exact (Kd.C_below HR0_2.out HB.out) | (with_reducible refine Kd.C_alloc ?_ _) | (with_reducible refine Kd.C_drewN ?_ _) | (with_reducible refine Kd.C_drew ?_))); (case side2 => exact HC0_2.out); rintro e w8 ⟨rfl, hb⟩; refine ⟨_, rfl, ?_⟩; have n0_ := am (blk_below (g := gb177) (o := .cells #[.int .i64 a0_0, .int .i64 a0_1, .slice A0_2 l0_2.length c0_2, .int .i64 a0_3, .int .i64 a0_4, .int .i64 a0_5, .int .i64 a0_6] 24 (0, 0)) (by (with_reducible repeat (first | apply kn | apply kd | apply ka)); exact BK177.out) hb); have n1_ := am (below_step (by repeat (first | (with_reducible first | exact HB.out | apply ba | apply bn | apply below_drew1 | refine below_set ?_ GE177.out) | exact HB.out)) hb); clear BK177; clear HB; have BK177 := n0_; have HB := n1_; clear n0_ n1_; (try clear hb); (try clear hb2); (try clear hk); (try clear hi)))
  go_ret
  exact ⟨by first | rfl | (simp [errW_none, errW_some] <;> rfl) | (simp [*, errW_none, errW_some] <;> rfl), by repeat (first | (with_reducible first | exact HB.out | apply ba | apply bn | apply below_drew1 | refine below_set ?_ GE177.out) | exact HB.out)⟩
 ·rw [if_neg c5] at H
  have c5b0 : decide (t178 < 0) = false := decide_eq_false c5
  clear c5
  replace H := Option.bind_eq_some_iff.mp H
  obtain ⟨⟨t179, t180, t181, t184, t185, t186, t187⟩, A90, H⟩ := H
  replace H : ((spec_SetHeight.f k t179 t180 t181 t184 t185 t186 t187 a1 a2).bind fun bt188 => ((laws_toTerrain.f k a0_0 a0_1 l0_2 a0_3 a0_4 a0_5 a0_6).bind fun bt199 => ((impl_SetHeight.f k bt199.1 bt199.2.1 bt199.2.2.1 bt199.2.2.2.1 bt199.2.2.2.2.1 bt199.2.2.2.2.2.1 bt199.2.2.2.2.2.2 a1 a2).bind fun bt209 => ((laws_eqTerrain.f k bt209.1 bt209.2.1 bt209.2.2.1 bt209.2.2.2.1 bt209.2.2.2.2.1 bt209.2.2.2.2.2.1 bt209.2.2.2.2.2.2.1 bt188.1 bt188.2.1 bt188.2.2.1 bt188.2.2.2.1 bt188.2.2.2.2.1 bt188.2.2.2.2.2.1 bt188.2.2.2.2.2.2.1).bind fun t220 => (if t220 = true then (laws_FnExactSetHeight.j0 k a1 a2 bt188.2.2.2.2.2.2.2 bt209.2.2.2.2.2.2.2 (bt209.2.2.2.2.2.2.2 != bt188.2.2.2.2.2.2.2) a0_0 a0_1 l0_2 a0_3 a0_4 a0_5 a0_6 bt188.1 bt188.2.1 bt188.2.2.1 bt188.2.2.2.1 bt188.2.2.2.2.1 bt188.2.2.2.2.2.1 bt188.2.2.2.2.2.2.1 bt199.1 bt199.2.1 bt199.2.2.1 bt199.2.2.2.1 bt199.2.2.2.2.1 bt199.2.2.2.2.2.1 bt199.2.2.2.2.2.2 bt209.1 bt209.2.1 bt209.2.2.1 bt209.2.2.2.1 bt209.2.2.2.2.1 bt209.2.2.2.2.2.1 bt209.2.2.2.2.2.2.1) else (laws_FnExactSetHeight.j0 k a1 a2 bt188.2.2.2.2.2.2.2 bt209.2.2.2.2.2.2.2 true a0_0 a0_1 l0_2 a0_3 a0_4 a0_5 a0_6 bt188.1 bt188.2.1 bt188.2.2.1 bt188.2.2.2.1 bt188.2.2.2.2.1 bt188.2.2.2.2.2.1 bt188.2.2.2.2.2.2.1 bt199.1 bt199.2.1 bt199.2.2.1 bt199.2.2.2.1 bt199.2.2.2.2.1 bt199.2.2.2.2.2.1 bt199.2.2.2.2.2.2 bt209.1 bt209.2.1 bt209.2.2.1 bt209.2.2.2.1 bt209.2.2.2.2.1 bt209.2.2.2.2.2.1 bt209.2.2.2.2.2.2.1)))))) = some r := H
  have A9 := Aside0.mk A90
  clear A90
  replace H := Option.bind_eq_some_iff.mp H
  obtain ⟨⟨t188, t189, t190, t193, t194, t195, t196, t197⟩, A100, H⟩ := H
  replace H : ((laws_toTerrain.f k a0_0 a0_1 l0_2 a0_3 a0_4 a0_5 a0_6).bind fun bt199 => ((impl_SetHeight.f k bt199.1 bt199.2.1 bt199.2.2.1 bt199.2.2.2.1 bt199.2.2.2.2.1 bt199.2.2.2.2.2.1 bt199.2.2.2.2.2.2 a1 a2).bind fun bt209 => ((laws_eqTerrain.f k bt209.1 bt209.2.1 bt209.2.2.1 bt209.2.2.2.1 bt209.2.2.2.2.1 bt209.2.2.2.2.2.1 bt209.2.2.2.2.2.2.1 t188 t189 t190 t193 t194 t195 t196).bind fun t220 => (if t220 = true then (laws_FnExactSetHeight.j0 k a1 a2 t197 bt209.2.2.2.2.2.2.2 (bt209.2.2.2.2.2.2.2 != t197) a0_0 a0_1 l0_2 a0_3 a0_4 a0_5 a0_6 t188 t189 t190 t193 t194 t195 t196 bt199.1 bt199.2.1 bt199.2.2.1 bt199.2.2.2.1 bt199.2.2.2.2.1 bt199.2.2.2.2.2.1 bt199.2.2.2.2.2.2 bt209.1 bt209.2.1 bt209.2.2.1 bt209.2.2.2.1 bt209.2.2.2.2.1 bt209.2.2.2.2.2.1 bt209.2.2.2.2.2.2.1) else (laws_FnExactSetHeight.j0 k a1 a2 t197 bt209.2.2.2.2.2.2.2 true a0_0 a0_1 l0_2 a0_3 a0_4 a0_5 a0_6 t188 t189 t190 t193 t194 t195 t196 bt199.1 bt199.2.1 bt199.2.2.1 bt199.2.2.2.1 bt199.2.2.2.2.1 bt199.2.2.2.2.2.1 bt199.2.2.2.2.2.2 bt209.1 bt209.2.1 bt209.2.2.1 bt209.2.2.2.1 bt209.2.2.2.2.1 bt209.2.2.2.2.2.1 bt209.2.2.2.2.2.2.1))))) = some r := H
  have A10 := Aside0.mk A100
  clear A100
  replace H := Option.bind_eq_some_iff.mp H
  obtain ⟨⟨t199, t200, t201, t204, t205, t206, t207⟩, A110, H⟩ := H
  replace H : ((impl_SetHeight.f k t199 t200 t201 t204 t205 t206 t207 a1 a2).bind fun bt209 => ((laws_eqTerrain.f k bt209.1 bt209.2.1 bt209.2.2.1 bt209.2.2.2.1 bt209.2.2.2.2.1 bt209.2.2.2.2.2.1 bt209.2.2.2.2.2.2.1 t188 t189 t190 t193 t194 t195 t196).bind fun t220 => (if t220 = true then (laws_FnExactSetHeight.j0 k a1 a2 t197 bt209.2.2.2.2.2.2.2 (bt209.2.2.2.2.2.2.2 != t197) a0_0 a0_1 l0_2 a0_3 a0_4 a0_5 a0_6 t188 t189 t190 t193 t194 t195 t196 t199 t200 t201 t204 t205 t206 t207 bt209.1 bt209.2.1 bt209.2.2.1 bt209.2.2.2.1 bt209.2.2.2.2.1 bt209.2.2.2.2.2.1 bt209.2.2.2.2.2.2.1) else (laws_FnExactSetHeight.j0 k a1 a2 t197 bt209.2.2.2.2.2.2.2 true a0_0 a0_1 l0_2 a0_3 a0_4 a0_5 a0_6 t188 t189 t190 t193 t194 t195 t196 t199 t200 t201 t204 t205 t206 t207 bt209.1 bt209.2.1 bt209.2.2.1 bt209.2.2.2.1 bt209.2.2.2.2.1 bt209.2.2.2.2.2.1 bt209.2.2.2.2.2.2.1)))) = some r := H
  have A11 := Aside0.mk A110
  clear A110
  replace H := Option.bind_eq_some_iff.mp H
  obtain ⟨⟨t209, t210, t211, t214, t215, t216, t217, t218⟩, A120, H⟩ := H
  replace H : ((laws_eqTerrain.f k t209 t210 t211 t214 t215 t216 t217 t188 t189 t190 t193 t194 t195 t196).bind fun t220 => (if t220 = true then (laws_FnExactSetHeight.j0 k a1 a2 t197 t218 (t218 != t197) a0_0 a0_1 l0_2 a0_3 a0_4 a0_5 a0_6 t188 t189 t190 t193 t194 t195 t196 t199 t200 t201 t204 t205 t206 t207 t209 t210 t211 t214 t215 t216 t217) else (laws_FnExactSetHeight.j0 k a1 a2 t197 t218 true a0_0 a0_1 l0_2 a0_3 a0_4 a0_5 a0_6 t188 t189 t190 t193 t194 t195 t196 t199 t200 t201 t204 t205 t206 t207 t209 t210 t211 t214 t215 t216 t217))) = some r := H
  have A12 := Aside0.mk A120
  clear A120
  have HC13 := Aside0.mk H
  clear H
  go_enter Try.func4, Try.ntmps4
  go_upto_region 8 with (first | ((with_reducible refine gate_dst (N := 3) rfl ?_); refine box_event ?hg (N := 3) ?hd (cs := #[.int .i64 a0_0, .int .i64 a0_1, .slice A0_2 l0_2.length c0_2, .int .i64 a0_3, .int .i64 a0_4, .int .i64 a0_5, .int .i64 a0_6]) (t := 24) ?hr ?_; (case hd => rfl); (case hg => rfl); (case hr => first | (go_simp; done) | (go_simp; rfl)); intro gb177 hg w14 hbox hb; have n0_ := am (below_step (by repeat (first | (with_reducible first | exact HB.out | apply ba | apply bn | apply below_drew1) | exact HB.out)) hb); have n1_ := am (hbox); have n2_ := am ((by rw [hg]; exact (below_size (by repeat (first | (with_reducible first | exact HB.out | apply ba | apply bn | apply below_drew1) | exact HB.out))) : w.heap.size ≤ gb177)); have n3_ := am ((by rw [hg]; exact (below_size (by repeat (first | (with_reducible first | exact HB.out | apply ba | apply bn | apply below_drew1) | exact HB.out))) : w.heap.size ≤ gb177)); clear HB; have HB := n0_; have BK177 := n1_; have GW177 := n2_; have GE177 := n3_; clear n0_ n1_ n2_ n3_; clear hb hbox hg; have hcz15_0 : w14.cell? ⟨gb177, 0, none⟩ = some (.int .i64 a0_0) := (blk_cell BK177.out 0).trans rfl; have hcz15_1 : w14.cell? ⟨gb177, 1, none⟩ = some (.int .i64 a0_1) := (blk_cell BK177.out 1).trans rfl; have hcz15_2 : w14.cell? ⟨gb177, 2, none⟩ = some (.slice A0_2 l0_2.length c0_2) := (blk_cell BK177.out 2).trans rfl; have hcz15_3 : w14.cell? ⟨gb177, 3, none⟩ = some (.int .i64 a0_3) := (blk_cell BK177.out 3).trans rfl; have hcz15_4 : w14.cell? ⟨gb177, 4, none⟩ = some (.int .i64 a0_4) := (blk_cell BK177.out 4).trans rfl; have hcz15_5 : w14.cell? ⟨gb177, 5, none⟩ = some (.int .i64 a0_5) := (blk_cell BK177.out 5).trans rfl; have hcz15_6 : w14.cell? ⟨gb177, 6, none⟩ = some (.int .i64 a0_6) := (blk_cell BK177.out 6).trans rfl; have hfz15_0 := blk_frozen BK177.out 0; have hfz15_1 := blk_frozen BK177.out 1; have hfz15_2 := blk_frozen BK177.out 2; have hfz15_3 := blk_frozen BK177.out 3; have hfz15_4 := blk_frozen BK177.out 4; have hfz15_5 := blk_frozen BK177.out 5; have hfz15_6 := blk_frozen BK177.out 6) | ((with_reducible refine gate_callee (f := 9) rfl ?_); refine goesL_ (some 20) rfl rfl Try.func9 (by kernel_rfl) rfl #[.agg #[.int .i64 a0_0, .int .i64 a0_1, .slice A0_2 l0_2.length c0_2, .int .i64 a0_3, .int .i64 a0_4, .int .i64 a0_5, .int .i64 a0_6], .int .i64 1048576] rfl (by (try simp only [List.map_toArray, List.map_cons, List.map_nil]); first | done | rfl | (simp only [List.length_drop, List.length_take]; rfl)) ?_; (with_reducible refine (laws_szTerrain.calls a0_0 a0_1 _ _ l0_2 a0_3 a0_4 a0_5 a0_6 1048576 t178 _ ?side1 ?side2 A4.out).mono ?_); (case side1 => repeat (first | exact (Kd.C_below HR0_2.out HB.out) | (with_reducible refine Kd.C_alloc ?_ _) | (with_reducible refine Kd.C_drewN ?_ _) | (with_reducible refine Kd.C_drew ?_))); (case side2 => exact HC0_2.out); rintro e w16 ⟨rfl, hb⟩; refine ⟨_, rfl, ?_⟩; have n0_ := am (blk_below (g := gb177) (o := .cells #[.int .i64 a0_0, .int .i64 a0_1, .slice A0_2 l0_2.length c0_2, .int .i64 a0_3, .int .i64 a0_4, .int .i64 a0_5, .int .i64 a0_6] 24 (0, 0)) (by (with_reducible repeat (first | apply kn | apply kd | apply ka)); exact BK177.out) hb); have n1_ := am (below_step (by repeat (first | (with_reducible first | exact HB.out | apply ba | apply bn | apply below_drew1 | refine below_set ?_ GE177.out) | exact HB.out)) hb); clear BK177; clear HB; have BK177 := n0_; have HB := n1_; clear n0_ n1_; (try clear hb); (try clear hb2); (try clear hk); (try clear hi); have hcz17_0 : w16.cell? ⟨gb177, 0, none⟩ = some (.int .i64 a0_0) := (blk_cell BK177.out 0).trans rfl; have hcz17_1 : w16.cell? ⟨gb177, 1, none⟩ = some (.int .i64 a0_1) := (blk_cell BK177.out 1).trans rfl; have hcz17_2 : w16.cell? ⟨gb177, 2, none⟩ = some (.slice A0_2 l0_2.length c0_2) := (blk_cell BK177.out 2).trans rfl; have hcz17_3 : w16.cell? ⟨gb177, 3, none⟩ = some (.int .i64 a0_3) := (blk_cell BK177.out 3).trans rfl; have hcz17_4 : w16.cell? ⟨gb177, 4, none⟩ = some (.int .i64 a0_4) := (blk_cell BK177.out 4).trans rfl; have hcz17_5 : w16.cell? ⟨gb177, 5, none⟩ = some (.int .i64 a0_5) := (blk_cell BK177.out 5).trans rfl; have hcz17_6 : w16.cell? ⟨gb177, 6, none⟩ = some (.int .i64 a0_6) := (blk_cell BK177.out 6).trans rfl; have hfz17_0 := blk_frozen BK177.out 0; have hfz17_1 := blk_frozen BK177.out 1; have hfz17_2 := blk_frozen BK177.out 2; have hfz17_3 := blk_frozen BK177.out 3; have hfz17_4 := blk_frozen BK177.out 4; have hfz17_5 := blk_frozen BK177.out 5; have hfz17_6 := blk_frozen BK177.out 6) | ((with_reducible refine gate_callee (f := 11) rfl ?_); refine goesL_ (some 25) rfl rfl Try.func11 (by kernel_rfl) rfl #[.agg #[.int .i64 a0_0, .int .i64 a0_1, .slice A0_2 l0_2.length c0_2, .int .i64 a0_3, .int .i64 a0_4, .int .i64 a0_5, .int .i64 a0_6]] rfl (by (try simp only [List.map_toArray, List.map_cons, List.map_nil]); first | done | rfl | (simp only [List.length_drop, List.length_take]; rfl)) ?_; (with_reducible refine (laws_toTerrain.calls k a0_0 a0_1 _ _ l0_2 a0_3 a0_4 a0_5 a0_6 t179 t180 t181 t184 t185 t186 t187 _ ?side1 ?side2 A9.out).mono ?_); (case side1 => repeat (first | exact (Kd.C_below HR0_2.out HB.out) | (with_reducible refine Kd.C_alloc ?_ _) | (with_reducible refine Kd.C_drewN ?_ _) | (with_reducible refine Kd.C_drew ?_))); (case side2 => exact HC0_2.out); rintro e w18 ⟨v182, rfl, ho0, hb⟩; refine ⟨_, rfl, ?_⟩; have n0_ := am (Kd.R_lower ho0 (below_size (by repeat (first | (with_reducible first | exact HB.out | apply ba | apply bn | apply below_drew1 | refine below_set ?_ GE177.out) | exact HB.out)))); have n1_ := am (blk_below (g := gb177) (o := .cells #[.int .i64 a0_0, .int .i64 a0_1, .slice A0_2 l0_2.length c0_2, .int .i64 a0_3, .int .i64 a0_4, .int .i64 a0_5, .int .i64 a0_6] 24 (0, 0)) (by (with_reducible repeat (first | apply kn | apply kd | apply ka)); exact BK177.out) hb); have n2_ := am (below_step (by repeat (first | (with_reducible first | exact HB.out | apply ba | apply bn | apply below_drew1 | refine below_set ?_ GE177.out) | exact HB.out)) hb); clear BK177; clear HB; have HO183 := n0_; have BK177 := n1_; have HB := n2_; clear n0_ n1_ n2_; (try clear hb); (try clear hb2); (try clear hk); (try clear hi); (try clear ho0); obtain ⟨Ao19, co19, eo19⟩ := Kd.R_slice HO183.out; subst eo19) | ((with_reducible refine gate_callee (f := 14) rfl ?_); refine goesL_ (some 28) rfl rfl Try.func14 (by kernel_rfl) rfl #[.agg #[.int .i64 t179, .int .i64 t180, .slice Ao19 t181.length co19, .int .i64 t184, .int .i64 t185, .int .i64 t186, .int .i64 t187], .int .i64 a1, .int .i64 a2] rfl (by (try simp only [List.map_toArray, List.map_cons, List.map_nil]); first | done | rfl | (simp only [List.length_drop, List.length_take]; rfl)) ?_; (with_reducible refine (spec_SetHeight.calls k t179 t180 _ _ t181 t184 t185 t186 t187 a1 a2 t188 t189 t190 t193 t194 t195 t196 t197 _ ?side1 ?side2 A10.out).mono ?_); (case side1 => repeat (first | exact (Kd.R_reads' HO183.out).2.2 | (with_reducible refine Kd.C_alloc ?_ _) | (with_reducible refine Kd.C_drewN ?_ _) | (with_reducible refine Kd.C_drew ?_))); (case side2 => exact (Kd.R_reads' HO183.out).2.1); rintro e w20 ⟨v191, rfl, ho0, hb⟩; refine ⟨_, rfl, ?_⟩; have n0_ := am (Kd.R_elder' (by (with_reducible repeat (first | apply Kd.R_alloc | apply Kd.R_drewN | apply Kd.R_drew)); exact HO183.out) (Kd.R_base ho0) hb); have n1_ := am (Kd.R_lower (Kd.R_new' ho0 (Kd.R_lt (by (with_reducible repeat (first | apply Kd.R_alloc | apply Kd.R_drewN | apply Kd.R_drew)); exact HO183.out))) (below_size (by repeat (first | (with_reducible first | exact HB.out | apply ba | apply bn | apply below_drew1 | refine below_set ?_ GE177.out) | exact HB.out)))); have n2_ := am (blk_below (g := gb177) (o := .cells #[.int .i64 a0_0, .int .i64 a0_1, .slice A0_2 l0_2.length c0_2, .int .i64 a0_3, .int .i64 a0_4, .int .i64 a0_5, .int .i64 a0_6] 24 (0, 0)) (by (with_reducible repeat (first | apply kn | apply kd | apply ka)); exact BK177.out) hb); have n3_ := am (below_step (by repeat (first | (with_reducible first | exact HB.out | apply ba | apply bn | apply below_drew1 | refine below_set ?_ GE177.out) | exact HB.out)) hb); clear HO183; clear BK177; clear HB; have HO183 := n0_; have HO192 := n1_; have BK177 := n2_; have HB := n3_; clear n0_ n1_ n2_ n3_; (try clear hb); (try clear hb2); (try clear hk); (try clear hi); (try clear ho0)) | ((with_reducible refine gate_dst (N := 8) rfl ?_); refine box_event ?hg (N := 8) ?hd (cs := #[.int .i64 0, .int .i64 0, .slice none 0 0, .int .i64 0, .int .i64 0, .int .i64 0, .int .i64 0]) (t := 27) ?hr ?_; (case hd => rfl); (case hg => rfl); (case hr => first | (go_simp; done) | (go_simp; rfl)); intro gb198 hg w21 hbox hb; have n0_ := am (Kd.R_below (by (with_reducible repeat (first | apply Kd.R_alloc | apply Kd.R_drewN | apply Kd.R_drew)); exact HO183.out) hb); have n1_ := am (Kd.R_below (by (with_reducible repeat (first | apply Kd.R_alloc | apply Kd.R_drewN | apply Kd.R_drew)); exact HO192.out) hb); have n2_ := am (blk_below (g := gb177) (o := .cells #[.int .i64 a0_0, .int .i64 a0_1, .slice A0_2 l0_2.length c0_2, .int .i64 a0_3, .int .i64 a0_4, .int .i64 a0_5, .int .i64 a0_6] 24 (0, 0)) (by (with_reducible repeat (first | apply kn | apply kd | apply ka)); exact BK177.out) hb); have n3_ := am (below_step (by repeat (first | (with_reducible first | exact HB.out | apply ba | apply bn | apply below_drew1 | refine below_set ?_ GE177.out) | exact HB.out)) hb); have n4_ := am (hbox); have n5_ := am ((by rw [hg]; exact (below_size (by repeat (first | (with_reducible first | exact HB.out | apply ba | apply bn | apply below_drew1 | refine below_set ?_ GE177.out) | exact HB.out))) : w.heap.size ≤ gb198)); have n6_ := am ((by rw [hg]; exact (below_size (by repeat (first | (with_reducible first | exact HB.out | apply ba | apply bn | apply below_drew1 | refine below_set ?_ GE177.out) | exact HB.out))) : w.heap.size ≤ gb198)); have n7_ := am ((by rw [hg]; exact Nat.ne_of_lt (blk_lt (g := gb177) (o := .cells #[.int .i64 a0_0, .int .i64 a0_1, .slice A0_2 l0_2.length c0_2, .int .i64 a0_3, .int .i64 a0_4, .int .i64 a0_5, .int .i64 a0_6] 24 (0, 0)) (by (with_reducible repeat (first | apply kn | apply kd | apply ka)); exact BK177.out)) : gb177 ≠ gb198)); have n8_ := am ((by rw [hg]; exact Nat.ne_of_gt (blk_lt (g := gb177) (o := .cells #[.int .i64 a0_0, .int .i64 a0_1, .slice A0_2 l0_2.length c0_2, .int .i64 a0_3, .int .i64 a0_4, .int .i64 a0_5, .int .i64 a0_6] 24 (0, 0)) (by (with_reducible repeat (first | apply kn | apply kd | apply ka)); exact BK177.out)) : gb198 ≠ gb177)); clear HO183; clear HO192; clear BK177; clear HB; have HO183 := n0_; have HO192 := n1_; have BK177 := n2_; have HB := n3_; have BK198 := n4_; have GW198 := n5_; have GE198 := n6_; have NB177_198 := n7_; have NB198_177 := n8_; clear n0_ n1_ n2_ n3_ n4_ n5_ n6_ n7_ n8_; clear hb hbox hg; have hnb22 := NB198_177.out; have hnc22 := NB177_198.out; have hcz23_0 : w21.cell? ⟨gb198, 0, none⟩ = some (.int .i64 0) := (blk_cell BK198.out 0).trans rfl; have hcz23_1 : w21.cell? ⟨gb198, 1, none⟩ = some (.int .i64 0) := (blk_cell BK198.out 1).trans rfl; have hcz23_2 : w21.cell? ⟨gb198, 2, none⟩ = some (.slice none 0 0) := (blk_cell BK198.out 2).trans rfl; have hcz23_3 : w21.cell? ⟨gb198, 3, none⟩ = some (.int .i64 0) := (blk_cell BK198.out 3).trans rfl; have hcz23_4 : w21.cell? ⟨gb198, 4, none⟩ = some (.int .i64 0) := (blk_cell BK198.out 4).trans rfl; have hcz23_5 : w21.cell? ⟨gb198, 5, none⟩ = some (.int .i64 0) := (blk_cell BK198.out 5).trans rfl; have hcz23_6 : w21.cell? ⟨gb198, 6, none⟩ = some (.int .i64 0) := (blk_cell BK198.out 6).trans rfl; have hfz23_0 := blk_frozen BK198.out 0; have hfz23_1 := blk_frozen BK198.out 1; have hfz23_2 := blk_frozen BK198.out 2; have hfz23_3 := blk_frozen BK198.out 3; have hfz23_4 := blk_frozen BK198.out 4; have hfz23_5 := blk_frozen BK198.out 5; have hfz23_6 := blk_frozen BK198.out 6; obtain ⟨Ao24, co24, eo24⟩ := Kd.R_slice HO192.out; subst eo24; have hcz25_0 : w21.cell? ⟨gb177, 0, none⟩ = some (.int .i64 a0_0) := (blk_cell BK177.out 0).trans rfl; have hcz25_1 : w21.cell? ⟨gb177, 1, none⟩ = some (.int .i64 a0_1) := (blk_cell BK177.out 1).trans rfl; have hcz25_2 : w21.cell? ⟨gb177, 2, none⟩ = some (.slice A0_2 l0_2.length c0_2) := (blk_cell BK177.out 2).trans rfl; have hcz25_3 : w21.cell? ⟨gb177, 3, none⟩ = some (.int .i64 a0_3) := (blk_cell BK177.out 3).trans rfl; have hcz25_4 : w21.cell? ⟨gb177, 4, none⟩ = some (.int .i64 a0_4) := (blk_cell BK177.out 4).trans rfl; have hcz25_5 : w21.cell? ⟨gb177, 5, none⟩ = some (.int .i64 a0_5) := (blk_cell BK177.out 5).trans rfl; have hcz25_6 : w21.cell? ⟨gb177, 6, none⟩ = some (.int .i64 a0_6) := (blk_cell BK177.out 6).trans rfl; have hfz25_0 := blk_frozen BK177.out 0; have hfz25_1 := blk_frozen BK177.out 1; have hfz25_2 := blk_frozen BK177.out 2; have hfz25_3 := blk_frozen BK177.out 3; have hfz25_4 := blk_frozen BK177.out 4; have hfz25_5 := blk_frozen BK177.out 5; have hfz25_6 := blk_frozen BK177.out 6) | ((with_reducible refine gate_callee (f := 11) rfl ?_); refine goesL_ (some 32) rfl rfl Try.func11 (by kernel_rfl) rfl #[.agg #[.int .i64 a0_0, .int .i64 a0_1, .slice A0_2 l0_2.length c0_2, .int .i64 a0_3, .int .i64 a0_4, .int .i64 a0_5, .int .i64 a0_6]] rfl (by (try simp only [List.map_toArray, List.map_cons, List.map_nil]); first | done | rfl | (simp only [List.length_drop, List.length_take]; rfl)) ?_; (with_reducible refine (laws_toTerrain.calls k a0_0 a0_1 _ _ l0_2 a0_3 a0_4 a0_5 a0_6 t199 t200 t201 t204 t205 t206 t207 _ ?side1 ?side2 A11.out).mono ?_); (case side1 => exact Kd.C_below HR0_2.out (by repeat (first | (with_reducible first | exact HB.out | apply ba | apply bn | apply below_drew1 | refine below_set ?_ GE177.out | refine below_set ?_ GE198.out) | exact HB.out))); (case side2 => exact HC0_2.out); rintro e w26 ⟨v202, rfl, ho0, hb⟩; refine ⟨_, rfl, ?_⟩; have n0_ := am (Kd.R_elder' (by (with_reducible repeat (first | apply Kd.R_alloc | apply Kd.R_drewN | apply Kd.R_drew)); exact (Kd.R_mono (Kd.R_far (p := ⟨gb198, 6, none⟩) (Kd.R_far (p := ⟨gb198, 5, none⟩) (Kd.R_far (p := ⟨gb198, 4, none⟩) (Kd.R_far (p := ⟨gb198, 3, none⟩) (Kd.R_far (p := ⟨gb198, 2, none⟩) (Kd.R_far (p := ⟨gb198, 1, none⟩) (Kd.R_far (p := ⟨gb198, 0, none⟩) (Kd.R_types HO183.out BK198.out (by decide)) (fun _ hk => hk.2) (.int .i64 t188)) (fun _ hk => hk.2) (.int .i64 t189)) (fun _ hk => hk.2) (.slice Ao24 t190.length co24)) (fun _ hk => hk.2) (.int .i64 t193)) (fun _ hk => hk.2) (.int .i64 t194)) (fun _ hk => hk.2) (.int .i64 t195)) (fun _ hk => hk.2) (.int .i64 t196)) (fun _ h_ => h_.1))) (Kd.R_base ho0) hb); have n1_ := am (Kd.R_elder' (by (with_reducible repeat (first | apply Kd.R_alloc | apply Kd.R_drewN | apply Kd.R_drew)); exact (Kd.R_mono (Kd.R_far (p := ⟨gb198, 6, none⟩) (Kd.R_far (p := ⟨gb198, 5, none⟩) (Kd.R_far (p := ⟨gb198, 4, none⟩) (Kd.R_far (p := ⟨gb198, 3, none⟩) (Kd.R_far (p := ⟨gb198, 2, none⟩) (Kd.R_far (p := ⟨gb198, 1, none⟩) (Kd.R_far (p := ⟨gb198, 0, none⟩) (Kd.R_types HO192.out BK198.out (by decide)) (fun _ hk => hk.2) (.int .i64 t188)) (fun _ hk => hk.2) (.int .i64 t189)) (fun _ hk => hk.2) (.slice Ao24 t190.length co24)) (fun _ hk => hk.2) (.int .i64 t193)) (fun _ hk => hk.2) (.int .i64 t194)) (fun _ hk => hk.2) (.int .i64 t195)) (fun _ hk => hk.2) (.int .i64 t196)) (fun _ h_ => h_.1))) (Kd.R_base ho0) hb); have n2_ := am (Kd.R_lower (Kd.R_new' (Kd.R_new' ho0 (Kd.R_lt (by (with_reducible repeat (first | apply Kd.R_alloc | apply Kd.R_drewN | apply Kd.R_drew)); exact (Kd.R_mono (Kd.R_far (p := ⟨gb198, 6, none⟩) (Kd.R_far (p := ⟨gb198, 5, none⟩) (Kd.R_far (p := ⟨gb198, 4, none⟩) (Kd.R_far (p := ⟨gb198, 3, none⟩) (Kd.R_far (p := ⟨gb198, 2, none⟩) (Kd.R_far (p := ⟨gb198, 1, none⟩) (Kd.R_far (p := ⟨gb198, 0, none⟩) (Kd.R_types HO183.out BK198.out (by decide)) (fun _ hk => hk.2) (.int .i64 t188)) (fun _ hk => hk.2) (.int .i64 t189)) (fun _ hk => hk.2) (.slice Ao24 t190.length co24)) (fun _ hk => hk.2) (.int .i64 t193)) (fun _ hk => hk.2) (.int .i64 t194)) (fun _ hk => hk.2) (.int .i64 t195)) (fun _ hk => hk.2) (.int .i64 t196)) (fun _ h_ => h_.1))))) (Kd.R_lt (by (with_reducible repeat (first | apply Kd.R_alloc | apply Kd.R_drewN | apply Kd.R_drew)); exact (Kd.R_mono (Kd.R_far (p := ⟨gb198, 6, none⟩) (Kd.R_far (p := ⟨gb198, 5, none⟩) (Kd.R_far (p := ⟨gb198, 4, none⟩) (Kd.R_far (p := ⟨gb198, 3, none⟩) (Kd.R_far (p := ⟨gb198, 2, none⟩) (Kd.R_far (p := ⟨gb198, 1, none⟩) (Kd.R_far (p := ⟨gb198, 0, none⟩) (Kd.R_types HO192.out BK198.out (by decide)) (fun _ hk => hk.2) (.int .i64 t188)) (fun _ hk => hk.2) (.int .i64 t189)) (fun _ hk => hk.2) (.slice Ao24 t190.length co24)) (fun _ hk => hk.2) (.int .i64 t193)) (fun _ hk => hk.2) (.int .i64 t194)) (fun _ hk => hk.2) (.int .i64 t195)) (fun _ hk => hk.2) (.int .i64 t196)) (fun _ h_ => h_.1))))) (below_size (by repeat (first | (with_reducible first | exact HB.out | apply ba | apply bn | apply below_drew1 | refine below_set ?_ GE177.out | refine below_set ?_ GE198.out) | exact HB.out)))); have n3_ := am (blk_below (g := gb177) (o := .cells #[.int .i64 a0_0, .int .i64 a0_1, .slice A0_2 l0_2.length c0_2, .int .i64 a0_3, .int .i64 a0_4, .int .i64 a0_5, .int .i64 a0_6] 24 (0, 0)) (by (with_reducible repeat (first | apply kn | apply kd | apply ka)); refine blk_far ?_ NB177_198.out _; (with_reducible repeat (first | apply kn | apply kd | apply ka)); refine blk_far ?_ NB177_198.out _; (with_reducible repeat (first | apply kn | apply kd | apply ka)); refine blk_far ?_ NB177_198.out _; (with_reducible repeat (first | apply kn | apply kd | apply ka)); refine blk_far ?_ NB177_198.out _; (with_reducible repeat (first | apply kn | apply kd | apply ka)); refine blk_far ?_ NB177_198.out _; (with_reducible repeat (first | apply kn | apply kd | apply ka)); refine blk_far ?_ NB177_198.out _; (with_reducible repeat (first | apply kn | apply kd | apply ka)); refine blk_far ?_ NB177_198.out _; (with_reducible repeat (first | apply kn | apply kd | apply ka)); exact BK177.out) hb); have n4_ := am (blk_below (g := gb198) (o := .cells #[.int .i64 t188, .int .i64 t189, .slice Ao24 t190.length co24, .int .i64 t193, .int .i64 t194, .int .i64 t195, .int .i64 t196] 27 (0, 0)) (by (with_reducible repeat (first | apply kn | apply kd | apply ka)); refine blk_put (cs := #[.int .i64 t188, .int .i64 t189, .slice Ao24 t190.length co24, .int .i64 t193, .int .i64 t194, .int .i64 t195, .int .i64 0]) ?_ 6 _ rfl; (with_reducible repeat (first | apply kn | apply kd | apply ka)); refine blk_put (cs := #[.int .i64 t188, .int .i64 t189, .slice Ao24 t190.length co24, .int .i64 t193, .int .i64 t194, .int .i64 0, .int .i64 0]) ?_ 5 _ rfl; (with_reducible repeat (first | apply kn | apply kd | apply ka)); refine blk_put (cs := #[.int .i64 t188, .int .i64 t189, .slice Ao24 t190.length co24, .int .i64 t193, .int .i64 0, .int .i64 0, .int .i64 0]) ?_ 4 _ rfl; (with_reducible repeat (first | apply kn | apply kd | apply ka)); refine blk_put (cs := #[.int .i64 t188, .int .i64 t189, .slice Ao24 t190.length co24, .int .i64 0, .int .i64 0, .int .i64 0, .int .i64 0]) ?_ 3 _ rfl; (with_reducible repeat (first | apply kn | apply kd | apply ka)); refine blk_put (cs := #[.int .i64 t188, .int .i64 t189, .slice none 0 0, .int .i64 0, .int .i64 0, .int .i64 0, .int .i64 0]) ?_ 2 _ rfl; (with_reducible repeat (first | apply kn | apply kd | apply ka)); refine blk_put (cs := #[.int .i64 t188, .int .i64 0, .slice none 0 0, .int .i64 0, .int .i64 0, .int .i64 0, .int .i64 0]) ?_ 1 _ rfl; (with_reducible repeat (first | apply kn | apply kd | apply ka)); refine blk_put (cs := #[.int .i64 0, .int .i64 0, .slice none 0 0, .int .i64 0, .int .i64 0, .int .i64 0, .int .i64 0]) ?_ 0 _ rfl; (with_reducible repeat (first | apply kn | apply kd | apply ka)); exact BK198.out) hb); have n5_ := am (below_step (by repeat (first | (with_reducible first | exact HB.out | apply ba | apply bn | apply below_drew1 | refine below_set ?_ GE177.out | refine below_set ?_ GE198.out) | exact HB.out)) hb); clear HO183; clear HO192; clear BK177; clear BK198; clear HB; have HO183 := n0_; have HO192 := n1_; have HO203 := n2_; have BK177 := n3_; have BK198 := n4_; have HB := n5_; clear n0_ n1_ n2_ n3_ n4_ n5_; (try clear hb); (try clear hb2); (try clear hk); (try clear hi); (try clear ho0)) | ((with_reducible refine gate_dst (N := 10) rfl ?_); refine box_event ?hg (N := 10) ?hd (cs := #[.int .i64 0, .int .i64 0, .slice none 0 0, .int .i64 0, .int .i64 0, .int .i64 0, .int .i64 0]) (t := 27) ?hr ?_; (case hd => rfl); (case hg => rfl); (case hr => first | (go_simp; done) | (go_simp; rfl)); intro gb208 hg w27 hbox hb; have n0_ := am (Kd.R_below (by (with_reducible repeat (first | apply Kd.R_alloc | apply Kd.R_drewN | apply Kd.R_drew)); exact HO183.out) hb); have n1_ := am (Kd.R_below (by (with_reducible repeat (first | apply Kd.R_alloc | apply Kd.R_drewN | apply Kd.R_drew)); exact HO192.out) hb); have n2_ := am (Kd.R_below (by (with_reducible repeat (first | apply Kd.R_alloc | apply Kd.R_drewN | apply Kd.R_drew)); exact HO203.out) hb); have n3_ := am (blk_below (g := gb177) (o := .cells #[.int .i64 a0_0, .int .i64 a0_1, .slice A0_2 l0_2.length c0_2, .int .i64 a0_3, .int .i64 a0_4, .int .i64 a0_5, .int .i64 a0_6] 24 (0, 0)) (by (with_reducible repeat (first | apply kn | apply kd | apply ka)); exact BK177.out) hb); have n4_ := am (blk_below (g := gb198) (o := .cells #[.int .i64 t188, .int .i64 t189, .slice Ao24 t190.length co24, .int .i64 t193, .int .i64 t194, .int .i64 t195, .int .i64 t196] 27 (0, 0)) (by (with_reducible repeat (first | apply kn | apply kd | apply ka)); exact BK198.out) hb); have n5_ := am (below_step (by repeat (first | (with_reducible first | exact HB.out | apply ba | apply bn | apply below_drew1 | refine below_set ?_ GE177.out | refine below_set ?_ GE198.out) | exact HB.out)) hb); have n6_ := am (hbox); have n7_ := am ((by rw [hg]; exact (below_size (by repeat (first | (with_reducible first | exact HB.out | apply ba | apply bn | apply below_drew1 | refine below_set ?_ GE177.out | refine below_set ?_ GE198.out) | exact HB.out))) : w.heap.size ≤ gb208)); have n8_ := am ((by rw [hg]; exact (below_size (by repeat (first | (with_reducible first | exact HB.out | apply ba | apply bn | apply below_drew1 | refine below_set ?_ GE177.out | refine below_set ?_ GE198.out) | exact HB.out))) : w.heap.size ≤ gb208)); have n9_ := am ((by rw [hg]; exact Nat.ne_of_lt (blk_lt (g := gb177) (o := .cells #[.int .i64 a0_0, .int .i64 a0_1, .slice A0_2 l0_2.length c0_2, .int .i64 a0_3, .int .i64 a0_4, .int .i64 a0_5, .int .i64 a0_6] 24 (0, 0)) (by (with_reducible repeat (first | apply kn | apply kd | apply ka)); exact BK177.out)) : gb177 ≠ gb208)); have n10_ := am ((by rw [hg]; exact Nat.ne_of_gt (blk_lt (g := gb177) (o := .cells #[.int .i64 a0_0, .int .i64 a0_1, .slice A0_2 l0_2.length c0_2, .int .i64 a0_3, .int .i64 a0_4, .int .i64 a0_5, .int .i64 a0_6] 24 (0, 0)) (by (with_reducible repeat (first | apply kn | apply kd | apply ka)); exact BK177.out)) : gb208 ≠ gb177)); have n11_ := am ((by rw [hg]; exact Nat.ne_of_lt (blk_lt (g := gb198) (o := .cells #[.int .i64 t188, .int .i64 t189, .slice Ao24 t190.length co24, .int .i64 t193, .int .i64 t194, .int .i64 t195, .int .i64 t196] 27 (0, 0)) (by (with_reducible repeat (first | apply kn | apply kd | apply ka)); exact BK198.out)) : gb198 ≠ gb208)); have n12_ := am ((by rw [hg]; exact Nat.ne_of_gt (blk_lt (g := gb198) (o := .cells #[.int .i64 t188, .int .i64 t189, .slice Ao24 t190.length co24, .int .i64 t193, .int .i64 t194, .int .i64 t195, .int .i64 t196] 27 (0, 0)) (by (with_reducible repeat (first | apply kn | apply kd | apply ka)); exact BK198.out)) : gb208 ≠ gb198)); clear HO183; clear HO192; clear HO203; clear BK177; clear BK198; clear HB; have HO183 := n0_; have HO192 := n1_; have HO203 := n2_; have BK177 := n3_; have BK198 := n4_; have HB := n5_; have BK208 := n6_; have GW208 := n7_; have GE208 := n8_; have NB177_208 := n9_; have NB208_177 := n10_; have NB198_208 := n11_; have NB208_198 := n12_; clear n0_ n1_ n2_ n3_ n4_ n5_ n6_ n7_ n8_ n9_ n10_ n11_ n12_; clear hb hbox hg; have hnb28 := NB208_177.out; have hnc28 := NB177_208.out; have hnb29 := NB208_198.out; have hnc29 := NB198_208.out; have hcz30_0 : w27.cell? ⟨gb208, 0, none⟩ = some (.int .i64 0) := (blk_cell BK208.out 0).trans rfl; have hcz30_1 : w27.cell? ⟨gb208, 1, none⟩ = some (.int .i64 0) := (blk_cell BK208.out 1).trans rfl; have hcz30_2 : w27.cell? ⟨gb208, 2, none⟩ = some (.slice none 0 0) := (blk_cell BK208.out 2).trans rfl; have hcz30_3 : w27.cell? ⟨gb208, 3, none⟩ = some (.int .i64 0) := (blk_cell BK208.out 3).trans rfl; have hcz30_4 : w27.cell? ⟨gb208, 4, none⟩ = some (.int .i64 0) := (blk_cell BK208.out 4).trans rfl; have hcz30_5 : w27.cell? ⟨gb208, 5, none⟩ = some (.int .i64 0) := (blk_cell BK208.out 5).trans rfl; have hcz30_6 : w27.cell? ⟨gb208, 6, none⟩ = some (.int .i64 0) := (blk_cell BK208.out 6).trans rfl; have hfz30_0 := blk_frozen BK208.out 0; have hfz30_1 := blk_frozen BK208.out 1; have hfz30_2 := blk_frozen BK208.out 2; have hfz30_3 := blk_frozen BK208.out 3; have hfz30_4 := blk_frozen BK208.out 4; have hfz30_5 := blk_frozen BK208.out 5; have hfz30_6 := blk_frozen BK208.out 6; obtain ⟨Ao31, co31, eo31⟩ := Kd.R_slice HO203.out; subst eo31) | ((with_reducible refine gate_callee (f := 15) rfl ?_); refine goesL_ (some 37) rfl rfl Try.func15 (by kernel_rfl) rfl #[.agg #[.int .i64 t199, .int .i64 t200, .slice Ao31 t201.length co31, .int .i64 t204, .int .i64 t205, .int .i64 t206, .int .i64 t207], .int .i64 a1, .int .i64 a2] rfl (by (try simp only [List.map_toArray, List.map_cons, List.map_nil]); first | done | rfl | (simp only [List.length_drop, List.length_take]; rfl)) ?_; (with_reducible refine (impl_SetHeight.calls k t199 t200 _ _ t201 t204 t205 t206 t207 a1 a2 t209 t210 t211 t214 t215 t216 t217 t218 _ ?side1 ?side2 A12.out).mono ?_); (case side1 => refine (Kd.R_reads' (e := 3) (base := w.heap.size) (ok := fun k_ => ((True ∧ some k_ ≠ (.slice Ao19 t181.length co19 : Value).ownBlock) ∧ some k_ ≠ (.slice Ao24 t190.length co24 : Value).ownBlock)) (n := t201.length) (c := co31) ?_).2.2; exact (by (with_reducible repeat (first | apply Kd.R_alloc | apply Kd.R_drewN | apply Kd.R_drew)); exact (Kd.R_mono (Kd.R_far (p := ⟨gb208, 6, none⟩) (Kd.R_far (p := ⟨gb208, 5, none⟩) (Kd.R_far (p := ⟨gb208, 4, none⟩) (Kd.R_far (p := ⟨gb208, 3, none⟩) (Kd.R_far (p := ⟨gb208, 2, none⟩) (Kd.R_far (p := ⟨gb208, 1, none⟩) (Kd.R_far (p := ⟨gb208, 0, none⟩) (Kd.R_types HO203.out BK208.out (by decide)) (fun _ hk => hk.2) (.int .i64 t199)) (fun _ hk => hk.2) (.int .i64 t200)) (fun _ hk => hk.2) (.slice Ao31 t201.length co31)) (fun _ hk => hk.2) (.int .i64 t204)) (fun _ hk => hk.2) (.int .i64 t205)) (fun _ hk => hk.2) (.int .i64 t206)) (fun _ hk => hk.2) (.int .i64 t207)) (fun _ h_ => h_.1)))); (case side2 => exact (Kd.R_reads' HO203.out).2.1); rintro e w32 ⟨v212, rfl, ho0, hb⟩; refine ⟨_, rfl, ?_⟩; have n0_ := am (Kd.R_elder' (by (with_reducible repeat (first | apply Kd.R_alloc | apply Kd.R_drewN | apply Kd.R_drew)); exact (Kd.R_mono (Kd.R_far (p := ⟨gb208, 6, none⟩) (Kd.R_far (p := ⟨gb208, 5, none⟩) (Kd.R_far (p := ⟨gb208, 4, none⟩) (Kd.R_far (p := ⟨gb208, 3, none⟩) (Kd.R_far (p := ⟨gb208, 2, none⟩) (Kd.R_far (p := ⟨gb208, 1, none⟩) (Kd.R_far (p := ⟨gb208, 0, none⟩) (Kd.R_types HO183.out BK208.out (by decide)) (fun _ hk => hk.2) (.int .i64 t199)) (fun _ hk => hk.2) (.int .i64 t200)) (fun _ hk => hk.2) (.slice Ao31 t201.length co31)) (fun _ hk => hk.2) (.int .i64 t204)) (fun _ hk => hk.2) (.int .i64 t205)) (fun _ hk => hk.2) (.int .i64 t206)) (fun _ hk => hk.2) (.int .i64 t207)) (fun _ h_ => h_.1))) (Kd.R_base ho0) hb); have n1_ := am (Kd.R_elder' (by (with_reducible repeat (first | apply Kd.R_alloc | apply Kd.R_drewN | apply Kd.R_drew)); exact (Kd.R_mono (Kd.R_far (p := ⟨gb208, 6, none⟩) (Kd.R_far (p := ⟨gb208, 5, none⟩) (Kd.R_far (p := ⟨gb208, 4, none⟩) (Kd.R_far (p := ⟨gb208, 3, none⟩) (Kd.R_far (p := ⟨gb208, 2, none⟩) (Kd.R_far (p := ⟨gb208, 1, none⟩) (Kd.R_far (p := ⟨gb208, 0, none⟩) (Kd.R_types HO192.out BK208.out (by decide)) (fun _ hk => hk.2) (.int .i64 t199)) (fun _ hk => hk.2) (.int .i64 t200)) (fun _ hk => hk.2) (.slice Ao31 t201.length co31)) (fun _ hk => hk.2) (.int .i64 t204)) (fun _ hk => hk.2) (.int .i64 t205)) (fun _ hk => hk.2) (.int .i64 t206)) (fun _ hk => hk.2) (.int .i64 t207)) (fun _ h_ => h_.1))) (Kd.R_base ho0) hb); have n2_ := am (Kd.R_elder' (by (with_reducible repeat (first | apply Kd.R_alloc | apply Kd.R_drewN | apply Kd.R_drew)); exact (Kd.R_mono (Kd.R_far (p := ⟨gb208, 6, none⟩) (Kd.R_far (p := ⟨gb208, 5, none⟩) (Kd.R_far (p := ⟨gb208, 4, none⟩) (Kd.R_far (p := ⟨gb208, 3, none⟩) (Kd.R_far (p := ⟨gb208, 2, none⟩) (Kd.R_far (p := ⟨gb208, 1, none⟩) (Kd.R_far (p := ⟨gb208, 0, none⟩) (Kd.R_types HO203.out BK208.out (by decide)) (fun _ hk => hk.2) (.int .i64 t199)) (fun _ hk => hk.2) (.int .i64 t200)) (fun _ hk => hk.2) (.slice Ao31 t201.length co31)) (fun _ hk => hk.2) (.int .i64 t204)) (fun _ hk => hk.2) (.int .i64 t205)) (fun _ hk => hk.2) (.int .i64 t206)) (fun _ hk => hk.2) (.int .i64 t207)) (fun _ h_ => h_.1))) (Kd.R_base ho0) hb); have n3_ := am (Kd.R_lower (Kd.R_new' (Kd.R_new' (Kd.R_new' ho0 (Kd.R_lt (by (with_reducible repeat (first | apply Kd.R_alloc | apply Kd.R_drewN | apply Kd.R_drew)); exact (Kd.R_mono (Kd.R_far (p := ⟨gb208, 6, none⟩) (Kd.R_far (p := ⟨gb208, 5, none⟩) (Kd.R_far (p := ⟨gb208, 4, none⟩) (Kd.R_far (p := ⟨gb208, 3, none⟩) (Kd.R_far (p := ⟨gb208, 2, none⟩) (Kd.R_far (p := ⟨gb208, 1, none⟩) (Kd.R_far (p := ⟨gb208, 0, none⟩) (Kd.R_types HO183.out BK208.out (by decide)) (fun _ hk => hk.2) (.int .i64 t199)) (fun _ hk => hk.2) (.int .i64 t200)) (fun _ hk => hk.2) (.slice Ao31 t201.length co31)) (fun _ hk => hk.2) (.int .i64 t204)) (fun _ hk => hk.2) (.int .i64 t205)) (fun _ hk => hk.2) (.int .i64 t206)) (fun _ hk => hk.2) (.int .i64 t207)) (fun _ h_ => h_.1))))) (Kd.R_lt (by (with_reducible repeat (first | apply Kd.R_alloc | apply Kd.R_drewN | apply Kd.R_drew)); exact (Kd.R_mono (Kd.R_far (p := ⟨gb208, 6, none⟩) (Kd.R_far (p := ⟨gb208, 5, none⟩) (Kd.R_far (p := ⟨gb208, 4, none⟩) (Kd.R_far (p := ⟨gb208, 3, none⟩) (Kd.R_far (p := ⟨gb208, 2, none⟩) (Kd.R_far (p := ⟨gb208, 1, none⟩) (Kd.R_far (p := ⟨gb208, 0, none⟩) (Kd.R_types HO192.out BK208.out (by decide)) (fun _ hk => hk.2) (.int .i64 t199)) (fun _ hk => hk.2) (.int .i64 t200)) (fun _ hk => hk.2) (.slice Ao31 t201.length co31)) (fun _ hk => hk.2) (.int .i64 t204)) (fun _ hk => hk.2) (.int .i64 t205)) (fun _ hk => hk.2) (.int .i64 t206)) (fun _ hk => hk.2) (.int .i64 t207)) (fun _ h_ => h_.1))))) (Kd.R_lt (by (with_reducible repeat (first | apply Kd.R_alloc | apply Kd.R_drewN | apply Kd.R_drew)); exact (Kd.R_mono (Kd.R_far (p := ⟨gb208, 6, none⟩) (Kd.R_far (p := ⟨gb208, 5, none⟩) (Kd.R_far (p := ⟨gb208, 4, none⟩) (Kd.R_far (p := ⟨gb208, 3, none⟩) (Kd.R_far (p := ⟨gb208, 2, none⟩) (Kd.R_far (p := ⟨gb208, 1, none⟩) (Kd.R_far (p := ⟨gb208, 0, none⟩) (Kd.R_types HO203.out BK208.out (by decide)) (fun _ hk => hk.2) (.int .i64 t199)) (fun _ hk => hk.2) (.int .i64 t200)) (fun _ hk => hk.2) (.slice Ao31 t201.length co31)) (fun _ hk => hk.2) (.int .i64 t204)) (fun _ hk => hk.2) (.int .i64 t205)) (fun _ hk => hk.2) (.int .i64 t206)) (fun _ hk => hk.2) (.int .i64 t207)) (fun _ h_ => h_.1))))) (below_size (by repeat (first | (with_reducible first | exact HB.out | apply ba | apply bn | apply below_drew1 | refine below_set ?_ GE177.out | refine below_set ?_ GE198.out | refine below_set ?_ GE208.out) | exact HB.out)))); have n4_ := am (blk_below (g := gb177) (o := .cells #[.int .i64 a0_0, .int .i64 a0_1, .slice A0_2 l0_2.length c0_2, .int .i64 a0_3, .int .i64 a0_4, .int .i64 a0_5, .int .i64 a0_6] 24 (0, 0)) (by (with_reducible repeat (first | apply kn | apply kd | apply ka)); refine blk_far ?_ NB177_208.out _; (with_reducible repeat (first | apply kn | apply kd | apply ka)); refine blk_far ?_ NB177_208.out _; (with_reducible repeat (first | apply kn | apply kd | apply ka)); refine blk_far ?_ NB177_208.out _; (with_reducible repeat (first | apply kn | apply kd | apply ka)); refine blk_far ?_ NB177_208.out _; (with_reducible repeat (first | apply kn | apply kd | apply ka)); refine blk_far ?_ NB177_208.out _; (with_reducible repeat (first | apply kn | apply kd | apply ka)); refine blk_far ?_ NB177_208.out _; (with_reducible repeat (first | apply kn | apply kd | apply ka)); refine blk_far ?_ NB177_208.out _; (with_reducible repeat (first | apply kn | apply kd | apply ka)); exact BK177.out) hb); have n5_ := am (blk_below (g := gb198) (o := .cells #[.int .i64 t188, .int .i64 t189, .slice Ao24 t190.length co24, .int .i64 t193, .int .i64 t194, .int .i64 t195, .int .i64 t196] 27 (0, 0)) (by (with_reducible repeat (first | apply kn | apply kd | apply ka)); refine blk_far ?_ NB198_208.out _; (with_reducible repeat (first | apply kn | apply kd | apply ka)); refine blk_far ?_ NB198_208.out _; (with_reducible repeat (first | apply kn | apply kd | apply ka)); refine blk_far ?_ NB198_208.out _; (with_reducible repeat (first | apply kn | apply kd | apply ka)); refine blk_far ?_ NB198_208.out _; (with_reducible repeat (first | apply kn | apply kd | apply ka)); refine blk_far ?_ NB198_208.out _; (with_reducible repeat (first | apply kn | apply kd | apply ka)); refine blk_far ?_ NB198_208.out _; (with_reducible repeat (first | apply kn | apply kd | apply ka)); refine blk_far ?_ NB198_208.out _; (with_reducible repeat (first | apply kn | apply kd | apply ka)); exact BK198.out) hb); have n6_ := am (blk_below (g := gb208) (o := .cells #[.int .i64 t199, .int .i64 t200, .slice Ao31 t201.length co31, .int .i64 t204, .int .i64 t205, .int .i64 t206, .int .i64 t207] 27 (0, 0)) (by (with_reducible repeat (first | apply kn | apply kd | apply ka)); refine blk_put (cs := #[.int .i64 t199, .int .i64 t200, .slice Ao31 t201.length co31, .int .i64 t204, .int .i64 t205, .int .i64 t206, .int .i64 0]) ?_ 6 _ rfl; (with_reducible repeat (first | apply kn | apply kd | apply ka)); refine blk_put (cs := #[.int .i64 t199, .int .i64 t200, .slice Ao31 t201.length co31, .int .i64 t204, .int .i64 t205, .int .i64 0, .int .i64 0]) ?_ 5 _ rfl; (with_reducible repeat (first | apply kn | apply kd | apply ka)); refine blk_put (cs := #[.int .i64 t199, .int .i64 t200, .slice Ao31 t201.length co31, .int .i64 t204, .int .i64 0, .int .i64 0, .int .i64 0]) ?_ 4 _ rfl; (with_reducible repeat (first | apply kn | apply kd | apply ka)); refine blk_put (cs := #[.int .i64 t199, .int .i64 t200, .slice Ao31 t201.length co31, .int .i64 0, .int .i64 0, .int .i64 0, .int .i64 0]) ?_ 3 _ rfl; (with_reducible repeat (first | apply kn | apply kd | apply ka)); refine blk_put (cs := #[.int .i64 t199, .int .i64 t200, .slice none 0 0, .int .i64 0, .int .i64 0, .int .i64 0, .int .i64 0]) ?_ 2 _ rfl; (with_reducible repeat (first | apply kn | apply kd | apply ka)); refine blk_put (cs := #[.int .i64 t199, .int .i64 0, .slice none 0 0, .int .i64 0, .int .i64 0, .int .i64 0, .int .i64 0]) ?_ 1 _ rfl; (with_reducible repeat (first | apply kn | apply kd | apply ka)); refine blk_put (cs := #[.int .i64 0, .int .i64 0, .slice none 0 0, .int .i64 0, .int .i64 0, .int .i64 0, .int .i64 0]) ?_ 0 _ rfl; (with_reducible repeat (first | apply kn | apply kd | apply ka)); exact BK208.out) hb); have n7_ := am (below_step (by repeat (first | (with_reducible first | exact HB.out | apply ba | apply bn | apply below_drew1 | refine below_set ?_ GE177.out | refine below_set ?_ GE198.out | refine below_set ?_ GE208.out) | exact HB.out)) hb); clear HO183; clear HO192; clear HO203; clear BK177; clear BK198; clear BK208; clear HB; have HO183 := n0_; have HO192 := n1_; have HO203 := n2_; have HO213 := n3_; have BK177 := n4_; have BK198 := n5_; have BK208 := n6_; have HB := n7_; clear n0_ n1_ n2_ n3_ n4_ n5_ n6_ n7_; (try clear hb); (try clear hb2); (try clear hk); (try clear hi); (try clear ho0)) | ((with_reducible refine gate_dst (N := 11) rfl ?_); refine box_event ?hg (N := 11) ?hd (cs := #[.int .i64 0, .int .i64 0, .slice none 0 0, .int .i64 0, .int .i64 0, .int .i64 0, .int .i64 0]) (t := 27) ?hr ?_; (case hd => rfl); (case hg => rfl); (case hr => first | (go_simp; done) | (go_simp; rfl)); intro gb219 hg w33 hbox hb; have n0_ := am (Kd.R_below (by (with_reducible repeat (first | apply Kd.R_alloc | apply Kd.R_drewN | apply Kd.R_drew)); exact HO183.out) hb); have n1_ := am (Kd.R_below (by (with_reducible repeat (first | apply Kd.R_alloc | apply Kd.R_drewN | apply Kd.R_drew)); exact HO192.out) hb); have n2_ := am (Kd.R_below (by (with_reducible repeat (first | apply Kd.R_alloc | apply Kd.R_drewN | apply Kd.R_drew)); exact HO203.out) hb); have n3_ := am (Kd.R_below (by (with_reducible repeat (first | apply Kd.R_alloc | apply Kd.R_drewN | apply Kd.R_drew)); exact HO213.out) hb); have n4_ := am (blk_below (g := gb177) (o := .cells #[.int .i64 a0_0, .int .i64 a0_1, .slice A0_2 l0_2.length c0_2, .int .i64 a0_3, .int .i64 a0_4, .int .i64 a0_5, .int .i64 a0_6] 24 (0, 0)) (by (with_reducible repeat (first | apply kn | apply kd | apply ka)); exact BK177.out) hb); have n5_ := am (blk_below (g := gb198) (o := .cells #[.int .i64 t188, .int .i64 t189, .slice Ao24 t190.length co24, .int .i64 t193, .int .i64 t194, .int .i64 t195, .int .i64 t196] 27 (0, 0)) (by (with_reducible repeat (first | apply kn | apply kd | apply ka)); exact BK198.out) hb); have n6_ := am (blk_below (g := gb208) (o := .cells #[.int .i64 t199, .int .i64 t200, .slice Ao31 t201.length co31, .int .i64 t204, .int .i64 t205, .int .i64 t206, .int .i64 t207] 27 (0, 0)) (by (with_reducible repeat (first | apply kn | apply kd | apply ka)); exact BK208.out) hb); have n7_ := am (below_step (by repeat (first | (with_reducible first | exact HB.out | apply ba | apply bn | apply below_drew1 | refine below_set ?_ GE177.out | refine below_set ?_ GE198.out | refine below_set ?_ GE208.out) | exact HB.out)) hb); have n8_ := am (hbox); have n9_ := am ((by rw [hg]; exact (below_size (by repeat (first | (with_reducible first | exact HB.out | apply ba | apply bn | apply below_drew1 | refine below_set ?_ GE177.out | refine below_set ?_ GE198.out | refine below_set ?_ GE208.out) | exact HB.out))) : w.heap.size ≤ gb219)); have n10_ := am ((by rw [hg]; exact (below_size (by repeat (first | (with_reducible first | exact HB.out | apply ba | apply bn | apply below_drew1 | refine below_set ?_ GE177.out | refine below_set ?_ GE198.out | refine below_set ?_ GE208.out) | exact HB.out))) : w.heap.size ≤ gb219)); have n11_ := am ((by rw [hg]; exact Nat.ne_of_lt (blk_lt (g := gb177) (o := .cells #[.int .i64 a0_0, .int .i64 a0_1, .slice A0_2 l0_2.length c0_2, .int .i64 a0_3, .int .i64 a0_4, .int .i64 a0_5, .int .i64 a0_6] 24 (0, 0)) (by (with_reducible repeat (first | apply kn | apply kd | apply ka)); exact BK177.out)) : gb177 ≠ gb219)); have n12_ := am ((by rw [hg]; exact Nat.ne_of_gt (blk_lt (g := gb177) (o := .cells #[.int .i64 a0_0, .int .i64 a0_1, .slice A0_2 l0_2.length c0_2, .int .i64 a0_3, .int .i64 a0_4, .int .i64 a0_5, .int .i64 a0_6] 24 (0, 0)) (by (with_reducible repeat (first | apply kn | apply kd | apply ka)); exact BK177.out)) : gb219 ≠ gb177)); have n13_ := am ((by rw [hg]; exact Nat.ne_of_lt (blk_lt (g := gb198) (o := .cells #[.int .i64 t188, .int .i64 t189, .slice Ao24 t190.length co24, .int .i64 t193, .int .i64 t194, .int .i64 t195, .int .i64 t196] 27 (0, 0)) (by (with_reducible repeat (first | apply kn | apply kd | apply ka)); exact BK198.out)) : gb198 ≠ gb219)); have n14_ := am ((by rw [hg]; exact Nat.ne_of_gt (blk_lt (g := gb198) (o := .cells #[.int .i64 t188, .int .i64 t189, .slice Ao24 t190.length co24, .int .i64 t193, .int .i64 t194, .int .i64 t195, .int .i64 t196] 27 (0, 0)) (by (with_reducible repeat (first | apply kn | apply kd | apply ka)); exact BK198.out)) : gb219 ≠ gb198)); have n15_ := am ((by rw [hg]; exact Nat.ne_of_lt (blk_lt (g := gb208) (o := .cells #[.int .i64 t199, .int .i64 t200, .slice Ao31 t201.length co31, .int .i64 t204, .int .i64 t205, .int .i64 t206, .int .i64 t207] 27 (0, 0)) (by (with_reducible repeat (first | apply kn | apply kd | apply ka)); exact BK208.out)) : gb208 ≠ gb219)); have n16_ := am ((by rw [hg]; exact Nat.ne_of_gt (blk_lt (g := gb208) (o := .cells #[.int .i64 t199, .int .i64 t200, .slice Ao31 t201.length co31, .int .i64 t204, .int .i64 t205, .int .i64 t206, .int .i64 t207] 27 (0, 0)) (by (with_reducible repeat (first | apply kn | apply kd | apply ka)); exact BK208.out)) : gb219 ≠ gb208)); clear HO183; clear HO192; clear HO203; clear HO213; clear BK177; clear BK198; clear BK208; clear HB; have HO183 := n0_; have HO192 := n1_; have HO203 := n2_; have HO213 := n3_; have BK177 := n4_; have BK198 := n5_; have BK208 := n6_; have HB := n7_; have BK219 := n8_; have GW219 := n9_; have GE219 := n10_; have NB177_219 := n11_; have NB219_177 := n12_; have NB198_219 := n13_; have NB219_198 := n14_; have NB208_219 := n15_; have NB219_208 := n16_; clear n0_ n1_ n2_ n3_ n4_ n5_ n6_ n7_ n8_ n9_ n10_ n11_ n12_ n13_ n14_ n15_ n16_; clear hb hbox hg; have hnb34 := NB219_177.out; have hnc34 := NB177_219.out; have hnb35 := NB219_198.out; have hnc35 := NB198_219.out; have hnb36 := NB219_208.out; have hnc36 := NB208_219.out; have hcz37_0 : w33.cell? ⟨gb219, 0, none⟩ = some (.int .i64 0) := (blk_cell BK219.out 0).trans rfl; have hcz37_1 : w33.cell? ⟨gb219, 1, none⟩ = some (.int .i64 0) := (blk_cell BK219.out 1).trans rfl; have hcz37_2 : w33.cell? ⟨gb219, 2, none⟩ = some (.slice none 0 0) := (blk_cell BK219.out 2).trans rfl; have hcz37_3 : w33.cell? ⟨gb219, 3, none⟩ = some (.int .i64 0) := (blk_cell BK219.out 3).trans rfl; have hcz37_4 : w33.cell? ⟨gb219, 4, none⟩ = some (.int .i64 0) := (blk_cell BK219.out 4).trans rfl; have hcz37_5 : w33.cell? ⟨gb219, 5, none⟩ = some (.int .i64 0) := (blk_cell BK219.out 5).trans rfl; have hcz37_6 : w33.cell? ⟨gb219, 6, none⟩ = some (.int .i64 0) := (blk_cell BK219.out 6).trans rfl; have hfz37_0 := blk_frozen BK219.out 0; have hfz37_1 := blk_frozen BK219.out 1; have hfz37_2 := blk_frozen BK219.out 2; have hfz37_3 := blk_frozen BK219.out 3; have hfz37_4 := blk_frozen BK219.out 4; have hfz37_5 := blk_frozen BK219.out 5; have hfz37_6 := blk_frozen BK219.out 6; obtain ⟨Ao38, co38, eo38⟩ := Kd.R_slice HO213.out; subst eo38))
  (try simp only [Act.put, List.setIfInBounds_toArray, List.set_cons_zero, List.set_cons_succ])
  go_cut [48] (fun v48 wc => ∃ (kq : Nat) (x48_12 : Bool), v48 = .bool x48_12 ∧ Aside0 (laws_FnExactSetHeight.j0 kq a1 a2 t197 t218 x48_12 a0_0 a0_1 l0_2 a0_3 a0_4 a0_5 a0_6 t188 t189 t190 t193 t194 t195 t196 t199 t200 t201 t204 t205 t206 t207 t209 t210 t211 t214 t215 t216 t217 = some r) ∧ Aside0 (kq ≤ k) ∧ Aside0 (Kd.R (Kd.int .i64) 3 wc w.heap.size (fun k_ => some k_ ≠ ((.slice Ao31 t201.length co31) : Value).ownBlock ∧ some k_ ≠ ((.slice Ao38 t211.length co38) : Value).ownBlock) (.slice Ao24 t190.length co24) t190) ∧ Aside0 (Kd.R (Kd.int .i64) 3 wc w.heap.size (fun k_ => some k_ ≠ ((.slice Ao24 t190.length co24) : Value).ownBlock ∧ some k_ ≠ ((.slice Ao38 t211.length co38) : Value).ownBlock) (.slice Ao31 t201.length co31) t201) ∧ Aside0 (Kd.R (Kd.int .i64) 3 wc w.heap.size (fun k_ => some k_ ≠ ((.slice Ao24 t190.length co24) : Value).ownBlock ∧ some k_ ≠ ((.slice Ao31 t201.length co31) : Value).ownBlock) (.slice Ao38 t211.length co38) t211) ∧ Aside0 (wc.heap[gb177]? = some (.cells #[.int .i64 a0_0, .int .i64 a0_1, (.slice A0_2 l0_2.length c0_2), .int .i64 a0_3, .int .i64 a0_4, .int .i64 a0_5, .int .i64 a0_6] 24 (0, 0))) ∧ Aside0 (wc.heap[gb198]? = some (.cells #[.int .i64 t188, .int .i64 t189, (.slice Ao24 t190.length co24), .int .i64 t193, .int .i64 t194, .int .i64 t195, .int .i64 t196] 27 (0, 0))) ∧ Aside0 (wc.heap[gb208]? = some (.cells #[.int .i64 t199, .int .i64 t200, (.slice Ao31 t201.length co31), .int .i64 t204, .int .i64 t205, .int .i64 t206, .int .i64 t207] 27 (0, 0))) ∧ Aside0 (wc.heap[gb219]? = some (.cells #[.int .i64 t209, .int .i64 t210, (.slice Ao38 t211.length co38), .int .i64 t214, .int .i64 t215, .int .i64 t216, .int .i64 t217] 27 (0, 0))) ∧ Aside0 (Below w.heap.size w wc))
  case first =>
   have H := HC13.out
   clear HC13
   replace H := Option.bind_eq_some_iff.mp H
   obtain ⟨t220, A390, H⟩ := H
   replace H : (if t220 = true then (laws_FnExactSetHeight.j0 k a1 a2 t197 t218 (t218 != t197) a0_0 a0_1 l0_2 a0_3 a0_4 a0_5 a0_6 t188 t189 t190 t193 t194 t195 t196 t199 t200 t201 t204 t205 t206 t207 t209 t210 t211 t214 t215 t216 t217) else (laws_FnExactSetHeight.j0 k a1 a2 t197 t218 true a0_0 a0_1 l0_2 a0_3 a0_4 a0_5 a0_6 t188 t189 t190 t193 t194 t195 t196 t199 t200 t201 t204 t205 t206 t207 t209 t210 t211 t214 t215 t216 t217)) = some r := H
   have A39 := Aside0.mk A390
   clear A390
   by_cases c40 : t220 = true
   ·subst c40
    have H1 : (laws_FnExactSetHeight.j0 k a1 a2 t197 t218 (t218 != t197) a0_0 a0_1 l0_2 a0_3 a0_4 a0_5 a0_6 t188 t189 t190 t193 t194 t195 t196 t199 t200 t201 t204 t205 t206 t207 t209 t210 t211 t214 t215 t216 t217) = some r := by rw [if_pos rfl] at H; exact H
    clear H
    have H := H1
    clear H1
    have H' := Aside0.mk H
    clear H
    have hnb41 := NB219_177.out
    have hnc41 := NB177_219.out
    have hnb42 := NB219_198.out
    have hnc42 := NB198_219.out
    have hnb43 := NB219_208.out
    have hnc43 := NB208_219.out
    have hcz44_0 : w33.cell? ⟨gb219, 0, none⟩ = some (.int .i64 0) := (blk_cell BK219.out 0).trans rfl
    have hcz44_1 : w33.cell? ⟨gb219, 1, none⟩ = some (.int .i64 0) := (blk_cell BK219.out 1).trans rfl
    have hcz44_2 : w33.cell? ⟨gb219, 2, none⟩ = some (.slice none 0 0) := (blk_cell BK219.out 2).trans rfl
    have hcz44_3 : w33.cell? ⟨gb219, 3, none⟩ = some (.int .i64 0) := (blk_cell BK219.out 3).trans rfl
    have hcz44_4 : w33.cell? ⟨gb219, 4, none⟩ = some (.int .i64 0) := (blk_cell BK219.out 4).trans rfl
    have hcz44_5 : w33.cell? ⟨gb219, 5, none⟩ = some (.int .i64 0) := (blk_cell BK219.out 5).trans rfl
    have hcz44_6 : w33.cell? ⟨gb219, 6, none⟩ = some (.int .i64 0) := (blk_cell BK219.out 6).trans rfl
    have hfz44_0 := blk_frozen BK219.out 0
    have hfz44_1 := blk_frozen BK219.out 1
    have hfz44_2 := blk_frozen BK219.out 2
    have hfz44_3 := blk_frozen BK219.out 3
    have hfz44_4 := blk_frozen BK219.out 4
    have hfz44_5 := blk_frozen BK219.out 5
    have hfz44_6 := blk_frozen BK219.out 6
    have hnb45 := NB198_177.out
    have hnc45 := NB177_198.out
    have hnb46 := NB198_208.out
    have hnc46 := NB208_198.out
    have hcz47_0 : w33.cell? ⟨gb198, 0, none⟩ = some (.int .i64 t188) := (blk_cell BK198.out 0).trans rfl
    have hcz47_1 : w33.cell? ⟨gb198, 1, none⟩ = some (.int .i64 t189) := (blk_cell BK198.out 1).trans rfl
    have hcz47_2 : w33.cell? ⟨gb198, 2, none⟩ = some (.slice Ao24 t190.length co24) := (blk_cell BK198.out 2).trans rfl
    have hcz47_3 : w33.cell? ⟨gb198, 3, none⟩ = some (.int .i64 t193) := (blk_cell BK198.out 3).trans rfl
    have hcz47_4 : w33.cell? ⟨gb198, 4, none⟩ = some (.int .i64 t194) := (blk_cell BK198.out 4).trans rfl
    have hcz47_5 : w33.cell? ⟨gb198, 5, none⟩ = some (.int .i64 t195) := (blk_cell BK198.out 5).trans rfl
    have hcz47_6 : w33.cell? ⟨gb198, 6, none⟩ = some (.int .i64 t196) := (blk_cell BK198.out 6).trans rfl
    have hfz47_0 := blk_frozen BK198.out 0
    have hfz47_1 := blk_frozen BK198.out 1
    have hfz47_2 := blk_frozen BK198.out 2
    have hfz47_3 := blk_frozen BK198.out 3
    have hfz47_4 := blk_frozen BK198.out 4
    have hfz47_5 := blk_frozen BK198.out 5
    have hfz47_6 := blk_frozen BK198.out 6
    go_wp2_with (first | ((with_reducible refine gate_callee (f := 13) rfl ?_); refine goesL_ (some 42) rfl rfl Try.func13 (by kernel_rfl) rfl #[.agg #[.int .i64 t209, .int .i64 t210, .slice Ao38 t211.length co38, .int .i64 t214, .int .i64 t215, .int .i64 t216, .int .i64 t217], .agg #[.int .i64 t188, .int .i64 t189, .slice Ao24 t190.length co24, .int .i64 t193, .int .i64 t194, .int .i64 t195, .int .i64 t196]] rfl (by (try simp only [List.map_toArray, List.map_cons, List.map_nil]); first | done | rfl | (simp only [List.length_drop, List.length_take]; rfl)) ?_; (with_reducible refine (laws_eqTerrain.calls k t209 t210 _ _ t211 t214 t215 t216 t217 t188 t189 _ _ t190 t193 t194 t195 t196 true _ ?side1 ?side2 ?side3 ?side4 A39.out).mono ?_); (case side1 => refine (Kd.R_reads' (e := 3) (base := w.heap.size) (ok := fun k_ => (((True ∧ some k_ ≠ (.slice Ao19 t181.length co19 : Value).ownBlock) ∧ some k_ ≠ (.slice Ao24 t190.length co24 : Value).ownBlock) ∧ some k_ ≠ (.slice Ao31 t201.length co31 : Value).ownBlock)) (n := t211.length) (c := co38) ?_).2.2; exact (by (with_reducible repeat (first | apply Kd.R_alloc | apply Kd.R_drewN | apply Kd.R_drew)); exact (Kd.R_mono (Kd.R_far (p := ⟨gb219, 6, none⟩) (Kd.R_far (p := ⟨gb219, 5, none⟩) (Kd.R_far (p := ⟨gb219, 4, none⟩) (Kd.R_far (p := ⟨gb219, 3, none⟩) (Kd.R_far (p := ⟨gb219, 2, none⟩) (Kd.R_far (p := ⟨gb219, 1, none⟩) (Kd.R_far (p := ⟨gb219, 0, none⟩) (Kd.R_types HO213.out BK219.out (by decide)) (fun _ hk => hk.2) (.int .i64 t209)) (fun _ hk => hk.2) (.int .i64 t210)) (fun _ hk => hk.2) (.slice Ao38 t211.length co38)) (fun _ hk => hk.2) (.int .i64 t214)) (fun _ hk => hk.2) (.int .i64 t215)) (fun _ hk => hk.2) (.int .i64 t216)) (fun _ hk => hk.2) (.int .i64 t217)) (fun _ h_ => h_.1)))); (case side2 => exact (Kd.R_reads' HO213.out).2.1); (case side3 => refine (Kd.R_reads' (e := 3) (base := w.heap.size) (ok := fun k_ => (((True ∧ some k_ ≠ (.slice Ao19 t181.length co19 : Value).ownBlock) ∧ some k_ ≠ (.slice Ao31 t201.length co31 : Value).ownBlock) ∧ some k_ ≠ (.slice Ao38 t211.length co38 : Value).ownBlock)) (n := t190.length) (c := co24) ?_).2.2; exact (by (with_reducible repeat (first | apply Kd.R_alloc | apply Kd.R_drewN | apply Kd.R_drew)); exact (Kd.R_mono (Kd.R_far (p := ⟨gb219, 6, none⟩) (Kd.R_far (p := ⟨gb219, 5, none⟩) (Kd.R_far (p := ⟨gb219, 4, none⟩) (Kd.R_far (p := ⟨gb219, 3, none⟩) (Kd.R_far (p := ⟨gb219, 2, none⟩) (Kd.R_far (p := ⟨gb219, 1, none⟩) (Kd.R_far (p := ⟨gb219, 0, none⟩) (Kd.R_types HO192.out BK219.out (by decide)) (fun _ hk => hk.2) (.int .i64 t209)) (fun _ hk => hk.2) (.int .i64 t210)) (fun _ hk => hk.2) (.slice Ao38 t211.length co38)) (fun _ hk => hk.2) (.int .i64 t214)) (fun _ hk => hk.2) (.int .i64 t215)) (fun _ hk => hk.2) (.int .i64 t216)) (fun _ hk => hk.2) (.int .i64 t217)) (fun _ h_ => h_.1)))); (case side4 => exact (Kd.R_reads' HO192.out).2.1); rintro e w48 ⟨rfl, hb⟩; refine ⟨_, rfl, ?_⟩; have n0_ := am (Kd.R_below (by (with_reducible repeat (first | apply Kd.R_alloc | apply Kd.R_drewN | apply Kd.R_drew)); exact (Kd.R_mono (Kd.R_far (p := ⟨gb219, 6, none⟩) (Kd.R_far (p := ⟨gb219, 5, none⟩) (Kd.R_far (p := ⟨gb219, 4, none⟩) (Kd.R_far (p := ⟨gb219, 3, none⟩) (Kd.R_far (p := ⟨gb219, 2, none⟩) (Kd.R_far (p := ⟨gb219, 1, none⟩) (Kd.R_far (p := ⟨gb219, 0, none⟩) (Kd.R_types HO183.out BK219.out (by decide)) (fun _ hk => hk.2) (.int .i64 t209)) (fun _ hk => hk.2) (.int .i64 t210)) (fun _ hk => hk.2) (.slice Ao38 t211.length co38)) (fun _ hk => hk.2) (.int .i64 t214)) (fun _ hk => hk.2) (.int .i64 t215)) (fun _ hk => hk.2) (.int .i64 t216)) (fun _ hk => hk.2) (.int .i64 t217)) (fun _ h_ => h_.1))) hb); have n1_ := am (Kd.R_below (by (with_reducible repeat (first | apply Kd.R_alloc | apply Kd.R_drewN | apply Kd.R_drew)); exact (Kd.R_mono (Kd.R_far (p := ⟨gb219, 6, none⟩) (Kd.R_far (p := ⟨gb219, 5, none⟩) (Kd.R_far (p := ⟨gb219, 4, none⟩) (Kd.R_far (p := ⟨gb219, 3, none⟩) (Kd.R_far (p := ⟨gb219, 2, none⟩) (Kd.R_far (p := ⟨gb219, 1, none⟩) (Kd.R_far (p := ⟨gb219, 0, none⟩) (Kd.R_types HO192.out BK219.out (by decide)) (fun _ hk => hk.2) (.int .i64 t209)) (fun _ hk => hk.2) (.int .i64 t210)) (fun _ hk => hk.2) (.slice Ao38 t211.length co38)) (fun _ hk => hk.2) (.int .i64 t214)) (fun _ hk => hk.2) (.int .i64 t215)) (fun _ hk => hk.2) (.int .i64 t216)) (fun _ hk => hk.2) (.int .i64 t217)) (fun _ h_ => h_.1))) hb); have n2_ := am (Kd.R_below (by (with_reducible repeat (first | apply Kd.R_alloc | apply Kd.R_drewN | apply Kd.R_drew)); exact (Kd.R_mono (Kd.R_far (p := ⟨gb219, 6, none⟩) (Kd.R_far (p := ⟨gb219, 5, none⟩) (Kd.R_far (p := ⟨gb219, 4, none⟩) (Kd.R_far (p := ⟨gb219, 3, none⟩) (Kd.R_far (p := ⟨gb219, 2, none⟩) (Kd.R_far (p := ⟨gb219, 1, none⟩) (Kd.R_far (p := ⟨gb219, 0, none⟩) (Kd.R_types HO203.out BK219.out (by decide)) (fun _ hk => hk.2) (.int .i64 t209)) (fun _ hk => hk.2) (.int .i64 t210)) (fun _ hk => hk.2) (.slice Ao38 t211.length co38)) (fun _ hk => hk.2) (.int .i64 t214)) (fun _ hk => hk.2) (.int .i64 t215)) (fun _ hk => hk.2) (.int .i64 t216)) (fun _ hk => hk.2) (.int .i64 t217)) (fun _ h_ => h_.1))) hb); have n3_ := am (Kd.R_below (by (with_reducible repeat (first | apply Kd.R_alloc | apply Kd.R_drewN | apply Kd.R_drew)); exact (Kd.R_mono (Kd.R_far (p := ⟨gb219, 6, none⟩) (Kd.R_far (p := ⟨gb219, 5, none⟩) (Kd.R_far (p := ⟨gb219, 4, none⟩) (Kd.R_far (p := ⟨gb219, 3, none⟩) (Kd.R_far (p := ⟨gb219, 2, none⟩) (Kd.R_far (p := ⟨gb219, 1, none⟩) (Kd.R_far (p := ⟨gb219, 0, none⟩) (Kd.R_types HO213.out BK219.out (by decide)) (fun _ hk => hk.2) (.int .i64 t209)) (fun _ hk => hk.2) (.int .i64 t210)) (fun _ hk => hk.2) (.slice Ao38 t211.length co38)) (fun _ hk => hk.2) (.int .i64 t214)) (fun _ hk => hk.2) (.int .i64 t215)) (fun _ hk => hk.2) (.int .i64 t216)) (fun _ hk => hk.2) (.int .i64 t217)) (fun _ h_ => h_.1))) hb); have n4_ := am (blk_below (g := gb177) (o := .cells #[.int .i64 a0_0, .int .i64 a0_1, .slice A0_2 l0_2.length c0_2, .int .i64 a0_3, .int .i64 a0_4, .int .i64 a0_5, .int .i64 a0_6] 24 (0, 0)) (by (with_reducible repeat (first | apply kn | apply kd | apply ka)); refine blk_far ?_ NB177_219.out _; (with_reducible repeat (first | apply kn | apply kd | apply ka)); refine blk_far ?_ NB177_219.out _; (with_reducible repeat (first | apply kn | apply kd | apply ka)); refine blk_far ?_ NB177_219.out _; (with_reducible repeat (first | apply kn | apply kd | apply ka)); refine blk_far ?_ NB177_219.out _; (with_reducible repeat (first | apply kn | apply kd | apply ka)); refine blk_far ?_ NB177_219.out _; (with_reducible repeat (first | apply kn | apply kd | apply ka)); refine blk_far ?_ NB177_219.out _; (with_reducible repeat (first | apply kn | apply kd | apply ka)); refine blk_far ?_ NB177_219.out _; (with_reducible repeat (first | apply kn | apply kd | apply ka)); exact BK177.out) hb); have n5_ := am (blk_below (g := gb198) (o := .cells #[.int .i64 t188, .int .i64 t189, .slice Ao24 t190.length co24, .int .i64 t193, .int .i64 t194, .int .i64 t195, .int .i64 t196] 27 (0, 0)) (by (with_reducible repeat (first | apply kn | apply kd | apply ka)); refine blk_far ?_ NB198_219.out _; (with_reducible repeat (first | apply kn | apply kd | apply ka)); refine blk_far ?_ NB198_219.out _; (with_reducible repeat (first | apply kn | apply kd | apply ka)); refine blk_far ?_ NB198_219.out _; (with_reducible repeat (first | apply kn | apply kd | apply ka)); refine blk_far ?_ NB198_219.out _; (with_reducible repeat (first | apply kn | apply kd | apply ka)); refine blk_far ?_ NB198_219.out _; (with_reducible repeat (first | apply kn | apply kd | apply ka)); refine blk_far ?_ NB198_219.out _; (with_reducible repeat (first | apply kn | apply kd | apply ka)); refine blk_far ?_ NB198_219.out _; (with_reducible repeat (first | apply kn | apply kd | apply ka)); exact BK198.out) hb); have n6_ := am (blk_below (g := gb208) (o := .cells #[.int .i64 t199, .int .i64 t200, .slice Ao31 t201.length co31, .int .i64 t204, .int .i64 t205, .int .i64 t206, .int .i64 t207] 27 (0, 0)) (by (with_reducible repeat (first | apply kn | apply kd | apply ka)); refine blk_far ?_ NB208_219.out _; (with_reducible repeat (first | apply kn | apply kd | apply ka)); refine blk_far ?_ NB208_219.out _; (with_reducible repeat (first | apply kn | apply kd | apply ka)); refine blk_far ?_ NB208_219.out _; (with_reducible repeat (first | apply kn | apply kd | apply ka)); refine blk_far ?_ NB208_219.out _; (with_reducible repeat (first | apply kn | apply kd | apply ka)); refine blk_far ?_ NB208_219.out _; (with_reducible repeat (first | apply kn | apply kd | apply ka)); refine blk_far ?_ NB208_219.out _; (with_reducible repeat (first | apply kn | apply kd | apply ka)); refine blk_far ?_ NB208_219.out _; (with_reducible repeat (first | apply kn | apply kd | apply ka)); exact BK208.out) hb); have n7_ := am (blk_below (g := gb219) (o := .cells #[.int .i64 t209, .int .i64 t210, .slice Ao38 t211.length co38, .int .i64 t214, .int .i64 t215, .int .i64 t216, .int .i64 t217] 27 (0, 0)) (by (with_reducible repeat (first | apply kn | apply kd | apply ka)); refine blk_put (cs := #[.int .i64 t209, .int .i64 t210, .slice Ao38 t211.length co38, .int .i64 t214, .int .i64 t215, .int .i64 t216, .int .i64 0]) ?_ 6 _ rfl; (with_reducible repeat (first | apply kn | apply kd | apply ka)); refine blk_put (cs := #[.int .i64 t209, .int .i64 t210, .slice Ao38 t211.length co38, .int .i64 t214, .int .i64 t215, .int .i64 0, .int .i64 0]) ?_ 5 _ rfl; (with_reducible repeat (first | apply kn | apply kd | apply ka)); refine blk_put (cs := #[.int .i64 t209, .int .i64 t210, .slice Ao38 t211.length co38, .int .i64 t214, .int .i64 0, .int .i64 0, .int .i64 0]) ?_ 4 _ rfl; (with_reducible repeat (first | apply kn | apply kd | apply ka)); refine blk_put (cs := #[.int .i64 t209, .int .i64 t210, .slice Ao38 t211.length co38, .int .i64 0, .int .i64 0, .int .i64 0, .int .i64 0]) ?_ 3 _ rfl; (with_reducible repeat (first | apply kn | apply kd | apply ka)); refine blk_put (cs := #[.int .i64 t209, .int .i64 t210, .slice none 0 0, .int .i64 0, .int .i64 0, .int .i64 0, .int .i64 0]) ?_ 2 _ rfl; (with_reducible repeat (first | apply kn | apply kd | apply ka)); refine blk_put (cs := #[.int .i64 t209, .int .i64 0, .slice none 0 0, .int .i64 0, .int .i64 0, .int .i64 0, .int .i64 0]) ?_ 1 _ rfl; (with_reducible repeat (first | apply kn | apply kd | apply ka)); refine blk_put (cs := #[.int .i64 0, .int .i64 0, .slice none 0 0, .int .i64 0, .int .i64 0, .int .i64 0, .int .i64 0]) ?_ 0 _ rfl; (with_reducible repeat (first | apply kn | apply kd | apply ka)); exact BK219.out) hb); have n8_ := am (below_step (by repeat (first | (with_reducible first | exact HB.out | apply ba | apply bn | apply below_drew1 | refine below_set ?_ GE177.out | refine below_set ?_ GE198.out | refine below_set ?_ GE208.out | refine below_set ?_ GE219.out) | exact HB.out)) hb); clear HO183; clear HO192; clear HO203; clear HO213; clear BK177; clear BK198; clear BK208; clear BK219; clear HB; have HO183 := n0_; have HO192 := n1_; have HO203 := n2_; have HO213 := n3_; have BK177 := n4_; have BK198 := n5_; have BK208 := n6_; have BK219 := n7_; have HB := n8_; clear n0_ n1_ n2_ n3_ n4_ n5_ n6_ n7_ n8_; (try clear hb); (try clear hb2); (try clear hk); (try clear hi)))
    go_meet
    case rel => exact ⟨_, ((t218 != t197)), (by first | rfl | (simp; done) | (simp [*]; done)), H', ⟨by first | omega | exact Nat.le_refl _⟩, ⟨by (with_reducible repeat (first | apply Kd.R_alloc | apply Kd.R_drewN | apply Kd.R_drew)); exact Kd.R_mono HO192.out (fun _ hk => ⟨hk.1.2, hk.2⟩)⟩, ⟨by (with_reducible repeat (first | apply Kd.R_alloc | apply Kd.R_drewN | apply Kd.R_drew)); exact Kd.R_mono HO203.out (fun _ hk => ⟨hk.1.2, hk.2⟩)⟩, ⟨by (with_reducible repeat (first | apply Kd.R_alloc | apply Kd.R_drewN | apply Kd.R_drew)); exact Kd.R_mono HO213.out (fun _ hk => ⟨hk.1.2, hk.2⟩)⟩, ⟨by (with_reducible repeat (first | apply kn | apply kd | apply ka)); exact BK177.out⟩, ⟨by (with_reducible repeat (first | apply kn | apply kd | apply ka)); exact BK198.out⟩, ⟨by (with_reducible repeat (first | apply kn | apply kd | apply ka)); exact BK208.out⟩, ⟨by (with_reducible repeat (first | apply kn | apply kd | apply ka)); exact BK219.out⟩, ⟨by repeat (first | (with_reducible first | exact HB.out | apply ba | apply bn | apply below_drew1 | refine below_set ?_ GE177.out | refine below_set ?_ GE198.out | refine below_set ?_ GE208.out | refine below_set ?_ GE219.out) | exact HB.out)⟩⟩
   ·replace c40 := Bool.eq_false_iff.mpr c40
    subst c40
    have H1 : (laws_FnExactSetHeight.j0 k a1 a2 t197 t218 true a0_0 a0_1 l0_2 a0_3 a0_4 a0_5 a0_6 t188 t189 t190 t193 t194 t195 t196 t199 t200 t201 t204 t205 t206 t207 t209 t210 t211 t214 t215 t216 t217) = some r := by rw [if_neg (show ¬ (false = true) by decide)] at H; exact H
    clear H
    have H := H1
    clear H1
    have H' := Aside0.mk H
    clear H
    have hnb49 := NB219_177.out
    have hnc49 := NB177_219.out
    have hnb50 := NB219_198.out
    have hnc50 := NB198_219.out
    have hnb51 := NB219_208.out
    have hnc51 := NB208_219.out
    have hcz52_0 : w33.cell? ⟨gb219, 0, none⟩ = some (.int .i64 0) := (blk_cell BK219.out 0).trans rfl
    have hcz52_1 : w33.cell? ⟨gb219, 1, none⟩ = some (.int .i64 0) := (blk_cell BK219.out 1).trans rfl
    have hcz52_2 : w33.cell? ⟨gb219, 2, none⟩ = some (.slice none 0 0) := (blk_cell BK219.out 2).trans rfl
    have hcz52_3 : w33.cell? ⟨gb219, 3, none⟩ = some (.int .i64 0) := (blk_cell BK219.out 3).trans rfl
    have hcz52_4 : w33.cell? ⟨gb219, 4, none⟩ = some (.int .i64 0) := (blk_cell BK219.out 4).trans rfl
    have hcz52_5 : w33.cell? ⟨gb219, 5, none⟩ = some (.int .i64 0) := (blk_cell BK219.out 5).trans rfl
    have hcz52_6 : w33.cell? ⟨gb219, 6, none⟩ = some (.int .i64 0) := (blk_cell BK219.out 6).trans rfl
    have hfz52_0 := blk_frozen BK219.out 0
    have hfz52_1 := blk_frozen BK219.out 1
    have hfz52_2 := blk_frozen BK219.out 2
    have hfz52_3 := blk_frozen BK219.out 3
    have hfz52_4 := blk_frozen BK219.out 4
    have hfz52_5 := blk_frozen BK219.out 5
    have hfz52_6 := blk_frozen BK219.out 6
    have hnb53 := NB198_177.out
    have hnc53 := NB177_198.out
    have hnb54 := NB198_208.out
    have hnc54 := NB208_198.out
    have hcz55_0 : w33.cell? ⟨gb198, 0, none⟩ = some (.int .i64 t188) := (blk_cell BK198.out 0).trans rfl
    have hcz55_1 : w33.cell? ⟨gb198, 1, none⟩ = some (.int .i64 t189) := (blk_cell BK198.out 1).trans rfl
    have hcz55_2 : w33.cell? ⟨gb198, 2, none⟩ = some (.slice Ao24 t190.length co24) := (blk_cell BK198.out 2).trans rfl
    have hcz55_3 : w33.cell? ⟨gb198, 3, none⟩ = some (.int .i64 t193) := (blk_cell BK198.out 3).trans rfl
    have hcz55_4 : w33.cell? ⟨gb198, 4, none⟩ = some (.int .i64 t194) := (blk_cell BK198.out 4).trans rfl
    have hcz55_5 : w33.cell? ⟨gb198, 5, none⟩ = some (.int .i64 t195) := (blk_cell BK198.out 5).trans rfl
    have hcz55_6 : w33.cell? ⟨gb198, 6, none⟩ = some (.int .i64 t196) := (blk_cell BK198.out 6).trans rfl
    have hfz55_0 := blk_frozen BK198.out 0
    have hfz55_1 := blk_frozen BK198.out 1
    have hfz55_2 := blk_frozen BK198.out 2
    have hfz55_3 := blk_frozen BK198.out 3
    have hfz55_4 := blk_frozen BK198.out 4
    have hfz55_5 := blk_frozen BK198.out 5
    have hfz55_6 := blk_frozen BK198.out 6
    go_wp2_with (first | ((with_reducible refine gate_callee (f := 13) rfl ?_); refine goesL_ (some 42) rfl rfl Try.func13 (by kernel_rfl) rfl #[.agg #[.int .i64 t209, .int .i64 t210, .slice Ao38 t211.length co38, .int .i64 t214, .int .i64 t215, .int .i64 t216, .int .i64 t217], .agg #[.int .i64 t188, .int .i64 t189, .slice Ao24 t190.length co24, .int .i64 t193, .int .i64 t194, .int .i64 t195, .int .i64 t196]] rfl (by (try simp only [List.map_toArray, List.map_cons, List.map_nil]); first | done | rfl | (simp only [List.length_drop, List.length_take]; rfl)) ?_; (with_reducible refine (laws_eqTerrain.calls k t209 t210 _ _ t211 t214 t215 t216 t217 t188 t189 _ _ t190 t193 t194 t195 t196 false _ ?side1 ?side2 ?side3 ?side4 A39.out).mono ?_); (case side1 => refine (Kd.R_reads' (e := 3) (base := w.heap.size) (ok := fun k_ => (((True ∧ some k_ ≠ (.slice Ao19 t181.length co19 : Value).ownBlock) ∧ some k_ ≠ (.slice Ao24 t190.length co24 : Value).ownBlock) ∧ some k_ ≠ (.slice Ao31 t201.length co31 : Value).ownBlock)) (n := t211.length) (c := co38) ?_).2.2; exact (by (with_reducible repeat (first | apply Kd.R_alloc | apply Kd.R_drewN | apply Kd.R_drew)); exact (Kd.R_mono (Kd.R_far (p := ⟨gb219, 6, none⟩) (Kd.R_far (p := ⟨gb219, 5, none⟩) (Kd.R_far (p := ⟨gb219, 4, none⟩) (Kd.R_far (p := ⟨gb219, 3, none⟩) (Kd.R_far (p := ⟨gb219, 2, none⟩) (Kd.R_far (p := ⟨gb219, 1, none⟩) (Kd.R_far (p := ⟨gb219, 0, none⟩) (Kd.R_types HO213.out BK219.out (by decide)) (fun _ hk => hk.2) (.int .i64 t209)) (fun _ hk => hk.2) (.int .i64 t210)) (fun _ hk => hk.2) (.slice Ao38 t211.length co38)) (fun _ hk => hk.2) (.int .i64 t214)) (fun _ hk => hk.2) (.int .i64 t215)) (fun _ hk => hk.2) (.int .i64 t216)) (fun _ hk => hk.2) (.int .i64 t217)) (fun _ h_ => h_.1)))); (case side2 => exact (Kd.R_reads' HO213.out).2.1); (case side3 => refine (Kd.R_reads' (e := 3) (base := w.heap.size) (ok := fun k_ => (((True ∧ some k_ ≠ (.slice Ao19 t181.length co19 : Value).ownBlock) ∧ some k_ ≠ (.slice Ao31 t201.length co31 : Value).ownBlock) ∧ some k_ ≠ (.slice Ao38 t211.length co38 : Value).ownBlock)) (n := t190.length) (c := co24) ?_).2.2; exact (by (with_reducible repeat (first | apply Kd.R_alloc | apply Kd.R_drewN | apply Kd.R_drew)); exact (Kd.R_mono (Kd.R_far (p := ⟨gb219, 6, none⟩) (Kd.R_far (p := ⟨gb219, 5, none⟩) (Kd.R_far (p := ⟨gb219, 4, none⟩) (Kd.R_far (p := ⟨gb219, 3, none⟩) (Kd.R_far (p := ⟨gb219, 2, none⟩) (Kd.R_far (p := ⟨gb219, 1, none⟩) (Kd.R_far (p := ⟨gb219, 0, none⟩) (Kd.R_types HO192.out BK219.out (by decide)) (fun _ hk => hk.2) (.int .i64 t209)) (fun _ hk => hk.2) (.int .i64 t210)) (fun _ hk => hk.2) (.slice Ao38 t211.length co38)) (fun _ hk => hk.2) (.int .i64 t214)) (fun _ hk => hk.2) (.int .i64 t215)) (fun _ hk => hk.2) (.int .i64 t216)) (fun _ hk => hk.2) (.int .i64 t217)) (fun _ h_ => h_.1)))); (case side4 => exact (Kd.R_reads' HO192.out).2.1); rintro e w56 ⟨rfl, hb⟩; refine ⟨_, rfl, ?_⟩; have n0_ := am (Kd.R_below (by (with_reducible repeat (first | apply Kd.R_alloc | apply Kd.R_drewN | apply Kd.R_drew)); exact (Kd.R_mono (Kd.R_far (p := ⟨gb219, 6, none⟩) (Kd.R_far (p := ⟨gb219, 5, none⟩) (Kd.R_far (p := ⟨gb219, 4, none⟩) (Kd.R_far (p := ⟨gb219, 3, none⟩) (Kd.R_far (p := ⟨gb219, 2, none⟩) (Kd.R_far (p := ⟨gb219, 1, none⟩) (Kd.R_far (p := ⟨gb219, 0, none⟩) (Kd.R_types HO183.out BK219.out (by decide)) (fun _ hk => hk.2) (.int .i64 t209)) (fun _ hk => hk.2) (.int .i64 t210)) (fun _ hk => hk.2) (.slice Ao38 t211.length co38)) (fun _ hk => hk.2) (.int .i64 t214)) (fun _ hk => hk.2) (.int .i64 t215)) (fun _ hk => hk.2) (.int .i64 t216)) (fun _ hk => hk.2) (.int .i64 t217)) (fun _ h_ => h_.1))) hb); have n1_ := am (Kd.R_below (by (with_reducible repeat (first | apply Kd.R_alloc | apply Kd.R_drewN | apply Kd.R_drew)); exact (Kd.R_mono (Kd.R_far (p := ⟨gb219, 6, none⟩) (Kd.R_far (p := ⟨gb219, 5, none⟩) (Kd.R_far (p := ⟨gb219, 4, none⟩) (Kd.R_far (p := ⟨gb219, 3, none⟩) (Kd.R_far (p := ⟨gb219, 2, none⟩) (Kd.R_far (p := ⟨gb219, 1, none⟩) (Kd.R_far (p := ⟨gb219, 0, none⟩) (Kd.R_types HO192.out BK219.out (by decide)) (fun _ hk => hk.2) (.int .i64 t209)) (fun _ hk => hk.2) (.int .i64 t210)) (fun _ hk => hk.2) (.slice Ao38 t211.length co38)) (fun _ hk => hk.2) (.int .i64 t214)) (fun _ hk => hk.2) (.int .i64 t215)) (fun _ hk => hk.2) (.int .i64 t216)) (fun _ hk => hk.2) (.int .i64 t217)) (fun _ h_ => h_.1))) hb); have n2_ := am (Kd.R_below (by (with_reducible repeat (first | apply Kd.R_alloc | apply Kd.R_drewN | apply Kd.R_drew)); exact (Kd.R_mono (Kd.R_far (p := ⟨gb219, 6, none⟩) (Kd.R_far (p := ⟨gb219, 5, none⟩) (Kd.R_far (p := ⟨gb219, 4, none⟩) (Kd.R_far (p := ⟨gb219, 3, none⟩) (Kd.R_far (p := ⟨gb219, 2, none⟩) (Kd.R_far (p := ⟨gb219, 1, none⟩) (Kd.R_far (p := ⟨gb219, 0, none⟩) (Kd.R_types HO203.out BK219.out (by decide)) (fun _ hk => hk.2) (.int .i64 t209)) (fun _ hk => hk.2) (.int .i64 t210)) (fun _ hk => hk.2) (.slice Ao38 t211.length co38)) (fun _ hk => hk.2) (.int .i64 t214)) (fun _ hk => hk.2) (.int .i64 t215)) (fun _ hk => hk.2) (.int .i64 t216)) (fun _ hk => hk.2) (.int .i64 t217)) (fun _ h_ => h_.1))) hb); have n3_ := am (Kd.R_below (by (with_reducible repeat (first | apply Kd.R_alloc | apply Kd.R_drewN | apply Kd.R_drew)); exact (Kd.R_mono (Kd.R_far (p := ⟨gb219, 6, none⟩) (Kd.R_far (p := ⟨gb219, 5, none⟩) (Kd.R_far (p := ⟨gb219, 4, none⟩) (Kd.R_far (p := ⟨gb219, 3, none⟩) (Kd.R_far (p := ⟨gb219, 2, none⟩) (Kd.R_far (p := ⟨gb219, 1, none⟩) (Kd.R_far (p := ⟨gb219, 0, none⟩) (Kd.R_types HO213.out BK219.out (by decide)) (fun _ hk => hk.2) (.int .i64 t209)) (fun _ hk => hk.2) (.int .i64 t210)) (fun _ hk => hk.2) (.slice Ao38 t211.length co38)) (fun _ hk => hk.2) (.int .i64 t214)) (fun _ hk => hk.2) (.int .i64 t215)) (fun _ hk => hk.2) (.int .i64 t216)) (fun _ hk => hk.2) (.int .i64 t217)) (fun _ h_ => h_.1))) hb); have n4_ := am (blk_below (g := gb177) (o := .cells #[.int .i64 a0_0, .int .i64 a0_1, .slice A0_2 l0_2.length c0_2, .int .i64 a0_3, .int .i64 a0_4, .int .i64 a0_5, .int .i64 a0_6] 24 (0, 0)) (by (with_reducible repeat (first | apply kn | apply kd | apply ka)); refine blk_far ?_ NB177_219.out _; (with_reducible repeat (first | apply kn | apply kd | apply ka)); refine blk_far ?_ NB177_219.out _; (with_reducible repeat (first | apply kn | apply kd | apply ka)); refine blk_far ?_ NB177_219.out _; (with_reducible repeat (first | apply kn | apply kd | apply ka)); refine blk_far ?_ NB177_219.out _; (with_reducible repeat (first | apply kn | apply kd | apply ka)); refine blk_far ?_ NB177_219.out _; (with_reducible repeat (first | apply kn | apply kd | apply ka)); refine blk_far ?_ NB177_219.out _; (with_reducible repeat (first | apply kn | apply kd | apply ka)); refine blk_far ?_ NB177_219.out _; (with_reducible repeat (first | apply kn | apply kd | apply ka)); exact BK177.out) hb); have n5_ := am (blk_below (g := gb198) (o := .cells #[.int .i64 t188, .int .i64 t189, .slice Ao24 t190.length co24, .int .i64 t193, .int .i64 t194, .int .i64 t195, .int .i64 t196] 27 (0, 0)) (by (with_reducible repeat (first | apply kn | apply kd | apply ka)); refine blk_far ?_ NB198_219.out _; (with_reducible repeat (first | apply kn | apply kd | apply ka)); refine blk_far ?_ NB198_219.out _; (with_reducible repeat (first | apply kn | apply kd | apply ka)); refine blk_far ?_ NB198_219.out _; (with_reducible repeat (first | apply kn | apply kd | apply ka)); refine blk_far ?_ NB198_219.out _; (with_reducible repeat (first | apply kn | apply kd | apply ka)); refine blk_far ?_ NB198_219.out _; (with_reducible repeat (first | apply kn | apply kd | apply ka)); refine blk_far ?_ NB198_219.out _; (with_reducible repeat (first | apply kn | apply kd | apply ka)); refine blk_far ?_ NB198_219.out _; (with_reducible repeat (first | apply kn | apply kd | apply ka)); exact BK198.out) hb); have n6_ := am (blk_below (g := gb208) (o := .cells #[.int .i64 t199, .int .i64 t200, .slice Ao31 t201.length co31, .int .i64 t204, .int .i64 t205, .int .i64 t206, .int .i64 t207] 27 (0, 0)) (by (with_reducible repeat (first | apply kn | apply kd | apply ka)); refine blk_far ?_ NB208_219.out _; (with_reducible repeat (first | apply kn | apply kd | apply ka)); refine blk_far ?_ NB208_219.out _; (with_reducible repeat (first | apply kn | apply kd | apply ka)); refine blk_far ?_ NB208_219.out _; (with_reducible repeat (first | apply kn | apply kd | apply ka)); refine blk_far ?_ NB208_219.out _; (with_reducible repeat (first | apply kn | apply kd | apply ka)); refine blk_far ?_ NB208_219.out _; (with_reducible repeat (first | apply kn | apply kd | apply ka)); refine blk_far ?_ NB208_219.out _; (with_reducible repeat (first | apply kn | apply kd | apply ka)); refine blk_far ?_ NB208_219.out _; (with_reducible repeat (first | apply kn | apply kd | apply ka)); exact BK208.out) hb); have n7_ := am (blk_below (g := gb219) (o := .cells #[.int .i64 t209, .int .i64 t210, .slice Ao38 t211.length co38, .int .i64 t214, .int .i64 t215, .int .i64 t216, .int .i64 t217] 27 (0, 0)) (by (with_reducible repeat (first | apply kn | apply kd | apply ka)); refine blk_put (cs := #[.int .i64 t209, .int .i64 t210, .slice Ao38 t211.length co38, .int .i64 t214, .int .i64 t215, .int .i64 t216, .int .i64 0]) ?_ 6 _ rfl; (with_reducible repeat (first | apply kn | apply kd | apply ka)); refine blk_put (cs := #[.int .i64 t209, .int .i64 t210, .slice Ao38 t211.length co38, .int .i64 t214, .int .i64 t215, .int .i64 0, .int .i64 0]) ?_ 5 _ rfl; (with_reducible repeat (first | apply kn | apply kd | apply ka)); refine blk_put (cs := #[.int .i64 t209, .int .i64 t210, .slice Ao38 t211.length co38, .int .i64 t214, .int .i64 0, .int .i64 0, .int .i64 0]) ?_ 4 _ rfl; (with_reducible repeat (first | apply kn | apply kd | apply ka)); refine blk_put (cs := #[.int .i64 t209, .int .i64 t210, .slice Ao38 t211.length co38, .int .i64 0, .int .i64 0, .int .i64 0, .int .i64 0]) ?_ 3 _ rfl; (with_reducible repeat (first | apply kn | apply kd | apply ka)); refine blk_put (cs := #[.int .i64 t209, .int .i64 t210, .slice none 0 0, .int .i64 0, .int .i64 0, .int .i64 0, .int .i64 0]) ?_ 2 _ rfl; (with_reducible repeat (first | apply kn | apply kd | apply ka)); refine blk_put (cs := #[.int .i64 t209, .int .i64 0, .slice none 0 0, .int .i64 0, .int .i64 0, .int .i64 0, .int .i64 0]) ?_ 1 _ rfl; (with_reducible repeat (first | apply kn | apply kd | apply ka)); refine blk_put (cs := #[.int .i64 0, .int .i64 0, .slice none 0 0, .int .i64 0, .int .i64 0, .int .i64 0, .int .i64 0]) ?_ 0 _ rfl; (with_reducible repeat (first | apply kn | apply kd | apply ka)); exact BK219.out) hb); have n8_ := am (below_step (by repeat (first | (with_reducible first | exact HB.out | apply ba | apply bn | apply below_drew1 | refine below_set ?_ GE177.out | refine below_set ?_ GE198.out | refine below_set ?_ GE208.out | refine below_set ?_ GE219.out) | exact HB.out)) hb); clear HO183; clear HO192; clear HO203; clear HO213; clear BK177; clear BK198; clear BK208; clear BK219; clear HB; have HO183 := n0_; have HO192 := n1_; have HO203 := n2_; have HO213 := n3_; have BK177 := n4_; have BK198 := n5_; have BK208 := n6_; have BK219 := n7_; have HB := n8_; clear n0_ n1_ n2_ n3_ n4_ n5_ n6_ n7_ n8_; (try clear hb); (try clear hb2); (try clear hk); (try clear hi)))
    go_meet
    case rel => exact ⟨_, (true), (by first | rfl | (simp; done) | (simp [*]; done)), H', ⟨by first | omega | exact Nat.le_refl _⟩, ⟨by (with_reducible repeat (first | apply Kd.R_alloc | apply Kd.R_drewN | apply Kd.R_drew)); exact Kd.R_mono HO192.out (fun _ hk => ⟨hk.1.2, hk.2⟩)⟩, ⟨by (with_reducible repeat (first | apply Kd.R_alloc | apply Kd.R_drewN | apply Kd.R_drew)); exact Kd.R_mono HO203.out (fun _ hk => ⟨hk.1.2, hk.2⟩)⟩, ⟨by (with_reducible repeat (first | apply Kd.R_alloc | apply Kd.R_drewN | apply Kd.R_drew)); exact Kd.R_mono HO213.out (fun _ hk => ⟨hk.1.2, hk.2⟩)⟩, ⟨by (with_reducible repeat (first | apply kn | apply kd | apply ka)); exact BK177.out⟩, ⟨by (with_reducible repeat (first | apply kn | apply kd | apply ka)); exact BK198.out⟩, ⟨by (with_reducible repeat (first | apply kn | apply kd | apply ka)); exact BK208.out⟩, ⟨by (with_reducible repeat (first | apply kn | apply kd | apply ka)); exact BK219.out⟩, ⟨by repeat (first | (with_reducible first | exact HB.out | apply ba | apply bn | apply below_drew1 | refine below_set ?_ GE177.out | refine below_set ?_ GE198.out | refine below_set ?_ GE208.out | refine below_set ?_ GE219.out) | exact HB.out)⟩⟩
  case rest =>
   clear HC13
   try clear c1
   try clear c2
   try clear p2
   try clear c3
   try clear c4
   try clear c5
   try clear c5b0
   try clear c9
   try clear c11
   try clear c13
   try clear c14
   try clear c15
   try clear c22
   try clear c28
   try clear c29
   try clear c34
   try clear c35
   try clear c36
   try clear c40
   try clear c41
   try clear c42
   try clear c43
   try clear c45
   try clear c46
   try clear c49
   try clear c50
   try clear c51
   try clear c53
   try clear c54
   try clear hcz15_0
   try clear hcz15_1
   try clear hcz15_2
   try clear hcz15_3
   try clear hcz15_4
   try clear hcz15_5
   try clear hcz15_6
   try clear hcz17_0
   try clear hcz17_1
   try clear hcz17_2
   try clear hcz17_3
   try clear hcz17_4
   try clear hcz17_5
   try clear hcz17_6
   try clear hcz23_0
   try clear hcz23_1
   try clear hcz23_2
   try clear hcz23_3
   try clear hcz23_4
   try clear hcz23_5
   try clear hcz23_6
   try clear hcz25_0
   try clear hcz25_1
   try clear hcz25_2
   try clear hcz25_3
   try clear hcz25_4
   try clear hcz25_5
   try clear hcz25_6
   try clear hcz30_0
   try clear hcz30_1
   try clear hcz30_2
   try clear hcz30_3
   try clear hcz30_4
   try clear hcz30_5
   try clear hcz30_6
   try clear hcz37_0
   try clear hcz37_1
   try clear hcz37_2
   try clear hcz37_3
   try clear hcz37_4
   try clear hcz37_5
   try clear hcz37_6
   try clear hcz44_0
   try clear hcz44_1
   try clear hcz44_2
   try clear hcz44_3
   try clear hcz44_4
   try clear hcz44_5
   try clear hcz44_6
   try clear hcz47_0
   try clear hcz47_1
   try clear hcz47_2
   try clear hcz47_3
   try clear hcz47_4
   try clear hcz47_5
   try clear hcz47_6
   try clear hcz52_0
   try clear hcz52_1
   try clear hcz52_2
   try clear hcz52_3
   try clear hcz52_4
   try clear hcz52_5
   try clear hcz52_6
   try clear hcz55_0
   try clear hcz55_1
   try clear hcz55_2
   try clear hcz55_3
   try clear hcz55_4
   try clear hcz55_5
   try clear hcz55_6
   try clear hcz7_0
   try clear hcz7_1
   try clear hcz7_2
   try clear hcz7_3
   try clear hcz7_4
   try clear hcz7_5
   try clear hcz7_6
   try clear hfz15_0
   try clear hfz15_1
   try clear hfz15_2
   try clear hfz15_3
   try clear hfz15_4
   try clear hfz15_5
   try clear hfz15_6
   try clear hfz17_0
   try clear hfz17_1
   try clear hfz17_2
   try clear hfz17_3
   try clear hfz17_4
   try clear hfz17_5
   try clear hfz17_6
   try clear hfz23_0
   try clear hfz23_1
   try clear hfz23_2
   try clear hfz23_3
   try clear hfz23_4
   try clear hfz23_5
   try clear hfz23_6
   try clear hfz25_0
   try clear hfz25_1
   try clear hfz25_2
   try clear hfz25_3
   try clear hfz25_4
   try clear hfz25_5
   try clear hfz25_6
   try clear hfz30_0
   try clear hfz30_1
   try clear hfz30_2
   try clear hfz30_3
   try clear hfz30_4
   try clear hfz30_5
   try clear hfz30_6
   try clear hfz37_0
   try clear hfz37_1
   try clear hfz37_2
   try clear hfz37_3
   try clear hfz37_4
   try clear hfz37_5
   try clear hfz37_6
   try clear hfz44_0
   try clear hfz44_1
   try clear hfz44_2
   try clear hfz44_3
   try clear hfz44_4
   try clear hfz44_5
   try clear hfz44_6
   try clear hfz47_0
   try clear hfz47_1
   try clear hfz47_2
   try clear hfz47_3
   try clear hfz47_4
   try clear hfz47_5
   try clear hfz47_6
   try clear hfz52_0
   try clear hfz52_1
   try clear hfz52_2
   try clear hfz52_3
   try clear hfz52_4
   try clear hfz52_5
   try clear hfz52_6
   try clear hfz55_0
   try clear hfz55_1
   try clear hfz55_2
   try clear hfz55_3
   try clear hfz55_4
   try clear hfz55_5
   try clear hfz55_6
   try clear hfz7_0
   try clear hfz7_1
   try clear hfz7_2
   try clear hfz7_3
   try clear hfz7_4
   try clear hfz7_5
   try clear hfz7_6
   obtain ⟨kq, x48_12, rfl, HA, HJ12, HO_199002, HO_209002, HO_220002, BK177, BK198, BK208, BK219, HB⟩ := hcut
   cases kq with
   | zero => exact absurd HA.out (by simp [laws_FnExactSetHeight.j0])
   | succ kj12 =>
    have H := HA.out
    clear HA
    simp only [laws_FnExactSetHeight.j0] at H
    by_cases c57 : x48_12 = true
    ·subst c57
     have H1 : (some false) = some r := by rw [if_pos rfl] at H; exact H
     clear H
     have H := H1
     clear H1
     obtain rfl := Option.some.inj H
     go_wp2
     go_ret
     exact ⟨by first | rfl | (simp [errW_none, errW_some] <;> rfl) | (simp [*, errW_none, errW_some] <;> rfl), by repeat (first | (with_reducible first | exact HB.out | apply ba | apply bn | apply below_drew1 | refine below_set ?_ GE177.out | refine below_set ?_ GE198.out | refine below_set ?_ GE208.out | refine below_set ?_ GE219.out) | exact HB.out)⟩
    ·replace c57 := Bool.eq_false_iff.mpr c57
     subst c57
     have H1 : ((laws_toTerrain.f kj12 a0_0 a0_1 l0_2 a0_3 a0_4 a0_5 a0_6).bind fun bt221 => ((laws_eqTerrain.f kj12 t199 t200 t201 t204 t205 t206 t207 bt221.1 bt221.2.1 bt221.2.2.1 bt221.2.2.2.1 bt221.2.2.2.2.1 bt221.2.2.2.2.2.1 bt221.2.2.2.2.2.2).bind fun t230 => (if t230 = true then ((laws_markTerrain.f kj12 t199 t200 t201 t204 t205 t206 t207 1).bind fun bt231 => (if bt231.1 < 0 then (laws_FnExactSetHeight.j1 kj12 a1 a2 t197 true a0_0 a0_1 l0_2 a0_3 a0_4 a0_5 a0_6 t188 t189 t190 t193 t194 t195 t196 t209 t210 t211 t214 t215 t216 t217) else ((laws_eqTerrain.f kj12 t209 t210 t211 t214 t215 t216 t217 t188 t189 t190 t193 t194 t195 t196).bind fun t233 => (if t233 = true then (laws_FnExactSetHeight.j1 kj12 a1 a2 t197 (t218 != t197) a0_0 a0_1 l0_2 a0_3 a0_4 a0_5 a0_6 t188 t189 t190 t193 t194 t195 t196 t209 t210 t211 t214 t215 t216 t217) else (laws_FnExactSetHeight.j1 kj12 a1 a2 t197 true a0_0 a0_1 l0_2 a0_3 a0_4 a0_5 a0_6 t188 t189 t190 t193 t194 t195 t196 t209 t210 t211 t214 t215 t216 t217))))) else (some false)))) = some r := by rw [if_neg (show ¬ (false = true) by decide)] at H; exact H
     clear H
     have H := H1
     clear H1
     replace H := Option.bind_eq_some_iff.mp H
     obtain ⟨⟨t221, t222, t223, t226, t227, t228, t229⟩, A580, H⟩ := H
     replace H : ((laws_eqTerrain.f kj12 t199 t200 t201 t204 t205 t206 t207 t221 t222 t223 t226 t227 t228 t229).bind fun t230 => (if t230 = true then ((laws_markTerrain.f kj12 t199 t200 t201 t204 t205 t206 t207 1).bind fun bt231 => (if bt231.1 < 0 then (laws_FnExactSetHeight.j1 kj12 a1 a2 t197 true a0_0 a0_1 l0_2 a0_3 a0_4 a0_5 a0_6 t188 t189 t190 t193 t194 t195 t196 t209 t210 t211 t214 t215 t216 t217) else ((laws_eqTerrain.f kj12 t209 t210 t211 t214 t215 t216 t217 t188 t189 t190 t193 t194 t195 t196).bind fun t233 => (if t233 = true then (laws_FnExactSetHeight.j1 kj12 a1 a2 t197 (t218 != t197) a0_0 a0_1 l0_2 a0_3 a0_4 a0_5 a0_6 t188 t189 t190 t193 t194 t195 t196 t209 t210 t211 t214 t215 t216 t217) else (laws_FnExactSetHeight.j1 kj12 a1 a2 t197 true a0_0 a0_1 l0_2 a0_3 a0_4 a0_5 a0_6 t188 t189 t190 t193 t194 t195 t196 t209 t210 t211 t214 t215 t216 t217))))) else (some false))) = some r := H
     have A58 := Aside0.mk A580
     clear A580
     replace H := Option.bind_eq_some_iff.mp H
     obtain ⟨t230, A590, H⟩ := H
     replace H : (if t230 = true then ((laws_markTerrain.f kj12 t199 t200 t201 t204 t205 t206 t207 1).bind fun bt231 => (if bt231.1 < 0 then (laws_FnExactSetHeight.j1 kj12 a1 a2 t197 true a0_0 a0_1 l0_2 a0_3 a0_4 a0_5 a0_6 t188 t189 t190 t193 t194 t195 t196 t209 t210 t211 t214 t215 t216 t217) else ((laws_eqTerrain.f kj12 t209 t210 t211 t214 t215 t216 t217 t188 t189 t190 t193 t194 t195 t196).bind fun t233 => (if t233 = true then (laws_FnExactSetHeight.j1 kj12 a1 a2 t197 (t218 != t197) a0_0 a0_1 l0_2 a0_3 a0_4 a0_5 a0_6 t188 t189 t190 t193 t194 t195 t196 t209 t210 t211 t214 t215 t216 t217) else (laws_FnExactSetHeight.j1 kj12 a1 a2 t197 true a0_0 a0_1 l0_2 a0_3 a0_4 a0_5 a0_6 t188 t189 t190 t193 t194 t195 t196 t209 t210 t211 t214 t215 t216 t217))))) else (some false)) = some r := H
     have A59 := Aside0.mk A590
     clear A590
     by_cases c60 : t230 = true
     ·subst c60
      have H1 : ((laws_markTerrain.f kj12 t199 t200 t201 t204 t205 t206 t207 1).bind fun bt231 => (if bt231.1 < 0 then (laws_FnExactSetHeight.j1 kj12 a1 a2 t197 true a0_0 a0_1 l0_2 a0_3 a0_4 a0_5 a0_6 t188 t189 t190 t193 t194 t195 t196 t209 t210 t211 t214 t215 t216 t217) else ((laws_eqTerrain.f kj12 t209 t210 t211 t214 t215 t216 t217 t188 t189 t190 t193 t194 t195 t196).bind fun t233 => (if t233 = true then (laws_FnExactSetHeight.j1 kj12 a1 a2 t197 (t218 != t197) a0_0 a0_1 l0_2 a0_3 a0_4 a0_5 a0_6 t188 t189 t190 t193 t194 t195 t196 t209 t210 t211 t214 t215 t216 t217) else (laws_FnExactSetHeight.j1 kj12 a1 a2 t197 true a0_0 a0_1 l0_2 a0_3 a0_4 a0_5 a0_6 t188 t189 t190 t193 t194 t195 t196 t209 t210 t211 t214 t215 t216 t217))))) = some r := by rw [if_pos rfl] at H; exact H
      clear H
      have H := H1
      clear H1
      replace H := Option.bind_eq_some_iff.mp H
      obtain ⟨⟨t231, t232⟩, A610, H⟩ := H
      replace H : (if t231 < 0 then (laws_FnExactSetHeight.j1 kj12 a1 a2 t197 true a0_0 a0_1 l0_2 a0_3 a0_4 a0_5 a0_6 t188 t189 t190 t193 t194 t195 t196 t209 t210 t211 t214 t215 t216 t217) else ((laws_eqTerrain.f kj12 t209 t210 t211 t214 t215 t216 t217 t188 t189 t190 t193 t194 t195 t196).bind fun t233 => (if t233 = true then (laws_FnExactSetHeight.j1 kj12 a1 a2 t197 (t218 != t197) a0_0 a0_1 l0_2 a0_3 a0_4 a0_5 a0_6 t188 t189 t190 t193 t194 t195 t196 t209 t210 t211 t214 t215 t216 t217) else (laws_FnExactSetHeight.j1 kj12 a1 a2 t197 true a0_0 a0_1 l0_2 a0_3 a0_4 a0_5 a0_6 t188 t189 t190 t193 t194 t195 t196 t209 t210 t211 t214 t215 t216 t217)))) = some r := H
      have A61 := Aside0.mk A610
      clear A610
      have HC62 := Aside0.mk H
      clear H
      try go_wp2
      have n0_ := am (Kd.R_drew HO_199002.out)
      have n1_ := am (Kd.R_drew HO_209002.out)
      have n2_ := am (Kd.R_drew HO_220002.out)
      have n3_ := am (blk_drew BK177.out)
      have n4_ := am (blk_drew BK198.out)
      have n5_ := am (blk_drew BK208.out)
      have n6_ := am (blk_drew BK219.out)
      have n7_ := am (below_drew1 HB.out)
      clear HO_199002
      clear HO_209002
      clear HO_220002
      clear BK177
      clear BK198
      clear BK208
      clear BK219
      clear HB
      have HO_199002 := n0_
      have HO_209002 := n1_
      have HO_220002 := n2_
      have BK177 := n3_
      have BK198 := n4_
      have BK208 := n5_
      have BK219 := n6_
      have HB := n7_
      clear n0_ n1_ n2_ n3_ n4_ n5_ n6_ n7_
      refine start_ (n := 5) (S := fun w' => w'.cell? ⟨gb208, 0, none⟩ = some (.int .i64 t199) ∧ w'.cell? ⟨gb208, 1, none⟩ = some (.int .i64 t200) ∧ w'.cell? ⟨gb208, 2, none⟩ = some (.slice Ao31 t201.length co31) ∧ w'.cell? ⟨gb208, 3, none⟩ = some (.int .i64 t204) ∧ w'.cell? ⟨gb208, 4, none⟩ = some (.int .i64 t205) ∧ w'.cell? ⟨gb208, 5, none⟩ = some (.int .i64 t206) ∧ w'.cell? ⟨gb208, 6, none⟩ = some (.int .i64 t207) ∧ w'.cell? ⟨gb177, 0, none⟩ = some (.int .i64 a0_0) ∧ w'.cell? ⟨gb177, 1, none⟩ = some (.int .i64 a0_1) ∧ w'.cell? ⟨gb177, 2, none⟩ = some (.slice A0_2 l0_2.length c0_2) ∧ w'.cell? ⟨gb177, 3, none⟩ = some (.int .i64 a0_3) ∧ w'.cell? ⟨gb177, 4, none⟩ = some (.int .i64 a0_4) ∧ w'.cell? ⟨gb177, 5, none⟩ = some (.int .i64 a0_5) ∧ w'.cell? ⟨gb177, 6, none⟩ = some (.int .i64 a0_6)) (ds := []) #[false, false, false, false, false] (by kernel_rfl) rfl rfl ⟨(blk_cell BK208.out 0).trans rfl, (blk_cell BK208.out 1).trans rfl, (blk_cell BK208.out 2).trans rfl, (blk_cell BK208.out 3).trans rfl, (blk_cell BK208.out 4).trans rfl, (blk_cell BK208.out 5).trans rfl, (blk_cell BK208.out 6).trans rfl, (blk_cell BK177.out 0).trans rfl, (blk_cell BK177.out 1).trans rfl, (blk_cell BK177.out 2).trans rfl, (blk_cell BK177.out 3).trans rfl, (blk_cell BK177.out 4).trans rfl, (blk_cell BK177.out 5).trans rfl, (blk_cell BK177.out 6).trans rfl⟩ (fun hHeld => ?_)
      generalize wc.drew = w63 at HO_199002 HO_209002 HO_220002 BK177 BK198 BK208 BK219 HB hHeld ⊢
      refine take_ (i := 0) (N := some 49) (v := ?_) (a' := ?_) #[true, false, false, false, false] rfl rfl (by kernel_rfl) (fun _ _ _ h => h) (Or.inl ⟨by rfl, ?_⟩) hHeld ?_ ?_
      rotate_left
      ·rintro w' ⟨s0, s1, s2, s3, s4, s5, s6, s7, s8, s9, s10, s11, s12, s13⟩
       go_simp
       with_reducible rfl
      rotate_left
      ·simp only [Act.put, List.setIfInBounds_toArray, List.set_cons_zero, List.set_cons_succ, i64_w, i32_w]
       rfl
      refine take_ (i := 1) (N := some 50) (v := ?_) (a' := ?_) #[true, true, false, false, false] rfl rfl (by kernel_rfl) (fun _ _ _ h => h) (Or.inl ⟨by rfl, ?_⟩) hHeld ?_ ?_
      rotate_left
      ·rintro w' ⟨s0, s1, s2, s3, s4, s5, s6, s7, s8, s9, s10, s11, s12, s13⟩
       go_simp
       with_reducible rfl
      rotate_left
      ·simp only [Act.put, List.setIfInBounds_toArray, List.set_cons_zero, List.set_cons_succ, i64_w, i32_w]
       rfl
      refine one_ (i := 2) (N := some 51) #[true, true, true, false, false] rfl rfl (by kernel_rfl) (by decide) (fun K hK => ?_)
      refine goes_ Try.func11 (by kernel_rfl) rfl #[.agg #[.int .i64 a0_0, .int .i64 a0_1, .slice A0_2 l0_2.length c0_2, .int .i64 a0_3, .int .i64 a0_4, .int .i64 a0_5, .int .i64 a0_6]] (by rfl) rfl rfl (by (try simp only [List.map_toArray, List.map_cons, List.map_nil]); first | done | rfl | (simp only [List.length_drop, List.length_take]; rfl)) ?_
      with_reducible refine (laws_toTerrain.calls kj12 a0_0 a0_1 _ _ l0_2 a0_3 a0_4 a0_5 a0_6 t221 t222 t223 t226 t227 t228 t229 _ ?side1 ?side2 A58.out).mono ?_
      (case side1 => repeat (first | exact (Kd.C_below HR0_2.out HB.out) | (with_reducible refine Kd.C_alloc ?_ _) | (with_reducible refine Kd.C_drewN ?_ _) | (with_reducible refine Kd.C_drew ?_)))
      (case side2 => exact HC0_2.out)
      rintro e w64 ⟨v224, rfl, ho0, hb⟩
      refine ⟨_, rfl, ?_⟩
      have n0_ := am (Kd.R_elder' (by (with_reducible repeat (first | apply Kd.R_alloc | apply Kd.R_drewN | apply Kd.R_drew)); exact HO_199002.out) (Kd.R_base ho0) hb)
      have n1_ := am (Kd.R_elder' (by (with_reducible repeat (first | apply Kd.R_alloc | apply Kd.R_drewN | apply Kd.R_drew)); exact HO_209002.out) (Kd.R_base ho0) hb)
      have n2_ := am (Kd.R_elder' (by (with_reducible repeat (first | apply Kd.R_alloc | apply Kd.R_drewN | apply Kd.R_drew)); exact HO_220002.out) (Kd.R_base ho0) hb)
      have n3_ := am (Kd.R_lower (Kd.R_new' (Kd.R_new' (Kd.R_new' ho0 (Kd.R_lt (by (with_reducible repeat (first | apply Kd.R_alloc | apply Kd.R_drewN | apply Kd.R_drew)); exact HO_199002.out))) (Kd.R_lt (by (with_reducible repeat (first | apply Kd.R_alloc | apply Kd.R_drewN | apply Kd.R_drew)); exact HO_209002.out))) (Kd.R_lt (by (with_reducible repeat (first | apply Kd.R_alloc | apply Kd.R_drewN | apply Kd.R_drew)); exact HO_220002.out))) (below_size (by repeat (first | (with_reducible first | exact HB.out | apply ba | apply bn | apply below_drew1 | refine below_set ?_ GE177.out | refine below_set ?_ GE198.out | refine below_set ?_ GE208.out | refine below_set ?_ GE219.out) | exact HB.out))))
      have n4_ := am (blk_below (g := gb177) (o := .cells #[.int .i64 a0_0, .int .i64 a0_1, .slice A0_2 l0_2.length c0_2, .int .i64 a0_3, .int .i64 a0_4, .int .i64 a0_5, .int .i64 a0_6] 24 (0, 0)) (by (with_reducible repeat (first | apply kn | apply kd | apply ka)); exact BK177.out) hb)
      have n5_ := am (blk_below (g := gb198) (o := .cells #[.int .i64 t188, .int .i64 t189, .slice Ao24 t190.length co24, .int .i64 t193, .int .i64 t194, .int .i64 t195, .int .i64 t196] 27 (0, 0)) (by (with_reducible repeat (first | apply kn | apply kd | apply ka)); exact BK198.out) hb)
      have n6_ := am (blk_below (g := gb208) (o := .cells #[.int .i64 t199, .int .i64 t200, .slice Ao31 t201.length co31, .int .i64 t204, .int .i64 t205, .int .i64 t206, .int .i64 t207] 27 (0, 0)) (by (with_reducible repeat (first | apply kn | apply kd | apply ka)); exact BK208.out) hb)
      have n7_ := am (blk_below (g := gb219) (o := .cells #[.int .i64 t209, .int .i64 t210, .slice Ao38 t211.length co38, .int .i64 t214, .int .i64 t215, .int .i64 t216, .int .i64 t217] 27 (0, 0)) (by (with_reducible repeat (first | apply kn | apply kd | apply ka)); exact BK219.out) hb)
      have n8_ := am (below_step (by repeat (first | (with_reducible first | exact HB.out | apply ba | apply bn | apply below_drew1 | refine below_set ?_ GE177.out | refine below_set ?_ GE198.out | refine below_set ?_ GE208.out | refine below_set ?_ GE219.out) | exact HB.out)) hb)
      clear HO_199002
      clear HO_209002
      clear HO_220002
      clear BK177
      clear BK198
      clear BK208
      clear BK219
      clear HB
      have HO_199002 := n0_
      have HO_209002 := n1_
      have HO_220002 := n2_
      have HO225 := n3_
      have BK177 := n4_
      have BK198 := n5_
      have BK208 := n6_
      have BK219 := n7_
      have HB := n8_
      clear n0_ n1_ n2_ n3_ n4_ n5_ n6_ n7_ n8_
      (try clear hb)
      (try clear hb2)
      (try clear hk)
      (try clear hi)
      (try clear ho0)
      obtain ⟨Ao65, co65, eo65⟩ := Kd.R_slice HO225.out
      (first | subst eo65 | (injection eo65 with f1_ f2_ f3_; have f4_ := f1_.symm; have f5_ := f3_.symm; clear f1_ f2_ f3_; subst f4_; subst f5_))
      refine hK.out _ _ ⟨(blk_cell BK208.out 0).trans rfl, (blk_cell BK208.out 1).trans rfl, (blk_cell BK208.out 2).trans rfl, (blk_cell BK208.out 3).trans rfl, (blk_cell BK208.out 4).trans rfl, (blk_cell BK208.out 5).trans rfl, (blk_cell BK208.out 6).trans rfl, (blk_cell BK177.out 0).trans rfl, (blk_cell BK177.out 1).trans rfl, (blk_cell BK177.out 2).trans rfl, (blk_cell BK177.out 3).trans rfl, (blk_cell BK177.out 4).trans rfl, (blk_cell BK177.out 5).trans rfl, (blk_cell BK177.out 6).trans rfl⟩ (fun hHeld => ?_)
      clear hK K
      refine norm_ (a' := ?_) ?_ ?_
      rotate_left
      ·show Act.put _ (some 51) _ = _
       simp only [Act.put, List.setIfInBounds_toArray, List.set_cons_zero, List.set_cons_succ, i64_w, i32_w]
       rfl
      refine one_ (i := 3) (N := some 52) #[true, true, true, true, false] rfl rfl (by kernel_rfl) (by decide) (fun K hK => ?_)
      refine goes_ Try.func13 (by kernel_rfl) rfl #[.agg #[.int .i64 t199, .int .i64 t200, .slice Ao31 t201.length co31, .int .i64 t204, .int .i64 t205, .int .i64 t206, .int .i64 t207], .agg #[.int .i64 t221, .int .i64 t222, .slice Ao65 t223.length co65, .int .i64 t226, .int .i64 t227, .int .i64 t228, .int .i64 t229]] (by rfl) rfl rfl (by (try simp only [List.map_toArray, List.map_cons, List.map_nil]); first | done | rfl | (simp only [List.length_drop, List.length_take]; rfl)) ?_
      with_reducible refine (laws_eqTerrain.calls kj12 t199 t200 _ _ t201 t204 t205 t206 t207 t221 t222 _ _ t223 t226 t227 t228 t229 true _ ?side1 ?side2 ?side3 ?side4 A59.out).mono ?_
      (case side1 => repeat (first | exact (Kd.R_reads' HO_209002.out).2.2 | (with_reducible refine Kd.C_alloc ?_ _) | (with_reducible refine Kd.C_drewN ?_ _) | (with_reducible refine Kd.C_drew ?_)))
      (case side2 => exact (Kd.R_reads' HO_209002.out).2.1)
      (case side3 => repeat (first | exact (Kd.R_reads' HO225.out).2.2 | (with_reducible refine Kd.C_alloc ?_ _) | (with_reducible refine Kd.C_drewN ?_ _) | (with_reducible refine Kd.C_drew ?_)))
      (case side4 => exact (Kd.R_reads' HO225.out).2.1)
      rintro e w66 ⟨rfl, hb⟩
      refine ⟨_, rfl, ?_⟩
      have n0_ := am (Kd.R_below (by (with_reducible repeat (first | apply Kd.R_alloc | apply Kd.R_drewN | apply Kd.R_drew)); exact HO_199002.out) hb)
      have n1_ := am (Kd.R_below (by (with_reducible repeat (first | apply Kd.R_alloc | apply Kd.R_drewN | apply Kd.R_drew)); exact HO_209002.out) hb)
      have n2_ := am (Kd.R_below (by (with_reducible repeat (first | apply Kd.R_alloc | apply Kd.R_drewN | apply Kd.R_drew)); exact HO_220002.out) hb)
      have n3_ := am (Kd.R_below (by (with_reducible repeat (first | apply Kd.R_alloc | apply Kd.R_drewN | apply Kd.R_drew)); exact HO225.out) hb)
      have n4_ := am (blk_below (g := gb177) (o := .cells #[.int .i64 a0_0, .int .i64 a0_1, .slice A0_2 l0_2.length c0_2, .int .i64 a0_3, .int .i64 a0_4, .int .i64 a0_5, .int .i64 a0_6] 24 (0, 0)) (by (with_reducible repeat (first | apply kn | apply kd | apply ka)); exact BK177.out) hb)
      have n5_ := am (blk_below (g := gb198) (o := .cells #[.int .i64 t188, .int .i64 t189, .slice Ao24 t190.length co24, .int .i64 t193, .int .i64 t194, .int .i64 t195, .int .i64 t196] 27 (0, 0)) (by (with_reducible repeat (first | apply kn | apply kd | apply ka)); exact BK198.out) hb)
      have n6_ := am (blk_below (g := gb208) (o := .cells #[.int .i64 t199, .int .i64 t200, .slice Ao31 t201.length co31, .int .i64 t204, .int .i64 t205, .int .i64 t206, .int .i64 t207] 27 (0, 0)) (by (with_reducible repeat (first | apply kn | apply kd | apply ka)); exact BK208.out) hb)
      have n7_ := am (blk_below (g := gb219) (o := .cells #[.int .i64 t209, .int .i64 t210, .slice Ao38 t211.length co38, .int .i64 t214, .int .i64 t215, .int .i64 t216, .int .i64 t217] 27 (0, 0)) (by (with_reducible repeat (first | apply kn | apply kd | apply ka)); exact BK219.out) hb)
      have n8_ := am (below_step (by repeat (first | (with_reducible first | exact HB.out | apply ba | apply bn | apply below_drew1 | refine below_set ?_ GE177.out | refine below_set ?_ GE198.out | refine below_set ?_ GE208.out | refine below_set ?_ GE219.out) | exact HB.out)) hb)
      clear HO_199002
      clear HO_209002
      clear HO_220002
      clear HO225
      clear BK177
      clear BK198
      clear BK208
      clear BK219
      clear HB
      have HO_199002 := n0_
      have HO_209002 := n1_
      have HO_220002 := n2_
      have HO225 := n3_
      have BK177 := n4_
      have BK198 := n5_
      have BK208 := n6_
      have BK219 := n7_
      have HB := n8_
      clear n0_ n1_ n2_ n3_ n4_ n5_ n6_ n7_ n8_
      (try clear hb)
      (try clear hb2)
      (try clear hk)
      (try clear hi)
      refine hK.out _ _ ⟨(blk_cell BK208.out 0).trans rfl, (blk_cell BK208.out 1).trans rfl, (blk_cell BK208.out 2).trans rfl, (blk_cell BK208.out 3).trans rfl, (blk_cell BK208.out 4).trans rfl, (blk_cell BK208.out 5).trans rfl, (blk_cell BK208.out 6).trans rfl, (blk_cell BK177.out 0).trans rfl, (blk_cell BK177.out 1).trans rfl, (blk_cell BK177.out 2).trans rfl, (blk_cell BK177.out 3).trans rfl, (blk_cell BK177.out 4).trans rfl, (blk_cell BK177.out 5).trans rfl, (blk_cell BK177.out 6).trans rfl⟩ (fun hHeld => ?_)
      clear hK K
      refine norm_ (a' := ?_) ?_ ?_
      rotate_left
      ·show Act.put _ (some 52) _ = _
       simp only [Act.put, List.setIfInBounds_toArray, List.set_cons_zero, List.set_cons_succ, i64_w, i32_w]
       rfl
      refine pure_ (i := 4) (N := some 53) (v := ?_) (a' := ?_) #[true, true, true, true, true] rfl rfl (by kernel_rfl) (fun _ _ _ h => h) (Or.inl ⟨by rfl, ?_⟩) ?_ ?_
      rotate_left
      ·intro w'
       go_simp
       with_reducible rfl
      rotate_left
      ·simp only [Act.put, List.setIfInBounds_toArray, List.set_cons_zero, List.set_cons_succ, i64_w, i32_w]
       rfl
      refine done_ (by kernel_rfl) ?_
      have hnb67 := NB208_177.out
      have hnc67 := NB177_208.out
      have hnb68 := NB208_198.out
      have hnc68 := NB198_208.out
      have hnb69 := NB208_219.out
      have hnc69 := NB219_208.out
      have hcz70_0 : w66.cell? ⟨gb208, 0, none⟩ = some (.int .i64 t199) := (blk_cell BK208.out 0).trans rfl
      have hcz70_1 : w66.cell? ⟨gb208, 1, none⟩ = some (.int .i64 t200) := (blk_cell BK208.out 1).trans rfl
      have hcz70_2 : w66.cell? ⟨gb208, 2, none⟩ = some (.slice Ao31 t201.length co31) := (blk_cell BK208.out 2).trans rfl
      have hcz70_3 : w66.cell? ⟨gb208, 3, none⟩ = some (.int .i64 t204) := (blk_cell BK208.out 3).trans rfl
      have hcz70_4 : w66.cell? ⟨gb208, 4, none⟩ = some (.int .i64 t205) := (blk_cell BK208.out 4).trans rfl
      have hcz70_5 : w66.cell? ⟨gb208, 5, none⟩ = some (.int .i64 t206) := (blk_cell BK208.out 5).trans rfl
      have hcz70_6 : w66.cell? ⟨gb208, 6, none⟩ = some (.int .i64 t207) := (blk_cell BK208.out 6).trans rfl
      have hfz70_0 := blk_frozen BK208.out 0
      have hfz70_1 := blk_frozen BK208.out 1
      have hfz70_2 := blk_frozen BK208.out 2
      have hfz70_3 := blk_frozen BK208.out 3
      have hfz70_4 := blk_frozen BK208.out 4
      have hfz70_5 := blk_frozen BK208.out 5
      have hfz70_6 := blk_frozen BK208.out 6
      go_upto_region 14 with (first | ((with_reducible refine gate_callee (f := 16) rfl ?_); refine goesL_ (some 56) rfl rfl Try.func16 (by kernel_rfl) rfl #[.agg #[.int .i64 t199, .int .i64 t200, .slice Ao31 t201.length co31, .int .i64 t204, .int .i64 t205, .int .i64 t206, .int .i64 t207], .int .i64 1] rfl (by (try simp only [List.map_toArray, List.map_cons, List.map_nil]); first | done | rfl | (simp only [List.length_drop, List.length_take]; rfl)) ?_; (with_reducible refine (laws_markTerrain.calls kj12 t199 t200 (fun k_ => some k_ = (.slice Ao31 t201.length co31 : Value).ownBlock) (.slice Ao31 t201.length co31) t201 t204 t205 t206 t207 1 t231 t232 w _ ?side1 ?side2 A61.out).mono ?_); (case side1 => repeat (first | (with_reducible first | exact HB.out | apply ba | apply bn | apply below_drew1 | refine below_set ?_ GE177.out | refine below_set ?_ GE198.out | refine below_set ?_ GE208.out | refine below_set ?_ GE219.out) | exact HB.out)); (case side2 => exact Kd.R_tight rfl HO_209002.out); rintro e w71 ⟨rfl, hy0, hb, hkp⟩; refine ⟨_, rfl, ?_⟩; have n0_ := am (Kd.R_mono (ok' := fun k_ => some k_ ≠ (.slice Ao31 t201.length co31 : Value).ownBlock ∧ some k_ ≠ (.slice Ao38 t211.length co38 : Value).ownBlock ∧ some k_ ≠ (.slice Ao65 t223.length co65 : Value).ownBlock) (Kd.R_keptB (HO_199002.out) hkp (fun k_ hk_ hs_ => (hk_.1.1) hs_)) (fun k_ hk_ => ⟨hk_.1.1.1, hk_.1.1.2, hk_.1.2⟩)); have n1_ := am (Kd.R_reok rfl hy0 (fun k_ e_ => HO_209002.out.1 k_ e_)); have n2_ := am (Kd.R_mono (ok' := fun k_ => some k_ ≠ (.slice Ao24 t190.length co24 : Value).ownBlock ∧ some k_ ≠ (.slice Ao31 t201.length co31 : Value).ownBlock ∧ some k_ ≠ (.slice Ao65 t223.length co65 : Value).ownBlock) (Kd.R_keptB (HO_220002.out) hkp (fun k_ hk_ hs_ => (hk_.1.2) hs_)) (fun k_ hk_ => ⟨hk_.1.1.1, hk_.1.1.2, hk_.1.2⟩)); have n3_ := am (blk_kept (by (with_reducible repeat (first | apply kn | apply kd | apply ka)); exact BK177.out) hkp (fun hs_ => (fun e_ => (Kd.R_ne HO_209002.out BK177.out (by decide)) e_) hs_)); have n4_ := am (blk_kept (by (with_reducible repeat (first | apply kn | apply kd | apply ka)); exact BK198.out) hkp (fun hs_ => (fun e_ => (Kd.R_ne HO_209002.out BK198.out (by decide)) e_) hs_)); have n5_ := am (blk_kept (by (with_reducible repeat (first | apply kn | apply kd | apply ka)); exact BK208.out) hkp (fun hs_ => (fun e_ => (Kd.R_ne HO_209002.out BK208.out (by decide)) e_) hs_)); have n6_ := am (blk_kept (by (with_reducible repeat (first | apply kn | apply kd | apply ka)); exact BK219.out) hkp (fun hs_ => (fun e_ => (Kd.R_ne HO_209002.out BK219.out (by decide)) e_) hs_)); have n7_ := am (Kd.R_mono (ok' := fun k_ => some k_ ≠ (.slice Ao24 t190.length co24 : Value).ownBlock ∧ some k_ ≠ (.slice Ao31 t201.length co31 : Value).ownBlock ∧ some k_ ≠ (.slice Ao38 t211.length co38 : Value).ownBlock) (Kd.R_keptB (HO225.out) hkp (fun k_ hk_ hs_ => (hk_.1.2) hs_)) (fun k_ hk_ => ⟨hk_.1.1.1.2, hk_.1.1.2, hk_.1.2⟩)); have n8_ := am (hb); clear HO_199002; clear HO_209002; clear HO_220002; clear BK177; clear BK198; clear BK208; clear BK219; clear HO225; clear HB; have HO_199002 := n0_; have HO_209002 := n1_; have HO_220002 := n2_; have BK177 := n3_; have BK198 := n4_; have BK208 := n5_; have BK219 := n6_; have HO225 := n7_; have HB := n8_; clear n0_ n1_ n2_ n3_ n4_ n5_ n6_ n7_ n8_; (try clear hb); (try clear hkp); (try clear hy0)))
      (try simp only [Act.put, List.setIfInBounds_toArray, List.set_cons_zero, List.set_cons_succ])
      go_cut [69] (fun v69 wc => ∃ (kq : Nat) (x69_61 : Bool), v69 = .bool x69_61 ∧ Aside0 (laws_FnExactSetHeight.j1 kq a1 a2 t197 x69_61 a0_0 a0_1 l0_2 a0_3 a0_4 a0_5 a0_6 t188 t189 t190 t193 t194 t195 t196 t209 t210 t211 t214 t215 t216 t217 = some r) ∧ Aside0 (kq ≤ kj12) ∧ Aside0 (Kd.R (Kd.int .i64) 3 wc w.heap.size (fun k_ => some k_ ≠ ((.slice Ao31 t201.length co31) : Value).ownBlock ∧ some k_ ≠ ((.slice Ao38 t211.length co38) : Value).ownBlock) (.slice Ao24 t190.length co24) t190) ∧ Aside0 (Kd.R (Kd.int .i64) 3 wc w.heap.size (fun k_ => some k_ ≠ ((.slice Ao24 t190.length co24) : Value).ownBlock ∧ some k_ ≠ ((.slice Ao38 t211.length co38) : Value).ownBlock) (.slice Ao31 t201.length co31) t232) ∧ Aside0 (Kd.R (Kd.int .i64) 3 wc w.heap.size (fun k_ => some k_ ≠ ((.slice Ao24 t190.length co24) : Value).ownBlock ∧ some k_ ≠ ((.slice Ao31 t201.length co31) : Value).ownBlock) (.slice Ao38 t211.length co38) t211) ∧ Aside0 (wc.heap[gb177]? = some (.cells #[.int .i64 a0_0, .int .i64 a0_1, (.slice A0_2 l0_2.length c0_2), .int .i64 a0_3, .int .i64 a0_4, .int .i64 a0_5, .int .i64 a0_6] 24 (0, 0))) ∧ Aside0 (wc.heap[gb198]? = some (.cells #[.int .i64 t188, .int .i64 t189, (.slice Ao24 t190.length co24), .int .i64 t193, .int .i64 t194, .int .i64 t195, .int .i64 t196] 27 (0, 0))) ∧ Aside0 (wc.heap[gb208]? = some (.cells #[.int .i64 t199, .int .i64 t200, (.slice Ao31 t201.length co31), .int .i64 t204, .int .i64 t205, .int .i64 t206, .int .i64 t207] 27 (0, 0))) ∧ Aside0 (wc.heap[gb219]? = some (.cells #[.int .i64 t209, .int .i64 t210, (.slice Ao38 t211.length co38), .int .i64 t214, .int .i64 t215, .int .i64 t216, .int .i64 t217] 27 (0, 0))) ∧ Aside0 (Below w.heap.size w wc))
      case first =>
       have H := HC62.out
       clear HC62
       by_cases c72 : t231 < 0
       ·rw [if_pos c72] at H
        have c72b0 : decide (t231 < 0) = true := decide_eq_true c72
        clear c72
        (first | rw [c72b0] | (simp only [i64_w, i32_w]; rw [c72b0]) | skip)
        have H' := Aside0.mk H
        clear H
        go_wp2
        go_meet
        case rel => exact ⟨_, (true), (by first | rfl | (simp; done) | (simp [*]; done)), H', ⟨by have := HJ12.out; first | omega | exact Nat.le_refl _⟩, ⟨by (with_reducible repeat (first | apply Kd.R_alloc | apply Kd.R_drewN | apply Kd.R_drew)); exact Kd.R_mono HO_199002.out (fun _ hk => ⟨hk.1, hk.2.1⟩)⟩, ⟨by (with_reducible repeat (first | apply Kd.R_alloc | apply Kd.R_drewN | apply Kd.R_drew)); exact Kd.R_mono HO_209002.out (fun _ hk => ⟨hk.1.1, hk.1.2⟩)⟩, ⟨by (with_reducible repeat (first | apply Kd.R_alloc | apply Kd.R_drewN | apply Kd.R_drew)); exact Kd.R_mono HO_220002.out (fun _ hk => ⟨hk.1, hk.2.1⟩)⟩, ⟨by (with_reducible repeat (first | apply kn | apply kd | apply ka)); exact BK177.out⟩, ⟨by (with_reducible repeat (first | apply kn | apply kd | apply ka)); exact BK198.out⟩, ⟨by (with_reducible repeat (first | apply kn | apply kd | apply ka)); exact BK208.out⟩, ⟨by (with_reducible repeat (first | apply kn | apply kd | apply ka)); exact BK219.out⟩, ⟨by repeat (first | (with_reducible first | exact HB.out | apply ba | apply bn | apply below_drew1 | refine below_set ?_ GE177.out | refine below_set ?_ GE198.out | refine below_set ?_ GE208.out | refine below_set ?_ GE219.out) | exact HB.out)⟩⟩
       ·rw [if_neg c72] at H
        have c72b0 : decide (t231 < 0) = false := decide_eq_false c72
        clear c72
        (first | rw [c72b0] | (simp only [i64_w, i32_w]; rw [c72b0]) | skip)
        replace H := Option.bind_eq_some_iff.mp H
        obtain ⟨t233, A730, H⟩ := H
        replace H : (if t233 = true then (laws_FnExactSetHeight.j1 kj12 a1 a2 t197 (t218 != t197) a0_0 a0_1 l0_2 a0_3 a0_4 a0_5 a0_6 t188 t189 t190 t193 t194 t195 t196 t209 t210 t211 t214 t215 t216 t217) else (laws_FnExactSetHeight.j1 kj12 a1 a2 t197 true a0_0 a0_1 l0_2 a0_3 a0_4 a0_5 a0_6 t188 t189 t190 t193 t194 t195 t196 t209 t210 t211 t214 t215 t216 t217)) = some r := H
        have A73 := Aside0.mk A730
        clear A730
        by_cases c74 : t233 = true
        ·subst c74
         have H1 : (laws_FnExactSetHeight.j1 kj12 a1 a2 t197 (t218 != t197) a0_0 a0_1 l0_2 a0_3 a0_4 a0_5 a0_6 t188 t189 t190 t193 t194 t195 t196 t209 t210 t211 t214 t215 t216 t217) = some r := by rw [if_pos rfl] at H; exact H
         clear H
         have H := H1
         clear H1
         have H' := Aside0.mk H
         clear H
         have hnb75 := NB219_177.out
         have hnc75 := NB177_219.out
         have hnb76 := NB219_198.out
         have hnc76 := NB198_219.out
         have hnb77 := NB219_208.out
         have hnc77 := NB208_219.out
         have hcz78_0 : w71.cell? ⟨gb219, 0, none⟩ = some (.int .i64 t209) := (blk_cell BK219.out 0).trans rfl
         have hcz78_1 : w71.cell? ⟨gb219, 1, none⟩ = some (.int .i64 t210) := (blk_cell BK219.out 1).trans rfl
         have hcz78_2 : w71.cell? ⟨gb219, 2, none⟩ = some (.slice Ao38 t211.length co38) := (blk_cell BK219.out 2).trans rfl
         have hcz78_3 : w71.cell? ⟨gb219, 3, none⟩ = some (.int .i64 t214) := (blk_cell BK219.out 3).trans rfl
         have hcz78_4 : w71.cell? ⟨gb219, 4, none⟩ = some (.int .i64 t215) := (blk_cell BK219.out 4).trans rfl
         have hcz78_5 : w71.cell? ⟨gb219, 5, none⟩ = some (.int .i64 t216) := (blk_cell BK219.out 5).trans rfl
         have hcz78_6 : w71.cell? ⟨gb219, 6, none⟩ = some (.int .i64 t217) := (blk_cell BK219.out 6).trans rfl
         have hfz78_0 := blk_frozen BK219.out 0
         have hfz78_1 := blk_frozen BK219.out 1
         have hfz78_2 := blk_frozen BK219.out 2
         have hfz78_3 := blk_frozen BK219.out 3
         have hfz78_4 := blk_frozen BK219.out 4
         have hfz78_5 := blk_frozen BK219.out 5
         have hfz78_6 := blk_frozen BK219.out 6
         have hnb79 := NB198_177.out
         have hnc79 := NB177_198.out
         have hnb80 := NB198_208.out
         have hnc80 := NB208_198.out
         have hcz81_0 : w71.cell? ⟨gb198, 0, none⟩ = some (.int .i64 t188) := (blk_cell BK198.out 0).trans rfl
         have hcz81_1 : w71.cell? ⟨gb198, 1, none⟩ = some (.int .i64 t189) := (blk_cell BK198.out 1).trans rfl
         have hcz81_2 : w71.cell? ⟨gb198, 2, none⟩ = some (.slice Ao24 t190.length co24) := (blk_cell BK198.out 2).trans rfl
         have hcz81_3 : w71.cell? ⟨gb198, 3, none⟩ = some (.int .i64 t193) := (blk_cell BK198.out 3).trans rfl
         have hcz81_4 : w71.cell? ⟨gb198, 4, none⟩ = some (.int .i64 t194) := (blk_cell BK198.out 4).trans rfl
         have hcz81_5 : w71.cell? ⟨gb198, 5, none⟩ = some (.int .i64 t195) := (blk_cell BK198.out 5).trans rfl
         have hcz81_6 : w71.cell? ⟨gb198, 6, none⟩ = some (.int .i64 t196) := (blk_cell BK198.out 6).trans rfl
         have hfz81_0 := blk_frozen BK198.out 0
         have hfz81_1 := blk_frozen BK198.out 1
         have hfz81_2 := blk_frozen BK198.out 2
         have hfz81_3 := blk_frozen BK198.out 3
         have hfz81_4 := blk_frozen BK198.out 4
         have hfz81_5 := blk_frozen BK198.out 5
         have hfz81_6 := blk_frozen BK198.out 6
         go_wp2_with (first | (go_at_call 13; (with_reducible refine (laws_eqTerrain.calls kj12 t209 t210 _ _ t211 t214 t215 t216 t217 t188 t189 _ _ t190 t193 t194 t195 t196 true _ ?side1 ?side2 ?side3 ?side4 A73.out).mono ?_); (case side1 => repeat (first | exact (Kd.R_reads' HO_220002.out).2.2 | (with_reducible refine Kd.C_alloc ?_ _) | (with_reducible refine Kd.C_drewN ?_ _) | (with_reducible refine Kd.C_drew ?_))); (case side2 => exact (Kd.R_reads' HO_220002.out).2.1); (case side3 => repeat (first | exact (Kd.R_reads' HO_199002.out).2.2 | (with_reducible refine Kd.C_alloc ?_ _) | (with_reducible refine Kd.C_drewN ?_ _) | (with_reducible refine Kd.C_drew ?_))); (case side4 => exact (Kd.R_reads' HO_199002.out).2.1); rintro e w82 ⟨rfl, hb⟩; have n0_ := am (Kd.R_below (by (with_reducible repeat (first | apply Kd.R_alloc | apply Kd.R_drewN | apply Kd.R_drew)); exact HO_199002.out) hb); have n1_ := am (Kd.R_below (by (with_reducible repeat (first | apply Kd.R_alloc | apply Kd.R_drewN | apply Kd.R_drew)); exact HO_209002.out) hb); have n2_ := am (Kd.R_below (by (with_reducible repeat (first | apply Kd.R_alloc | apply Kd.R_drewN | apply Kd.R_drew)); exact HO_220002.out) hb); have n3_ := am (Kd.R_below (by (with_reducible repeat (first | apply Kd.R_alloc | apply Kd.R_drewN | apply Kd.R_drew)); exact HO225.out) hb); have n4_ := am (blk_below (g := gb177) (o := .cells #[.int .i64 a0_0, .int .i64 a0_1, .slice A0_2 l0_2.length c0_2, .int .i64 a0_3, .int .i64 a0_4, .int .i64 a0_5, .int .i64 a0_6] 24 (0, 0)) (by (with_reducible repeat (first | apply kn | apply kd | apply ka)); exact BK177.out) hb); have n5_ := am (blk_below (g := gb198) (o := .cells #[.int .i64 t188, .int .i64 t189, .slice Ao24 t190.length co24, .int .i64 t193, .int .i64 t194, .int .i64 t195, .int .i64 t196] 27 (0, 0)) (by (with_reducible repeat (first | apply kn | apply kd | apply ka)); exact BK198.out) hb); have n6_ := am (blk_below (g := gb208) (o := .cells #[.int .i64 t199, .int .i64 t200, .slice Ao31 t201.length co31, .int .i64 t204, .int .i64 t205, .int .i64 t206, .int .i64 t207] 27 (0, 0)) (by (with_reducible repeat (first | apply kn | apply kd | apply ka)); exact BK208.out) hb); have n7_ := am (blk_below (g := gb219) (o := .cells #[.int .i64 t209, .int .i64 t210, .slice Ao38 t211.length co38, .int .i64 t214, .int .i64 t215, .int .i64 t216, .int .i64 t217] 27 (0, 0)) (by (with_reducible repeat (first | apply kn | apply kd | apply ka)); exact BK219.out) hb); have n8_ := am (below_step (by repeat (first | (with_reducible first | exact HB.out | apply ba | apply bn | apply below_drew1 | refine below_set ?_ GE177.out | refine below_set ?_ GE198.out | refine below_set ?_ GE208.out | refine below_set ?_ GE219.out) | exact HB.out)) hb); clear HO_199002; clear HO_209002; clear HO_220002; clear HO225; clear BK177; clear BK198; clear BK208; clear BK219; clear HB; have HO_199002 := n0_; have HO_209002 := n1_; have HO_220002 := n2_; have HO225 := n3_; have BK177 := n4_; have BK198 := n5_; have BK208 := n6_; have BK219 := n7_; have HB := n8_; clear n0_ n1_ n2_ n3_ n4_ n5_ n6_ n7_ n8_; (try clear hb); (try clear hb2); (try clear hk); (try clear hi)))
         go_meet
         case rel => exact ⟨_, ((t218 != t197)), (by first | rfl | (simp; done) | (simp [*]; done)), H', ⟨by have := HJ12.out; first | omega | exact Nat.le_refl _⟩, ⟨by (with_reducible repeat (first | apply Kd.R_alloc | apply Kd.R_drewN | apply Kd.R_drew)); exact Kd.R_mono HO_199002.out (fun _ hk => ⟨hk.1, hk.2.1⟩)⟩, ⟨by (with_reducible repeat (first | apply Kd.R_alloc | apply Kd.R_drewN | apply Kd.R_drew)); exact Kd.R_mono HO_209002.out (fun _ hk => ⟨hk.1.1, hk.1.2⟩)⟩, ⟨by (with_reducible repeat (first | apply Kd.R_alloc | apply Kd.R_drewN | apply Kd.R_drew)); exact Kd.R_mono HO_220002.out (fun _ hk => ⟨hk.1, hk.2.1⟩)⟩, ⟨by (with_reducible repeat (first | apply kn | apply kd | apply ka)); exact BK177.out⟩, ⟨by (with_reducible repeat (first | apply kn | apply kd | apply ka)); exact BK198.out⟩, ⟨by (with_reducible repeat (first | apply kn | apply kd | apply ka)); exact BK208.out⟩, ⟨by (with_reducible repeat (first | apply kn | apply kd | apply ka)); exact BK219.out⟩, ⟨by repeat (first | (with_reducible first | exact HB.out | apply ba | apply bn | apply below_drew1 | refine below_set ?_ GE177.out | refine below_set ?_ GE198.out | refine below_set ?_ GE208.out | refine below_set ?_ GE219.out) | exact HB.out)⟩⟩
        ·replace c74 := Bool.eq_false_iff.mpr c74
         subst c74
         have H1 : (laws_FnExactSetHeight.j1 kj12 a1 a2 t197 true a0_0 a0_1 l0_2 a0_3 a0_4 a0_5 a0_6 t188 t189 t190 t193 t194 t195 t196 t209 t210 t211 t214 t215 t216 t217) = some r := by rw [if_neg (show ¬ (false = true) by decide)] at H; exact H
         clear H
         have H := H1
         clear H1
         have H' := Aside0.mk H
         clear H
         have hnb83 := NB219_177.out
         have hnc83 := NB177_219.out
         have hnb84 := NB219_198.out
         have hnc84 := NB198_219.out
         have hnb85 := NB219_208.out
         have hnc85 := NB208_219.out
         have hcz86_0 : w71.cell? ⟨gb219, 0, none⟩ = some (.int .i64 t209) := (blk_cell BK219.out 0).trans rfl
         have hcz86_1 : w71.cell? ⟨gb219, 1, none⟩ = some (.int .i64 t210) := (blk_cell BK219.out 1).trans rfl
         have hcz86_2 : w71.cell? ⟨gb219, 2, none⟩ = some (.slice Ao38 t211.length co38) := (blk_cell BK219.out 2).trans rfl
         have hcz86_3 : w71.cell? ⟨gb219, 3, none⟩ = some (.int .i64 t214) := (blk_cell BK219.out 3).trans rfl
         have hcz86_4 : w71.cell? ⟨gb219, 4, none⟩ = some (.int .i64 t215) := (blk_cell BK219.out 4).trans rfl
         have hcz86_5 : w71.cell? ⟨gb219, 5, none⟩ = some (.int .i64 t216) := (blk_cell BK219.out 5).trans rfl
         have hcz86_6 : w71.cell? ⟨gb219, 6, none⟩ = some (.int .i64 t217) := (blk_cell BK219.out 6).trans rfl
         have hfz86_0 := blk_frozen BK219.out 0
         have hfz86_1 := blk_frozen BK219.out 1
         have hfz86_2 := blk_frozen BK219.out 2
         have hfz86_3 := blk_frozen BK219.out 3
         have hfz86_4 := blk_frozen BK219.out 4
         have hfz86_5 := blk_frozen BK219.out 5
         have hfz86_6 := blk_frozen BK219.out 6
         have hnb87 := NB198_177.out
         have hnc87 := NB177_198.out
         have hnb88 := NB198_208.out
         have hnc88 := NB208_198.out
         have hcz89_0 : w71.cell? ⟨gb198, 0, none⟩ = some (.int .i64 t188) := (blk_cell BK198.out 0).trans rfl
         have hcz89_1 : w71.cell? ⟨gb198, 1, none⟩ = some (.int .i64 t189) := (blk_cell BK198.out 1).trans rfl
         have hcz89_2 : w71.cell? ⟨gb198, 2, none⟩ = some (.slice Ao24 t190.length co24) := (blk_cell BK198.out 2).trans rfl
         have hcz89_3 : w71.cell? ⟨gb198, 3, none⟩ = some (.int .i64 t193) := (blk_cell BK198.out 3).trans rfl
         have hcz89_4 : w71.cell? ⟨gb198, 4, none⟩ = some (.int .i64 t194) := (blk_cell BK198.out 4).trans rfl
         have hcz89_5 : w71.cell? ⟨gb198, 5, none⟩ = some (.int .i64 t195) := (blk_cell BK198.out 5).trans rfl
         have hcz89_6 : w71.cell? ⟨gb198, 6, none⟩ = some (.int .i64 t196) := (blk_cell BK198.out 6).trans rfl
         have hfz89_0 := blk_frozen BK198.out 0
         have hfz89_1 := blk_frozen BK198.out 1
         have hfz89_2 := blk_frozen BK198.out 2
         have hfz89_3 := blk_frozen BK198.out 3
         have hfz89_4 := blk_frozen BK198.out 4
         have hfz89_5 := blk_frozen BK198.out 5
         have hfz89_6 := blk_frozen BK198.out 6
         go_wp2_with (first | (go_at_call 13; (with_reducible refine (laws_eqTerrain.calls kj12 t209 t210 _ _ t211 t214 t215 t216 t217 t188 t189 _ _ t190 t193 t194 t195 t196 false _ ?side1 ?side2 ?side3 ?side4 A73.out).mono ?_); (case side1 => repeat (first | exact (Kd.R_reads' HO_220002.out).2.2 | (with_reducible refine Kd.C_alloc ?_ _) | (with_reducible refine Kd.C_drewN ?_ _) | (with_reducible refine Kd.C_drew ?_))); (case side2 => exact (Kd.R_reads' HO_220002.out).2.1); (case side3 => repeat (first | exact (Kd.R_reads' HO_199002.out).2.2 | (with_reducible refine Kd.C_alloc ?_ _) | (with_reducible refine Kd.C_drewN ?_ _) | (with_reducible refine Kd.C_drew ?_))); (case side4 => exact (Kd.R_reads' HO_199002.out).2.1); rintro e w90 ⟨rfl, hb⟩; have n0_ := am (Kd.R_below (by (with_reducible repeat (first | apply Kd.R_alloc | apply Kd.R_drewN | apply Kd.R_drew)); exact HO_199002.out) hb); have n1_ := am (Kd.R_below (by (with_reducible repeat (first | apply Kd.R_alloc | apply Kd.R_drewN | apply Kd.R_drew)); exact HO_209002.out) hb); have n2_ := am (Kd.R_below (by (with_reducible repeat (first | apply Kd.R_alloc | apply Kd.R_drewN | apply Kd.R_drew)); exact HO_220002.out) hb); have n3_ := am (Kd.R_below (by (with_reducible repeat (first | apply Kd.R_alloc | apply Kd.R_drewN | apply Kd.R_drew)); exact HO225.out) hb); have n4_ := am (blk_below (g := gb177) (o := .cells #[.int .i64 a0_0, .int .i64 a0_1, .slice A0_2 l0_2.length c0_2, .int .i64 a0_3, .int .i64 a0_4, .int .i64 a0_5, .int .i64 a0_6] 24 (0, 0)) (by (with_reducible repeat (first | apply kn | apply kd | apply ka)); exact BK177.out) hb); have n5_ := am (blk_below (g := gb198) (o := .cells #[.int .i64 t188, .int .i64 t189, .slice Ao24 t190.length co24, .int .i64 t193, .int .i64 t194, .int .i64 t195, .int .i64 t196] 27 (0, 0)) (by (with_reducible repeat (first | apply kn | apply kd | apply ka)); exact BK198.out) hb); have n6_ := am (blk_below (g := gb208) (o := .cells #[.int .i64 t199, .int .i64 t200, .slice Ao31 t201.length co31, .int .i64 t204, .int .i64 t205, .int .i64 t206, .int .i64 t207] 27 (0, 0)) (by (with_reducible repeat (first | apply kn | apply kd | apply ka)); exact BK208.out) hb); have n7_ := am (blk_below (g := gb219) (o := .cells #[.int .i64 t209, .int .i64 t210, .slice Ao38 t211.length co38, .int .i64 t214, .int .i64 t215, .int .i64 t216, .int .i64 t217] 27 (0, 0)) (by (with_reducible repeat (first | apply kn | apply kd | apply ka)); exact BK219.out) hb); have n8_ := am (below_step (by repeat (first | (with_reducible first | exact HB.out | apply ba | apply bn | apply below_drew1 | refine below_set ?_ GE177.out | refine below_set ?_ GE198.out | refine below_set ?_ GE208.out | refine below_set ?_ GE219.out) | exact HB.out)) hb); clear HO_199002; clear HO_209002; clear HO_220002; clear HO225; clear BK177; clear BK198; clear BK208; clear BK219; clear HB; have HO_199002 := n0_; have HO_209002 := n1_; have HO_220002 := n2_; have HO225 := n3_; have BK177 := n4_; have BK198 := n5_; have BK208 := n6_; have BK219 := n7_; have HB := n8_; clear n0_ n1_ n2_ n3_ n4_ n5_ n6_ n7_ n8_; (try clear hb); (try clear hb2); (try clear hk); (try clear hi)))
         go_meet
         case rel => exact ⟨_, (true), (by first | rfl | (simp; done) | (simp [*]; done)), H', ⟨by have := HJ12.out; first | omega | exact Nat.le_refl _⟩, ⟨by (with_reducible repeat (first | apply Kd.R_alloc | apply Kd.R_drewN | apply Kd.R_drew)); exact Kd.R_mono HO_199002.out (fun _ hk => ⟨hk.1, hk.2.1⟩)⟩, ⟨by (with_reducible repeat (first | apply Kd.R_alloc | apply Kd.R_drewN | apply Kd.R_drew)); exact Kd.R_mono HO_209002.out (fun _ hk => ⟨hk.1.1, hk.1.2⟩)⟩, ⟨by (with_reducible repeat (first | apply Kd.R_alloc | apply Kd.R_drewN | apply Kd.R_drew)); exact Kd.R_mono HO_220002.out (fun _ hk => ⟨hk.1, hk.2.1⟩)⟩, ⟨by (with_reducible repeat (first | apply kn | apply kd | apply ka)); exact BK177.out⟩, ⟨by (with_reducible repeat (first | apply kn | apply kd | apply ka)); exact BK198.out⟩, ⟨by (with_reducible repeat (first | apply kn | apply kd | apply ka)); exact BK208.out⟩, ⟨by (with_reducible repeat (first | apply kn | apply kd | apply ka)); exact BK219.out⟩, ⟨by repeat (first | (with_reducible first | exact HB.out | apply ba | apply bn | apply below_drew1 | refine below_set ?_ GE177.out | refine below_set ?_ GE198.out | refine below_set ?_ GE208.out | refine below_set ?_ GE219.out) | exact HB.out)⟩⟩
      case rest =>
       clear HC62
       try clear c1
       try clear c2
       try clear p2
       try clear c3
       try clear c4
       try clear c5
       try clear c5b0
       try clear c6
       try clear c7
       try clear c8
       try clear c9
       try clear c11
       try clear c13
       try clear c14
       try clear c15
       try clear c16
       try clear c22
       try clear c28
       try clear c29
       try clear c34
       try clear c35
       try clear c36
       try clear c40
       try clear c41
       try clear c42
       try clear c43
       try clear c45
       try clear c46
       try clear c49
       try clear c50
       try clear c51
       try clear c53
       try clear c54
       try clear c57
       try clear c60
       try clear c67
       try clear c68
       try clear c69
       try clear c72
       try clear c72b0
       try clear c74
       try clear c75
       try clear c76
       try clear c77
       try clear c79
       try clear c80
       try clear c83
       try clear c84
       try clear c85
       try clear c87
       try clear c88
       try clear hcz15_0
       try clear hcz15_1
       try clear hcz15_2
       try clear hcz15_3
       try clear hcz15_4
       try clear hcz15_5
       try clear hcz15_6
       try clear hcz17_0
       try clear hcz17_1
       try clear hcz17_2
       try clear hcz17_3
       try clear hcz17_4
       try clear hcz17_5
       try clear hcz17_6
       try clear hcz23_0
       try clear hcz23_1
       try clear hcz23_2
       try clear hcz23_3
       try clear hcz23_4
       try clear hcz23_5
       try clear hcz23_6
       try clear hcz25_0
       try clear hcz25_1
       try clear hcz25_2
       try clear hcz25_3
       try clear hcz25_4
       try clear hcz25_5
       try clear hcz25_6
       try clear hcz30_0
       try clear hcz30_1
       try clear hcz30_2
       try clear hcz30_3
       try clear hcz30_4
       try clear hcz30_5
       try clear hcz30_6
       try clear hcz37_0
       try clear hcz37_1
       try clear hcz37_2
       try clear hcz37_3
       try clear hcz37_4
       try clear hcz37_5
       try clear hcz37_6
       try clear hcz44_0
       try clear hcz44_1
       try clear hcz44_2
       try clear hcz44_3
       try clear hcz44_4
       try clear hcz44_5
       try clear hcz44_6
       try clear hcz47_0
       try clear hcz47_1
       try clear hcz47_2
       try clear hcz47_3
       try clear hcz47_4
       try clear hcz47_5
       try clear hcz47_6
       try clear hcz52_0
       try clear hcz52_1
       try clear hcz52_2
       try clear hcz52_3
       try clear hcz52_4
       try clear hcz52_5
       try clear hcz52_6
       try clear hcz55_0
       try clear hcz55_1
       try clear hcz55_2
       try clear hcz55_3
       try clear hcz55_4
       try clear hcz55_5
       try clear hcz55_6
       try clear hcz70_0
       try clear hcz70_1
       try clear hcz70_2
       try clear hcz70_3
       try clear hcz70_4
       try clear hcz70_5
       try clear hcz70_6
       try clear hcz78_0
       try clear hcz78_1
       try clear hcz78_2
       try clear hcz78_3
       try clear hcz78_4
       try clear hcz78_5
       try clear hcz78_6
       try clear hcz7_0
       try clear hcz7_1
       try clear hcz7_2
       try clear hcz7_3
       try clear hcz7_4
       try clear hcz7_5
       try clear hcz7_6
       try clear hcz81_0
       try clear hcz81_1
       try clear hcz81_2
       try clear hcz81_3
       try clear hcz81_4
       try clear hcz81_5
       try clear hcz81_6
       try clear hcz86_0
       try clear hcz86_1
       try clear hcz86_2
       try clear hcz86_3
       try clear hcz86_4
       try clear hcz86_5
       try clear hcz86_6
       try clear hcz89_0
       try clear hcz89_1
       try clear hcz89_2
       try clear hcz89_3
       try clear hcz89_4
       try clear hcz89_5
       try clear hcz89_6
       try clear hfz15_0
       try clear hfz15_1
       try clear hfz15_2
       try clear hfz15_3
       try clear hfz15_4
       try clear hfz15_5
       try clear hfz15_6
       try clear hfz17_0
       try clear hfz17_1
       try clear hfz17_2
       try clear hfz17_3
       try clear hfz17_4
       try clear hfz17_5
       try clear hfz17_6
       try clear hfz23_0
       try clear hfz23_1
       try clear hfz23_2
       try clear hfz23_3
       try clear hfz23_4
       try clear hfz23_5
       try clear hfz23_6
       try clear hfz25_0
       try clear hfz25_1
       try clear hfz25_2
       try clear hfz25_3
       try clear hfz25_4
       try clear hfz25_5
       try clear hfz25_6
       try clear hfz30_0
       try clear hfz30_1
       try clear hfz30_2
       try clear hfz30_3
       try clear hfz30_4
       try clear hfz30_5
       try clear hfz30_6
       try clear hfz37_0
       try clear hfz37_1
       try clear hfz37_2
       try clear hfz37_3
       try clear hfz37_4
       try clear hfz37_5
       try clear hfz37_6
       try clear hfz44_0
       try clear hfz44_1
       try clear hfz44_2
       try clear hfz44_3
       try clear hfz44_4
       try clear hfz44_5
       try clear hfz44_6
       try clear hfz47_0
       try clear hfz47_1
       try clear hfz47_2
       try clear hfz47_3
       try clear hfz47_4
       try clear hfz47_5
       try clear hfz47_6
       try clear hfz52_0
       try clear hfz52_1
       try clear hfz52_2
       try clear hfz52_3
       try clear hfz52_4
       try clear hfz52_5
       try clear hfz52_6
       try clear hfz55_0
       try clear hfz55_1
       try clear hfz55_2
       try clear hfz55_3
       try clear hfz55_4
       try clear hfz55_5
       try clear hfz55_6
       try clear hfz70_0
       try clear hfz70_1
       try clear hfz70_2
       try clear hfz70_3
       try clear hfz70_4
       try clear hfz70_5
       try clear hfz70_6
       try clear hfz78_0
       try clear hfz78_1
       try clear hfz78_2
       try clear hfz78_3
       try clear hfz78_4
       try clear hfz78_5
       try clear hfz78_6
       try clear hfz7_0
       try clear hfz7_1
       try clear hfz7_2
       try clear hfz7_3
       try clear hfz7_4
       try clear hfz7_5
       try clear hfz7_6
       try clear hfz81_0
       try clear hfz81_1
       try clear hfz81_2
       try clear hfz81_3
       try clear hfz81_4
       try clear hfz81_5
       try clear hfz81_6
       try clear hfz86_0
       try clear hfz86_1
       try clear hfz86_2
       try clear hfz86_3
       try clear hfz86_4
       try clear hfz86_5
       try clear hfz86_6
       try clear hfz89_0
       try clear hfz89_1
       try clear hfz89_2
       try clear hfz89_3
       try clear hfz89_4
       try clear hfz89_5
       try clear hfz89_6
       try clear p2
       obtain ⟨kq, x69_61, rfl, HA, HJ61, HO_199002, HO_209002, HO_220002, BK177, BK198, BK208, BK219, HB⟩ := hcut
       have hl209002_61 := (Kd.R_reads' HO_209002.out).1
       rw [hl209002_61] at HO_209002
       (try simp only [hl209002_61])
       (try simp only [hl209002_61] at BK177)
       (try simp only [hl209002_61] at BK198)
       (try simp only [hl209002_61] at BK208)
       (try simp only [hl209002_61] at BK219)
       (try simp only [hl209002_61] at HO_199002)
       (try simp only [hl209002_61] at HO_220002)
       cases kq with
       | zero => exact absurd HA.out (by simp [laws_FnExactSetHeight.j1])
       | succ kj61 =>
        have H := HA.out
        clear HA
        simp only [laws_FnExactSetHeight.j1] at H
        by_cases c91 : x69_61 = true
        ·subst c91
         have H1 : (some false) = some r := by rw [if_pos rfl] at H; exact H
         clear H
         have H := H1
         clear H1
         obtain rfl := Option.some.inj H
         go_wp2
         go_ret
         exact ⟨by first | rfl | (simp [errW_none, errW_some] <;> rfl) | (simp [*, errW_none, errW_some] <;> rfl), by repeat (first | (with_reducible first | exact HB.out | apply ba | apply bn | apply below_drew1 | refine below_set ?_ GE177.out | refine below_set ?_ GE198.out | refine below_set ?_ GE208.out | refine below_set ?_ GE219.out) | exact HB.out)⟩
        ·replace c91 := Bool.eq_false_iff.mpr c91
         subst c91
         have H1 : ((laws_markTerrain.f kj61 t209 t210 t211 t214 t215 t216 t217 1).bind fun bt234 => ((laws_heldTerrain.f kj61 t209 t210 bt234.2 t214 t215 t216 t217 1).bind fun t236 => (if t236 < 0 then (some false) else (if t236 = bt234.1 then ((laws_toTerrain.f kj61 a0_0 a0_1 l0_2 a0_3 a0_4 a0_5 a0_6).bind fun bt237 => ((impl_SetHeight.f kj61 bt237.1 bt237.2.1 bt237.2.2.1 bt237.2.2.2.1 bt237.2.2.2.2.1 bt237.2.2.2.2.2.1 bt237.2.2.2.2.2.2 a1 a2).bind fun bt246 => ((laws_eqTerrain.f kj61 bt246.1 bt246.2.1 bt246.2.2.1 bt246.2.2.2.1 bt246.2.2.2.2.1 bt246.2.2.2.2.2.1 bt246.2.2.2.2.2.2.1 t188 t189 t190 t193 t194 t195 t196).bind fun t257 => (if t257 = true then (laws_FnExactSetHeight.j2 kj61 bt234.1 (bt246.2.2.2.2.2.2.2 != t197) t209 t210 bt234.2 t214 t215 t216 t217) else (laws_FnExactSetHeight.j2 kj61 bt234.1 true t209 t210 bt234.2 t214 t215 t216 t217))))) else (some false))))) = some r := by rw [if_neg (show ¬ (false = true) by decide)] at H; exact H
         clear H
         have H := H1
         clear H1
         replace H := Option.bind_eq_some_iff.mp H
         obtain ⟨⟨t234, t235⟩, A920, H⟩ := H
         replace H : ((laws_heldTerrain.f kj61 t209 t210 t235 t214 t215 t216 t217 1).bind fun t236 => (if t236 < 0 then (some false) else (if t236 = t234 then ((laws_toTerrain.f kj61 a0_0 a0_1 l0_2 a0_3 a0_4 a0_5 a0_6).bind fun bt237 => ((impl_SetHeight.f kj61 bt237.1 bt237.2.1 bt237.2.2.1 bt237.2.2.2.1 bt237.2.2.2.2.1 bt237.2.2.2.2.2.1 bt237.2.2.2.2.2.2 a1 a2).bind fun bt246 => ((laws_eqTerrain.f kj61 bt246.1 bt246.2.1 bt246.2.2.1 bt246.2.2.2.1 bt246.2.2.2.2.1 bt246.2.2.2.2.2.1 bt246.2.2.2.2.2.2.1 t188 t189 t190 t193 t194 t195 t196).bind fun t257 => (if t257 = true then (laws_FnExactSetHeight.j2 kj61 t234 (bt246.2.2.2.2.2.2.2 != t197) t209 t210 t235 t214 t215 t216 t217) else (laws_FnExactSetHeight.j2 kj61 t234 true t209 t210 t235 t214 t215 t216 t217))))) else (some false)))) = some r := H
         have A92 := Aside0.mk A920
         clear A920
         replace H := Option.bind_eq_some_iff.mp H
         obtain ⟨t236, A930, H⟩ := H
         replace H : (if t236 < 0 then (some false) else (if t236 = t234 then ((laws_toTerrain.f kj61 a0_0 a0_1 l0_2 a0_3 a0_4 a0_5 a0_6).bind fun bt237 => ((impl_SetHeight.f kj61 bt237.1 bt237.2.1 bt237.2.2.1 bt237.2.2.2.1 bt237.2.2.2.2.1 bt237.2.2.2.2.2.1 bt237.2.2.2.2.2.2 a1 a2).bind fun bt246 => ((laws_eqTerrain.f kj61 bt246.1 bt246.2.1 bt246.2.2.1 bt246.2.2.2.1 bt246.2.2.2.2.1 bt246.2.2.2.2.2.1 bt246.2.2.2.2.2.2.1 t188 t189 t190 t193 t194 t195 t196).bind fun t257 => (if t257 = true then (laws_FnExactSetHeight.j2 kj61 t234 (bt246.2.2.2.2.2.2.2 != t197) t209 t210 t235 t214 t215 t216 t217) else (laws_FnExactSetHeight.j2 kj61 t234 true t209 t210 t235 t214 t215 t216 t217))))) else (some false))) = some r := H
         have A93 := Aside0.mk A930
         clear A930
         by_cases c94 : t236 < 0
         ·rw [if_pos c94] at H
          have c94b0 : decide (t236 < 0) = true := decide_eq_true c94
          clear c94
          obtain rfl := Option.some.inj H
          have hnb95 := NB219_177.out
          have hnc95 := NB177_219.out
          have hnb96 := NB219_198.out
          have hnc96 := NB198_219.out
          have hnb97 := NB219_208.out
          have hnc97 := NB208_219.out
          have hcz98_0 : wc.cell? ⟨gb219, 0, none⟩ = some (.int .i64 t209) := (blk_cell BK219.out 0).trans rfl
          have hcz98_1 : wc.cell? ⟨gb219, 1, none⟩ = some (.int .i64 t210) := (blk_cell BK219.out 1).trans rfl
          have hcz98_2 : wc.cell? ⟨gb219, 2, none⟩ = some (.slice Ao38 t211.length co38) := (blk_cell BK219.out 2).trans rfl
          have hcz98_3 : wc.cell? ⟨gb219, 3, none⟩ = some (.int .i64 t214) := (blk_cell BK219.out 3).trans rfl
          have hcz98_4 : wc.cell? ⟨gb219, 4, none⟩ = some (.int .i64 t215) := (blk_cell BK219.out 4).trans rfl
          have hcz98_5 : wc.cell? ⟨gb219, 5, none⟩ = some (.int .i64 t216) := (blk_cell BK219.out 5).trans rfl
          have hcz98_6 : wc.cell? ⟨gb219, 6, none⟩ = some (.int .i64 t217) := (blk_cell BK219.out 6).trans rfl
          have hfz98_0 := blk_frozen BK219.out 0
          have hfz98_1 := blk_frozen BK219.out 1
          have hfz98_2 := blk_frozen BK219.out 2
          have hfz98_3 := blk_frozen BK219.out 3
          have hfz98_4 := blk_frozen BK219.out 4
          have hfz98_5 := blk_frozen BK219.out 5
          have hfz98_6 := blk_frozen BK219.out 6
          go_wp2_with (first | ((with_reducible refine gate_callee (f := 16) rfl ?_); refine goesL_ (some 72) rfl rfl Try.func16 (by kernel_rfl) rfl #[.agg #[.int .i64 t209, .int .i64 t210, .slice Ao38 t211.length co38, .int .i64 t214, .int .i64 t215, .int .i64 t216, .int .i64 t217], .int .i64 1] rfl (by (try simp only [List.map_toArray, List.map_cons, List.map_nil]); first | done | rfl | (simp only [List.length_drop, List.length_take]; rfl)) ?_; (with_reducible refine (laws_markTerrain.calls kj61 t209 t210 (fun k_ => some k_ = (.slice Ao38 t211.length co38 : Value).ownBlock) (.slice Ao38 t211.length co38) t211 t214 t215 t216 t217 1 t234 t235 w _ ?side1 ?side2 A92.out).mono ?_); (case side1 => repeat (first | (with_reducible first | exact HB.out | apply ba | apply bn | apply below_drew1 | refine below_set ?_ GE177.out | refine below_set ?_ GE198.out | refine below_set ?_ GE208.out | refine below_set ?_ GE219.out) | exact HB.out)); (case side2 => exact Kd.R_tight rfl HO_220002.out); rintro e w99 ⟨rfl, hy0, hb, hkp⟩; refine ⟨_, rfl, ?_⟩; have n0_ := am (Kd.R_mono (ok' := fun k_ => some k_ ≠ (.slice Ao31 t232.length co31 : Value).ownBlock ∧ some k_ ≠ (.slice Ao38 t211.length co38 : Value).ownBlock) (Kd.R_keptB (HO_199002.out) hkp (fun k_ hk_ hs_ => (hk_.2) hs_)) (fun k_ hk_ => ⟨hk_.1.1, hk_.1.2⟩)); have n1_ := am (Kd.R_mono (ok' := fun k_ => some k_ ≠ (.slice Ao24 t190.length co24 : Value).ownBlock ∧ some k_ ≠ (.slice Ao38 t211.length co38 : Value).ownBlock) (Kd.R_keptB (HO_209002.out) hkp (fun k_ hk_ hs_ => (hk_.2) hs_)) (fun k_ hk_ => ⟨hk_.1.1, hk_.1.2⟩)); have n2_ := am (Kd.R_reok rfl hy0 (fun k_ e_ => HO_220002.out.1 k_ e_)); have n3_ := am (blk_kept (by (with_reducible repeat (first | apply kn | apply kd | apply ka)); exact BK177.out) hkp (fun hs_ => (fun e_ => (Kd.R_ne HO_220002.out BK177.out (by decide)) e_) hs_)); have n4_ := am (blk_kept (by (with_reducible repeat (first | apply kn | apply kd | apply ka)); exact BK198.out) hkp (fun hs_ => (fun e_ => (Kd.R_ne HO_220002.out BK198.out (by decide)) e_) hs_)); have n5_ := am (blk_kept (by (with_reducible repeat (first | apply kn | apply kd | apply ka)); exact BK208.out) hkp (fun hs_ => (fun e_ => (Kd.R_ne HO_220002.out BK208.out (by decide)) e_) hs_)); have n6_ := am (blk_kept (by (with_reducible repeat (first | apply kn | apply kd | apply ka)); exact BK219.out) hkp (fun hs_ => (fun e_ => (Kd.R_ne HO_220002.out BK219.out (by decide)) e_) hs_)); have n7_ := am (hb); clear HO_199002; clear HO_209002; clear HO_220002; clear BK177; clear BK198; clear BK208; clear BK219; clear HB; have HO_199002 := n0_; have HO_209002 := n1_; have HO_220002 := n2_; have BK177 := n3_; have BK198 := n4_; have BK208 := n5_; have BK219 := n6_; have HB := n7_; clear n0_ n1_ n2_ n3_ n4_ n5_ n6_ n7_; (try clear hb); (try clear hkp); (try clear hy0); have hcz100_0 : w99.cell? ⟨gb219, 0, none⟩ = some (.int .i64 t209) := (blk_cell BK219.out 0).trans rfl; have hcz100_1 : w99.cell? ⟨gb219, 1, none⟩ = some (.int .i64 t210) := (blk_cell BK219.out 1).trans rfl; have hcz100_2 : w99.cell? ⟨gb219, 2, none⟩ = some (.slice Ao38 t211.length co38) := (blk_cell BK219.out 2).trans rfl; have hcz100_3 : w99.cell? ⟨gb219, 3, none⟩ = some (.int .i64 t214) := (blk_cell BK219.out 3).trans rfl; have hcz100_4 : w99.cell? ⟨gb219, 4, none⟩ = some (.int .i64 t215) := (blk_cell BK219.out 4).trans rfl; have hcz100_5 : w99.cell? ⟨gb219, 5, none⟩ = some (.int .i64 t216) := (blk_cell BK219.out 5).trans rfl; have hcz100_6 : w99.cell? ⟨gb219, 6, none⟩ = some (.int .i64 t217) := (blk_cell BK219.out 6).trans rfl; have hfz100_0 := blk_frozen BK219.out 0; have hfz100_1 := blk_frozen BK219.out 1; have hfz100_2 := blk_frozen BK219.out 2; have hfz100_3 := blk_frozen BK219.out 3; have hfz100_4 := blk_frozen BK219.out 4; have hfz100_5 := blk_frozen BK219.out 5; have hfz100_6 := blk_frozen BK219.out 6) | ((with_reducible refine gate_callee (f := 17) rfl ?_); refine goesL_ (some 75) rfl rfl Try.func17 (by kernel_rfl) rfl #[.agg #[.int .i64 t209, .int .i64 t210, .slice Ao38 t235.length co38, .int .i64 t214, .int .i64 t215, .int .i64 t216, .int .i64 t217], .int .i64 1] rfl (by (try simp only [List.map_toArray, List.map_cons, List.map_nil]); first | done | (rw [show t235.length = t211.length from (Kd.R_reads' HO_220002.out).1.symm] <;> rfl) | rfl | (simp only [List.length_drop, List.length_take]; rfl)) ?_; (with_reducible refine (laws_heldTerrain.calls kj61 t209 t210 _ _ t235 t214 t215 t216 t217 1 t236 _ ?side1 ?side2 A93.out).mono ?_); (case side1 => repeat (first | exact (Kd.R_reads' HO_220002.out).2.2 | (with_reducible refine Kd.C_alloc ?_ _) | (with_reducible refine Kd.C_drewN ?_ _) | (with_reducible refine Kd.C_drew ?_))); (case side2 => rw [show t235.length = t211.length from (Kd.R_reads' HO_220002.out).1.symm]; exact (Kd.R_reads' HO_220002.out).2.1); rintro e w101 ⟨rfl, hb⟩; refine ⟨_, rfl, ?_⟩; have n0_ := am (Kd.R_below (by (with_reducible repeat (first | apply Kd.R_alloc | apply Kd.R_drewN | apply Kd.R_drew)); exact HO_199002.out) hb); have n1_ := am (Kd.R_below (by (with_reducible repeat (first | apply Kd.R_alloc | apply Kd.R_drewN | apply Kd.R_drew)); exact HO_209002.out) hb); have n2_ := am (Kd.R_below (by (with_reducible repeat (first | apply Kd.R_alloc | apply Kd.R_drewN | apply Kd.R_drew)); exact HO_220002.out) hb); have n3_ := am (blk_below (g := gb177) (o := .cells #[.int .i64 a0_0, .int .i64 a0_1, .slice A0_2 l0_2.length c0_2, .int .i64 a0_3, .int .i64 a0_4, .int .i64 a0_5, .int .i64 a0_6] 24 (0, 0)) (by (with_reducible repeat (first | apply kn | apply kd | apply ka)); exact BK177.out) hb); have n4_ := am (blk_below (g := gb198) (o := .cells #[.int .i64 t188, .int .i64 t189, .slice Ao24 t190.length co24, .int .i64 t193, .int .i64 t194, .int .i64 t195, .int .i64 t196] 27 (0, 0)) (by (with_reducible repeat (first | apply kn | apply kd | apply ka)); exact BK198.out) hb); have n5_ := am (blk_below (g := gb208) (o := .cells #[.int .i64 t199, .int .i64 t200, .slice Ao31 t232.length co31, .int .i64 t204, .int .i64 t205, .int .i64 t206, .int .i64 t207] 27 (0, 0)) (by (with_reducible repeat (first | apply kn | apply kd | apply ka)); exact BK208.out) hb); have n6_ := am (blk_below (g := gb219) (o := .cells #[.int .i64 t209, .int .i64 t210, .slice Ao38 t211.length co38, .int .i64 t214, .int .i64 t215, .int .i64 t216, .int .i64 t217] 27 (0, 0)) (by (with_reducible repeat (first | apply kn | apply kd | apply ka)); exact BK219.out) hb); have n7_ := am (below_step (by repeat (first | (with_reducible first | exact HB.out | apply ba | apply bn | apply below_drew1 | refine below_set ?_ GE177.out | refine below_set ?_ GE198.out | refine below_set ?_ GE208.out | refine below_set ?_ GE219.out) | exact HB.out)) hb); clear HO_199002; clear HO_209002; clear HO_220002; clear BK177; clear BK198; clear BK208; clear BK219; clear HB; have HO_199002 := n0_; have HO_209002 := n1_; have HO_220002 := n2_; have BK177 := n3_; have BK198 := n4_; have BK208 := n5_; have BK219 := n6_; have HB := n7_; clear n0_ n1_ n2_ n3_ n4_ n5_ n6_ n7_; (try clear hb); (try clear hb2); (try clear hk); (try clear hi)))
          go_ret
          exact ⟨by first | rfl | (simp [errW_none, errW_some] <;> rfl) | (simp [*, errW_none, errW_some] <;> rfl), by repeat (first | (with_reducible first | exact HB.out | apply ba | apply bn | apply below_drew1 | refine below_set ?_ GE177.out | refine below_set ?_ GE198.out | refine below_set ?_ GE208.out | refine below_set ?_ GE219.out) | exact HB.out)⟩
         ·rw [if_neg c94] at H
          have c94b0 : decide (t236 < 0) = false := decide_eq_false c94
          clear c94
          by_cases c102 : t236 = t234
          ·rw [if_pos c102] at H
           have c102b0 : (t236 == t234) = true := beq_iff_eq.mpr c102
           have c102b1 : (t236 != t234) = false := bne_eq_false_iff_eq.mpr c102
           clear c102
           replace H := Option.bind_eq_some_iff.mp H
           obtain ⟨⟨t237, t238, t239, t242, t243, t244, t245⟩, A1030, H⟩ := H
           replace H : ((impl_SetHeight.f kj61 t237 t238 t239 t242 t243 t244 t245 a1 a2).bind fun bt246 => ((laws_eqTerrain.f kj61 bt246.1 bt246.2.1 bt246.2.2.1 bt246.2.2.2.1 bt246.2.2.2.2.1 bt246.2.2.2.2.2.1 bt246.2.2.2.2.2.2.1 t188 t189 t190 t193 t194 t195 t196).bind fun t257 => (if t257 = true then (laws_FnExactSetHeight.j2 kj61 t234 (bt246.2.2.2.2.2.2.2 != t197) t209 t210 t235 t214 t215 t216 t217) else (laws_FnExactSetHeight.j2 kj61 t234 true t209 t210 t235 t214 t215 t216 t217)))) = some r := H
           have A103 := Aside0.mk A1030
           clear A1030
           replace H := Option.bind_eq_some_iff.mp H
           obtain ⟨⟨t246, t247, t248, t251, t252, t253, t254, t255⟩, A1040, H⟩ := H
           replace H : ((laws_eqTerrain.f kj61 t246 t247 t248 t251 t252 t253 t254 t188 t189 t190 t193 t194 t195 t196).bind fun t257 => (if t257 = true then (laws_FnExactSetHeight.j2 kj61 t234 (t255 != t197) t209 t210 t235 t214 t215 t216 t217) else (laws_FnExactSetHeight.j2 kj61 t234 true t209 t210 t235 t214 t215 t216 t217))) = some r := H
           have A104 := Aside0.mk A1040
           clear A1040
           have HC105 := Aside0.mk H
           clear H
           have hnb106 := NB219_177.out
           have hnc106 := NB177_219.out
           have hnb107 := NB219_198.out
           have hnc107 := NB198_219.out
           have hnb108 := NB219_208.out
           have hnc108 := NB208_219.out
           have hcz109_0 : wc.cell? ⟨gb219, 0, none⟩ = some (.int .i64 t209) := (blk_cell BK219.out 0).trans rfl
           have hcz109_1 : wc.cell? ⟨gb219, 1, none⟩ = some (.int .i64 t210) := (blk_cell BK219.out 1).trans rfl
           have hcz109_2 : wc.cell? ⟨gb219, 2, none⟩ = some (.slice Ao38 t211.length co38) := (blk_cell BK219.out 2).trans rfl
           have hcz109_3 : wc.cell? ⟨gb219, 3, none⟩ = some (.int .i64 t214) := (blk_cell BK219.out 3).trans rfl
           have hcz109_4 : wc.cell? ⟨gb219, 4, none⟩ = some (.int .i64 t215) := (blk_cell BK219.out 4).trans rfl
           have hcz109_5 : wc.cell? ⟨gb219, 5, none⟩ = some (.int .i64 t216) := (blk_cell BK219.out 5).trans rfl
           have hcz109_6 : wc.cell? ⟨gb219, 6, none⟩ = some (.int .i64 t217) := (blk_cell BK219.out 6).trans rfl
           have hfz109_0 := blk_frozen BK219.out 0
           have hfz109_1 := blk_frozen BK219.out 1
           have hfz109_2 := blk_frozen BK219.out 2
           have hfz109_3 := blk_frozen BK219.out 3
           have hfz109_4 := blk_frozen BK219.out 4
           have hfz109_5 := blk_frozen BK219.out 5
           have hfz109_6 := blk_frozen BK219.out 6
           go_upto_region 25 with (first | ((with_reducible refine gate_callee (f := 16) rfl ?_); refine goesL_ (some 72) rfl rfl Try.func16 (by kernel_rfl) rfl #[.agg #[.int .i64 t209, .int .i64 t210, .slice Ao38 t211.length co38, .int .i64 t214, .int .i64 t215, .int .i64 t216, .int .i64 t217], .int .i64 1] rfl (by (try simp only [List.map_toArray, List.map_cons, List.map_nil]); first | done | rfl | (simp only [List.length_drop, List.length_take]; rfl)) ?_; (with_reducible refine (laws_markTerrain.calls kj61 t209 t210 (fun k_ => some k_ = (.slice Ao38 t211.length co38 : Value).ownBlock) (.slice Ao38 t211.length co38) t211 t214 t215 t216 t217 1 t234 t235 w _ ?side1 ?side2 A92.out).mono ?_); (case side1 => repeat (first | (with_reducible first | exact HB.out | apply ba | apply bn | apply below_drew1 | refine below_set ?_ GE177.out | refine below_set ?_ GE198.out | refine below_set ?_ GE208.out | refine below_set ?_ GE219.out) | exact HB.out)); (case side2 => exact Kd.R_tight rfl HO_220002.out); rintro e w110 ⟨rfl, hy0, hb, hkp⟩; refine ⟨_, rfl, ?_⟩; have n0_ := am (Kd.R_mono (ok' := fun k_ => some k_ ≠ (.slice Ao31 t232.length co31 : Value).ownBlock ∧ some k_ ≠ (.slice Ao38 t211.length co38 : Value).ownBlock) (Kd.R_keptB (HO_199002.out) hkp (fun k_ hk_ hs_ => (hk_.2) hs_)) (fun k_ hk_ => ⟨hk_.1.1, hk_.1.2⟩)); have n1_ := am (Kd.R_mono (ok' := fun k_ => some k_ ≠ (.slice Ao24 t190.length co24 : Value).ownBlock ∧ some k_ ≠ (.slice Ao38 t211.length co38 : Value).ownBlock) (Kd.R_keptB (HO_209002.out) hkp (fun k_ hk_ hs_ => (hk_.2) hs_)) (fun k_ hk_ => ⟨hk_.1.1, hk_.1.2⟩)); have n2_ := am (Kd.R_reok rfl hy0 (fun k_ e_ => HO_220002.out.1 k_ e_)); have n3_ := am (blk_kept (by (with_reducible repeat (first | apply kn | apply kd | apply ka)); exact BK177.out) hkp (fun hs_ => (fun e_ => (Kd.R_ne HO_220002.out BK177.out (by decide)) e_) hs_)); have n4_ := am (blk_kept (by (with_reducible repeat (first | apply kn | apply kd | apply ka)); exact BK198.out) hkp (fun hs_ => (fun e_ => (Kd.R_ne HO_220002.out BK198.out (by decide)) e_) hs_)); have n5_ := am (blk_kept (by (with_reducible repeat (first | apply kn | apply kd | apply ka)); exact BK208.out) hkp (fun hs_ => (fun e_ => (Kd.R_ne HO_220002.out BK208.out (by decide)) e_) hs_)); have n6_ := am (blk_kept (by (with_reducible repeat (first | apply kn | apply kd | apply ka)); exact BK219.out) hkp (fun hs_ => (fun e_ => (Kd.R_ne HO_220002.out BK219.out (by decide)) e_) hs_)); have n7_ := am (hb); clear HO_199002; clear HO_209002; clear HO_220002; clear BK177; clear BK198; clear BK208; clear BK219; clear HB; have HO_199002 := n0_; have HO_209002 := n1_; have HO_220002 := n2_; have BK177 := n3_; have BK198 := n4_; have BK208 := n5_; have BK219 := n6_; have HB := n7_; clear n0_ n1_ n2_ n3_ n4_ n5_ n6_ n7_; (try clear hb); (try clear hkp); (try clear hy0); have hcz111_0 : w110.cell? ⟨gb219, 0, none⟩ = some (.int .i64 t209) := (blk_cell BK219.out 0).trans rfl; have hcz111_1 : w110.cell? ⟨gb219, 1, none⟩ = some (.int .i64 t210) := (blk_cell BK219.out 1).trans rfl; have hcz111_2 : w110.cell? ⟨gb219, 2, none⟩ = some (.slice Ao38 t211.length co38) := (blk_cell BK219.out 2).trans rfl; have hcz111_3 : w110.cell? ⟨gb219, 3, none⟩ = some (.int .i64 t214) := (blk_cell BK219.out 3).trans rfl; have hcz111_4 : w110.cell? ⟨gb219, 4, none⟩ = some (.int .i64 t215) := (blk_cell BK219.out 4).trans rfl; have hcz111_5 : w110.cell? ⟨gb219, 5, none⟩ = some (.int .i64 t216) := (blk_cell BK219.out 5).trans rfl; have hcz111_6 : w110.cell? ⟨gb219, 6, none⟩ = some (.int .i64 t217) := (blk_cell BK219.out 6).trans rfl; have hfz111_0 := blk_frozen BK219.out 0; have hfz111_1 := blk_frozen BK219.out 1; have hfz111_2 := blk_frozen BK219.out 2; have hfz111_3 := blk_frozen BK219.out 3; have hfz111_4 := blk_frozen BK219.out 4; have hfz111_5 := blk_frozen BK219.out 5; have hfz111_6 := blk_frozen BK219.out 6) | ((with_reducible refine gate_callee (f := 17) rfl ?_); refine goesL_ (some 75) rfl rfl Try.func17 (by kernel_rfl) rfl #[.agg #[.int .i64 t209, .int .i64 t210, .slice Ao38 t235.length co38, .int .i64 t214, .int .i64 t215, .int .i64 t216, .int .i64 t217], .int .i64 1] rfl (by (try simp only [List.map_toArray, List.map_cons, List.map_nil]); first | done | (rw [show t235.length = t211.length from (Kd.R_reads' HO_220002.out).1.symm] <;> rfl) | rfl | (simp only [List.length_drop, List.length_take]; rfl)) ?_; (with_reducible refine (laws_heldTerrain.calls kj61 t209 t210 _ _ t235 t214 t215 t216 t217 1 t236 _ ?side1 ?side2 A93.out).mono ?_); (case side1 => repeat (first | exact (Kd.R_reads' HO_220002.out).2.2 | (with_reducible refine Kd.C_alloc ?_ _) | (with_reducible refine Kd.C_drewN ?_ _) | (with_reducible refine Kd.C_drew ?_))); (case side2 => rw [show t235.length = t211.length from (Kd.R_reads' HO_220002.out).1.symm]; exact (Kd.R_reads' HO_220002.out).2.1); rintro e w112 ⟨rfl, hb⟩; refine ⟨_, rfl, ?_⟩; have n0_ := am (Kd.R_below (by (with_reducible repeat (first | apply Kd.R_alloc | apply Kd.R_drewN | apply Kd.R_drew)); exact HO_199002.out) hb); have n1_ := am (Kd.R_below (by (with_reducible repeat (first | apply Kd.R_alloc | apply Kd.R_drewN | apply Kd.R_drew)); exact HO_209002.out) hb); have n2_ := am (Kd.R_below (by (with_reducible repeat (first | apply Kd.R_alloc | apply Kd.R_drewN | apply Kd.R_drew)); exact HO_220002.out) hb); have n3_ := am (blk_below (g := gb177) (o := .cells #[.int .i64 a0_0, .int .i64 a0_1, .slice A0_2 l0_2.length c0_2, .int .i64 a0_3, .int .i64 a0_4, .int .i64 a0_5, .int .i64 a0_6] 24 (0, 0)) (by (with_reducible repeat (first | apply kn | apply kd | apply ka)); exact BK177.out) hb); have n4_ := am (blk_below (g := gb198) (o := .cells #[.int .i64 t188, .int .i64 t189, .slice Ao24 t190.length co24, .int .i64 t193, .int .i64 t194, .int .i64 t195, .int .i64 t196] 27 (0, 0)) (by (with_reducible repeat (first | apply kn | apply kd | apply ka)); exact BK198.out) hb); have n5_ := am (blk_below (g := gb208) (o := .cells #[.int .i64 t199, .int .i64 t200, .slice Ao31 t232.length co31, .int .i64 t204, .int .i64 t205, .int .i64 t206, .int .i64 t207] 27 (0, 0)) (by (with_reducible repeat (first | apply kn | apply kd | apply ka)); exact BK208.out) hb); have n6_ := am (blk_below (g := gb219) (o := .cells #[.int .i64 t209, .int .i64 t210, .slice Ao38 t211.length co38, .int .i64 t214, .int .i64 t215, .int .i64 t216, .int .i64 t217] 27 (0, 0)) (by (with_reducible repeat (first | apply kn | apply kd | apply ka)); exact BK219.out) hb); have n7_ := am (below_step (by repeat (first | (with_reducible first | exact HB.out | apply ba | apply bn | apply below_drew1 | refine below_set ?_ GE177.out | refine below_set ?_ GE198.out | refine below_set ?_ GE208.out | refine below_set ?_ GE219.out) | exact HB.out)) hb); clear HO_199002; clear HO_209002; clear HO_220002; clear BK177; clear BK198; clear BK208; clear BK219; clear HB; have HO_199002 := n0_; have HO_209002 := n1_; have HO_220002 := n2_; have BK177 := n3_; have BK198 := n4_; have BK208 := n5_; have BK219 := n6_; have HB := n7_; clear n0_ n1_ n2_ n3_ n4_ n5_ n6_ n7_; (try clear hb); (try clear hb2); (try clear hk); (try clear hi); have hnb113 := NB177_198.out; have hnc113 := NB198_177.out; have hnb114 := NB177_208.out; have hnc114 := NB208_177.out; have hcz115_0 : w112.cell? ⟨gb177, 0, none⟩ = some (.int .i64 a0_0) := (blk_cell BK177.out 0).trans rfl; have hcz115_1 : w112.cell? ⟨gb177, 1, none⟩ = some (.int .i64 a0_1) := (blk_cell BK177.out 1).trans rfl; have hcz115_2 : w112.cell? ⟨gb177, 2, none⟩ = some (.slice A0_2 l0_2.length c0_2) := (blk_cell BK177.out 2).trans rfl; have hcz115_3 : w112.cell? ⟨gb177, 3, none⟩ = some (.int .i64 a0_3) := (blk_cell BK177.out 3).trans rfl; have hcz115_4 : w112.cell? ⟨gb177, 4, none⟩ = some (.int .i64 a0_4) := (blk_cell BK177.out 4).trans rfl; have hcz115_5 : w112.cell? ⟨gb177, 5, none⟩ = some (.int .i64 a0_5) := (blk_cell BK177.out 5).trans rfl; have hcz115_6 : w112.cell? ⟨gb177, 6, none⟩ = some (.int .i64 a0_6) := (blk_cell BK177.out 6).trans rfl; have hfz115_0 := blk_frozen BK177.out 0; have hfz115_1 := blk_frozen BK177.out 1; have hfz115_2 := blk_frozen BK177.out 2; have hfz115_3 := blk_frozen BK177.out 3; have hfz115_4 := blk_frozen BK177.out 4; have hfz115_5 := blk_frozen BK177.out 5; have hfz115_6 := blk_frozen BK177.out 6) | ((with_reducible refine gate_callee (f := 11) rfl ?_); refine goesL_ (some 83) rfl rfl Try.func11 (by kernel_rfl) rfl #[.agg #[.int .i64 a0_0, .int .i64 a0_1, .slice A0_2 l0_2.length c0_2, .int .i64 a0_3, .int .i64 a0_4, .int .i64 a0_5, .int .i64 a0_6]] rfl (by (try simp only [List.map_toArray, List.map_cons, List.map_nil]); first | done | rfl | (simp only [List.length_drop, List.length_take]; rfl)) ?_; (with_reducible refine (laws_toTerrain.calls kj61 a0_0 a0_1 _ _ l0_2 a0_3 a0_4 a0_5 a0_6 t237 t238 t239 t242 t243 t244 t245 _ ?side1 ?side2 A103.out).mono ?_); (case side1 => repeat (first | exact (Kd.C_below HR0_2.out HB.out) | (with_reducible refine Kd.C_alloc ?_ _) | (with_reducible refine Kd.C_drewN ?_ _) | (with_reducible refine Kd.C_drew ?_))); (case side2 => exact HC0_2.out); rintro e w116 ⟨v240, rfl, ho0, hb⟩; refine ⟨_, rfl, ?_⟩; have n0_ := am (Kd.R_elder' (by (with_reducible repeat (first | apply Kd.R_alloc | apply Kd.R_drewN | apply Kd.R_drew)); exact HO_199002.out) (Kd.R_base ho0) hb); have n1_ := am (Kd.R_elder' (by (with_reducible repeat (first | apply Kd.R_alloc | apply Kd.R_drewN | apply Kd.R_drew)); exact HO_209002.out) (Kd.R_base ho0) hb); have n2_ := am (Kd.R_elder' (by (with_reducible repeat (first | apply Kd.R_alloc | apply Kd.R_drewN | apply Kd.R_drew)); exact HO_220002.out) (Kd.R_base ho0) hb); have n3_ := am (Kd.R_lower (Kd.R_new' (Kd.R_new' (Kd.R_new' ho0 (Kd.R_lt (by (with_reducible repeat (first | apply Kd.R_alloc | apply Kd.R_drewN | apply Kd.R_drew)); exact HO_199002.out))) (Kd.R_lt (by (with_reducible repeat (first | apply Kd.R_alloc | apply Kd.R_drewN | apply Kd.R_drew)); exact HO_209002.out))) (Kd.R_lt (by (with_reducible repeat (first | apply Kd.R_alloc | apply Kd.R_drewN | apply Kd.R_drew)); exact HO_220002.out))) (below_size (by repeat (first | (with_reducible first | exact HB.out | apply ba | apply bn | apply below_drew1 | refine below_set ?_ GE177.out | refine below_set ?_ GE198.out | refine below_set ?_ GE208.out | refine below_set ?_ GE219.out) | exact HB.out)))); have n4_ := am (blk_below (g := gb177) (o := .cells #[.int .i64 a0_0, .int .i64 a0_1, .slice A0_2 l0_2.length c0_2, .int .i64 a0_3, .int .i64 a0_4, .int .i64 a0_5, .int .i64 a0_6] 24 (0, 0)) (by (with_reducible repeat (first | apply kn | apply kd | apply ka)); exact BK177.out) hb); have n5_ := am (blk_below (g := gb198) (o := .cells #[.int .i64 t188, .int .i64 t189, .slice Ao24 t190.length co24, .int .i64 t193, .int .i64 t194, .int .i64 t195, .int .i64 t196] 27 (0, 0)) (by (with_reducible repeat (first | apply kn | apply kd | apply ka)); exact BK198.out) hb); have n6_ := am (blk_below (g := gb208) (o := .cells #[.int .i64 t199, .int .i64 t200, .slice Ao31 t232.length co31, .int .i64 t204, .int .i64 t205, .int .i64 t206, .int .i64 t207] 27 (0, 0)) (by (with_reducible repeat (first | apply kn | apply kd | apply ka)); exact BK208.out) hb); have n7_ := am (blk_below (g := gb219) (o := .cells #[.int .i64 t209, .int .i64 t210, .slice Ao38 t211.length co38, .int .i64 t214, .int .i64 t215, .int .i64 t216, .int .i64 t217] 27 (0, 0)) (by (with_reducible repeat (first | apply kn | apply kd | apply ka)); exact BK219.out) hb); have n8_ := am (below_step (by repeat (first | (with_reducible first | exact HB.out | apply ba | apply bn | apply below_drew1 | refine below_set ?_ GE177.out | refine below_set ?_ GE198.out | refine below_set ?_ GE208.out | refine below_set ?_ GE219.out) | exact HB.out)) hb); clear HO_199002; clear HO_209002; clear HO_220002; clear BK177; clear BK198; clear BK208; clear BK219; clear HB; have HO_199002 := n0_; have HO_209002 := n1_; have HO_220002 := n2_; have HO241 := n3_; have BK177 := n4_; have BK198 := n5_; have BK208 := n6_; have BK219 := n7_; have HB := n8_; clear n0_ n1_ n2_ n3_ n4_ n5_ n6_ n7_ n8_; (try clear hb); (try clear hb2); (try clear hk); (try clear hi); (try clear ho0); obtain ⟨Ao117, co117, eo117⟩ := Kd.R_slice HO241.out; subst eo117) | ((with_reducible refine gate_callee (f := 15) rfl ?_); refine goesL_ (some 86) rfl rfl Try.func15 (by kernel_rfl) rfl #[.agg #[.int .i64 t237, .int .i64 t238, .slice Ao117 t239.length co117, .int .i64 t242, .int .i64 t243, .int .i64 t244, .int .i64 t245], .int .i64 a1, .int .i64 a2] rfl (by (try simp only [List.map_toArray, List.map_cons, List.map_nil]); first | done | rfl | (simp only [List.length_drop, List.length_take]; rfl)) ?_; (with_reducible refine (impl_SetHeight.calls kj61 t237 t238 _ _ t239 t242 t243 t244 t245 a1 a2 t246 t247 t248 t251 t252 t253 t254 t255 _ ?side1 ?side2 A104.out).mono ?_); (case side1 => repeat (first | exact (Kd.R_reads' HO241.out).2.2 | (with_reducible refine Kd.C_alloc ?_ _) | (with_reducible refine Kd.C_drewN ?_ _) | (with_reducible refine Kd.C_drew ?_))); (case side2 => exact (Kd.R_reads' HO241.out).2.1); rintro e w118 ⟨v249, rfl, ho0, hb⟩; refine ⟨_, rfl, ?_⟩; have n0_ := am (Kd.R_elder' (by (with_reducible repeat (first | apply Kd.R_alloc | apply Kd.R_drewN | apply Kd.R_drew)); exact HO_199002.out) (Kd.R_base ho0) hb); have n1_ := am (Kd.R_elder' (by (with_reducible repeat (first | apply Kd.R_alloc | apply Kd.R_drewN | apply Kd.R_drew)); exact HO_209002.out) (Kd.R_base ho0) hb); have n2_ := am (Kd.R_elder' (by (with_reducible repeat (first | apply Kd.R_alloc | apply Kd.R_drewN | apply Kd.R_drew)); exact HO_220002.out) (Kd.R_base ho0) hb); have n3_ := am (Kd.R_elder' (by (with_reducible repeat (first | apply Kd.R_alloc | apply Kd.R_drewN | apply Kd.R_drew)); exact HO241.out) (Kd.R_base ho0) hb); have n4_ := am (Kd.R_lower (Kd.R_new' (Kd.R_new' (Kd.R_new' (Kd.R_new' ho0 (Kd.R_lt (by (with_reducible repeat (first | apply Kd.R_alloc | apply Kd.R_drewN | apply Kd.R_drew)); exact HO_199002.out))) (Kd.R_lt (by (with_reducible repeat (first | apply Kd.R_alloc | apply Kd.R_drewN | apply Kd.R_drew)); exact HO_209002.out))) (Kd.R_lt (by (with_reducible repeat (first | apply Kd.R_alloc | apply Kd.R_drewN | apply Kd.R_drew)); exact HO_220002.out))) (Kd.R_lt (by (with_reducible repeat (first | apply Kd.R_alloc | apply Kd.R_drewN | apply Kd.R_drew)); exact HO241.out))) (below_size (by repeat (first | (with_reducible first | exact HB.out | apply ba | apply bn | apply below_drew1 | refine below_set ?_ GE177.out | refine below_set ?_ GE198.out | refine below_set ?_ GE208.out | refine below_set ?_ GE219.out) | exact HB.out)))); have n5_ := am (blk_below (g := gb177) (o := .cells #[.int .i64 a0_0, .int .i64 a0_1, .slice A0_2 l0_2.length c0_2, .int .i64 a0_3, .int .i64 a0_4, .int .i64 a0_5, .int .i64 a0_6] 24 (0, 0)) (by (with_reducible repeat (first | apply kn | apply kd | apply ka)); exact BK177.out) hb); have n6_ := am (blk_below (g := gb198) (o := .cells #[.int .i64 t188, .int .i64 t189, .slice Ao24 t190.length co24, .int .i64 t193, .int .i64 t194, .int .i64 t195, .int .i64 t196] 27 (0, 0)) (by (with_reducible repeat (first | apply kn | apply kd | apply ka)); exact BK198.out) hb); have n7_ := am (blk_below (g := gb208) (o := .cells #[.int .i64 t199, .int .i64 t200, .slice Ao31 t232.length co31, .int .i64 t204, .int .i64 t205, .int .i64 t206, .int .i64 t207] 27 (0, 0)) (by (with_reducible repeat (first | apply kn | apply kd | apply ka)); exact BK208.out) hb); have n8_ := am (blk_below (g := gb219) (o := .cells #[.int .i64 t209, .int .i64 t210, .slice Ao38 t211.length co38, .int .i64 t214, .int .i64 t215, .int .i64 t216, .int .i64 t217] 27 (0, 0)) (by (with_reducible repeat (first | apply kn | apply kd | apply ka)); exact BK219.out) hb); have n9_ := am (below_step (by repeat (first | (with_reducible first | exact HB.out | apply ba | apply bn | apply below_drew1 | refine below_set ?_ GE177.out | refine below_set ?_ GE198.out | refine below_set ?_ GE208.out | refine below_set ?_ GE219.out) | exact HB.out)) hb); clear HO_199002; clear HO_209002; clear HO_220002; clear HO241; clear BK177; clear BK198; clear BK208; clear BK219; clear HB; have HO_199002 := n0_; have HO_209002 := n1_; have HO_220002 := n2_; have HO241 := n3_; have HO250 := n4_; have BK177 := n5_; have BK198 := n6_; have BK208 := n7_; have BK219 := n8_; have HB := n9_; clear n0_ n1_ n2_ n3_ n4_ n5_ n6_ n7_ n8_ n9_; (try clear hb); (try clear hb2); (try clear hk); (try clear hi); (try clear ho0)) | ((with_reducible refine gate_dst (N := 16) rfl ?_); refine box_event ?hg (N := 16) ?hd (cs := #[.int .i64 0, .int .i64 0, .slice none 0 0, .int .i64 0, .int .i64 0, .int .i64 0, .int .i64 0]) (t := 27) ?hr ?_; (case hd => rfl); (case hg => rfl); (case hr => first | (go_simp; done) | (go_simp; rfl)); intro gb256 hg w119 hbox hb; have n0_ := am (Kd.R_below (by (with_reducible repeat (first | apply Kd.R_alloc | apply Kd.R_drewN | apply Kd.R_drew)); exact HO_199002.out) hb); have n1_ := am (Kd.R_below (by (with_reducible repeat (first | apply Kd.R_alloc | apply Kd.R_drewN | apply Kd.R_drew)); exact HO_209002.out) hb); have n2_ := am (Kd.R_below (by (with_reducible repeat (first | apply Kd.R_alloc | apply Kd.R_drewN | apply Kd.R_drew)); exact HO_220002.out) hb); have n3_ := am (Kd.R_below (by (with_reducible repeat (first | apply Kd.R_alloc | apply Kd.R_drewN | apply Kd.R_drew)); exact HO241.out) hb); have n4_ := am (Kd.R_below (by (with_reducible repeat (first | apply Kd.R_alloc | apply Kd.R_drewN | apply Kd.R_drew)); exact HO250.out) hb); have n5_ := am (blk_below (g := gb177) (o := .cells #[.int .i64 a0_0, .int .i64 a0_1, .slice A0_2 l0_2.length c0_2, .int .i64 a0_3, .int .i64 a0_4, .int .i64 a0_5, .int .i64 a0_6] 24 (0, 0)) (by (with_reducible repeat (first | apply kn | apply kd | apply ka)); exact BK177.out) hb); have n6_ := am (blk_below (g := gb198) (o := .cells #[.int .i64 t188, .int .i64 t189, .slice Ao24 t190.length co24, .int .i64 t193, .int .i64 t194, .int .i64 t195, .int .i64 t196] 27 (0, 0)) (by (with_reducible repeat (first | apply kn | apply kd | apply ka)); exact BK198.out) hb); have n7_ := am (blk_below (g := gb208) (o := .cells #[.int .i64 t199, .int .i64 t200, .slice Ao31 t232.length co31, .int .i64 t204, .int .i64 t205, .int .i64 t206, .int .i64 t207] 27 (0, 0)) (by (with_reducible repeat (first | apply kn | apply kd | apply ka)); exact BK208.out) hb); have n8_ := am (blk_below (g := gb219) (o := .cells #[.int .i64 t209, .int .i64 t210, .slice Ao38 t211.length co38, .int .i64 t214, .int .i64 t215, .int .i64 t216, .int .i64 t217] 27 (0, 0)) (by (with_reducible repeat (first | apply kn | apply kd | apply ka)); exact BK219.out) hb); have n9_ := am (below_step (by repeat (first | (with_reducible first | exact HB.out | apply ba | apply bn | apply below_drew1 | refine below_set ?_ GE177.out | refine below_set ?_ GE198.out | refine below_set ?_ GE208.out | refine below_set ?_ GE219.out) | exact HB.out)) hb); have n10_ := am (hbox); have n11_ := am ((by rw [hg]; exact (below_size (by repeat (first | (with_reducible first | exact HB.out | apply ba | apply bn | apply below_drew1 | refine below_set ?_ GE177.out | refine below_set ?_ GE198.out | refine below_set ?_ GE208.out | refine below_set ?_ GE219.out) | exact HB.out))) : w.heap.size ≤ gb256)); have n12_ := am ((by rw [hg]; exact (below_size (by repeat (first | (with_reducible first | exact HB.out | apply ba | apply bn | apply below_drew1 | refine below_set ?_ GE177.out | refine below_set ?_ GE198.out | refine below_set ?_ GE208.out | refine below_set ?_ GE219.out) | exact HB.out))) : w.heap.size ≤ gb256)); have n13_ := am ((by rw [hg]; exact Nat.ne_of_lt (blk_lt (g := gb177) (o := .cells #[.int .i64 a0_0, .int .i64 a0_1, .slice A0_2 l0_2.length c0_2, .int .i64 a0_3, .int .i64 a0_4, .int .i64 a0_5, .int .i64 a0_6] 24 (0, 0)) (by (with_reducible repeat (first | apply kn | apply kd | apply ka)); exact BK177.out)) : gb177 ≠ gb256)); have n14_ := am ((by rw [hg]; exact Nat.ne_of_gt (blk_lt (g := gb177) (o := .cells #[.int .i64 a0_0, .int .i64 a0_1, .slice A0_2 l0_2.length c0_2, .int .i64 a0_3, .int .i64 a0_4, .int .i64 a0_5, .int .i64 a0_6] 24 (0, 0)) (by (with_reducible repeat (first | apply kn | apply kd | apply ka)); exact BK177.out)) : gb256 ≠ gb177)); have n15_ := am ((by rw [hg]; exact Nat.ne_of_lt (blk_lt (g := gb198) (o := .cells #[.int .i64 t188, .int .i64 t189, .slice Ao24 t190.length co24, .int .i64 t193, .int .i64 t194, .int .i64 t195, .int .i64 t196] 27 (0, 0)) (by (with_reducible repeat (first | apply kn | apply kd | apply ka)); exact BK198.out)) : gb198 ≠ gb256)); have n16_ := am ((by rw [hg]; exact Nat.ne_of_gt (blk_lt (g := gb198) (o := .cells #[.int .i64 t188, .int .i64 t189, .slice Ao24 t190.length co24, .int .i64 t193, .int .i64 t194, .int .i64 t195, .int .i64 t196] 27 (0, 0)) (by (with_reducible repeat (first | apply kn | apply kd | apply ka)); exact BK198.out)) : gb256 ≠ gb198)); have n17_ := am ((by rw [hg]; exact Nat.ne_of_lt (blk_lt (g := gb208) (o := .cells #[.int .i64 t199, .int .i64 t200, .slice Ao31 t232.length co31, .int .i64 t204, .int .i64 t205, .int .i64 t206, .int .i64 t207] 27 (0, 0)) (by (with_reducible repeat (first | apply kn | apply kd | apply ka)); exact BK208.out)) : gb208 ≠ gb256)); have n18_ := am ((by rw [hg]; exact Nat.ne_of_gt (blk_lt (g := gb208) (o := .cells #[.int .i64 t199, .int .i64 t200, .slice Ao31 t232.length co31, .int .i64 t204, .int .i64 t205, .int .i64 t206, .int .i64 t207] 27 (0, 0)) (by (with_reducible repeat (first | apply kn | apply kd | apply ka)); exact BK208.out)) : gb256 ≠ gb208)); have n19_ := am ((by rw [hg]; exact Nat.ne_of_lt (blk_lt (g := gb219) (o := .cells #[.int .i64 t209, .int .i64 t210, .slice Ao38 t211.length co38, .int .i64 t214, .int .i64 t215, .int .i64 t216, .int .i64 t217] 27 (0, 0)) (by (with_reducible repeat (first | apply kn | apply kd | apply ka)); exact BK219.out)) : gb219 ≠ gb256)); have n20_ := am ((by rw [hg]; exact Nat.ne_of_gt (blk_lt (g := gb219) (o := .cells #[.int .i64 t209, .int .i64 t210, .slice Ao38 t211.length co38, .int .i64 t214, .int .i64 t215, .int .i64 t216, .int .i64 t217] 27 (0, 0)) (by (with_reducible repeat (first | apply kn | apply kd | apply ka)); exact BK219.out)) : gb256 ≠ gb219)); clear HO_199002; clear HO_209002; clear HO_220002; clear HO241; clear HO250; clear BK177; clear BK198; clear BK208; clear BK219; clear HB; have HO_199002 := n0_; have HO_209002 := n1_; have HO_220002 := n2_; have HO241 := n3_; have HO250 := n4_; have BK177 := n5_; have BK198 := n6_; have BK208 := n7_; have BK219 := n8_; have HB := n9_; have BK256 := n10_; have GW256 := n11_; have GE256 := n12_; have NB177_256 := n13_; have NB256_177 := n14_; have NB198_256 := n15_; have NB256_198 := n16_; have NB208_256 := n17_; have NB256_208 := n18_; have NB219_256 := n19_; have NB256_219 := n20_; clear n0_ n1_ n2_ n3_ n4_ n5_ n6_ n7_ n8_ n9_ n10_ n11_ n12_ n13_ n14_ n15_ n16_ n17_ n18_ n19_ n20_; clear hb hbox hg; have hnb120 := NB256_177.out; have hnc120 := NB177_256.out; have hnb121 := NB256_198.out; have hnc121 := NB198_256.out; have hnb122 := NB256_208.out; have hnc122 := NB208_256.out; have hnb123 := NB256_219.out; have hnc123 := NB219_256.out; have hcz124_0 : w119.cell? ⟨gb256, 0, none⟩ = some (.int .i64 0) := (blk_cell BK256.out 0).trans rfl; have hcz124_1 : w119.cell? ⟨gb256, 1, none⟩ = some (.int .i64 0) := (blk_cell BK256.out 1).trans rfl; have hcz124_2 : w119.cell? ⟨gb256, 2, none⟩ = some (.slice none 0 0) := (blk_cell BK256.out 2).trans rfl; have hcz124_3 : w119.cell? ⟨gb256, 3, none⟩ = some (.int .i64 0) := (blk_cell BK256.out 3).trans rfl; have hcz124_4 : w119.cell? ⟨gb256, 4, none⟩ = some (.int .i64 0) := (blk_cell BK256.out 4).trans rfl; have hcz124_5 : w119.cell? ⟨gb256, 5, none⟩ = some (.int .i64 0) := (blk_cell BK256.out 5).trans rfl; have hcz124_6 : w119.cell? ⟨gb256, 6, none⟩ = some (.int .i64 0) := (blk_cell BK256.out 6).trans rfl; have hfz124_0 := blk_frozen BK256.out 0; have hfz124_1 := blk_frozen BK256.out 1; have hfz124_2 := blk_frozen BK256.out 2; have hfz124_3 := blk_frozen BK256.out 3; have hfz124_4 := blk_frozen BK256.out 4; have hfz124_5 := blk_frozen BK256.out 5; have hfz124_6 := blk_frozen BK256.out 6; obtain ⟨Ao125, co125, eo125⟩ := Kd.R_slice HO250.out; subst eo125))
           (try simp only [Act.put, List.setIfInBounds_toArray, List.set_cons_zero, List.set_cons_succ])
           go_cut [97] (fun v97 wc => ∃ (kq : Nat) (x97_104 : Bool), v97 = .bool x97_104 ∧ Aside0 (laws_FnExactSetHeight.j2 kq t234 x97_104 t209 t210 t235 t214 t215 t216 t217 = some r) ∧ Aside0 (kq ≤ kj61) ∧ Aside0 (Kd.R (Kd.int .i64) 3 wc w.heap.size (fun k_ => some k_ ≠ ((.slice Ao31 t232.length co31) : Value).ownBlock ∧ some k_ ≠ ((.slice Ao38 t211.length co38) : Value).ownBlock ∧ some k_ ≠ ((.slice Ao125 t248.length co125) : Value).ownBlock) (.slice Ao24 t190.length co24) t190) ∧ Aside0 (Kd.R (Kd.int .i64) 3 wc w.heap.size (fun k_ => some k_ ≠ ((.slice Ao24 t190.length co24) : Value).ownBlock ∧ some k_ ≠ ((.slice Ao38 t211.length co38) : Value).ownBlock ∧ some k_ ≠ ((.slice Ao125 t248.length co125) : Value).ownBlock) (.slice Ao31 t232.length co31) t232) ∧ Aside0 (Kd.R (Kd.int .i64) 3 wc w.heap.size (fun k_ => some k_ ≠ ((.slice Ao24 t190.length co24) : Value).ownBlock ∧ some k_ ≠ ((.slice Ao31 t232.length co31) : Value).ownBlock ∧ some k_ ≠ ((.slice Ao125 t248.length co125) : Value).ownBlock) (.slice Ao38 t211.length co38) t235) ∧ Aside0 (Kd.R (Kd.int .i64) 3 wc w.heap.size (fun k_ => some k_ ≠ ((.slice Ao24 t190.length co24) : Value).ownBlock ∧ some k_ ≠ ((.slice Ao31 t232.length co31) : Value).ownBlock ∧ some k_ ≠ ((.slice Ao38 t211.length co38) : Value).ownBlock) (.slice Ao125 t248.length co125) t248) ∧ Aside0 (wc.heap[gb177]? = some (.cells #[.int .i64 a0_0, .int .i64 a0_1, (.slice A0_2 l0_2.length c0_2), .int .i64 a0_3, .int .i64 a0_4, .int .i64 a0_5, .int .i64 a0_6] 24 (0, 0))) ∧ Aside0 (wc.heap[gb198]? = some (.cells #[.int .i64 t188, .int .i64 t189, (.slice Ao24 t190.length co24), .int .i64 t193, .int .i64 t194, .int .i64 t195, .int .i64 t196] 27 (0, 0))) ∧ Aside0 (wc.heap[gb208]? = some (.cells #[.int .i64 t199, .int .i64 t200, (.slice Ao31 t232.length co31), .int .i64 t204, .int .i64 t205, .int .i64 t206, .int .i64 t207] 27 (0, 0))) ∧ Aside0 (wc.heap[gb219]? = some (.cells #[.int .i64 t209, .int .i64 t210, (.slice Ao38 t211.length co38), .int .i64 t214, .int .i64 t215, .int .i64 t216, .int .i64 t217] 27 (0, 0))) ∧ Aside0 (wc.heap[gb256]? = some (.cells #[.int .i64 t246, .int .i64 t247, (.slice Ao125 t248.length co125), .int .i64 t251, .int .i64 t252, .int .i64 t253, .int .i64 t254] 27 (0, 0))) ∧ Aside0 (Below w.heap.size w wc))
           case first =>
            have H := HC105.out
            clear HC105
            replace H := Option.bind_eq_some_iff.mp H
            obtain ⟨t257, A1260, H⟩ := H
            replace H : (if t257 = true then (laws_FnExactSetHeight.j2 kj61 t234 (t255 != t197) t209 t210 t235 t214 t215 t216 t217) else (laws_FnExactSetHeight.j2 kj61 t234 true t209 t210 t235 t214 t215 t216 t217)) = some r := H
            have A126 := Aside0.mk A1260
            clear A1260
            by_cases c127 : t257 = true
            ·subst c127
             have H1 : (laws_FnExactSetHeight.j2 kj61 t234 (t255 != t197) t209 t210 t235 t214 t215 t216 t217) = some r := by rw [if_pos rfl] at H; exact H
             clear H
             have H := H1
             clear H1
             have H' := Aside0.mk H
             clear H
             have hnb128 := NB256_177.out
             have hnc128 := NB177_256.out
             have hnb129 := NB256_198.out
             have hnc129 := NB198_256.out
             have hnb130 := NB256_208.out
             have hnc130 := NB208_256.out
             have hnb131 := NB256_219.out
             have hnc131 := NB219_256.out
             have hcz132_0 : w119.cell? ⟨gb256, 0, none⟩ = some (.int .i64 0) := (blk_cell BK256.out 0).trans rfl
             have hcz132_1 : w119.cell? ⟨gb256, 1, none⟩ = some (.int .i64 0) := (blk_cell BK256.out 1).trans rfl
             have hcz132_2 : w119.cell? ⟨gb256, 2, none⟩ = some (.slice none 0 0) := (blk_cell BK256.out 2).trans rfl
             have hcz132_3 : w119.cell? ⟨gb256, 3, none⟩ = some (.int .i64 0) := (blk_cell BK256.out 3).trans rfl
             have hcz132_4 : w119.cell? ⟨gb256, 4, none⟩ = some (.int .i64 0) := (blk_cell BK256.out 4).trans rfl
             have hcz132_5 : w119.cell? ⟨gb256, 5, none⟩ = some (.int .i64 0) := (blk_cell BK256.out 5).trans rfl
             have hcz132_6 : w119.cell? ⟨gb256, 6, none⟩ = some (.int .i64 0) := (blk_cell BK256.out 6).trans rfl
             have hfz132_0 := blk_frozen BK256.out 0
             have hfz132_1 := blk_frozen BK256.out 1
             have hfz132_2 := blk_frozen BK256.out 2
             have hfz132_3 := blk_frozen BK256.out 3
             have hfz132_4 := blk_frozen BK256.out 4
             have hfz132_5 := blk_frozen BK256.out 5
             have hfz132_6 := blk_frozen BK256.out 6
             have hnb133 := NB198_177.out
             have hnc133 := NB177_198.out
             have hnb134 := NB198_208.out
             have hnc134 := NB208_198.out
             have hnb135 := NB198_219.out
             have hnc135 := NB219_198.out
             have hcz136_0 : w119.cell? ⟨gb198, 0, none⟩ = some (.int .i64 t188) := (blk_cell BK198.out 0).trans rfl
             have hcz136_1 : w119.cell? ⟨gb198, 1, none⟩ = some (.int .i64 t189) := (blk_cell BK198.out 1).trans rfl
             have hcz136_2 : w119.cell? ⟨gb198, 2, none⟩ = some (.slice Ao24 t190.length co24) := (blk_cell BK198.out 2).trans rfl
             have hcz136_3 : w119.cell? ⟨gb198, 3, none⟩ = some (.int .i64 t193) := (blk_cell BK198.out 3).trans rfl
             have hcz136_4 : w119.cell? ⟨gb198, 4, none⟩ = some (.int .i64 t194) := (blk_cell BK198.out 4).trans rfl
             have hcz136_5 : w119.cell? ⟨gb198, 5, none⟩ = some (.int .i64 t195) := (blk_cell BK198.out 5).trans rfl
             have hcz136_6 : w119.cell? ⟨gb198, 6, none⟩ = some (.int .i64 t196) := (blk_cell BK198.out 6).trans rfl
             have hfz136_0 := blk_frozen BK198.out 0
             have hfz136_1 := blk_frozen BK198.out 1
             have hfz136_2 := blk_frozen BK198.out 2
             have hfz136_3 := blk_frozen BK198.out 3
             have hfz136_4 := blk_frozen BK198.out 4
             have hfz136_5 := blk_frozen BK198.out 5
             have hfz136_6 := blk_frozen BK198.out 6
             go_wp2_with (first | ((with_reducible refine gate_callee (f := 13) rfl ?_); refine goesL_ (some 91) rfl rfl Try.func13 (by kernel_rfl) rfl #[.agg #[.int .i64 t246, .int .i64 t247, .slice Ao125 t248.length co125, .int .i64 t251, .int .i64 t252, .int .i64 t253, .int .i64 t254], .agg #[.int .i64 t188, .int .i64 t189, .slice Ao24 t190.length co24, .int .i64 t193, .int .i64 t194, .int .i64 t195, .int .i64 t196]] rfl (by (try simp only [List.map_toArray, List.map_cons, List.map_nil]); first | done | rfl | (simp only [List.length_drop, List.length_take]; rfl)) ?_; (with_reducible refine (laws_eqTerrain.calls kj61 t246 t247 _ _ t248 t251 t252 t253 t254 t188 t189 _ _ t190 t193 t194 t195 t196 true _ ?side1 ?side2 ?side3 ?side4 A126.out).mono ?_); (case side1 => refine (Kd.R_reads' (e := 3) (base := w.heap.size) (ok := fun k_ => ((((True ∧ some k_ ≠ (.slice Ao24 t190.length co24 : Value).ownBlock) ∧ some k_ ≠ (.slice Ao31 t232.length co31 : Value).ownBlock) ∧ some k_ ≠ (.slice Ao38 t211.length co38 : Value).ownBlock) ∧ some k_ ≠ (.slice Ao117 t239.length co117 : Value).ownBlock)) (n := t248.length) (c := co125) ?_).2.2; exact (by (with_reducible repeat (first | apply Kd.R_alloc | apply Kd.R_drewN | apply Kd.R_drew)); exact (Kd.R_mono (Kd.R_far (p := ⟨gb256, 6, none⟩) (Kd.R_far (p := ⟨gb256, 5, none⟩) (Kd.R_far (p := ⟨gb256, 4, none⟩) (Kd.R_far (p := ⟨gb256, 3, none⟩) (Kd.R_far (p := ⟨gb256, 2, none⟩) (Kd.R_far (p := ⟨gb256, 1, none⟩) (Kd.R_far (p := ⟨gb256, 0, none⟩) (Kd.R_types HO250.out BK256.out (by decide)) (fun _ hk => hk.2) (.int .i64 t246)) (fun _ hk => hk.2) (.int .i64 t247)) (fun _ hk => hk.2) (.slice Ao125 t248.length co125)) (fun _ hk => hk.2) (.int .i64 t251)) (fun _ hk => hk.2) (.int .i64 t252)) (fun _ hk => hk.2) (.int .i64 t253)) (fun _ hk => hk.2) (.int .i64 t254)) (fun _ h_ => h_.1)))); (case side2 => exact (Kd.R_reads' HO250.out).2.1); (case side3 => refine (Kd.R_reads' (e := 3) (base := w.heap.size) (ok := fun k_ => (((some k_ ≠ (.slice Ao31 t232.length co31 : Value).ownBlock ∧ some k_ ≠ (.slice Ao38 t211.length co38 : Value).ownBlock) ∧ some k_ ≠ (.slice Ao117 t239.length co117 : Value).ownBlock) ∧ some k_ ≠ (.slice Ao125 t248.length co125 : Value).ownBlock)) (n := t190.length) (c := co24) ?_).2.2; exact (by (with_reducible repeat (first | apply Kd.R_alloc | apply Kd.R_drewN | apply Kd.R_drew)); exact (Kd.R_mono (Kd.R_far (p := ⟨gb256, 6, none⟩) (Kd.R_far (p := ⟨gb256, 5, none⟩) (Kd.R_far (p := ⟨gb256, 4, none⟩) (Kd.R_far (p := ⟨gb256, 3, none⟩) (Kd.R_far (p := ⟨gb256, 2, none⟩) (Kd.R_far (p := ⟨gb256, 1, none⟩) (Kd.R_far (p := ⟨gb256, 0, none⟩) (Kd.R_types HO_199002.out BK256.out (by decide)) (fun _ hk => hk.2) (.int .i64 t246)) (fun _ hk => hk.2) (.int .i64 t247)) (fun _ hk => hk.2) (.slice Ao125 t248.length co125)) (fun _ hk => hk.2) (.int .i64 t251)) (fun _ hk => hk.2) (.int .i64 t252)) (fun _ hk => hk.2) (.int .i64 t253)) (fun _ hk => hk.2) (.int .i64 t254)) (fun _ h_ => h_.1)))); (case side4 => exact (Kd.R_reads' HO_199002.out).2.1); rintro e w137 ⟨rfl, hb⟩; refine ⟨_, rfl, ?_⟩; have n0_ := am (Kd.R_below (by (with_reducible repeat (first | apply Kd.R_alloc | apply Kd.R_drewN | apply Kd.R_drew)); exact (Kd.R_mono (Kd.R_far (p := ⟨gb256, 6, none⟩) (Kd.R_far (p := ⟨gb256, 5, none⟩) (Kd.R_far (p := ⟨gb256, 4, none⟩) (Kd.R_far (p := ⟨gb256, 3, none⟩) (Kd.R_far (p := ⟨gb256, 2, none⟩) (Kd.R_far (p := ⟨gb256, 1, none⟩) (Kd.R_far (p := ⟨gb256, 0, none⟩) (Kd.R_types HO_199002.out BK256.out (by decide)) (fun _ hk => hk.2) (.int .i64 t246)) (fun _ hk => hk.2) (.int .i64 t247)) (fun _ hk => hk.2) (.slice Ao125 t248.length co125)) (fun _ hk => hk.2) (.int .i64 t251)) (fun _ hk => hk.2) (.int .i64 t252)) (fun _ hk => hk.2) (.int .i64 t253)) (fun _ hk => hk.2) (.int .i64 t254)) (fun _ h_ => h_.1))) hb); have n1_ := am (Kd.R_below (by (with_reducible repeat (first | apply Kd.R_alloc | apply Kd.R_drewN | apply Kd.R_drew)); exact (Kd.R_mono (Kd.R_far (p := ⟨gb256, 6, none⟩) (Kd.R_far (p := ⟨gb256, 5, none⟩) (Kd.R_far (p := ⟨gb256, 4, none⟩) (Kd.R_far (p := ⟨gb256, 3, none⟩) (Kd.R_far (p := ⟨gb256, 2, none⟩) (Kd.R_far (p := ⟨gb256, 1, none⟩) (Kd.R_far (p := ⟨gb256, 0, none⟩) (Kd.R_types HO_209002.out BK256.out (by decide)) (fun _ hk => hk.2) (.int .i64 t246)) (fun _ hk => hk.2) (.int .i64 t247)) (fun _ hk => hk.2) (.slice Ao125 t248.length co125)) (fun _ hk => hk.2) (.int .i64 t251)) (fun _ hk => hk.2) (.int .i64 t252)) (fun _ hk => hk.2) (.int .i64 t253)) (fun _ hk => hk.2) (.int .i64 t254)) (fun _ h_ => h_.1))) hb); have n2_ := am (Kd.R_below (by (with_reducible repeat (first | apply Kd.R_alloc | apply Kd.R_drewN | apply Kd.R_drew)); exact (Kd.R_mono (Kd.R_far (p := ⟨gb256, 6, none⟩) (Kd.R_far (p := ⟨gb256, 5, none⟩) (Kd.R_far (p := ⟨gb256, 4, none⟩) (Kd.R_far (p := ⟨gb256, 3, none⟩) (Kd.R_far (p := ⟨gb256, 2, none⟩) (Kd.R_far (p := ⟨gb256, 1, none⟩) (Kd.R_far (p := ⟨gb256, 0, none⟩) (Kd.R_types HO_220002.out BK256.out (by decide)) (fun _ hk => hk.2) (.int .i64 t246)) (fun _ hk => hk.2) (.int .i64 t247)) (fun _ hk => hk.2) (.slice Ao125 t248.length co125)) (fun _ hk => hk.2) (.int .i64 t251)) (fun _ hk => hk.2) (.int .i64 t252)) (fun _ hk => hk.2) (.int .i64 t253)) (fun _ hk => hk.2) (.int .i64 t254)) (fun _ h_ => h_.1))) hb); have n3_ := am (Kd.R_below (by (with_reducible repeat (first | apply Kd.R_alloc | apply Kd.R_drewN | apply Kd.R_drew)); exact (Kd.R_mono (Kd.R_far (p := ⟨gb256, 6, none⟩) (Kd.R_far (p := ⟨gb256, 5, none⟩) (Kd.R_far (p := ⟨gb256, 4, none⟩) (Kd.R_far (p := ⟨gb256, 3, none⟩) (Kd.R_far (p := ⟨gb256, 2, none⟩) (Kd.R_far (p := ⟨gb256, 1, none⟩) (Kd.R_far (p := ⟨gb256, 0, none⟩) (Kd.R_types HO241.out BK256.out (by decide)) (fun _ hk => hk.2) (.int .i64 t246)) (fun _ hk => hk.2) (.int .i64 t247)) (fun _ hk => hk.2) (.slice Ao125 t248.length co125)) (fun _ hk => hk.2) (.int .i64 t251)) (fun _ hk => hk.2) (.int .i64 t252)) (fun _ hk => hk.2) (.int .i64 t253)) (fun _ hk => hk.2) (.int .i64 t254)) (fun _ h_ => h_.1))) hb); have n4_ := am (Kd.R_below (by (with_reducible repeat (first | apply Kd.R_alloc | apply Kd.R_drewN | apply Kd.R_drew)); exact (Kd.R_mono (Kd.R_far (p := ⟨gb256, 6, none⟩) (Kd.R_far (p := ⟨gb256, 5, none⟩) (Kd.R_far (p := ⟨gb256, 4, none⟩) (Kd.R_far (p := ⟨gb256, 3, none⟩) (Kd.R_far (p := ⟨gb256, 2, none⟩) (Kd.R_far (p := ⟨gb256, 1, none⟩) (Kd.R_far (p := ⟨gb256, 0, none⟩) (Kd.R_types HO250.out BK256.out (by decide)) (fun _ hk => hk.2) (.int .i64 t246)) (fun _ hk => hk.2) (.int .i64 t247)) (fun _ hk => hk.2) (.slice Ao125 t248.length co125)) (fun _ hk => hk.2) (.int .i64 t251)) (fun _ hk => hk.2) (.int .i64 t252)) (fun _ hk => hk.2) (.int .i64 t253)) (fun _ hk => hk.2) (.int .i64 t254)) (fun _ h_ => h_.1))) hb); have n5_ := am (blk_below (g := gb177) (o := .cells #[.int .i64 a0_0, .int .i64 a0_1, .slice A0_2 l0_2.length c0_2, .int .i64 a0_3, .int .i64 a0_4, .int .i64 a0_5, .int .i64 a0_6] 24 (0, 0)) (by (with_reducible repeat (first | apply kn | apply kd | apply ka)); refine blk_far ?_ NB177_256.out _; (with_reducible repeat (first | apply kn | apply kd | apply ka)); refine blk_far ?_ NB177_256.out _; (with_reducible repeat (first | apply kn | apply kd | apply ka)); refine blk_far ?_ NB177_256.out _; (with_reducible repeat (first | apply kn | apply kd | apply ka)); refine blk_far ?_ NB177_256.out _; (with_reducible repeat (first | apply kn | apply kd | apply ka)); refine blk_far ?_ NB177_256.out _; (with_reducible repeat (first | apply kn | apply kd | apply ka)); refine blk_far ?_ NB177_256.out _; (with_reducible repeat (first | apply kn | apply kd | apply ka)); refine blk_far ?_ NB177_256.out _; (with_reducible repeat (first | apply kn | apply kd | apply ka)); exact BK177.out) hb); have n6_ := am (blk_below (g := gb198) (o := .cells #[.int .i64 t188, .int .i64 t189, .slice Ao24 t190.length co24, .int .i64 t193, .int .i64 t194, .int .i64 t195, .int .i64 t196] 27 (0, 0)) (by (with_reducible repeat (first | apply kn | apply kd | apply ka)); refine blk_far ?_ NB198_256.out _; (with_reducible repeat (first | apply kn | apply kd | apply ka)); refine blk_far ?_ NB198_256.out _; (with_reducible repeat (first | apply kn | apply kd | apply ka)); refine blk_far ?_ NB198_256.out _; (with_reducible repeat (first | apply kn | apply kd | apply ka)); refine blk_far ?_ NB198_256.out _; (with_reducible repeat (first | apply kn | apply kd | apply ka)); refine blk_far ?_ NB198_256.out _; (with_reducible repeat (first | apply kn | apply kd | apply ka)); refine blk_far ?_ NB198_256.out _; (with_reducible repeat (first | apply kn | apply kd | apply ka)); refine blk_far ?_ NB198_256.out _; (with_reducible repeat (first | apply kn | apply kd | apply ka)); exact BK198.out) hb); have n7_ := am (blk_below (g := gb208) (o := .cells #[.int .i64 t199, .int .i64 t200, .slice Ao31 t232.length co31, .int .i64 t204, .int .i64 t205, .int .i64 t206, .int .i64 t207] 27 (0, 0)) (by (with_reducible repeat (first | apply kn | apply kd | apply ka)); refine blk_far ?_ NB208_256.out _; (with_reducible repeat (first | apply kn | apply kd | apply ka)); refine blk_far ?_ NB208_256.out _; (with_reducible repeat (first | apply kn | apply kd | apply ka)); refine blk_far ?_ NB208_256.out _; (with_reducible repeat (first | apply kn | apply kd | apply ka)); refine blk_far ?_ NB208_256.out _; (with_reducible repeat (first | apply kn | apply kd | apply ka)); refine blk_far ?_ NB208_256.out _; (with_reducible repeat (first | apply kn | apply kd | apply ka)); refine blk_far ?_ NB208_256.out _; (with_reducible repeat (first | apply kn | apply kd | apply ka)); refine blk_far ?_ NB208_256.out _; (with_reducible repeat (first | apply kn | apply kd | apply ka)); exact BK208.out) hb); have n8_ := am (blk_below (g := gb219) (o := .cells #[.int .i64 t209, .int .i64 t210, .slice Ao38 t211.length co38, .int .i64 t214, .int .i64 t215, .int .i64 t216, .int .i64 t217] 27 (0, 0)) (by (with_reducible repeat (first | apply kn | apply kd | apply ka)); refine blk_far ?_ NB219_256.out _; (with_reducible repeat (first | apply kn | apply kd | apply ka)); refine blk_far ?_ NB219_256.out _; (with_reducible repeat (first | apply kn | apply kd | apply ka)); refine blk_far ?_ NB219_256.out _; (with_reducible repeat (first | apply kn | apply kd | apply ka)); refine blk_far ?_ NB219_256.out _; (with_reducible repeat (first | apply kn | apply kd | apply ka)); refine blk_far ?_ NB219_256.out _; (with_reducible repeat (first | apply kn | apply kd | apply ka)); refine blk_far ?_ NB219_256.out _; (with_reducible repeat (first | apply kn | apply kd | apply ka)); refine blk_far ?_ NB219_256.out _; (with_reducible repeat (first | apply kn | apply kd | apply ka)); exact BK219.out) hb); have n9_ := am (blk_below (g := gb256) (o := .cells #[.int .i64 t246, .int .i64 t247, .slice Ao125 t248.length co125, .int .i64 t251, .int .i64 t252, .int .i64 t253, .int .i64 t254] 27 (0, 0)) (by (with_reducible repeat (first | apply kn | apply kd | apply ka)); refine blk_put (cs := #[.int .i64 t246, .int .i64 t247, .slice Ao125 t248.length co125, .int .i64 t251, .int .i64 t252, .int .i64 t253, .int .i64 0]) ?_ 6 _ rfl; (with_reducible repeat (first | apply kn | apply kd | apply ka)); refine blk_put (cs := #[.int .i64 t246, .int .i64 t247, .slice Ao125 t248.length co125, .int .i64 t251, .int .i64 t252, .int .i64 0, .int .i64 0]) ?_ 5 _ rfl; (with_reducible repeat (first | apply kn | apply kd | apply ka)); refine blk_put (cs := #[.int .i64 t246, .int .i64 t247, .slice Ao125 t248.length co125, .int .i64 t251, .int .i64 0, .int .i64 0, .int .i64 0]) ?_ 4 _ rfl; (with_reducible repeat (first | apply kn | apply kd | apply ka)); refine blk_put (cs := #[.int .i64 t246, .int .i64 t247, .slice Ao125 t248.length co125, .int .i64 0, .int .i64 0, .int .i64 0, .int .i64 0]) ?_ 3 _ rfl; (with_reducible repeat (first | apply kn | apply kd | apply ka)); refine blk_put (cs := #[.int .i64 t246, .int .i64 t247, .slice none 0 0, .int .i64 0, .int .i64 0, .int .i64 0, .int .i64 0]) ?_ 2 _ rfl; (with_reducible repeat (first | apply kn | apply kd | apply ka)); refine blk_put (cs := #[.int .i64 t246, .int .i64 0, .slice none 0 0, .int .i64 0, .int .i64 0, .int .i64 0, .int .i64 0]) ?_ 1 _ rfl; (with_reducible repeat (first | apply kn | apply kd | apply ka)); refine blk_put (cs := #[.int .i64 0, .int .i64 0, .slice none 0 0, .int .i64 0, .int .i64 0, .int .i64 0, .int .i64 0]) ?_ 0 _ rfl; (with_reducible repeat (first | apply kn | apply kd | apply ka)); exact BK256.out) hb); have n10_ := am (below_step (by repeat (first | (with_reducible first | exact HB.out | apply ba | apply bn | apply below_drew1 | refine below_set ?_ GE177.out | refine below_set ?_ GE198.out | refine below_set ?_ GE208.out | refine below_set ?_ GE219.out | refine below_set ?_ GE256.out) | exact HB.out)) hb); clear HO_199002; clear HO_209002; clear HO_220002; clear HO241; clear HO250; clear BK177; clear BK198; clear BK208; clear BK219; clear BK256; clear HB; have HO_199002 := n0_; have HO_209002 := n1_; have HO_220002 := n2_; have HO241 := n3_; have HO250 := n4_; have BK177 := n5_; have BK198 := n6_; have BK208 := n7_; have BK219 := n8_; have BK256 := n9_; have HB := n10_; clear n0_ n1_ n2_ n3_ n4_ n5_ n6_ n7_ n8_ n9_ n10_; (try clear hb); (try clear hb2); (try clear hk); (try clear hi)))
             go_meet
             case rel => exact ⟨_, ((t255 != t197)), (by first | rfl | (simp; done) | (simp [*]; done)), H', ⟨by have := HJ12.out; have := HJ61.out; first | omega | exact Nat.le_refl _⟩, ⟨by (try simp only [hl209002_61]); (with_reducible repeat (first | apply Kd.R_alloc | apply Kd.R_drewN | apply Kd.R_drew)); exact Kd.R_mono HO_199002.out (fun _ hk => ⟨hk.1.1.1, ⟨hk.1.1.2, hk.2⟩⟩)⟩, ⟨by (try simp only [hl209002_61]); (with_reducible repeat (first | apply Kd.R_alloc | apply Kd.R_drewN | apply Kd.R_drew)); exact Kd.R_mono HO_209002.out (fun _ hk => ⟨hk.1.1.1, ⟨hk.1.1.2, hk.2⟩⟩)⟩, ⟨by (try simp only [hl209002_61]); (with_reducible repeat (first | apply Kd.R_alloc | apply Kd.R_drewN | apply Kd.R_drew)); exact Kd.R_mono HO_220002.out (fun _ hk => ⟨hk.1.1.1, ⟨hk.1.1.2, hk.2⟩⟩)⟩, ⟨by (try simp only [hl209002_61]); (with_reducible repeat (first | apply Kd.R_alloc | apply Kd.R_drewN | apply Kd.R_drew)); exact Kd.R_mono HO250.out (fun _ hk => ⟨hk.1.1.1.2, ⟨hk.1.1.2, hk.1.2⟩⟩)⟩, ⟨by (try simp only [hl209002_61]); (with_reducible repeat (first | apply kn | apply kd | apply ka)); exact BK177.out⟩, ⟨by (try simp only [hl209002_61]); (with_reducible repeat (first | apply kn | apply kd | apply ka)); exact BK198.out⟩, ⟨by (try simp only [hl209002_61]); (with_reducible repeat (first | apply kn | apply kd | apply ka)); exact BK208.out⟩, ⟨by (try simp only [hl209002_61]); (with_reducible repeat (first | apply kn | apply kd | apply ka)); exact BK219.out⟩, ⟨by (try simp only [hl209002_61]); (with_reducible repeat (first | apply kn | apply kd | apply ka)); exact BK256.out⟩, ⟨by repeat (first | (with_reducible first | exact HB.out | apply ba | apply bn | apply below_drew1 | refine below_set ?_ GE177.out | refine below_set ?_ GE198.out | refine below_set ?_ GE208.out | refine below_set ?_ GE219.out | refine below_set ?_ GE256.out) | exact HB.out)⟩⟩
            ·replace c127 := Bool.eq_false_iff.mpr c127
             subst c127
             have H1 : (laws_FnExactSetHeight.j2 kj61 t234 true t209 t210 t235 t214 t215 t216 t217) = some r := by rw [if_neg (show ¬ (false = true) by decide)] at H; exact H
             clear H
             have H := H1
             clear H1
             have H' := Aside0.mk H
             clear H
             have hnb138 := NB256_177.out
             have hnc138 := NB177_256.out
             have hnb139 := NB256_198.out
             have hnc139 := NB198_256.out
             have hnb140 := NB256_208.out
             have hnc140 := NB208_256.out
             have hnb141 := NB256_219.out
             have hnc141 := NB219_256.out
             have hcz142_0 : w119.cell? ⟨gb256, 0, none⟩ = some (.int .i64 0) := (blk_cell BK256.out 0).trans rfl
             have hcz142_1 : w119.cell? ⟨gb256, 1, none⟩ = some (.int .i64 0) := (blk_cell BK256.out 1).trans rfl
             have hcz142_2 : w119.cell? ⟨gb256, 2, none⟩ = some (.slice none 0 0) := (blk_cell BK256.out 2).trans rfl
             have hcz142_3 : w119.cell? ⟨gb256, 3, none⟩ = some (.int .i64 0) := (blk_cell BK256.out 3).trans rfl
             have hcz142_4 : w119.cell? ⟨gb256, 4, none⟩ = some (.int .i64 0) := (blk_cell BK256.out 4).trans rfl
             have hcz142_5 : w119.cell? ⟨gb256, 5, none⟩ = some (.int .i64 0) := (blk_cell BK256.out 5).trans rfl
             have hcz142_6 : w119.cell? ⟨gb256, 6, none⟩ = some (.int .i64 0) := (blk_cell BK256.out 6).trans rfl
             have hfz142_0 := blk_frozen BK256.out 0
             have hfz142_1 := blk_frozen BK256.out 1
             have hfz142_2 := blk_frozen BK256.out 2
             have hfz142_3 := blk_frozen BK256.out 3
             have hfz142_4 := blk_frozen BK256.out 4
             have hfz142_5 := blk_frozen BK256.out 5
             have hfz142_6 := blk_frozen BK256.out 6
             have hnb143 := NB198_177.out
             have hnc143 := NB177_198.out
             have hnb144 := NB198_208.out
             have hnc144 := NB208_198.out
             have hnb145 := NB198_219.out
             have hnc145 := NB219_198.out
             have hcz146_0 : w119.cell? ⟨gb198, 0, none⟩ = some (.int .i64 t188) := (blk_cell BK198.out 0).trans rfl
             have hcz146_1 : w119.cell? ⟨gb198, 1, none⟩ = some (.int .i64 t189) := (blk_cell BK198.out 1).trans rfl
             have hcz146_2 : w119.cell? ⟨gb198, 2, none⟩ = some (.slice Ao24 t190.length co24) := (blk_cell BK198.out 2).trans rfl
             have hcz146_3 : w119.cell? ⟨gb198, 3, none⟩ = some (.int .i64 t193) := (blk_cell BK198.out 3).trans rfl
             have hcz146_4 : w119.cell? ⟨gb198, 4, none⟩ = some (.int .i64 t194) := (blk_cell BK198.out 4).trans rfl
             have hcz146_5 : w119.cell? ⟨gb198, 5, none⟩ = some (.int .i64 t195) := (blk_cell BK198.out 5).trans rfl
             have hcz146_6 : w119.cell? ⟨gb198, 6, none⟩ = some (.int .i64 t196) := (blk_cell BK198.out 6).trans rfl
             have hfz146_0 := blk_frozen BK198.out 0
             have hfz146_1 := blk_frozen BK198.out 1
             have hfz146_2 := blk_frozen BK198.out 2
             have hfz146_3 := blk_frozen BK198.out 3
             have hfz146_4 := blk_frozen BK198.out 4
             have hfz146_5 := blk_frozen BK198.out 5
             have hfz146_6 := blk_frozen BK198.out 6
             go_wp2_with (first | ((with_reducible refine gate_callee (f := 13) rfl ?_); refine goesL_ (some 91) rfl rfl Try.func13 (by kernel_rfl) rfl #[.agg #[.int .i64 t246, .int .i64 t247, .slice Ao125 t248.length co125, .int .i64 t251, .int .i64 t252, .int .i64 t253, .int .i64 t254], .agg #[.int .i64 t188, .int .i64 t189, .slice Ao24 t190.length co24, .int .i64 t193, .int .i64 t194, .int .i64 t195, .int .i64 t196]] rfl (by (try simp only [List.map_toArray, List.map_cons, List.map_nil]); first | done | rfl | (simp only [List.length_drop, List.length_take]; rfl)) ?_; (with_reducible refine (laws_eqTerrain.calls kj61 t246 t247 _ _ t248 t251 t252 t253 t254 t188 t189 _ _ t190 t193 t194 t195 t196 false _ ?side1 ?side2 ?side3 ?side4 A126.out).mono ?_); (case side1 => refine (Kd.R_reads' (e := 3) (base := w.heap.size) (ok := fun k_ => ((((True ∧ some k_ ≠ (.slice Ao24 t190.length co24 : Value).ownBlock) ∧ some k_ ≠ (.slice Ao31 t232.length co31 : Value).ownBlock) ∧ some k_ ≠ (.slice Ao38 t211.length co38 : Value).ownBlock) ∧ some k_ ≠ (.slice Ao117 t239.length co117 : Value).ownBlock)) (n := t248.length) (c := co125) ?_).2.2; exact (by (with_reducible repeat (first | apply Kd.R_alloc | apply Kd.R_drewN | apply Kd.R_drew)); exact (Kd.R_mono (Kd.R_far (p := ⟨gb256, 6, none⟩) (Kd.R_far (p := ⟨gb256, 5, none⟩) (Kd.R_far (p := ⟨gb256, 4, none⟩) (Kd.R_far (p := ⟨gb256, 3, none⟩) (Kd.R_far (p := ⟨gb256, 2, none⟩) (Kd.R_far (p := ⟨gb256, 1, none⟩) (Kd.R_far (p := ⟨gb256, 0, none⟩) (Kd.R_types HO250.out BK256.out (by decide)) (fun _ hk => hk.2) (.int .i64 t246)) (fun _ hk => hk.2) (.int .i64 t247)) (fun _ hk => hk.2) (.slice Ao125 t248.length co125)) (fun _ hk => hk.2) (.int .i64 t251)) (fun _ hk => hk.2) (.int .i64 t252)) (fun _ hk => hk.2) (.int .i64 t253)) (fun _ hk => hk.2) (.int .i64 t254)) (fun _ h_ => h_.1)))); (case side2 => exact (Kd.R_reads' HO250.out).2.1); (case side3 => refine (Kd.R_reads' (e := 3) (base := w.heap.size) (ok := fun k_ => (((some k_ ≠ (.slice Ao31 t232.length co31 : Value).ownBlock ∧ some k_ ≠ (.slice Ao38 t211.length co38 : Value).ownBlock) ∧ some k_ ≠ (.slice Ao117 t239.length co117 : Value).ownBlock) ∧ some k_ ≠ (.slice Ao125 t248.length co125 : Value).ownBlock)) (n := t190.length) (c := co24) ?_).2.2; exact (by (with_reducible repeat (first | apply Kd.R_alloc | apply Kd.R_drewN | apply Kd.R_drew)); exact (Kd.R_mono (Kd.R_far (p := ⟨gb256, 6, none⟩) (Kd.R_far (p := ⟨gb256, 5, none⟩) (Kd.R_far (p := ⟨gb256, 4, none⟩) (Kd.R_far (p := ⟨gb256, 3, none⟩) (Kd.R_far (p := ⟨gb256, 2, none⟩) (Kd.R_far (p := ⟨gb256, 1, none⟩) (Kd.R_far (p := ⟨gb256, 0, none⟩) (Kd.R_types HO_199002.out BK256.out (by decide)) (fun _ hk => hk.2) (.int .i64 t246)) (fun _ hk => hk.2) (.int .i64 t247)) (fun _ hk => hk.2) (.slice Ao125 t248.length co125)) (fun _ hk => hk.2) (.int .i64 t251)) (fun _ hk => hk.2) (.int .i64 t252)) (fun _ hk => hk.2) (.int .i64 t253)) (fun _ hk => hk.2) (.int .i64 t254)) (fun _ h_ => h_.1)))); (case side4 => exact (Kd.R_reads' HO_199002.out).2.1); rintro e w147 ⟨rfl, hb⟩; refine ⟨_, rfl, ?_⟩; have n0_ := am (Kd.R_below (by (with_reducible repeat (first | apply Kd.R_alloc | apply Kd.R_drewN | apply Kd.R_drew)); exact (Kd.R_mono (Kd.R_far (p := ⟨gb256, 6, none⟩) (Kd.R_far (p := ⟨gb256, 5, none⟩) (Kd.R_far (p := ⟨gb256, 4, none⟩) (Kd.R_far (p := ⟨gb256, 3, none⟩) (Kd.R_far (p := ⟨gb256, 2, none⟩) (Kd.R_far (p := ⟨gb256, 1, none⟩) (Kd.R_far (p := ⟨gb256, 0, none⟩) (Kd.R_types HO_199002.out BK256.out (by decide)) (fun _ hk => hk.2) (.int .i64 t246)) (fun _ hk => hk.2) (.int .i64 t247)) (fun _ hk => hk.2) (.slice Ao125 t248.length co125)) (fun _ hk => hk.2) (.int .i64 t251)) (fun _ hk => hk.2) (.int .i64 t252)) (fun _ hk => hk.2) (.int .i64 t253)) (fun _ hk => hk.2) (.int .i64 t254)) (fun _ h_ => h_.1))) hb); have n1_ := am (Kd.R_below (by (with_reducible repeat (first | apply Kd.R_alloc | apply Kd.R_drewN | apply Kd.R_drew)); exact (Kd.R_mono (Kd.R_far (p := ⟨gb256, 6, none⟩) (Kd.R_far (p := ⟨gb256, 5, none⟩) (Kd.R_far (p := ⟨gb256, 4, none⟩) (Kd.R_far (p := ⟨gb256, 3, none⟩) (Kd.R_far (p := ⟨gb256, 2, none⟩) (Kd.R_far (p := ⟨gb256, 1, none⟩) (Kd.R_far (p := ⟨gb256, 0, none⟩) (Kd.R_types HO_209002.out BK256.out (by decide)) (fun _ hk => hk.2) (.int .i64 t246)) (fun _ hk => hk.2) (.int .i64 t247)) (fun _ hk => hk.2) (.slice Ao125 t248.length co125)) (fun _ hk => hk.2) (.int .i64 t251)) (fun _ hk => hk.2) (.int .i64 t252)) (fun _ hk => hk.2) (.int .i64 t253)) (fun _ hk => hk.2) (.int .i64 t254)) (fun _ h_ => h_.1))) hb); have n2_ := am (Kd.R_below (by (with_reducible repeat (first | apply Kd.R_alloc | apply Kd.R_drewN | apply Kd.R_drew)); exact (Kd.R_mono (Kd.R_far (p := ⟨gb256, 6, none⟩) (Kd.R_far (p := ⟨gb256, 5, none⟩) (Kd.R_far (p := ⟨gb256, 4, none⟩) (Kd.R_far (p := ⟨gb256, 3, none⟩) (Kd.R_far (p := ⟨gb256, 2, none⟩) (Kd.R_far (p := ⟨gb256, 1, none⟩) (Kd.R_far (p := ⟨gb256, 0, none⟩) (Kd.R_types HO_220002.out BK256.out (by decide)) (fun _ hk => hk.2) (.int .i64 t246)) (fun _ hk => hk.2) (.int .i64 t247)) (fun _ hk => hk.2) (.slice Ao125 t248.length co125)) (fun _ hk => hk.2) (.int .i64 t251)) (fun _ hk => hk.2) (.int .i64 t252)) (fun _ hk => hk.2) (.int .i64 t253)) (fun _ hk => hk.2) (.int .i64 t254)) (fun _ h_ => h_.1))) hb); have n3_ := am (Kd.R_below (by (with_reducible repeat (first | apply Kd.R_alloc | apply Kd.R_drewN | apply Kd.R_drew)); exact (Kd.R_mono (Kd.R_far (p := ⟨gb256, 6, none⟩) (Kd.R_far (p := ⟨gb256, 5, none⟩) (Kd.R_far (p := ⟨gb256, 4, none⟩) (Kd.R_far (p := ⟨gb256, 3, none⟩) (Kd.R_far (p := ⟨gb256, 2, none⟩) (Kd.R_far (p := ⟨gb256, 1, none⟩) (Kd.R_far (p := ⟨gb256, 0, none⟩) (Kd.R_types HO241.out BK256.out (by decide)) (fun _ hk => hk.2) (.int .i64 t246)) (fun _ hk => hk.2) (.int .i64 t247)) (fun _ hk => hk.2) (.slice Ao125 t248.length co125)) (fun _ hk => hk.2) (.int .i64 t251)) (fun _ hk => hk.2) (.int .i64 t252)) (fun _ hk => hk.2) (.int .i64 t253)) (fun _ hk => hk.2) (.int .i64 t254)) (fun _ h_ => h_.1))) hb); have n4_ := am (Kd.R_below (by (with_reducible repeat (first | apply Kd.R_alloc | apply Kd.R_drewN | apply Kd.R_drew)); exact (Kd.R_mono (Kd.R_far (p := ⟨gb256, 6, none⟩) (Kd.R_far (p := ⟨gb256, 5, none⟩) (Kd.R_far (p := ⟨gb256, 4, none⟩) (Kd.R_far (p := ⟨gb256, 3, none⟩) (Kd.R_far (p := ⟨gb256, 2, none⟩) (Kd.R_far (p := ⟨gb256, 1, none⟩) (Kd.R_far (p := ⟨gb256, 0, none⟩) (Kd.R_types HO250.out BK256.out (by decide)) (fun _ hk => hk.2) (.int .i64 t246)) (fun _ hk => hk.2) (.int .i64 t247)) (fun _ hk => hk.2) (.slice Ao125 t248.length co125)) (fun _ hk => hk.2) (.int .i64 t251)) (fun _ hk => hk.2) (.int .i64 t252)) (fun _ hk => hk.2) (.int .i64 t253)) (fun _ hk => hk.2) (.int .i64 t254)) (fun _ h_ => h_.1))) hb); have n5_ := am (blk_below (g := gb177) (o := .cells #[.int .i64 a0_0, .int .i64 a0_1, .slice A0_2 l0_2.length c0_2, .int .i64 a0_3, .int .i64 a0_4, .int .i64 a0_5, .int .i64 a0_6] 24 (0, 0)) (by (with_reducible repeat (first | apply kn | apply kd | apply ka)); refine blk_far ?_ NB177_256.out _; (with_reducible repeat (first | apply kn | apply kd | apply ka)); refine blk_far ?_ NB177_256.out _; (with_reducible repeat (first | apply kn | apply kd | apply ka)); refine blk_far ?_ NB177_256.out _; (with_reducible repeat (first | apply kn | apply kd | apply ka)); refine blk_far ?_ NB177_256.out _; (with_reducible repeat (first | apply kn | apply kd | apply ka)); refine blk_far ?_ NB177_256.out _; (with_reducible repeat (first | apply kn | apply kd | apply ka)); refine blk_far ?_ NB177_256.out _; (with_reducible repeat (first | apply kn | apply kd | apply ka)); refine blk_far ?_ NB177_256.out _; (with_reducible repeat (first | apply kn | apply kd | apply ka)); exact BK177.out) hb); have n6_ := am (blk_below (g := gb198) (o := .cells #[.int .i64 t188, .int .i64 t189, .slice Ao24 t190.length co24, .int .i64 t193, .int .i64 t194, .int .i64 t195, .int .i64 t196] 27 (0, 0)) (by (with_reducible repeat (first | apply kn | apply kd | apply ka)); refine blk_far ?_ NB198_256.out _; (with_reducible repeat (first | apply kn | apply kd | apply ka)); refine blk_far ?_ NB198_256.out _; (with_reducible repeat (first | apply kn | apply kd | apply ka)); refine blk_far ?_ NB198_256.out _; (with_reducible repeat (first | apply kn | apply kd | apply ka)); refine blk_far ?_ NB198_256.out _; (with_reducible repeat (first | apply kn | apply kd | apply ka)); refine blk_far ?_ NB198_256.out _; (with_reducible repeat (first | apply kn | apply kd | apply ka)); refine blk_far ?_ NB198_256.out _; (with_reducible repeat (first | apply kn | apply kd | apply ka)); refine blk_far ?_ NB198_256.out _; (with_reducible repeat (first | apply kn | apply kd | apply ka)); exact BK198.out) hb); have n7_ := am (blk_below (g := gb208) (o := .cells #[.int .i64 t199, .int .i64 t200, .slice Ao31 t232.length co31, .int .i64 t204, .int .i64 t205, .int .i64 t206, .int .i64 t207] 27 (0, 0)) (by (with_reducible repeat (first | apply kn | apply kd | apply ka)); refine blk_far ?_ NB208_256.out _; (with_reducible repeat (first | apply kn | apply kd | apply ka)); refine blk_far ?_ NB208_256.out _; (with_reducible repeat (first | apply kn | apply kd | apply ka)); refine blk_far ?_ NB208_256.out _; (with_reducible repeat (first | apply kn | apply kd | apply ka)); refine blk_far ?_ NB208_256.out _; (with_reducible repeat (first | apply kn | apply kd | apply ka)); refine blk_far ?_ NB208_256.out _; (with_reducible repeat (first | apply kn | apply kd | apply ka)); refine blk_far ?_ NB208_256.out _; (with_reducible repeat (first | apply kn | apply kd | apply ka)); refine blk_far ?_ NB208_256.out _; (with_reducible repeat (first | apply kn | apply kd | apply ka)); exact BK208.out) hb); have n8_ := am (blk_below (g := gb219) (o := .cells #[.int .i64 t209, .int .i64 t210, .slice Ao38 t211.length co38, .int .i64 t214, .int .i64 t215, .int .i64 t216, .int .i64 t217] 27 (0, 0)) (by (with_reducible repeat (first | apply kn | apply kd | apply ka)); refine blk_far ?_ NB219_256.out _; (with_reducible repeat (first | apply kn | apply kd | apply ka)); refine blk_far ?_ NB219_256.out _; (with_reducible repeat (first | apply kn | apply kd | apply ka)); refine blk_far ?_ NB219_256.out _; (with_reducible repeat (first | apply kn | apply kd | apply ka)); refine blk_far ?_ NB219_256.out _; (with_reducible repeat (first | apply kn | apply kd | apply ka)); refine blk_far ?_ NB219_256.out _; (with_reducible repeat (first | apply kn | apply kd | apply ka)); refine blk_far ?_ NB219_256.out _; (with_reducible repeat (first | apply kn | apply kd | apply ka)); refine blk_far ?_ NB219_256.out _; (with_reducible repeat (first | apply kn | apply kd | apply ka)); exact BK219.out) hb); have n9_ := am (blk_below (g := gb256) (o := .cells #[.int .i64 t246, .int .i64 t247, .slice Ao125 t248.length co125, .int .i64 t251, .int .i64 t252, .int .i64 t253, .int .i64 t254] 27 (0, 0)) (by (with_reducible repeat (first | apply kn | apply kd | apply ka)); refine blk_put (cs := #[.int .i64 t246, .int .i64 t247, .slice Ao125 t248.length co125, .int .i64 t251, .int .i64 t252, .int .i64 t253, .int .i64 0]) ?_ 6 _ rfl; (with_reducible repeat (first | apply kn | apply kd | apply ka)); refine blk_put (cs := #[.int .i64 t246, .int .i64 t247, .slice Ao125 t248.length co125, .int .i64 t251, .int .i64 t252, .int .i64 0, .int .i64 0]) ?_ 5 _ rfl; (with_reducible repeat (first | apply kn | apply kd | apply ka)); refine blk_put (cs := #[.int .i64 t246, .int .i64 t247, .slice Ao125 t248.length co125, .int .i64 t251, .int .i64 0, .int .i64 0, .int .i64 0]) ?_ 4 _ rfl; (with_reducible repeat (first | apply kn | apply kd | apply ka)); refine blk_put (cs := #[.int .i64 t246, .int .i64 t247, .slice Ao125 t248.length co125, .int .i64 0, .int .i64 0, .int .i64 0, .int .i64 0]) ?_ 3 _ rfl; (with_reducible repeat (first | apply kn | apply kd | apply ka)); refine blk_put (cs := #[.int .i64 t246, .int .i64 t247, .slice none 0 0, .int .i64 0, .int .i64 0, .int .i64 0, .int .i64 0]) ?_ 2 _ rfl; (with_reducible repeat (first | apply kn | apply kd | apply ka)); refine blk_put (cs := #[.int .i64 t246, .int .i64 0, .slice none 0 0, .int .i64 0, .int .i64 0, .int .i64 0, .int .i64 0]) ?_ 1 _ rfl; (with_reducible repeat (first | apply kn | apply kd | apply ka)); refine blk_put (cs := #[.int .i64 0, .int .i64 0, .slice none 0 0, .int .i64 0, .int .i64 0, .int .i64 0, .int .i64 0]) ?_ 0 _ rfl; (with_reducible repeat (first | apply kn | apply kd | apply ka)); exact BK256.out) hb); have n10_ := am (below_step (by repeat (first | (with_reducible first | exact HB.out | apply ba | apply bn | apply below_drew1 | refine below_set ?_ GE177.out | refine below_set ?_ GE198.out | refine below_set ?_ GE208.out | refine below_set ?_ GE219.out | refine below_set ?_ GE256.out) | exact HB.out)) hb); clear HO_199002; clear HO_209002; clear HO_220002; clear HO241; clear HO250; clear BK177; clear BK198; clear BK208; clear BK219; clear BK256; clear HB; have HO_199002 := n0_; have HO_209002 := n1_; have HO_220002 := n2_; have HO241 := n3_; have HO250 := n4_; have BK177 := n5_; have BK198 := n6_; have BK208 := n7_; have BK219 := n8_; have BK256 := n9_; have HB := n10_; clear n0_ n1_ n2_ n3_ n4_ n5_ n6_ n7_ n8_ n9_ n10_; (try clear hb); (try clear hb2); (try clear hk); (try clear hi)))
             go_meet
             case rel => exact ⟨_, (true), (by first | rfl | (simp; done) | (simp [*]; done)), H', ⟨by have := HJ12.out; have := HJ61.out; first | omega | exact Nat.le_refl _⟩, ⟨by (try simp only [hl209002_61]); (with_reducible repeat (first | apply Kd.R_alloc | apply Kd.R_drewN | apply Kd.R_drew)); exact Kd.R_mono HO_199002.out (fun _ hk => ⟨hk.1.1.1, ⟨hk.1.1.2, hk.2⟩⟩)⟩, ⟨by (try simp only [hl209002_61]); (with_reducible repeat (first | apply Kd.R_alloc | apply Kd.R_drewN | apply Kd.R_drew)); exact Kd.R_mono HO_209002.out (fun _ hk => ⟨hk.1.1.1, ⟨hk.1.1.2, hk.2⟩⟩)⟩, ⟨by (try simp only [hl209002_61]); (with_reducible repeat (first | apply Kd.R_alloc | apply Kd.R_drewN | apply Kd.R_drew)); exact Kd.R_mono HO_220002.out (fun _ hk => ⟨hk.1.1.1, ⟨hk.1.1.2, hk.2⟩⟩)⟩, ⟨by (try simp only [hl209002_61]); (with_reducible repeat (first | apply Kd.R_alloc | apply Kd.R_drewN | apply Kd.R_drew)); exact Kd.R_mono HO250.out (fun _ hk => ⟨hk.1.1.1.2, ⟨hk.1.1.2, hk.1.2⟩⟩)⟩, ⟨by (try simp only [hl209002_61]); (with_reducible repeat (first | apply kn | apply kd | apply ka)); exact BK177.out⟩, ⟨by (try simp only [hl209002_61]); (with_reducible repeat (first | apply kn | apply kd | apply ka)); exact BK198.out⟩, ⟨by (try simp only [hl209002_61]); (with_reducible repeat (first | apply kn | apply kd | apply ka)); exact BK208.out⟩, ⟨by (try simp only [hl209002_61]); (with_reducible repeat (first | apply kn | apply kd | apply ka)); exact BK219.out⟩, ⟨by (try simp only [hl209002_61]); (with_reducible repeat (first | apply kn | apply kd | apply ka)); exact BK256.out⟩, ⟨by repeat (first | (with_reducible first | exact HB.out | apply ba | apply bn | apply below_drew1 | refine below_set ?_ GE177.out | refine below_set ?_ GE198.out | refine below_set ?_ GE208.out | refine below_set ?_ GE219.out | refine below_set ?_ GE256.out) | exact HB.out)⟩⟩
           case rest =>
            clear HC105
            try clear c1
            try clear c2
            try clear p2
            try clear c3
            try clear c4
            try clear c5
            try clear c5b0
            try clear c6
            try clear c7
            try clear c8
            try clear c9
            try clear c10
            try clear c11
            try clear c12
            try clear c13
            try clear c14
            try clear c15
            try clear c16
            try clear c17
            try clear c22
            try clear c28
            try clear c29
            try clear c34
            try clear c35
            try clear c36
            try clear c40
            try clear c41
            try clear c42
            try clear c43
            try clear c45
            try clear c46
            try clear c49
            try clear c50
            try clear c51
            try clear c53
            try clear c54
            try clear c57
            try clear c60
            try clear c67
            try clear c68
            try clear c69
            try clear c72
            try clear c72b0
            try clear c74
            try clear c75
            try clear c76
            try clear c77
            try clear c79
            try clear c80
            try clear c83
            try clear c84
            try clear c85
            try clear c87
            try clear c88
            try clear c91
            try clear c94
            try clear c94b0
            try clear c95
            try clear c96
            try clear c97
            try clear c102
            try clear c102b0
            try clear c102b1
            try clear c106
            try clear c107
            try clear c108
            try clear c113
            try clear c114
            try clear c120
            try clear c121
            try clear c122
            try clear c123
            try clear c127
            try clear c128
            try clear c129
            try clear c130
            try clear c131
            try clear c133
            try clear c134
            try clear c135
            try clear c138
            try clear c139
            try clear c140
            try clear c141
            try clear c143
            try clear c144
            try clear c145
            try clear hcz100_0
            try clear hcz100_1
            try clear hcz100_2
            try clear hcz100_3
            try clear hcz100_4
            try clear hcz100_5
            try clear hcz100_6
            try clear hcz109_0
            try clear hcz109_1
            try clear hcz109_2
            try clear hcz109_3
            try clear hcz109_4
            try clear hcz109_5
            try clear hcz109_6
            try clear hcz111_0
            try clear hcz111_1
            try clear hcz111_2
            try clear hcz111_3
            try clear hcz111_4
            try clear hcz111_5
            try clear hcz111_6
            try clear hcz115_0
            try clear hcz115_1
            try clear hcz115_2
            try clear hcz115_3
            try clear hcz115_4
            try clear hcz115_5
            try clear hcz115_6
            try clear hcz124_0
            try clear hcz124_1
            try clear hcz124_2
            try clear hcz124_3
            try clear hcz124_4
            try clear hcz124_5
            try clear hcz124_6
            try clear hcz132_0
            try clear hcz132_1
            try clear hcz132_2
            try clear hcz132_3
            try clear hcz132_4
            try clear hcz132_5
            try clear hcz132_6
            try clear hcz136_0
            try clear hcz136_1
            try clear hcz136_2
            try clear hcz136_3
            try clear hcz136_4
            try clear hcz136_5
            try clear hcz136_6
            try clear hcz142_0
            try clear hcz142_1
            try clear hcz142_2
            try clear hcz142_3
            try clear hcz142_4
            try clear hcz142_5
            try clear hcz142_6
            try clear hcz146_0
            try clear hcz146_1
            try clear hcz146_2
            try clear hcz146_3
            try clear hcz146_4
            try clear hcz146_5
            try clear hcz146_6
            try clear hcz15_0
            try clear hcz15_1
            try clear hcz15_2
            try clear hcz15_3
            try clear hcz15_4
            try clear hcz15_5
            try clear hcz15_6
            try clear hcz17_0
            try clear hcz17_1
            try clear hcz17_2
            try clear hcz17_3
            try clear hcz17_4
            try clear hcz17_5
            try clear hcz17_6
            try clear hcz23_0
            try clear hcz23_1
            try clear hcz23_2
            try clear hcz23_3
            try clear hcz23_4
            try clear hcz23_5
            try clear hcz23_6
            try clear hcz25_0
            try clear hcz25_1
            try clear hcz25_2
            try clear hcz25_3
            try clear hcz25_4
            try clear hcz25_5
            try clear hcz25_6
            try clear hcz30_0
            try clear hcz30_1
            try clear hcz30_2
            try clear hcz30_3
            try clear hcz30_4
            try clear hcz30_5
            try clear hcz30_6
            try clear hcz37_0
            try clear hcz37_1
            try clear hcz37_2
            try clear hcz37_3
            try clear hcz37_4
            try clear hcz37_5
            try clear hcz37_6
            try clear hcz44_0
            try clear hcz44_1
            try clear hcz44_2
            try clear hcz44_3
            try clear hcz44_4
            try clear hcz44_5
            try clear hcz44_6
            try clear hcz47_0
            try clear hcz47_1
            try clear hcz47_2
            try clear hcz47_3
            try clear hcz47_4
            try clear hcz47_5
            try clear hcz47_6
            try clear hcz52_0
            try clear hcz52_1
            try clear hcz52_2
            try clear hcz52_3
            try clear hcz52_4
            try clear hcz52_5
            try clear hcz52_6
            try clear hcz55_0
            try clear hcz55_1
            try clear hcz55_2
            try clear hcz55_3
            try clear hcz55_4
            try clear hcz55_5
            try clear hcz55_6
            try clear hcz70_0
            try clear hcz70_1
            try clear hcz70_2
            try clear hcz70_3
            try clear hcz70_4
            try clear hcz70_5
            try clear hcz70_6
            try clear hcz78_0
            try clear hcz78_1
            try clear hcz78_2
            try clear hcz78_3
            try clear hcz78_4
            try clear hcz78_5
            try clear hcz78_6
            try clear hcz7_0
            try clear hcz7_1
            try clear hcz7_2
            try clear hcz7_3
            try clear hcz7_4
            try clear hcz7_5
            try clear hcz7_6
            try clear hcz81_0
            try clear hcz81_1
            try clear hcz81_2
            try clear hcz81_3
            try clear hcz81_4
            try clear hcz81_5
            try clear hcz81_6
            try clear hcz86_0
            try clear hcz86_1
            try clear hcz86_2
            try clear hcz86_3
            try clear hcz86_4
            try clear hcz86_5
            try clear hcz86_6
            try clear hcz89_0
            try clear hcz89_1
            try clear hcz89_2
            try clear hcz89_3
            try clear hcz89_4
            try clear hcz89_5
            try clear hcz89_6
            try clear hcz98_0
            try clear hcz98_1
            try clear hcz98_2
            try clear hcz98_3
            try clear hcz98_4
            try clear hcz98_5
            try clear hcz98_6
            try clear hfz100_0
            try clear hfz100_1
            try clear hfz100_2
            try clear hfz100_3
            try clear hfz100_4
            try clear hfz100_5
            try clear hfz100_6
            try clear hfz109_0
            try clear hfz109_1
            try clear hfz109_2
            try clear hfz109_3
            try clear hfz109_4
            try clear hfz109_5
            try clear hfz109_6
            try clear hfz111_0
            try clear hfz111_1
            try clear hfz111_2
            try clear hfz111_3
            try clear hfz111_4
            try clear hfz111_5
            try clear hfz111_6
            try clear hfz115_0
            try clear hfz115_1
            try clear hfz115_2
            try clear hfz115_3
            try clear hfz115_4
            try clear hfz115_5
            try clear hfz115_6
            try clear hfz124_0
            try clear hfz124_1
            try clear hfz124_2
            try clear hfz124_3
            try clear hfz124_4
            try clear hfz124_5
            try clear hfz124_6
            try clear hfz132_0
            try clear hfz132_1
            try clear hfz132_2
            try clear hfz132_3
            try clear hfz132_4
            try clear hfz132_5
            try clear hfz132_6
            try clear hfz136_0
            try clear hfz136_1
            try clear hfz136_2
            try clear hfz136_3
            try clear hfz136_4
            try clear hfz136_5
            try clear hfz136_6
            try clear hfz142_0
            try clear hfz142_1
            try clear hfz142_2
            try clear hfz142_3
            try clear hfz142_4
            try clear hfz142_5
            try clear hfz142_6
            try clear hfz146_0
            try clear hfz146_1
            try clear hfz146_2
            try clear hfz146_3
            try clear hfz146_4
            try clear hfz146_5
            try clear hfz146_6
            try clear hfz15_0
            try clear hfz15_1
            try clear hfz15_2
            try clear hfz15_3
            try clear hfz15_4
            try clear hfz15_5
            try clear hfz15_6
            try clear hfz17_0
            try clear hfz17_1
            try clear hfz17_2
            try clear hfz17_3
            try clear hfz17_4
            try clear hfz17_5
            try clear hfz17_6
            try clear hfz23_0
            try clear hfz23_1
            try clear hfz23_2
            try clear hfz23_3
            try clear hfz23_4
            try clear hfz23_5
            try clear hfz23_6
            try clear hfz25_0
            try clear hfz25_1
            try clear hfz25_2
            try clear hfz25_3
            try clear hfz25_4
            try clear hfz25_5
            try clear hfz25_6
            try clear hfz30_0
            try clear hfz30_1
            try clear hfz30_2
            try clear hfz30_3
            try clear hfz30_4
            try clear hfz30_5
            try clear hfz30_6
            try clear hfz37_0
            try clear hfz37_1
            try clear hfz37_2
            try clear hfz37_3
            try clear hfz37_4
            try clear hfz37_5
            try clear hfz37_6
            try clear hfz44_0
            try clear hfz44_1
            try clear hfz44_2
            try clear hfz44_3
            try clear hfz44_4
            try clear hfz44_5
            try clear hfz44_6
            try clear hfz47_0
            try clear hfz47_1
            try clear hfz47_2
            try clear hfz47_3
            try clear hfz47_4
            try clear hfz47_5
            try clear hfz47_6
            try clear hfz52_0
            try clear hfz52_1
            try clear hfz52_2
            try clear hfz52_3
            try clear hfz52_4
            try clear hfz52_5
            try clear hfz52_6
            try clear hfz55_0
            try clear hfz55_1
            try clear hfz55_2
            try clear hfz55_3
            try clear hfz55_4
            try clear hfz55_5
            try clear hfz55_6
            try clear hfz70_0
            try clear hfz70_1
            try clear hfz70_2
            try clear hfz70_3
            try clear hfz70_4
            try clear hfz70_5
            try clear hfz70_6
            try clear hfz78_0
            try clear hfz78_1
            try clear hfz78_2
            try clear hfz78_3
            try clear hfz78_4
            try clear hfz78_5
            try clear hfz78_6
            try clear hfz7_0
            try clear hfz7_1
            try clear hfz7_2
            try clear hfz7_3
            try clear hfz7_4
            try clear hfz7_5
            try clear hfz7_6
            try clear hfz81_0
            try clear hfz81_1
            try clear hfz81_2
            try clear hfz81_3
            try clear hfz81_4
            try clear hfz81_5
            try clear hfz81_6
            try clear hfz86_0
            try clear hfz86_1
            try clear hfz86_2
            try clear hfz86_3
            try clear hfz86_4
            try clear hfz86_5
            try clear hfz86_6
            try clear hfz89_0
            try clear hfz89_1
            try clear hfz89_2
            try clear hfz89_3
            try clear hfz89_4
            try clear hfz89_5
            try clear hfz89_6
            try clear hfz98_0
            try clear hfz98_1
            try clear hfz98_2
            try clear hfz98_3
            try clear hfz98_4
            try clear hfz98_5
            try clear hfz98_6
            try clear p2
            obtain ⟨kq, x97_104, rfl, HA, HJ104, HO_199002, HO_209002, HO_220002, HO_257002, BK177, BK198, BK208, BK219, BK256, HB⟩ := hcut
            have hl220002_104 := (Kd.R_reads' HO_220002.out).1
            rw [hl220002_104] at HO_220002
            (try simp only [hl220002_104])
            (try simp only [hl220002_104] at BK177)
            (try simp only [hl220002_104] at BK198)
            (try simp only [hl220002_104] at BK208)
            (try simp only [hl220002_104] at BK219)
            (try simp only [hl220002_104] at BK256)
            (try simp only [hl220002_104] at HO_199002)
            (try simp only [hl220002_104] at HO_209002)
            (try simp only [hl220002_104] at HO_257002)
            cases kq with
            | zero => exact absurd HA.out (by simp [laws_FnExactSetHeight.j2])
            | succ kj104 =>
             have H := HA.out
             clear HA
             simp only [laws_FnExactSetHeight.j2] at H
             by_cases c148 : x97_104 = true
             ·subst c148
              have H1 : (some false) = some r := by rw [if_pos rfl] at H; exact H
              clear H
              have H := H1
              clear H1
              obtain rfl := Option.some.inj H
              go_wp2
              go_ret
              exact ⟨by first | rfl | (simp [errW_none, errW_some] <;> rfl) | (simp [*, errW_none, errW_some] <;> rfl), by repeat (first | (with_reducible first | exact HB.out | apply ba | apply bn | apply below_drew1 | refine below_set ?_ GE177.out | refine below_set ?_ GE198.out | refine below_set ?_ GE208.out | refine below_set ?_ GE219.out | refine below_set ?_ GE256.out) | exact HB.out)⟩
             ·replace c148 := Bool.eq_false_iff.mpr c148
              subst c148
              have H1 : ((laws_heldTerrain.f kj104 t209 t210 t235 t214 t215 t216 t217 1).bind fun t258 => (if t258 < 0 then (some false) else (if t258 = t234 then (some true) else (some false)))) = some r := by rw [if_neg (show ¬ (false = true) by decide)] at H; exact H
              clear H
              have H := H1
              clear H1
              replace H := Option.bind_eq_some_iff.mp H
              obtain ⟨t258, A1490, H⟩ := H
              replace H : (if t258 < 0 then (some false) else (if t258 = t234 then (some true) else (some false))) = some r := H
              have A149 := Aside0.mk A1490
              clear A1490
              by_cases c150 : t258 < 0
              ·rw [if_pos c150] at H
               have c150b0 : decide (t258 < 0) = true := decide_eq_true c150
               clear c150
               obtain rfl := Option.some.inj H
               have hnb151 := NB219_177.out
               have hnc151 := NB177_219.out
               have hnb152 := NB219_198.out
               have hnc152 := NB198_219.out
               have hnb153 := NB219_208.out
               have hnc153 := NB208_219.out
               have hnb154 := NB219_256.out
               have hnc154 := NB256_219.out
               have hcz155_0 : wc.cell? ⟨gb219, 0, none⟩ = some (.int .i64 t209) := (blk_cell BK219.out 0).trans rfl
               have hcz155_1 : wc.cell? ⟨gb219, 1, none⟩ = some (.int .i64 t210) := (blk_cell BK219.out 1).trans rfl
               have hcz155_2 : wc.cell? ⟨gb219, 2, none⟩ = some (.slice Ao38 t235.length co38) := (blk_cell BK219.out 2).trans rfl
               have hcz155_3 : wc.cell? ⟨gb219, 3, none⟩ = some (.int .i64 t214) := (blk_cell BK219.out 3).trans rfl
               have hcz155_4 : wc.cell? ⟨gb219, 4, none⟩ = some (.int .i64 t215) := (blk_cell BK219.out 4).trans rfl
               have hcz155_5 : wc.cell? ⟨gb219, 5, none⟩ = some (.int .i64 t216) := (blk_cell BK219.out 5).trans rfl
               have hcz155_6 : wc.cell? ⟨gb219, 6, none⟩ = some (.int .i64 t217) := (blk_cell BK219.out 6).trans rfl
               have hfz155_0 := blk_frozen BK219.out 0
               have hfz155_1 := blk_frozen BK219.out 1
               have hfz155_2 := blk_frozen BK219.out 2
               have hfz155_3 := blk_frozen BK219.out 3
               have hfz155_4 := blk_frozen BK219.out 4
               have hfz155_5 := blk_frozen BK219.out 5
               have hfz155_6 := blk_frozen BK219.out 6
               go_wp2_with (first | ((with_reducible refine gate_callee (f := 17) rfl ?_); refine goesL_ (some 100) rfl rfl Try.func17 (by kernel_rfl) rfl #[.agg #[.int .i64 t209, .int .i64 t210, .slice Ao38 t235.length co38, .int .i64 t214, .int .i64 t215, .int .i64 t216, .int .i64 t217], .int .i64 1] rfl (by (try simp only [List.map_toArray, List.map_cons, List.map_nil]); first | done | rfl | (simp only [List.length_drop, List.length_take]; rfl)) ?_; (with_reducible refine (laws_heldTerrain.calls kj104 t209 t210 _ _ t235 t214 t215 t216 t217 1 t258 _ ?side1 ?side2 A149.out).mono ?_); (case side1 => repeat (first | exact (Kd.R_reads' HO_220002.out).2.2 | (with_reducible refine Kd.C_alloc ?_ _) | (with_reducible refine Kd.C_drewN ?_ _) | (with_reducible refine Kd.C_drew ?_))); (case side2 => exact (Kd.R_reads' HO_220002.out).2.1); rintro e w156 ⟨rfl, hb⟩; refine ⟨_, rfl, ?_⟩; have n0_ := am (Kd.R_below (by (with_reducible repeat (first | apply Kd.R_alloc | apply Kd.R_drewN | apply Kd.R_drew)); exact HO_199002.out) hb); have n1_ := am (Kd.R_below (by (with_reducible repeat (first | apply Kd.R_alloc | apply Kd.R_drewN | apply Kd.R_drew)); exact HO_209002.out) hb); have n2_ := am (Kd.R_below (by (with_reducible repeat (first | apply Kd.R_alloc | apply Kd.R_drewN | apply Kd.R_drew)); exact HO_220002.out) hb); have n3_ := am (Kd.R_below (by (with_reducible repeat (first | apply Kd.R_alloc | apply Kd.R_drewN | apply Kd.R_drew)); exact HO_257002.out) hb); have n4_ := am (blk_below (g := gb177) (o := .cells #[.int .i64 a0_0, .int .i64 a0_1, .slice A0_2 l0_2.length c0_2, .int .i64 a0_3, .int .i64 a0_4, .int .i64 a0_5, .int .i64 a0_6] 24 (0, 0)) (by (with_reducible repeat (first | apply kn | apply kd | apply ka)); exact BK177.out) hb); have n5_ := am (blk_below (g := gb198) (o := .cells #[.int .i64 t188, .int .i64 t189, .slice Ao24 t190.length co24, .int .i64 t193, .int .i64 t194, .int .i64 t195, .int .i64 t196] 27 (0, 0)) (by (with_reducible repeat (first | apply kn | apply kd | apply ka)); exact BK198.out) hb); have n6_ := am (blk_below (g := gb208) (o := .cells #[.int .i64 t199, .int .i64 t200, .slice Ao31 t232.length co31, .int .i64 t204, .int .i64 t205, .int .i64 t206, .int .i64 t207] 27 (0, 0)) (by (with_reducible repeat (first | apply kn | apply kd | apply ka)); exact BK208.out) hb); have n7_ := am (blk_below (g := gb219) (o := .cells #[.int .i64 t209, .int .i64 t210, .slice Ao38 t235.length co38, .int .i64 t214, .int .i64 t215, .int .i64 t216, .int .i64 t217] 27 (0, 0)) (by (with_reducible repeat (first | apply kn | apply kd | apply ka)); exact BK219.out) hb); have n8_ := am (blk_below (g := gb256) (o := .cells #[.int .i64 t246, .int .i64 t247, .slice Ao125 t248.length co125, .int .i64 t251, .int .i64 t252, .int .i64 t253, .int .i64 t254] 27 (0, 0)) (by (with_reducible repeat (first | apply kn | apply kd | apply ka)); exact BK256.out) hb); have n9_ := am (below_step (by repeat (first | (with_reducible first | exact HB.out | apply ba | apply bn | apply below_drew1 | refine below_set ?_ GE177.out | refine below_set ?_ GE198.out | refine below_set ?_ GE208.out | refine below_set ?_ GE219.out | refine below_set ?_ GE256.out) | exact HB.out)) hb); clear HO_199002; clear HO_209002; clear HO_220002; clear HO_257002; clear BK177; clear BK198; clear BK208; clear BK219; clear BK256; clear HB; have HO_199002 := n0_; have HO_209002 := n1_; have HO_220002 := n2_; have HO_257002 := n3_; have BK177 := n4_; have BK198 := n5_; have BK208 := n6_; have BK219 := n7_; have BK256 := n8_; have HB := n9_; clear n0_ n1_ n2_ n3_ n4_ n5_ n6_ n7_ n8_ n9_; (try clear hb); (try clear hb2); (try clear hk); (try clear hi)))
               go_ret
               exact ⟨by first | rfl | (simp [errW_none, errW_some] <;> rfl) | (simp [*, errW_none, errW_some] <;> rfl), by repeat (first | (with_reducible first | exact HB.out | apply ba | apply bn | apply below_drew1 | refine below_set ?_ GE177.out | refine below_set ?_ GE198.out | refine below_set ?_ GE208.out | refine below_set ?_ GE219.out | refine below_set ?_ GE256.out) | exact HB.out)⟩
              ·rw [if_neg c150] at H
               have c150b0 : decide (t258 < 0) = false := decide_eq_false c150
               clear c150
               by_cases c157 : t258 = t234
               ·rw [if_pos c157] at H
                have c157b0 : (t258 == t234) = true := beq_iff_eq.mpr c157
                have c157b1 : (t258 != t234) = false := bne_eq_false_iff_eq.mpr c157
                clear c157
                obtain rfl := Option.some.inj H
                have hnb158 := NB219_177.out
                have hnc158 := NB177_219.out
                have hnb159 := NB219_198.out
                have hnc159 := NB198_219.out
                have hnb160 := NB219_208.out
                have hnc160 := NB208_219.out
                have hnb161 := NB219_256.out
                have hnc161 := NB256_219.out
                have hcz162_0 : wc.cell? ⟨gb219, 0, none⟩ = some (.int .i64 t209) := (blk_cell BK219.out 0).trans rfl
                have hcz162_1 : wc.cell? ⟨gb219, 1, none⟩ = some (.int .i64 t210) := (blk_cell BK219.out 1).trans rfl
                have hcz162_2 : wc.cell? ⟨gb219, 2, none⟩ = some (.slice Ao38 t235.length co38) := (blk_cell BK219.out 2).trans rfl
                have hcz162_3 : wc.cell? ⟨gb219, 3, none⟩ = some (.int .i64 t214) := (blk_cell BK219.out 3).trans rfl
                have hcz162_4 : wc.cell? ⟨gb219, 4, none⟩ = some (.int .i64 t215) := (blk_cell BK219.out 4).trans rfl
                have hcz162_5 : wc.cell? ⟨gb219, 5, none⟩ = some (.int .i64 t216) := (blk_cell BK219.out 5).trans rfl
                have hcz162_6 : wc.cell? ⟨gb219, 6, none⟩ = some (.int .i64 t217) := (blk_cell BK219.out 6).trans rfl
                have hfz162_0 := blk_frozen BK219.out 0
                have hfz162_1 := blk_frozen BK219.out 1
                have hfz162_2 := blk_frozen BK219.out 2
                have hfz162_3 := blk_frozen BK219.out 3
                have hfz162_4 := blk_frozen BK219.out 4
                have hfz162_5 := blk_frozen BK219.out 5
                have hfz162_6 := blk_frozen BK219.out 6
                go_wp2_with (first | ((with_reducible refine gate_callee (f := 17) rfl ?_); refine goesL_ (some 100) rfl rfl Try.func17 (by kernel_rfl) rfl #[.agg #[.int .i64 t209, .int .i64 t210, .slice Ao38 t235.length co38, .int .i64 t214, .int .i64 t215, .int .i64 t216, .int .i64 t217], .int .i64 1] rfl (by (try simp only [List.map_toArray, List.map_cons, List.map_nil]); first | done | rfl | (simp only [List.length_drop, List.length_take]; rfl)) ?_; (with_reducible refine (laws_heldTerrain.calls kj104 t209 t210 _ _ t235 t214 t215 t216 t217 1 t258 _ ?side1 ?side2 A149.out).mono ?_); (case side1 => repeat (first | exact (Kd.R_reads' HO_220002.out).2.2 | (with_reducible refine Kd.C_alloc ?_ _) | (with_reducible refine Kd.C_drewN ?_ _) | (with_reducible refine Kd.C_drew ?_))); (case side2 => exact (Kd.R_reads' HO_220002.out).2.1); rintro e w163 ⟨rfl, hb⟩; refine ⟨_, rfl, ?_⟩; have n0_ := am (Kd.R_below (by (with_reducible repeat (first | apply Kd.R_alloc | apply Kd.R_drewN | apply Kd.R_drew)); exact HO_199002.out) hb); have n1_ := am (Kd.R_below (by (with_reducible repeat (first | apply Kd.R_alloc | apply Kd.R_drewN | apply Kd.R_drew)); exact HO_209002.out) hb); have n2_ := am (Kd.R_below (by (with_reducible repeat (first | apply Kd.R_alloc | apply Kd.R_drewN | apply Kd.R_drew)); exact HO_220002.out) hb); have n3_ := am (Kd.R_below (by (with_reducible repeat (first | apply Kd.R_alloc | apply Kd.R_drewN | apply Kd.R_drew)); exact HO_257002.out) hb); have n4_ := am (blk_below (g := gb177) (o := .cells #[.int .i64 a0_0, .int .i64 a0_1, .slice A0_2 l0_2.length c0_2, .int .i64 a0_3, .int .i64 a0_4, .int .i64 a0_5, .int .i64 a0_6] 24 (0, 0)) (by (with_reducible repeat (first | apply kn | apply kd | apply ka)); exact BK177.out) hb); have n5_ := am (blk_below (g := gb198) (o := .cells #[.int .i64 t188, .int .i64 t189, .slice Ao24 t190.length co24, .int .i64 t193, .int .i64 t194, .int .i64 t195, .int .i64 t196] 27 (0, 0)) (by (with_reducible repeat (first | apply kn | apply kd | apply ka)); exact BK198.out) hb); have n6_ := am (blk_below (g := gb208) (o := .cells #[.int .i64 t199, .int .i64 t200, .slice Ao31 t232.length co31, .int .i64 t204, .int .i64 t205, .int .i64 t206, .int .i64 t207] 27 (0, 0)) (by (with_reducible repeat (first | apply kn | apply kd | apply ka)); exact BK208.out) hb); have n7_ := am (blk_below (g := gb219) (o := .cells #[.int .i64 t209, .int .i64 t210, .slice Ao38 t235.length co38, .int .i64 t214, .int .i64 t215, .int .i64 t216, .int .i64 t217] 27 (0, 0)) (by (with_reducible repeat (first | apply kn | apply kd | apply ka)); exact BK219.out) hb); have n8_ := am (blk_below (g := gb256) (o := .cells #[.int .i64 t246, .int .i64 t247, .slice Ao125 t248.length co125, .int .i64 t251, .int .i64 t252, .int .i64 t253, .int .i64 t254] 27 (0, 0)) (by (with_reducible repeat (first | apply kn | apply kd | apply ka)); exact BK256.out) hb); have n9_ := am (below_step (by repeat (first | (with_reducible first | exact HB.out | apply ba | apply bn | apply below_drew1 | refine below_set ?_ GE177.out | refine below_set ?_ GE198.out | refine below_set ?_ GE208.out | refine below_set ?_ GE219.out | refine below_set ?_ GE256.out) | exact HB.out)) hb); clear HO_199002; clear HO_209002; clear HO_220002; clear HO_257002; clear BK177; clear BK198; clear BK208; clear BK219; clear BK256; clear HB; have HO_199002 := n0_; have HO_209002 := n1_; have HO_220002 := n2_; have HO_257002 := n3_; have BK177 := n4_; have BK198 := n5_; have BK208 := n6_; have BK219 := n7_; have BK256 := n8_; have HB := n9_; clear n0_ n1_ n2_ n3_ n4_ n5_ n6_ n7_ n8_ n9_; (try clear hb); (try clear hb2); (try clear hk); (try clear hi)))
                go_ret
                exact ⟨by first | rfl | (simp [errW_none, errW_some] <;> rfl) | (simp [*, errW_none, errW_some] <;> rfl), by repeat (first | (with_reducible first | exact HB.out | apply ba | apply bn | apply below_drew1 | refine below_set ?_ GE177.out | refine below_set ?_ GE198.out | refine below_set ?_ GE208.out | refine below_set ?_ GE219.out | refine below_set ?_ GE256.out) | exact HB.out)⟩
               ·rw [if_neg c157] at H
                have c157b0 : (t258 == t234) = false := beq_eq_false_iff_ne.mpr c157
                have c157b1 : (t258 != t234) = true := bne_iff_ne.mpr c157
                obtain rfl := Option.some.inj H
                have hnb164 := NB219_177.out
                have hnc164 := NB177_219.out
                have hnb165 := NB219_198.out
                have hnc165 := NB198_219.out
                have hnb166 := NB219_208.out
                have hnc166 := NB208_219.out
                have hnb167 := NB219_256.out
                have hnc167 := NB256_219.out
                have hcz168_0 : wc.cell? ⟨gb219, 0, none⟩ = some (.int .i64 t209) := (blk_cell BK219.out 0).trans rfl
                have hcz168_1 : wc.cell? ⟨gb219, 1, none⟩ = some (.int .i64 t210) := (blk_cell BK219.out 1).trans rfl
                have hcz168_2 : wc.cell? ⟨gb219, 2, none⟩ = some (.slice Ao38 t235.length co38) := (blk_cell BK219.out 2).trans rfl
                have hcz168_3 : wc.cell? ⟨gb219, 3, none⟩ = some (.int .i64 t214) := (blk_cell BK219.out 3).trans rfl
                have hcz168_4 : wc.cell? ⟨gb219, 4, none⟩ = some (.int .i64 t215) := (blk_cell BK219.out 4).trans rfl
                have hcz168_5 : wc.cell? ⟨gb219, 5, none⟩ = some (.int .i64 t216) := (blk_cell BK219.out 5).trans rfl
                have hcz168_6 : wc.cell? ⟨gb219, 6, none⟩ = some (.int .i64 t217) := (blk_cell BK219.out 6).trans rfl
                have hfz168_0 := blk_frozen BK219.out 0
                have hfz168_1 := blk_frozen BK219.out 1
                have hfz168_2 := blk_frozen BK219.out 2
                have hfz168_3 := blk_frozen BK219.out 3
                have hfz168_4 := blk_frozen BK219.out 4
                have hfz168_5 := blk_frozen BK219.out 5
                have hfz168_6 := blk_frozen BK219.out 6
                go_wp2_with (first | ((with_reducible refine gate_callee (f := 17) rfl ?_); refine goesL_ (some 100) rfl rfl Try.func17 (by kernel_rfl) rfl #[.agg #[.int .i64 t209, .int .i64 t210, .slice Ao38 t235.length co38, .int .i64 t214, .int .i64 t215, .int .i64 t216, .int .i64 t217], .int .i64 1] rfl (by (try simp only [List.map_toArray, List.map_cons, List.map_nil]); first | done | rfl | (simp only [List.length_drop, List.length_take]; rfl)) ?_; (with_reducible refine (laws_heldTerrain.calls kj104 t209 t210 _ _ t235 t214 t215 t216 t217 1 t258 _ ?side1 ?side2 A149.out).mono ?_); (case side1 => repeat (first | exact (Kd.R_reads' HO_220002.out).2.2 | (with_reducible refine Kd.C_alloc ?_ _) | (with_reducible refine Kd.C_drewN ?_ _) | (with_reducible refine Kd.C_drew ?_))); (case side2 => exact (Kd.R_reads' HO_220002.out).2.1); rintro e w169 ⟨rfl, hb⟩; refine ⟨_, rfl, ?_⟩; have n0_ := am (Kd.R_below (by (with_reducible repeat (first | apply Kd.R_alloc | apply Kd.R_drewN | apply Kd.R_drew)); exact HO_199002.out) hb); have n1_ := am (Kd.R_below (by (with_reducible repeat (first | apply Kd.R_alloc | apply Kd.R_drewN | apply Kd.R_drew)); exact HO_209002.out) hb); have n2_ := am (Kd.R_below (by (with_reducible repeat (first | apply Kd.R_alloc | apply Kd.R_drewN | apply Kd.R_drew)); exact HO_220002.out) hb); have n3_ := am (Kd.R_below (by (with_reducible repeat (first | apply Kd.R_alloc | apply Kd.R_drewN | apply Kd.R_drew)); exact HO_257002.out) hb); have n4_ := am (blk_below (g := gb177) (o := .cells #[.int .i64 a0_0, .int .i64 a0_1, .slice A0_2 l0_2.length c0_2, .int .i64 a0_3, .int .i64 a0_4, .int .i64 a0_5, .int .i64 a0_6] 24 (0, 0)) (by (with_reducible repeat (first | apply kn | apply kd | apply ka)); exact BK177.out) hb); have n5_ := am (blk_below (g := gb198) (o := .cells #[.int .i64 t188, .int .i64 t189, .slice Ao24 t190.length co24, .int .i64 t193, .int .i64 t194, .int .i64 t195, .int .i64 t196] 27 (0, 0)) (by (with_reducible repeat (first | apply kn | apply kd | apply ka)); exact BK198.out) hb); have n6_ := am (blk_below (g := gb208) (o := .cells #[.int .i64 t199, .int .i64 t200, .slice Ao31 t232.length co31, .int .i64 t204, .int .i64 t205, .int .i64 t206, .int .i64 t207] 27 (0, 0)) (by (with_reducible repeat (first | apply kn | apply kd | apply ka)); exact BK208.out) hb); have n7_ := am (blk_below (g := gb219) (o := .cells #[.int .i64 t209, .int .i64 t210, .slice Ao38 t235.length co38, .int .i64 t214, .int .i64 t215, .int .i64 t216, .int .i64 t217] 27 (0, 0)) (by (with_reducible repeat (first | apply kn | apply kd | apply ka)); exact BK219.out) hb); have n8_ := am (blk_below (g := gb256) (o := .cells #[.int .i64 t246, .int .i64 t247, .slice Ao125 t248.length co125, .int .i64 t251, .int .i64 t252, .int .i64 t253, .int .i64 t254] 27 (0, 0)) (by (with_reducible repeat (first | apply kn | apply kd | apply ka)); exact BK256.out) hb); have n9_ := am (below_step (by repeat (first | (with_reducible first | exact HB.out | apply ba | apply bn | apply below_drew1 | refine below_set ?_ GE177.out | refine below_set ?_ GE198.out | refine below_set ?_ GE208.out | refine below_set ?_ GE219.out | refine below_set ?_ GE256.out) | exact HB.out)) hb); clear HO_199002; clear HO_209002; clear HO_220002; clear HO_257002; clear BK177; clear BK198; clear BK208; clear BK219; clear BK256; clear HB; have HO_199002 := n0_; have HO_209002 := n1_; have HO_220002 := n2_; have HO_257002 := n3_; have BK177 := n4_; have BK198 := n5_; have BK208 := n6_; have BK219 := n7_; have BK256 := n8_; have HB := n9_; clear n0_ n1_ n2_ n3_ n4_ n5_ n6_ n7_ n8_ n9_; (try clear hb); (try clear hb2); (try clear hk); (try clear hi)))
                go_ret
                exact ⟨by first | rfl | (simp [errW_none, errW_some] <;> rfl) | (simp [*, errW_none, errW_some] <;> rfl), by repeat (first | (with_reducible first | exact HB.out | apply ba | apply bn | apply below_drew1 | refine below_set ?_ GE177.out | refine below_set ?_ GE198.out | refine below_set ?_ GE208.out | refine below_set ?_ GE219.out | refine below_set ?_ GE256.out) | exact HB.out)⟩
          ·rw [if_neg c102] at H
           have c102b0 : (t236 == t234) = false := beq_eq_false_iff_ne.mpr c102
           have c102b1 : (t236 != t234) = true := bne_iff_ne.mpr c102
           obtain rfl := Option.some.inj H
           have hnb170 := NB219_177.out
           have hnc170 := NB177_219.out
           have hnb171 := NB219_198.out
           have hnc171 := NB198_219.out
           have hnb172 := NB219_208.out
           have hnc172 := NB208_219.out
           have hcz173_0 : wc.cell? ⟨gb219, 0, none⟩ = some (.int .i64 t209) := (blk_cell BK219.out 0).trans rfl
           have hcz173_1 : wc.cell? ⟨gb219, 1, none⟩ = some (.int .i64 t210) := (blk_cell BK219.out 1).trans rfl
           have hcz173_2 : wc.cell? ⟨gb219, 2, none⟩ = some (.slice Ao38 t211.length co38) := (blk_cell BK219.out 2).trans rfl
           have hcz173_3 : wc.cell? ⟨gb219, 3, none⟩ = some (.int .i64 t214) := (blk_cell BK219.out 3).trans rfl
           have hcz173_4 : wc.cell? ⟨gb219, 4, none⟩ = some (.int .i64 t215) := (blk_cell BK219.out 4).trans rfl
           have hcz173_5 : wc.cell? ⟨gb219, 5, none⟩ = some (.int .i64 t216) := (blk_cell BK219.out 5).trans rfl
           have hcz173_6 : wc.cell? ⟨gb219, 6, none⟩ = some (.int .i64 t217) := (blk_cell BK219.out 6).trans rfl
           have hfz173_0 := blk_frozen BK219.out 0
           have hfz173_1 := blk_frozen BK219.out 1
           have hfz173_2 := blk_frozen BK219.out 2
           have hfz173_3 := blk_frozen BK219.out 3
           have hfz173_4 := blk_frozen BK219.out 4
           have hfz173_5 := blk_frozen BK219.out 5
           have hfz173_6 := blk_frozen BK219.out 6
           go_wp2_with (first | ((with_reducible refine gate_callee (f := 16) rfl ?_); refine goesL_ (some 72) rfl rfl Try.func16 (by kernel_rfl) rfl #[.agg #[.int .i64 t209, .int .i64 t210, .slice Ao38 t211.length co38, .int .i64 t214, .int .i64 t215, .int .i64 t216, .int .i64 t217], .int .i64 1] rfl (by (try simp only [List.map_toArray, List.map_cons, List.map_nil]); first | done | rfl | (simp only [List.length_drop, List.length_take]; rfl)) ?_; (with_reducible refine (laws_markTerrain.calls kj61 t209 t210 (fun k_ => some k_ = (.slice Ao38 t211.length co38 : Value).ownBlock) (.slice Ao38 t211.length co38) t211 t214 t215 t216 t217 1 t234 t235 w _ ?side1 ?side2 A92.out).mono ?_); (case side1 => repeat (first | (with_reducible first | exact HB.out | apply ba | apply bn | apply below_drew1 | refine below_set ?_ GE177.out | refine below_set ?_ GE198.out | refine below_set ?_ GE208.out | refine below_set ?_ GE219.out) | exact HB.out)); (case side2 => exact Kd.R_tight rfl HO_220002.out); rintro e w174 ⟨rfl, hy0, hb, hkp⟩; refine ⟨_, rfl, ?_⟩; have n0_ := am (Kd.R_mono (ok' := fun k_ => some k_ ≠ (.slice Ao31 t232.length co31 : Value).ownBlock ∧ some k_ ≠ (.slice Ao38 t211.length co38 : Value).ownBlock) (Kd.R_keptB (HO_199002.out) hkp (fun k_ hk_ hs_ => (hk_.2) hs_)) (fun k_ hk_ => ⟨hk_.1.1, hk_.1.2⟩)); have n1_ := am (Kd.R_mono (ok' := fun k_ => some k_ ≠ (.slice Ao24 t190.length co24 : Value).ownBlock ∧ some k_ ≠ (.slice Ao38 t211.length co38 : Value).ownBlock) (Kd.R_keptB (HO_209002.out) hkp (fun k_ hk_ hs_ => (hk_.2) hs_)) (fun k_ hk_ => ⟨hk_.1.1, hk_.1.2⟩)); have n2_ := am (Kd.R_reok rfl hy0 (fun k_ e_ => HO_220002.out.1 k_ e_)); have n3_ := am (blk_kept (by (with_reducible repeat (first | apply kn | apply kd | apply ka)); exact BK177.out) hkp (fun hs_ => (fun e_ => (Kd.R_ne HO_220002.out BK177.out (by decide)) e_) hs_)); have n4_ := am (blk_kept (by (with_reducible repeat (first | apply kn | apply kd | apply ka)); exact BK198.out) hkp (fun hs_ => (fun e_ => (Kd.R_ne HO_220002.out BK198.out (by decide)) e_) hs_)); have n5_ := am (blk_kept (by (with_reducible repeat (first | apply kn | apply kd | apply ka)); exact BK208.out) hkp (fun hs_ => (fun e_ => (Kd.R_ne HO_220002.out BK208.out (by decide)) e_) hs_)); have n6_ := am (blk_kept (by (with_reducible repeat (first | apply kn | apply kd | apply ka)); exact BK219.out) hkp (fun hs_ => (fun e_ => (Kd.R_ne HO_220002.out BK219.out (by decide)) e_) hs_)); have n7_ := am (hb); clear HO_199002; clear HO_209002; clear HO_220002; clear BK177; clear BK198; clear BK208; clear BK219; clear HB; have HO_199002 := n0_; have HO_209002 := n1_; have HO_220002 := n2_; have BK177 := n3_; have BK198 := n4_; have BK208 := n5_; have BK219 := n6_; have HB := n7_; clear n0_ n1_ n2_ n3_ n4_ n5_ n6_ n7_; (try clear hb); (try clear hkp); (try clear hy0); have hcz175_0 : w174.cell? ⟨gb219, 0, none⟩ = some (.int .i64 t209) := (blk_cell BK219.out 0).trans rfl; have hcz175_1 : w174.cell? ⟨gb219, 1, none⟩ = some (.int .i64 t210) := (blk_cell BK219.out 1).trans rfl; have hcz175_2 : w174.cell? ⟨gb219, 2, none⟩ = some (.slice Ao38 t211.length co38) := (blk_cell BK219.out 2).trans rfl; have hcz175_3 : w174.cell? ⟨gb219, 3, none⟩ = some (.int .i64 t214) := (blk_cell BK219.out 3).trans rfl; have hcz175_4 : w174.cell? ⟨gb219, 4, none⟩ = some (.int .i64 t215) := (blk_cell BK219.out 4).trans rfl; have hcz175_5 : w174.cell? ⟨gb219, 5, none⟩ = some (.int .i64 t216) := (blk_cell BK219.out 5).trans rfl; have hcz175_6 : w174.cell? ⟨gb219, 6, none⟩ = some (.int .i64 t217) := (blk_cell BK219.out 6).trans rfl; have hfz175_0 := blk_frozen BK219.out 0; have hfz175_1 := blk_frozen BK219.out 1; have hfz175_2 := blk_frozen BK219.out 2; have hfz175_3 := blk_frozen BK219.out 3; have hfz175_4 := blk_frozen BK219.out 4; have hfz175_5 := blk_frozen BK219.out 5; have hfz175_6 := blk_frozen BK219.out 6) | ((with_reducible refine gate_callee (f := 17) rfl ?_); refine goesL_ (some 75) rfl rfl Try.func17 (by kernel_rfl) rfl #[.agg #[.int .i64 t209, .int .i64 t210, .slice Ao38 t235.length co38, .int .i64 t214, .int .i64 t215, .int .i64 t216, .int .i64 t217], .int .i64 1] rfl (by (try simp only [List.map_toArray, List.map_cons, List.map_nil]); first | done | (rw [show t235.length = t211.length from (Kd.R_reads' HO_220002.out).1.symm] <;> rfl) | rfl | (simp only [List.length_drop, List.length_take]; rfl)) ?_; (with_reducible refine (laws_heldTerrain.calls kj61 t209 t210 _ _ t235 t214 t215 t216 t217 1 t236 _ ?side1 ?side2 A93.out).mono ?_); (case side1 => repeat (first | exact (Kd.R_reads' HO_220002.out).2.2 | (with_reducible refine Kd.C_alloc ?_ _) | (with_reducible refine Kd.C_drewN ?_ _) | (with_reducible refine Kd.C_drew ?_))); (case side2 => rw [show t235.length = t211.length from (Kd.R_reads' HO_220002.out).1.symm]; exact (Kd.R_reads' HO_220002.out).2.1); rintro e w176 ⟨rfl, hb⟩; refine ⟨_, rfl, ?_⟩; have n0_ := am (Kd.R_below (by (with_reducible repeat (first | apply Kd.R_alloc | apply Kd.R_drewN | apply Kd.R_drew)); exact HO_199002.out) hb); have n1_ := am (Kd.R_below (by (with_reducible repeat (first | apply Kd.R_alloc | apply Kd.R_drewN | apply Kd.R_drew)); exact HO_209002.out) hb); have n2_ := am (Kd.R_below (by (with_reducible repeat (first | apply Kd.R_alloc | apply Kd.R_drewN | apply Kd.R_drew)); exact HO_220002.out) hb); have n3_ := am (blk_below (g := gb177) (o := .cells #[.int .i64 a0_0, .int .i64 a0_1, .slice A0_2 l0_2.length c0_2, .int .i64 a0_3, .int .i64 a0_4, .int .i64 a0_5, .int .i64 a0_6] 24 (0, 0)) (by (with_reducible repeat (first | apply kn | apply kd | apply ka)); exact BK177.out) hb); have n4_ := am (blk_below (g := gb198) (o := .cells #[.int .i64 t188, .int .i64 t189, .slice Ao24 t190.length co24, .int .i64 t193, .int .i64 t194, .int .i64 t195, .int .i64 t196] 27 (0, 0)) (by (with_reducible repeat (first | apply kn | apply kd | apply ka)); exact BK198.out) hb); have n5_ := am (blk_below (g := gb208) (o := .cells #[.int .i64 t199, .int .i64 t200, .slice Ao31 t232.length co31, .int .i64 t204, .int .i64 t205, .int .i64 t206, .int .i64 t207] 27 (0, 0)) (by (with_reducible repeat (first | apply kn | apply kd | apply ka)); exact BK208.out) hb); have n6_ := am (blk_below (g := gb219) (o := .cells #[.int .i64 t209, .int .i64 t210, .slice Ao38 t211.length co38, .int .i64 t214, .int .i64 t215, .int .i64 t216, .int .i64 t217] 27 (0, 0)) (by (with_reducible repeat (first | apply kn | apply kd | apply ka)); exact BK219.out) hb); have n7_ := am (below_step (by repeat (first | (with_reducible first | exact HB.out | apply ba | apply bn | apply below_drew1 | refine below_set ?_ GE177.out | refine below_set ?_ GE198.out | refine below_set ?_ GE208.out | refine below_set ?_ GE219.out) | exact HB.out)) hb); clear HO_199002; clear HO_209002; clear HO_220002; clear BK177; clear BK198; clear BK208; clear BK219; clear HB; have HO_199002 := n0_; have HO_209002 := n1_; have HO_220002 := n2_; have BK177 := n3_; have BK198 := n4_; have BK208 := n5_; have BK219 := n6_; have HB := n7_; clear n0_ n1_ n2_ n3_ n4_ n5_ n6_ n7_; (try clear hb); (try clear hb2); (try clear hk); (try clear hi)))
           go_ret
           exact ⟨by first | rfl | (simp [errW_none, errW_some] <;> rfl) | (simp [*, errW_none, errW_some] <;> rfl), by repeat (first | (with_reducible first | exact HB.out | apply ba | apply bn | apply below_drew1 | refine below_set ?_ GE177.out | refine below_set ?_ GE198.out | refine below_set ?_ GE208.out | refine below_set ?_ GE219.out) | exact HB.out)⟩
     ·replace c60 := Bool.eq_false_iff.mpr c60
      subst c60
      have H1 : (some false) = some r := by rw [if_neg (show ¬ (false = true) by decide)] at H; exact H
      clear H
      have H := H1
      clear H1
      obtain rfl := Option.some.inj H
      try go_wp2
      have n0_ := am (Kd.R_drew HO_199002.out)
      have n1_ := am (Kd.R_drew HO_209002.out)
      have n2_ := am (Kd.R_drew HO_220002.out)
      have n3_ := am (blk_drew BK177.out)
      have n4_ := am (blk_drew BK198.out)
      have n5_ := am (blk_drew BK208.out)
      have n6_ := am (blk_drew BK219.out)
      have n7_ := am (below_drew1 HB.out)
      clear HO_199002
      clear HO_209002
      clear HO_220002
      clear BK177
      clear BK198
      clear BK208
      clear BK219
      clear HB
      have HO_199002 := n0_
      have HO_209002 := n1_
      have HO_220002 := n2_
      have BK177 := n3_
      have BK198 := n4_
      have BK208 := n5_
      have BK219 := n6_
      have HB := n7_
      clear n0_ n1_ n2_ n3_ n4_ n5_ n6_ n7_
      refine start_ (n := 5) (S := fun w' => w'.cell? ⟨gb208, 0, none⟩ = some (.int .i64 t199) ∧ w'.cell? ⟨gb208, 1, none⟩ = some (.int .i64 t200) ∧ w'.cell? ⟨gb208, 2, none⟩ = some (.slice Ao31 t201.length co31) ∧ w'.cell? ⟨gb208, 3, none⟩ = some (.int .i64 t204) ∧ w'.cell? ⟨gb208, 4, none⟩ = some (.int .i64 t205) ∧ w'.cell? ⟨gb208, 5, none⟩ = some (.int .i64 t206) ∧ w'.cell? ⟨gb208, 6, none⟩ = some (.int .i64 t207) ∧ w'.cell? ⟨gb177, 0, none⟩ = some (.int .i64 a0_0) ∧ w'.cell? ⟨gb177, 1, none⟩ = some (.int .i64 a0_1) ∧ w'.cell? ⟨gb177, 2, none⟩ = some (.slice A0_2 l0_2.length c0_2) ∧ w'.cell? ⟨gb177, 3, none⟩ = some (.int .i64 a0_3) ∧ w'.cell? ⟨gb177, 4, none⟩ = some (.int .i64 a0_4) ∧ w'.cell? ⟨gb177, 5, none⟩ = some (.int .i64 a0_5) ∧ w'.cell? ⟨gb177, 6, none⟩ = some (.int .i64 a0_6)) (ds := []) #[false, false, false, false, false] (by kernel_rfl) rfl rfl ⟨(blk_cell BK208.out 0).trans rfl, (blk_cell BK208.out 1).trans rfl, (blk_cell BK208.out 2).trans rfl, (blk_cell BK208.out 3).trans rfl, (blk_cell BK208.out 4).trans rfl, (blk_cell BK208.out 5).trans rfl, (blk_cell BK208.out 6).trans rfl, (blk_cell BK177.out 0).trans rfl, (blk_cell BK177.out 1).trans rfl, (blk_cell BK177.out 2).trans rfl, (blk_cell BK177.out 3).trans rfl, (blk_cell BK177.out 4).trans rfl, (blk_cell BK177.out 5).trans rfl, (blk_cell BK177.out 6).trans rfl⟩ (fun hHeld => ?_)
      generalize wc.drew = w177 at HO_199002 HO_209002 HO_220002 BK177 BK198 BK208 BK219 HB hHeld ⊢
      refine take_ (i := 0) (N := some 49) (v := ?_) (a' := ?_) #[true, false, false, false, false] rfl rfl (by kernel_rfl) (fun _ _ _ h => h) (Or.inl ⟨by rfl, ?_⟩) hHeld ?_ ?_
      rotate_left
      ·rintro w' ⟨s0, s1, s2, s3, s4, s5, s6, s7, s8, s9, s10, s11, s12, s13⟩
       go_simp
       with_reducible rfl
      rotate_left
      ·simp only [Act.put, List.setIfInBounds_toArray, List.set_cons_zero, List.set_cons_succ, i64_w, i32_w]
       rfl
      refine take_ (i := 1) (N := some 50) (v := ?_) (a' := ?_) #[true, true, false, false, false] rfl rfl (by kernel_rfl) (fun _ _ _ h => h) (Or.inl ⟨by rfl, ?_⟩) hHeld ?_ ?_
      rotate_left
      ·rintro w' ⟨s0, s1, s2, s3, s4, s5, s6, s7, s8, s9, s10, s11, s12, s13⟩
       go_simp
       with_reducible rfl
      rotate_left
      ·simp only [Act.put, List.setIfInBounds_toArray, List.set_cons_zero, List.set_cons_succ, i64_w, i32_w]
       rfl
      refine one_ (i := 2) (N := some 51) #[true, true, true, false, false] rfl rfl (by kernel_rfl) (by decide) (fun K hK => ?_)
      refine goes_ Try.func11 (by kernel_rfl) rfl #[.agg #[.int .i64 a0_0, .int .i64 a0_1, .slice A0_2 l0_2.length c0_2, .int .i64 a0_3, .int .i64 a0_4, .int .i64 a0_5, .int .i64 a0_6]] (by rfl) rfl rfl (by (try simp only [List.map_toArray, List.map_cons, List.map_nil]); first | done | rfl | (simp only [List.length_drop, List.length_take]; rfl)) ?_
      with_reducible refine (laws_toTerrain.calls kj12 a0_0 a0_1 _ _ l0_2 a0_3 a0_4 a0_5 a0_6 t221 t222 t223 t226 t227 t228 t229 _ ?side1 ?side2 A58.out).mono ?_
      (case side1 => repeat (first | exact (Kd.C_below HR0_2.out HB.out) | (with_reducible refine Kd.C_alloc ?_ _) | (with_reducible refine Kd.C_drewN ?_ _) | (with_reducible refine Kd.C_drew ?_)))
      (case side2 => exact HC0_2.out)
      rintro e w178 ⟨v224, rfl, ho0, hb⟩
      refine ⟨_, rfl, ?_⟩
      have n0_ := am (Kd.R_elder' (by (with_reducible repeat (first | apply Kd.R_alloc | apply Kd.R_drewN | apply Kd.R_drew)); exact HO_199002.out) (Kd.R_base ho0) hb)
      have n1_ := am (Kd.R_elder' (by (with_reducible repeat (first | apply Kd.R_alloc | apply Kd.R_drewN | apply Kd.R_drew)); exact HO_209002.out) (Kd.R_base ho0) hb)
      have n2_ := am (Kd.R_elder' (by (with_reducible repeat (first | apply Kd.R_alloc | apply Kd.R_drewN | apply Kd.R_drew)); exact HO_220002.out) (Kd.R_base ho0) hb)
      have n3_ := am (Kd.R_lower (Kd.R_new' (Kd.R_new' (Kd.R_new' ho0 (Kd.R_lt (by (with_reducible repeat (first | apply Kd.R_alloc | apply Kd.R_drewN | apply Kd.R_drew)); exact HO_199002.out))) (Kd.R_lt (by (with_reducible repeat (first | apply Kd.R_alloc | apply Kd.R_drewN | apply Kd.R_drew)); exact HO_209002.out))) (Kd.R_lt (by (with_reducible repeat (first | apply Kd.R_alloc | apply Kd.R_drewN | apply Kd.R_drew)); exact HO_220002.out))) (below_size (by repeat (first | (with_reducible first | exact HB.out | apply ba | apply bn | apply below_drew1 | refine below_set ?_ GE177.out | refine below_set ?_ GE198.out | refine below_set ?_ GE208.out | refine below_set ?_ GE219.out) | exact HB.out))))
      have n4_ := am (blk_below (g := gb177) (o := .cells #[.int .i64 a0_0, .int .i64 a0_1, .slice A0_2 l0_2.length c0_2, .int .i64 a0_3, .int .i64 a0_4, .int .i64 a0_5, .int .i64 a0_6] 24 (0, 0)) (by (with_reducible repeat (first | apply kn | apply kd | apply ka)); exact BK177.out) hb)
      have n5_ := am (blk_below (g := gb198) (o := .cells #[.int .i64 t188, .int .i64 t189, .slice Ao24 t190.length co24, .int .i64 t193, .int .i64 t194, .int .i64 t195, .int .i64 t196] 27 (0, 0)) (by (with_reducible repeat (first | apply kn | apply kd | apply ka)); exact BK198.out) hb)
      have n6_ := am (blk_below (g := gb208) (o := .cells #[.int .i64 t199, .int .i64 t200, .slice Ao31 t201.length co31, .int .i64 t204, .int .i64 t205, .int .i64 t206, .int .i64 t207] 27 (0, 0)) (by (with_reducible repeat (first | apply kn | apply kd | apply ka)); exact BK208.out) hb)
      have n7_ := am (blk_below (g := gb219) (o := .cells #[.int .i64 t209, .int .i64 t210, .slice Ao38 t211.length co38, .int .i64 t214, .int .i64 t215, .int .i64 t216, .int .i64 t217] 27 (0, 0)) (by (with_reducible repeat (first | apply kn | apply kd | apply ka)); exact BK219.out) hb)
      have n8_ := am (below_step (by repeat (first | (with_reducible first | exact HB.out | apply ba | apply bn | apply below_drew1 | refine below_set ?_ GE177.out | refine below_set ?_ GE198.out | refine below_set ?_ GE208.out | refine below_set ?_ GE219.out) | exact HB.out)) hb)
      clear HO_199002
      clear HO_209002
      clear HO_220002
      clear BK177
      clear BK198
      clear BK208
      clear BK219
      clear HB
      have HO_199002 := n0_
      have HO_209002 := n1_
      have HO_220002 := n2_
      have HO225 := n3_
      have BK177 := n4_
      have BK198 := n5_
      have BK208 := n6_
      have BK219 := n7_
      have HB := n8_
      clear n0_ n1_ n2_ n3_ n4_ n5_ n6_ n7_ n8_
      (try clear hb)
      (try clear hb2)
      (try clear hk)
      (try clear hi)
      (try clear ho0)
      obtain ⟨Ao179, co179, eo179⟩ := Kd.R_slice HO225.out
      (first | subst eo179 | (injection eo179 with f1_ f2_ f3_; have f4_ := f1_.symm; have f5_ := f3_.symm; clear f1_ f2_ f3_; subst f4_; subst f5_))
      refine hK.out _ _ ⟨(blk_cell BK208.out 0).trans rfl, (blk_cell BK208.out 1).trans rfl, (blk_cell BK208.out 2).trans rfl, (blk_cell BK208.out 3).trans rfl, (blk_cell BK208.out 4).trans rfl, (blk_cell BK208.out 5).trans rfl, (blk_cell BK208.out 6).trans rfl, (blk_cell BK177.out 0).trans rfl, (blk_cell BK177.out 1).trans rfl, (blk_cell BK177.out 2).trans rfl, (blk_cell BK177.out 3).trans rfl, (blk_cell BK177.out 4).trans rfl, (blk_cell BK177.out 5).trans rfl, (blk_cell BK177.out 6).trans rfl⟩ (fun hHeld => ?_)
      clear hK K
      refine norm_ (a' := ?_) ?_ ?_
      rotate_left
      ·show Act.put _ (some 51) _ = _
       simp only [Act.put, List.setIfInBounds_toArray, List.set_cons_zero, List.set_cons_succ, i64_w, i32_w]
       rfl
      refine one_ (i := 3) (N := some 52) #[true, true, true, true, false] rfl rfl (by kernel_rfl) (by decide) (fun K hK => ?_)
      refine goes_ Try.func13 (by kernel_rfl) rfl #[.agg #[.int .i64 t199, .int .i64 t200, .slice Ao31 t201.length co31, .int .i64 t204, .int .i64 t205, .int .i64 t206, .int .i64 t207], .agg #[.int .i64 t221, .int .i64 t222, .slice Ao179 t223.length co179, .int .i64 t226, .int .i64 t227, .int .i64 t228, .int .i64 t229]] (by rfl) rfl rfl (by (try simp only [List.map_toArray, List.map_cons, List.map_nil]); first | done | rfl | (simp only [List.length_drop, List.length_take]; rfl)) ?_
      with_reducible refine (laws_eqTerrain.calls kj12 t199 t200 _ _ t201 t204 t205 t206 t207 t221 t222 _ _ t223 t226 t227 t228 t229 false _ ?side1 ?side2 ?side3 ?side4 A59.out).mono ?_
      (case side1 => repeat (first | exact (Kd.R_reads' HO_209002.out).2.2 | (with_reducible refine Kd.C_alloc ?_ _) | (with_reducible refine Kd.C_drewN ?_ _) | (with_reducible refine Kd.C_drew ?_)))
      (case side2 => exact (Kd.R_reads' HO_209002.out).2.1)
      (case side3 => repeat (first | exact (Kd.R_reads' HO225.out).2.2 | (with_reducible refine Kd.C_alloc ?_ _) | (with_reducible refine Kd.C_drewN ?_ _) | (with_reducible refine Kd.C_drew ?_)))
      (case side4 => exact (Kd.R_reads' HO225.out).2.1)
      rintro e w180 ⟨rfl, hb⟩
      refine ⟨_, rfl, ?_⟩
      have n0_ := am (Kd.R_below (by (with_reducible repeat (first | apply Kd.R_alloc | apply Kd.R_drewN | apply Kd.R_drew)); exact HO_199002.out) hb)
      have n1_ := am (Kd.R_below (by (with_reducible repeat (first | apply Kd.R_alloc | apply Kd.R_drewN | apply Kd.R_drew)); exact HO_209002.out) hb)
      have n2_ := am (Kd.R_below (by (with_reducible repeat (first | apply Kd.R_alloc | apply Kd.R_drewN | apply Kd.R_drew)); exact HO_220002.out) hb)
      have n3_ := am (Kd.R_below (by (with_reducible repeat (first | apply Kd.R_alloc | apply Kd.R_drewN | apply Kd.R_drew)); exact HO225.out) hb)
      have n4_ := am (blk_below (g := gb177) (o := .cells #[.int .i64 a0_0, .int .i64 a0_1, .slice A0_2 l0_2.length c0_2, .int .i64 a0_3, .int .i64 a0_4, .int .i64 a0_5, .int .i64 a0_6] 24 (0, 0)) (by (with_reducible repeat (first | apply kn | apply kd | apply ka)); exact BK177.out) hb)
      have n5_ := am (blk_below (g := gb198) (o := .cells #[.int .i64 t188, .int .i64 t189, .slice Ao24 t190.length co24, .int .i64 t193, .int .i64 t194, .int .i64 t195, .int .i64 t196] 27 (0, 0)) (by (with_reducible repeat (first | apply kn | apply kd | apply ka)); exact BK198.out) hb)
      have n6_ := am (blk_below (g := gb208) (o := .cells #[.int .i64 t199, .int .i64 t200, .slice Ao31 t201.length co31, .int .i64 t204, .int .i64 t205, .int .i64 t206, .int .i64 t207] 27 (0, 0)) (by (with_reducible repeat (first | apply kn | apply kd | apply ka)); exact BK208.out) hb)
      have n7_ := am (blk_below (g := gb219) (o := .cells #[.int .i64 t209, .int .i64 t210, .slice Ao38 t211.length co38, .int .i64 t214, .int .i64 t215, .int .i64 t216, .int .i64 t217] 27 (0, 0)) (by (with_reducible repeat (first | apply kn | apply kd | apply ka)); exact BK219.out) hb)
      have n8_ := am (below_step (by repeat (first | (with_reducible first | exact HB.out | apply ba | apply bn | apply below_drew1 | refine below_set ?_ GE177.out | refine below_set ?_ GE198.out | refine below_set ?_ GE208.out | refine below_set ?_ GE219.out) | exact HB.out)) hb)
      clear HO_199002
      clear HO_209002
      clear HO_220002
      clear HO225
      clear BK177
      clear BK198
      clear BK208
      clear BK219
      clear HB
      have HO_199002 := n0_
      have HO_209002 := n1_
      have HO_220002 := n2_
      have HO225 := n3_
      have BK177 := n4_
      have BK198 := n5_
      have BK208 := n6_
      have BK219 := n7_
      have HB := n8_
      clear n0_ n1_ n2_ n3_ n4_ n5_ n6_ n7_ n8_
      (try clear hb)
      (try clear hb2)
      (try clear hk)
      (try clear hi)
      refine hK.out _ _ ⟨(blk_cell BK208.out 0).trans rfl, (blk_cell BK208.out 1).trans rfl, (blk_cell BK208.out 2).trans rfl, (blk_cell BK208.out 3).trans rfl, (blk_cell BK208.out 4).trans rfl, (blk_cell BK208.out 5).trans rfl, (blk_cell BK208.out 6).trans rfl, (blk_cell BK177.out 0).trans rfl, (blk_cell BK177.out 1).trans rfl, (blk_cell BK177.out 2).trans rfl, (blk_cell BK177.out 3).trans rfl, (blk_cell BK177.out 4).trans rfl, (blk_cell BK177.out 5).trans rfl, (blk_cell BK177.out 6).trans rfl⟩ (fun hHeld => ?_)
      clear hK K
      refine norm_ (a' := ?_) ?_ ?_
      rotate_left
      ·show Act.put _ (some 52) _ = _
       simp only [Act.put, List.setIfInBounds_toArray, List.set_cons_zero, List.set_cons_succ, i64_w, i32_w]
       rfl
      refine pure_ (i := 4) (N := some 53) (v := ?_) (a' := ?_) #[true, true, true, true, true] rfl rfl (by kernel_rfl) (fun _ _ _ h => h) (Or.inl ⟨by rfl, ?_⟩) ?_ ?_
      rotate_left
      ·intro w'
       go_simp
       with_reducible rfl
      rotate_left
      ·simp only [Act.put, List.setIfInBounds_toArray, List.set_cons_zero, List.set_cons_succ, i64_w, i32_w]
       rfl
      refine done_ (by kernel_rfl) ?_
      try go_wp2
      go_ret
      exact ⟨by first | rfl | (simp [errW_none, errW_some] <;> rfl) | (simp [*, errW_none, errW_some] <;> rfl), by repeat (first | (with_reducible first | exact HB.out | apply ba | apply bn | apply below_drew1 | refine below_set ?_ GE177.out | refine below_set ?_ GE198.out | refine below_set ?_ GE208.out | refine below_set ?_ GE219.out) | exact HB.out)⟩

end Go.Proofs.Ytbgjhdhdfdfpkaa.PFnExactSetHeight
