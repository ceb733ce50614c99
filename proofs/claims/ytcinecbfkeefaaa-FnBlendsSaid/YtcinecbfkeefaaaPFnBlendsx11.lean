/- Text written by a program for this claim: contracts of the functions of one law. -/
import Derived.Test.YtcinecbfkeefaaaPFnBlendsx0
import Derived.Test.YtcinecbfkeefaaaPFnBlendsx1
import Derived.Test.YtcinecbfkeefaaaPFnBlendsx2
import Derived.Test.YtcinecbfkeefaaaPFnBlendsx3
import Derived.Test.YtcinecbfkeefaaaPFnBlendsx4
import Derived.Test.YtcinecbfkeefaaaPFnBlendsx7
import Derived.Test.YtcinecbfkeefaaaPFnBlendsx8
import Derived.Test.YtcinecbfkeefaaaPFnBlendsx9
import Derived.Test.YtcinecbfkeefaaaPFnBlendsx10
namespace Go.Proofs.Ytcinecbfkeefaaa.PFnBlends
open Go.RowKit Go.Proofs.YtcinecbfkeefaaaW.PrintWords Go.Proofs.YtcinecbfkeefaaaW.PrintLast Go.Proofs.YtcinecbfkeefaaaW.PrintMore
attribute [local go_sem] max2_int min2_int max_two min_two max_three min_three max_four min_four   -- for this text's walks alone
set_option linter.unusedVariables false
set_option linter.unusedSimpArgs false
open ShortPFnBlends0

/-! ### spec_DrawMeetsWanted: function 42 -/
def spec_DrawMeetsWanted.j0 : Nat → List (S63) → List Int → Bool → List Int → Int → Int → Int → Int → Int → Int → Option ((List (S63)) × Int × Int × Int × Int × List Int × Int × Int)
 | 0, _, _, _, _, _, _, _, _, _, _ => none
 | k + 1, x6, x7, x25, x1000, x1001, x1002, x321000, x321001, x321002, x321003 => if x25 = true then ((spec_blSums.f k x6 x7).bind fun t325 => (if 0 < (t325.length : Int) then ((spec_l1Least.f 12 (rd t325 0)).bind fun t329 => ((spec_l1Most.f 1 t329).bind fun t330 => (some (x6, t330, x321001, x321002, x321003, x7, x1001, x1002)))) else (none))) else (some (x6, x321000, x321001, x321002, x321003, x7, x1001, x1002))
def spec_DrawMeetsWanted.q (k : Nat) (s0_0 : List Int) (s0_1 : Int) (s0_2 : Int) : Option ((List (S63)) × Int × Int × Int × Int × List Int × Int × Int) := (spec_l1Cur_bins.f k s0_0 s0_1 s0_2).bind fun bt304 => ((spec_l1Cur_partsOf.f k s0_0 bt304.2.1 bt304.2.2 bt304.1).bind fun bt309 => ((spec_l1Cur_wanted.f s0_0 bt309.2.1 bt309.2.2).bind fun bt314 => ((spec_blParts.f k bt304.1 bt309.1).bind fun t321 => (if t321 = true then ((spec_l1Cur_one.f s0_0 bt314.2.2.2.2.1 bt314.2.2.2.2.2 2).bind fun bt322 => (spec_DrawMeetsWanted.j0 k bt304.1 bt309.1 bt322.1 s0_0 bt322.2.1 bt322.2.2 bt314.1 bt314.2.1 bt314.2.2.1 bt314.2.2.2.1)) else (spec_DrawMeetsWanted.j0 k bt304.1 bt309.1 false s0_0 bt314.2.2.2.2.1 bt314.2.2.2.2.2 bt314.1 bt314.2.1 bt314.2.2.1 bt314.2.2.2.1)))))
def spec_DrawMeetsWanted.f (k : Nat) (l0 : List Int) : Option ((List (S63)) × Int × Int × Int × Int × List Int) := (spec_DrawMeetsWanted.q k l0 0 0).bind fun q => some (q.1, q.2.1, q.2.2.1, q.2.2.2.1, q.2.2.2.2.1, q.2.2.2.2.2.1)
set_option maxHeartbeats 8000000 in
set_option maxRecDepth 100000 in
theorem spec_DrawMeetsWanted.calls (k : Nat) (A0 : Option Addr) (c0 : Nat) (l0 : List Int) (z1 : List (S63)) (z2 : Int) (z3 : Int) (z4 : Int) (z5 : Int) (z6 : List Int) (w0 : World) (hr0 : Kd.C (Kd.int .u8) w0 A0 l0.length l0) (hc0 : l0.length ≤ c0) (h : spec_DrawMeetsWanted.f k l0 = some (z1, z2, z3, z4, z5, z6)) :
  Calls Try.prog 42 #[.slice A0 l0.length c0] w0 fun e w' => ∃ v0_ v5_ : Value, e = .returned (.tuple #[v0_, .agg #[.int .i64 z2, .int .i64 z3, .int .i64 z4, .int .i64 z5], v5_]) ∧ Kd.R k63 63 w' w0.heap.size (fun _ => True) v0_ z1 ∧ Kd.R (Kd.int .i64) 3 w' w0.heap.size (fun _ => True) v5_ z6 ∧ Below w0.heap.size w0 w' := by
 suffices H_ : Calls Try.prog 42 #[.slice A0 l0.length c0] w0 fun e w' => ∃ b_ : Nat, w0.heap.size ≤ b_ ∧ ∃ v0_ v5_ : Value, e = .returned (.tuple #[v0_, .agg #[.int .i64 z2, .int .i64 z3, .int .i64 z4, .int .i64 z5], v5_]) ∧ Kd.R k63 63 w' b_ (fun _ => True) v0_ z1 ∧ Kd.R (Kd.int .i64) 3 w' b_ (fun _ => True) v5_ z6 ∧ Below w0.heap.size w0 w' from H_.mono (fun e w' h_ => by
  obtain ⟨b_, hb_, v0_, v5_, he, ho0, ho1, hbel⟩ := h_
  exact ⟨v0_, v5_, he, Kd.R_lower ho0 hb_, Kd.R_lower ho1 hb_, hbel⟩)
 obtain ⟨⟨r1, r2, r3, r4, r5, r6, r7, r8⟩, hq, hs⟩ := Option.bind_eq_some_iff.1 h
 simp only [Option.some.injEq, Prod.mk.injEq] at hs
 obtain ⟨rfl, rfl, rfl, rfl, rfl, rfl⟩ := hs
 have HR_ := Aside0.mk hr0
 have Hq_ := am hq
 clear hr0 hc0 hq h
 go_enter Try.func42, Try.ntmps42
 go_upto_region 2 with (first | ((with_reducible refine gate_dst (N := 3) rfl ?_); refine box_event ?hg (N := 3) ?hd (cs := #[.int .i64 0, .int .i64 0, .int .i64 0, .int .i64 0]) (t := 45) ?hr ?_; (case hd => rfl); (case hg => rfl); (case hr => exact zo'); intro gb303 hg w4_ hbox hb; have BK_ := Aside0.mk hbox; have HGB_ := Aside0.mk hg; have HB4_ := Aside0.mk hb; clear hg hbox hb) | ((with_reducible refine gate_dst (N := 11) rfl ?_); refine box_event ?hg (N := 11) ?hd (cs := #[.slice A0 l0.length c0, .int .i64 0, .int .u64 0]) (t := 96) ?hr ?_; (case hd => rfl); (case hg => rfl); (case hr => exact zo'); intro g hg wx hbox hb; have BX_ := Aside0.mk hbox; have HG_ := Aside0.mk hg; have HB_ := Aside0.mk hb; clear hg hbox hb))
 have hB : Below w0.heap.size w0 wx := below_step HB4_.out HB_.out
 have hI : IsS96 w0 wx g l0 0 0 := ⟨A0, c0, BX_.out, by rw [HG_.out]; exact HB4_.out.size, HR_.out⟩
 have BK303 : Aside0 (wx.heap[gb303]? = some (.cells #[.int .i64 0, .int .i64 0, .int .i64 0, .int .i64 0] 45 (0, 0))) := ⟨(HB_.out.block _ (blk_lt BK_.out)).trans BK_.out⟩
 have GW303 : Aside0 (w0.heap.size ≤ gb303) := ⟨Nat.le_of_eq HGB_.out.symm⟩
 have GE303 : Aside0 (w0.heap.size ≤ gb303) := ⟨Nat.le_of_eq HGB_.out.symm⟩
 have NB0_303 : Aside0 (g ≠ gb303) := ⟨by rw [HG_.out]; exact Nat.ne_of_gt (blk_lt BK_.out)⟩
 have NB303_0 : Aside0 (gb303 ≠ g) := ⟨by rw [HG_.out]; exact Nat.ne_of_lt (blk_lt BK_.out)⟩
 have h := Hq_.out
 clear BX_ HG_ HB_ Hq_ HR_ BK_ HGB_ HB4_
 have hu45 := Try.underlying45
 have HI0 := Aside0.mk hI
 have HK := am (KeepBut.of_below hB g none)
 have HL := am (Nat.le_refl w0.heap.size)
 clear hI
 have HW0 := am (Nat.le_refl w0.heap.size)
 have HB := Aside0.mk hB
 clear hB
 have H : ((spec_l1Cur_bins.f k l0 0 0).bind fun bt304 => ((spec_l1Cur_partsOf.f k l0 bt304.2.1 bt304.2.2 bt304.1).bind fun bt309 => ((spec_l1Cur_wanted.f l0 bt309.2.1 bt309.2.2).bind fun bt314 => ((spec_blParts.f k bt304.1 bt309.1).bind fun t321 => (if t321 = true then ((spec_l1Cur_one.f l0 bt314.2.2.2.2.1 bt314.2.2.2.2.2 2).bind fun bt322 => (spec_DrawMeetsWanted.j0 k bt304.1 bt309.1 bt322.1 l0 bt322.2.1 bt322.2.2 bt314.1 bt314.2.1 bt314.2.2.1 bt314.2.2.2.1)) else (spec_DrawMeetsWanted.j0 k bt304.1 bt309.1 false l0 bt314.2.2.2.2.1 bt314.2.2.2.2.2 bt314.1 bt314.2.1 bt314.2.2.1 bt314.2.2.2.1)))))) = some (r1, r2, r3, r4, r5, r6, r7, r8) := h
 clear h
 replace H := Option.bind_eq_some_iff.mp H
 obtain ⟨⟨t304, t307, t308⟩, A20, H⟩ := H
 replace H : ((spec_l1Cur_partsOf.f k l0 t307 t308 t304).bind fun bt309 => ((spec_l1Cur_wanted.f l0 bt309.2.1 bt309.2.2).bind fun bt314 => ((spec_blParts.f k t304 bt309.1).bind fun t321 => (if t321 = true then ((spec_l1Cur_one.f l0 bt314.2.2.2.2.1 bt314.2.2.2.2.2 2).bind fun bt322 => (spec_DrawMeetsWanted.j0 k t304 bt309.1 bt322.1 l0 bt322.2.1 bt322.2.2 bt314.1 bt314.2.1 bt314.2.2.1 bt314.2.2.2.1)) else (spec_DrawMeetsWanted.j0 k t304 bt309.1 false l0 bt314.2.2.2.2.1 bt314.2.2.2.2.2 bt314.1 bt314.2.1 bt314.2.2.1 bt314.2.2.2.1))))) = some (r1, r2, r3, r4, r5, r6, r7, r8) := H
 have A2 := Aside0.mk A20
 clear A20
 replace H := Option.bind_eq_some_iff.mp H
 obtain ⟨⟨t309, t312, t313⟩, A30, H⟩ := H
 replace H : ((spec_l1Cur_wanted.f l0 t312 t313).bind fun bt314 => ((spec_blParts.f k t304 t309).bind fun t321 => (if t321 = true then ((spec_l1Cur_one.f l0 bt314.2.2.2.2.1 bt314.2.2.2.2.2 2).bind fun bt322 => (spec_DrawMeetsWanted.j0 k t304 t309 bt322.1 l0 bt322.2.1 bt322.2.2 bt314.1 bt314.2.1 bt314.2.2.1 bt314.2.2.2.1)) else (spec_DrawMeetsWanted.j0 k t304 t309 false l0 bt314.2.2.2.2.1 bt314.2.2.2.2.2 bt314.1 bt314.2.1 bt314.2.2.1 bt314.2.2.2.1)))) = some (r1, r2, r3, r4, r5, r6, r7, r8) := H
 have A3 := Aside0.mk A30
 clear A30
 replace H := Option.bind_eq_some_iff.mp H
 obtain ⟨⟨t314, t315, t316, t317, t318, t319⟩, A40, H⟩ := H
 replace H : ((spec_blParts.f k t304 t309).bind fun t321 => (if t321 = true then ((spec_l1Cur_one.f l0 t318 t319 2).bind fun bt322 => (spec_DrawMeetsWanted.j0 k t304 t309 bt322.1 l0 bt322.2.1 bt322.2.2 t314 t315 t316 t317)) else (spec_DrawMeetsWanted.j0 k t304 t309 false l0 t318 t319 t314 t315 t316 t317))) = some (r1, r2, r3, r4, r5, r6, r7, r8) := H
 have A4 := Aside0.mk A40
 clear A40
 have HC5 := Aside0.mk H
 clear H
 go_upto_region 5 with (first | ((with_reducible refine gate_dst (N := 3) rfl ?_); refine box_event ?hg (N := 3) ?hd (cs := #[.int .i64 0, .int .i64 0, .int .i64 0, .int .i64 0]) (t := 45) ?hr ?_; (case hd => rfl); (case hg => rfl); (case hr => exact zo'); intro gb303 hg w6 hbox hb; have n0_ := am (IsS96.below zd' hb); have n1_ := am (KeepBut.trans zc' (KeepBut.of_below hb g none) (.inl rfl)); have n2_ := am (below_step ze' hb); have n3_ := am (hbox); have n4_ := am ((by rw [hg]; exact (keep_size (w := w0) (g := g) (row := none) zc') : w0.heap.size ≤ gb303)); have n5_ := am ((Nat.le_trans HW0.out (by rw [hg]; exact (keep_size (w := w0) (g := g) (row := none) zc') : w0.heap.size ≤ gb303) : w0.heap.size ≤ gb303)); have n6_ := am ((by rw [hg]; exact Nat.ne_of_lt (IsS96.lt (show IsS96 w0 _ g l0 0 0 from by repeat (first | (with_reducible first | exact HI0.out | apply IsS96.alloc | apply IsS96.drewN | apply IsS96.drew | apply IsS96.set_1 | apply IsS96.set_2) | exact HI0.out))) : g ≠ gb303)); have n7_ := am ((by rw [hg]; exact Nat.ne_of_gt (IsS96.lt (show IsS96 w0 _ g l0 0 0 from by repeat (first | (with_reducible first | exact HI0.out | apply IsS96.alloc | apply IsS96.drewN | apply IsS96.drew | apply IsS96.set_1 | apply IsS96.set_2) | exact HI0.out))) : gb303 ≠ g)); clear HI0; clear HK; clear HB; have HI0 := n0_; have HK := n1_; have HB := n2_; have BK303 := n3_; have GW303 := n4_; have GE303 := n5_; have NB0_303 := n6_; have NB303_0 := n7_; clear n0_ n1_ n2_ n3_ n4_ n5_ n6_ n7_; clear hb hbox hg) | ((with_reducible refine gate_callee (f := 73) rfl ?_); refine goesL_ (some 13) rfl rfl Try.func73 (by kernel_rfl) rfl #[.pointer (some ⟨g, 0, none⟩)] rfl zb' ?_; (with_reducible refine (spec_l1Cur_bins.calls k g l0 0 0 t304 t307 t308 w0 _ ?side1 ?side2 A2.out).mono ?_); (case side1 => exact zr2'); (case side2 => exact zz2'); rintro e w7 ⟨v305, rfl, ho0, hi, hb, hk⟩; refine ⟨_, rfl, ?_⟩; have n0_ := am (KeepBut.blk hk (g' := gb303) (o := o0') ze2' NB303_0.out (by simp)); have n1_ := am (Kd.R_lower ho0 (keep_size (w := w0) (g := g) (row := none) zr1')); have n2_ := am (KeepBut.trans zr1' hk (.inl rfl)); have n3_ := am (hb); have n4_ := am (hi); clear BK303; clear HK; clear HB; clear HI0; have BK303 := n0_; have HO306 := n1_; have HK := n2_; have HB := n3_; have HI0 := n4_; clear n0_ n1_ n2_ n3_ n4_; (try clear hb); (try clear hb2); (try clear hk); (try clear hi); (try clear ho0); obtain ⟨Ao8, co8, eo8⟩ := Kd.R_slice HO306.out; subst eo8) | ((with_reducible refine gate_callee (f := 75) rfl ?_); refine goesL_ (some 16) rfl rfl Try.func75 (by kernel_rfl) rfl #[.pointer (some ⟨g, 0, none⟩), .slice Ao8 t304.length co8] rfl zb' ?_; (with_reducible refine (spec_l1Cur_partsOf.calls k g l0 t307 t308 _ _ t304 t309 t312 t313 w0 _ ?side1 ?side2 ?side3 ?side4 A3.out).mono ?_); (case side1 => exact zr2'); (case side2 => exact zz2'); (case side3 => exact Kd.C_foot_own (IsS96.apart (show IsS96 w0 _ g l0 t307 t308 from by repeat (first | (with_reducible first | exact HI0.out | apply IsS96.alloc | apply IsS96.drewN | apply IsS96.drew | apply IsS96.set_1 | apply IsS96.set_2 | refine IsS96.far ?_ NB0_303.out _) | exact HI0.out)) zs2' (by decide)) (fun _ h_ => h_.2)); (case side4 => exact (Kd.R_reads' HO306.out).2.1); rintro e w9 ⟨v310, rfl, ho0, hi, hb, hk⟩; refine ⟨_, rfl, ?_⟩; have n0_ := am (KeepBut.blk hk (g' := gb303) (o := o0') ze2' NB303_0.out (by simp)); have n1_ := am (Kd.R_mono (Kd.R_keep (IsS96.apart (show IsS96 w0 _ g l0 t307 t308 from by repeat (first | (with_reducible first | exact HI0.out | apply IsS96.alloc | apply IsS96.drewN | apply IsS96.drew | apply IsS96.set_1 | apply IsS96.set_2 | refine IsS96.far ?_ NB0_303.out _) | exact HI0.out)) zs2' (by decide)) hk (fun _ h => h.2)) (fun _ h => h.1)); have n2_ := am (Kd.R_lower ho0 (keep_size (w := w0) (g := g) (row := none) zr1')); have n3_ := am (KeepBut.trans zr1' hk (.inl rfl)); have n4_ := am (hb); have n5_ := am (hi); clear BK303; clear HO306; clear HK; clear HB; clear HI0; have BK303 := n0_; have HO306 := n1_; have HO311 := n2_; have HK := n3_; have HB := n4_; have HI0 := n5_; clear n0_ n1_ n2_ n3_ n4_ n5_; (try clear hb); (try clear hb2); (try clear hk); (try clear hi); (try clear ho0)) | ((with_reducible refine gate_callee (f := 74) rfl ?_); refine goesL_ (some 18) rfl rfl Try.func74 (by kernel_rfl) rfl #[.pointer (some ⟨g, 0, none⟩)] rfl zb' ?_; (with_reducible refine (spec_l1Cur_wanted.calls g l0 t312 t313 t314 t315 t316 t317 t318 t319 w0 _ ?side1 ?side2 A4.out).mono ?_); (case side1 => exact zr2'); (case side2 => exact zz2'); rintro e w10 ⟨rfl, hi, hb, hk⟩; refine ⟨_, rfl, ?_⟩; have n0_ := am (KeepBut.blk hk (g' := gb303) (o := o0') ze2' NB303_0.out (by simp)); have n1_ := am (Kd.R_mono (Kd.R_keep (IsS96.apart (show IsS96 w0 _ g l0 t312 t313 from by repeat (first | (with_reducible first | exact HI0.out | apply IsS96.alloc | apply IsS96.drewN | apply IsS96.drew | apply IsS96.set_1 | apply IsS96.set_2 | refine IsS96.far ?_ NB0_303.out _) | exact HI0.out)) zs2' (by decide)) hk (fun _ h => h.2)) (fun _ h => h.1)); have n2_ := am (Kd.R_mono (Kd.R_keep (IsS96.apart (show IsS96 w0 _ g l0 t312 t313 from by repeat (first | (with_reducible first | exact HI0.out | apply IsS96.alloc | apply IsS96.drewN | apply IsS96.drew | apply IsS96.set_1 | apply IsS96.set_2 | refine IsS96.far ?_ NB0_303.out _) | exact HI0.out)) zw3' (by decide)) hk (fun _ h => h.2)) (fun _ h => h.1)); have n3_ := am (KeepBut.trans zr1' hk (.inl rfl)); have n4_ := am (hb); have n5_ := am (hi); clear BK303; clear HO306; clear HO311; clear HK; clear HB; clear HI0; have BK303 := n0_; have HO306 := n1_; have HO311 := n2_; have HK := n3_; have HB := n4_; have HI0 := n5_; clear n0_ n1_ n2_ n3_ n4_ n5_; (try clear hb); (try clear hb2); (try clear hk); (try clear hi)) | ((with_reducible refine gate_dst (N := 8) rfl ?_); refine box_event ?hg (N := 8) ?hd (cs := #[.int .i64 0, .int .i64 0, .int .i64 0, .int .i64 0]) (t := 45) ?hr ?_; (case hd => rfl); (case hg => rfl); (case hr => exact zo'); intro gb320 hg w11 hbox hb; have n0_ := am (Kd.R_below zs2' hb); have n1_ := am (Kd.R_below zw3' hb); have n2_ := am (IsS96.below zr2' hb); have n3_ := am (blk_below (g := gb303) (o := o0') ze2' hb); have n4_ := am (KeepBut.trans zr1' (KeepBut.of_below hb g none) (.inl rfl)); have n5_ := am (below_step zz2' hb); have n6_ := am (hbox); have n7_ := am ((by rw [hg]; exact (keep_size (w := w0) (g := g) (row := none) zr1') : w0.heap.size ≤ gb320)); have n8_ := am ((Nat.le_trans HW0.out (by rw [hg]; exact (keep_size (w := w0) (g := g) (row := none) zr1') : w0.heap.size ≤ gb320) : w0.heap.size ≤ gb320)); have n9_ := am ((by rw [hg]; exact Nat.ne_of_lt (blk_lt (g := gb303) (o := o0') ze2') : gb303 ≠ gb320)); have n10_ := am ((by rw [hg]; exact Nat.ne_of_gt (blk_lt (g := gb303) (o := o0') ze2') : gb320 ≠ gb303)); have n11_ := am ((by rw [hg]; exact Nat.ne_of_lt (IsS96.lt (show IsS96 w0 _ g l0 t318 t319 from by repeat (first | (with_reducible first | exact HI0.out | apply IsS96.alloc | apply IsS96.drewN | apply IsS96.drew | apply IsS96.set_1 | apply IsS96.set_2 | refine IsS96.far ?_ NB0_303.out _) | exact HI0.out))) : g ≠ gb320)); have n12_ := am ((by rw [hg]; exact Nat.ne_of_gt (IsS96.lt (show IsS96 w0 _ g l0 t318 t319 from by repeat (first | (with_reducible first | exact HI0.out | apply IsS96.alloc | apply IsS96.drewN | apply IsS96.drew | apply IsS96.set_1 | apply IsS96.set_2 | refine IsS96.far ?_ NB0_303.out _) | exact HI0.out))) : gb320 ≠ g)); clear HO306; clear HO311; clear HI0; clear BK303; clear HK; clear HB; have HO306 := n0_; have HO311 := n1_; have HI0 := n2_; have BK303 := n3_; have HK := n4_; have HB := n5_; have BK320 := n6_; have GW320 := n7_; have GE320 := n8_; have NB303_320 := n9_; have NB320_303 := n10_; have NB0_320 := n11_; have NB320_0 := n12_; clear n0_ n1_ n2_ n3_ n4_ n5_ n6_ n7_ n8_ n9_ n10_ n11_ n12_; clear hb hbox hg; have hnb12 := NB320_303.out; have hnc12 := NB303_320.out; have hnb13 := NB320_0.out; have hnc13 := NB0_320.out; have hcz14_0 : w11.cell? ⟨gb320, 0, none⟩ = some (.int .i64 0) := (blk_cell BK320.out 0).trans rfl; have hcz14_1 : w11.cell? ⟨gb320, 1, none⟩ = some (.int .i64 0) := (blk_cell BK320.out 1).trans rfl; have hcz14_2 : w11.cell? ⟨gb320, 2, none⟩ = some (.int .i64 0) := (blk_cell BK320.out 2).trans rfl; have hcz14_3 : w11.cell? ⟨gb320, 3, none⟩ = some (.int .i64 0) := (blk_cell BK320.out 3).trans rfl; have hfz14_0 := blk_frozen BK320.out 0; have hfz14_1 := blk_frozen BK320.out 1; have hfz14_2 := blk_frozen BK320.out 2; have hfz14_3 := blk_frozen BK320.out 3))
 (try simp only [Act.put, s1, s2, s3])
 go_cut [25] (fun v25 wc => ∃ (kq : Nat) (x25_4 : Bool) (x1001_4 : Int) (x1002_4 : Int), v25 = .bool x25_4 ∧ Aside0 (spec_DrawMeetsWanted.j0 kq t304 t309 x25_4 l0 x1001_4 x1002_4 t314 t315 t316 t317 = some (r1, r2, r3, r4, r5, r6, r7, r8)) ∧ Aside0 (kq ≤ k) ∧ Aside0 (Kd.R k63 63 wc w0.heap.size (fun _ => True) (.slice Ao8 t304.length co8) t304) ∧ Aside0 (Kd.R (Kd.int .i64) 3 wc w0.heap.size (fun _ => True) v310 t309) ∧ Aside0 (wc.heap[gb303]? = some (.cells #[.int .i64 0, .int .i64 0, .int .i64 0, .int .i64 0] 45 (0, 0))) ∧ Aside0 (wc.heap[gb320]? = some (.cells #[.int .i64 t314, .int .i64 t315, .int .i64 t316, .int .i64 t317] 45 (0, 0))) ∧ Aside0 (IsS96 w0 wc g l0 x1001_4 x1002_4) ∧ Aside0 (KeepBut w0 wc g none) ∧ Aside0 (Below w0.heap.size w0 wc))
 case first =>
  have H := HC5.out
  clear HC5
  replace H := Option.bind_eq_some_iff.mp H
  obtain ⟨t321, A150, H⟩ := H
  replace H : (if t321 = true then ((spec_l1Cur_one.f l0 t318 t319 2).bind fun bt322 => (spec_DrawMeetsWanted.j0 k t304 t309 bt322.1 l0 bt322.2.1 bt322.2.2 t314 t315 t316 t317)) else (spec_DrawMeetsWanted.j0 k t304 t309 false l0 t318 t319 t314 t315 t316 t317)) = some (r1, r2, r3, r4, r5, r6, r7, r8) := H
  have A15 := Aside0.mk A150
  clear A150
  by_cases c16 : t321 = true
  ·subst c16
   have H1 : ((spec_l1Cur_one.f l0 t318 t319 2).bind fun bt322 => (spec_DrawMeetsWanted.j0 k t304 t309 bt322.1 l0 bt322.2.1 bt322.2.2 t314 t315 t316 t317)) = some (r1, r2, r3, r4, r5, r6, r7, r8) := by rw [if_pos rfl] at H; exact H
   clear H; have H := H1; clear H1; replace H := Option.bind_eq_some_iff.mp H; obtain ⟨⟨t322, t323, t324⟩, A170, H⟩ := H; replace H : (spec_DrawMeetsWanted.j0 k t304 t309 t322 l0 t323 t324 t314 t315 t316 t317) = some (r1, r2, r3, r4, r5, r6, r7, r8) := H; have A17 := Aside0.mk A170; clear A170; have H' := Aside0.mk H; clear H; obtain ⟨Ao18, co18, eo18⟩ := Kd.R_slice HO311.out; subst eo18
   go_wp2_with (first | ((with_reducible refine gate_callee (f := 50) rfl ?_); refine goesL_ (some 21) rfl rfl Try.func50 (by kernel_rfl) rfl #[.slice Ao8 t304.length co8, .slice Ao18 t309.length co18] rfl zb' ?_; (with_reducible refine (spec_blParts.calls k _ _ t304 _ _ t309 true _ ?side1 ?side2 ?side3 ?side4 A15.out).mono ?_); (case side1 => exact zw5'); (case side2 => exact (Kd.R_reads' HO306.out).2.1); (case side3 => refine (Kd.R_reads' (e := 3) (base := w0.heap.size) (ok := fun k_ => True) (n := t309.length) (c := co18) ?_).2.2; exact zn1'); (case side4 => exact (Kd.R_reads' HO311.out).2.1); rintro e w19 ⟨rfl, hb⟩; refine ⟨_, rfl, ?_⟩; have n0_ := am (Kd.R_below zm1' hb); have n1_ := am (Kd.R_below zn1' hb); have n2_ := am (IsS96.below (show IsS96 w0 ((((w11.setCell ⟨gb320, 0, none⟩ (.int .i64 t314)).setCell ⟨gb320, 1, none⟩ (.int .i64 t315)).setCell ⟨gb320, 2, none⟩ (.int .i64 t316)).setCell ⟨gb320, 3, none⟩ (.int .i64 t317)) g l0 t318 t319 from by repeat (first | (with_reducible first | exact HI0.out | apply IsS96.alloc | apply IsS96.drewN | apply IsS96.drew | apply IsS96.set_1 | apply IsS96.set_2 | refine IsS96.far ?_ NB0_303.out _ | refine IsS96.far ?_ NB0_320.out _) | exact HI0.out)) hb); have n3_ := am (blk_below (g := gb303) (o := o0') zl3' hb); have n4_ := am (blk_below (g := gb320) (o := o6') zn2' hb); have n5_ := am (KeepBut.trans zb1' (KeepBut.of_below hb g none) (.inl rfl)); have n6_ := am (below_step zc1' hb); clear HO306; clear HO311; clear HI0; clear BK303; clear BK320; clear HK; clear HB; have HO306 := n0_; have HO311 := n1_; have HI0 := n2_; have BK303 := n3_; have BK320 := n4_; have HK := n5_; have HB := n6_; clear n0_ n1_ n2_ n3_ n4_ n5_ n6_; (try clear hb); (try clear hb2); (try clear hk); (try clear hi)) | (go_at_call 76; (with_reducible refine (spec_l1Cur_one.calls g l0 t318 t319 2 t322 t323 t324 w0 _ ?side1 ?side2 A17.out).mono ?_); (case side1 => exact zl1'); (case side2 => exact zc1'); rintro e w20 ⟨rfl, hi, hb, hk⟩; have n0_ := am (KeepBut.blk hk (g' := gb303) (o := o0') ze2' NB303_0.out (by simp)); have n1_ := am (Kd.R_mono (Kd.R_keep (IsS96.apart (show IsS96 w0 _ g l0 t318 t319 from by repeat (first | (with_reducible first | exact HI0.out | apply IsS96.alloc | apply IsS96.drewN | apply IsS96.drew | apply IsS96.set_1 | apply IsS96.set_2 | refine IsS96.far ?_ NB0_303.out _ | refine IsS96.far ?_ NB0_320.out _) | exact HI0.out)) zs2' (by decide)) hk (fun _ h => h.2)) (fun _ h => h.1)); have n2_ := am (Kd.R_mono (Kd.R_keep (IsS96.apart (show IsS96 w0 _ g l0 t318 t319 from by repeat (first | (with_reducible first | exact HI0.out | apply IsS96.alloc | apply IsS96.drewN | apply IsS96.drew | apply IsS96.set_1 | apply IsS96.set_2 | refine IsS96.far ?_ NB0_303.out _ | refine IsS96.far ?_ NB0_320.out _) | exact HI0.out)) zw3' (by decide)) hk (fun _ h => h.2)) (fun _ h => h.1)); have n3_ := am (KeepBut.blk hk (g' := gb320) (o := o6') zz3' NB320_0.out (by simp)); have n4_ := am (KeepBut.trans zb1' hk (.inl rfl)); have n5_ := am (hb); have n6_ := am (hi); clear BK303; clear HO306; clear HO311; clear BK320; clear HK; clear HB; clear HI0; have BK303 := n0_; have HO306 := n1_; have HO311 := n2_; have BK320 := n3_; have HK := n4_; have HB := n5_; have HI0 := n6_; clear n0_ n1_ n2_ n3_ n4_ n5_ n6_; (try clear hb); (try clear hb2); (try clear hk); (try clear hi)))
   go_meet
   case rel => exact ⟨_, (t322), (t323), (t324), zx', H', ⟨ze4'⟩, ⟨zs2'⟩, ⟨zw3'⟩, ⟨ze2'⟩, ⟨zz3'⟩, ⟨zl1'⟩, ⟨zb1'⟩, ⟨zc1'⟩⟩
  ·replace c16 := Bool.eq_false_iff.mpr c16
   subst c16
   have H1 : (spec_DrawMeetsWanted.j0 k t304 t309 false l0 t318 t319 t314 t315 t316 t317) = some (r1, r2, r3, r4, r5, r6, r7, r8) := by rw [if_neg (show ¬ (false = true) by decide)] at H; exact H
   clear H; have H := H1; clear H1; have H' := Aside0.mk H; clear H; obtain ⟨Ao21, co21, eo21⟩ := Kd.R_slice HO311.out; subst eo21
   go_wp2_with (first | ((with_reducible refine gate_callee (f := 50) rfl ?_); refine goesL_ (some 21) rfl rfl Try.func50 (by kernel_rfl) rfl #[.slice Ao8 t304.length co8, .slice Ao21 t309.length co21] rfl zb' ?_; (with_reducible refine (spec_blParts.calls k _ _ t304 _ _ t309 false _ ?side1 ?side2 ?side3 ?side4 A15.out).mono ?_); (case side1 => exact zw5'); (case side2 => exact (Kd.R_reads' HO306.out).2.1); (case side3 => refine (Kd.R_reads' (e := 3) (base := w0.heap.size) (ok := fun k_ => True) (n := t309.length) (c := co21) ?_).2.2; exact zn1'); (case side4 => exact (Kd.R_reads' HO311.out).2.1); rintro e w22 ⟨rfl, hb⟩; refine ⟨_, rfl, ?_⟩; have n0_ := am (Kd.R_below zm1' hb); have n1_ := am (Kd.R_below zn1' hb); have n2_ := am (IsS96.below (show IsS96 w0 ((((w11.setCell ⟨gb320, 0, none⟩ (.int .i64 t314)).setCell ⟨gb320, 1, none⟩ (.int .i64 t315)).setCell ⟨gb320, 2, none⟩ (.int .i64 t316)).setCell ⟨gb320, 3, none⟩ (.int .i64 t317)) g l0 t318 t319 from by repeat (first | (with_reducible first | exact HI0.out | apply IsS96.alloc | apply IsS96.drewN | apply IsS96.drew | apply IsS96.set_1 | apply IsS96.set_2 | refine IsS96.far ?_ NB0_303.out _ | refine IsS96.far ?_ NB0_320.out _) | exact HI0.out)) hb); have n3_ := am (blk_below (g := gb303) (o := o0') zl3' hb); have n4_ := am (blk_below (g := gb320) (o := o6') zn2' hb); have n5_ := am (KeepBut.trans zb1' (KeepBut.of_below hb g none) (.inl rfl)); have n6_ := am (below_step zc1' hb); clear HO306; clear HO311; clear HI0; clear BK303; clear BK320; clear HK; clear HB; have HO306 := n0_; have HO311 := n1_; have HI0 := n2_; have BK303 := n3_; have BK320 := n4_; have HK := n5_; have HB := n6_; clear n0_ n1_ n2_ n3_ n4_ n5_ n6_; (try clear hb); (try clear hb2); (try clear hk); (try clear hi)))
   go_meet
   case rel => exact ⟨_, (false), (t318), (t319), zx', H', ⟨ze4'⟩, ⟨zs2'⟩, ⟨zw3'⟩, ⟨ze2'⟩, ⟨zz3'⟩, ⟨zl1'⟩, ⟨zb1'⟩, ⟨zc1'⟩⟩
 case rest =>
  clear HC5
  try clear c1
  try clear p2
  try clear c4
  try clear c5
  try clear c7
  try clear c12
  try clear c13
  try clear c16
  try clear hcz14_0
  try clear hcz14_1
  try clear hcz14_2
  try clear hcz14_3
  try clear hfz14_0
  try clear hfz14_1
  try clear hfz14_2
  try clear hfz14_3
  obtain ⟨kq, x25_4, x1001_4, x1002_4, rfl, HA, HJ4, HO_6, HO_7, BK303, BK320, HI0, HK, HB⟩ := hcut
  cases kq with
  | zero => exact absurd HA.out (by simp [spec_DrawMeetsWanted.j0])
  | succ kj4 =>
   have H := HA.out; clear HA; simp only [spec_DrawMeetsWanted.j0] at H
   by_cases c23 : x25_4 = true
   ·subst c23
    have H1 : ((spec_blSums.f kj4 t304 t309).bind fun t325 => (if 0 < (t325.length : Int) then ((spec_l1Least.f 12 (rd t325 0)).bind fun t329 => ((spec_l1Most.f 1 t329).bind fun t330 => (some (t304, t330, t315, t316, t317, t309, x1001_4, x1002_4)))) else (none))) = some (r1, r2, r3, r4, r5, r6, r7, r8) := by rw [if_pos rfl] at H; exact H
    clear H; have H := H1; clear H1; replace H := Option.bind_eq_some_iff.mp H; obtain ⟨t325, A240, H⟩ := H; replace H : (if 0 < (t325.length : Int) then ((spec_l1Least.f 12 (rd t325 0)).bind fun t329 => ((spec_l1Most.f 1 t329).bind fun t330 => (some (t304, t330, t315, t316, t317, t309, x1001_4, x1002_4)))) else (none)) = some (r1, r2, r3, r4, r5, r6, r7, r8) := H; have A24 := Aside0.mk A240; clear A240
    by_cases c25 : 0 < (t325.length : Int)
    ·rw [if_pos c25] at H
     have c25b0 : decide (0 < (t325.length : Int)) = true := decide_eq_true c25; have c25b1 : decide (0 < t325.length) = true := decide_eq_true (by omega); clear c25; replace H := Option.bind_eq_some_iff.mp H; obtain ⟨t329, A260, H⟩ := H; replace H : ((spec_l1Most.f 1 t329).bind fun t330 => (some (t304, t330, t315, t316, t317, t309, x1001_4, x1002_4))) = some (r1, r2, r3, r4, r5, r6, r7, r8) := H; have A26 := Aside0.mk A260; clear A260; replace H := Option.bind_eq_some_iff.mp H; obtain ⟨t330, A270, H⟩ := H; replace H : (some (t304, t330, t315, t316, t317, t309, x1001_4, x1002_4)) = some (r1, r2, r3, r4, r5, r6, r7, r8) := H; have A27 := Aside0.mk A270; clear A270; simp only [Option.some.injEq, Prod.mk.injEq] at H; obtain ⟨rfl, rfl, rfl, rfl, rfl, rfl, rfl, rfl⟩ := H; obtain ⟨Ao28, co28, eo28⟩ := Kd.R_slice HO_7.out; subst eo28
     try go_wp2_with (first | ((with_reducible refine gate_callee (f := 57) rfl ?_); refine goesL_ (some 28) rfl rfl Try.func57 (by kernel_rfl) rfl #[.slice Ao8 t304.length co8, .slice Ao28 t309.length co28] rfl zb' ?_; (with_reducible refine (spec_blSums.calls kj4 _ _ t304 _ _ t309 t325 _ ?side1 ?side2 ?side3 ?side4 A24.out).mono ?_); (case side1 => repeat (first | exact (Kd.R_reads' HO_6.out).2.2 | (with_reducible refine Kd.C_alloc ?_ _) | (with_reducible refine Kd.C_drewN ?_ _) | (with_reducible refine Kd.C_drew ?_))); (case side2 => exact (Kd.R_reads' HO_6.out).2.1); (case side3 => exact zd4'); (case side4 => exact (Kd.R_reads' HO_7.out).2.1); rintro e w29 ⟨v326, rfl, ho0, hb⟩; refine ⟨_, rfl, ?_⟩; have n0_ := am (Kd.R_below zt4' hb); have n1_ := am (Kd.R_elder' zy1' (Kd.R_base ho0) hb); have n2_ := am (Kd.R_lower (Kd.R_new' ho0 (Kd.R_lt zy1')) (keep_size (w := w0) (g := g) (row := none) zb1')); have n3_ := am (blk_below (g := gb303) (o := o0') ze2' hb); have n4_ := am (blk_below (g := gb320) (o := o6') zz3' hb); have n5_ := am (IsS96.below zl1' hb); have n6_ := am (KeepBut.trans zb1' (KeepBut.of_below hb g none) (.inl rfl)); have n7_ := am (below_step zc1' hb); clear HO_6; clear HO_7; clear BK303; clear BK320; clear HI0; clear HK; clear HB; have HO_6 := n0_; have HO_7 := n1_; have HO327 := n2_; have BK303 := n3_; have BK320 := n4_; have HI0 := n5_; have HK := n6_; have HB := n7_; clear n0_ n1_ n2_ n3_ n4_ n5_ n6_ n7_; (try clear hb); (try clear hb2); (try clear hk); (try clear hi); (try clear ho0); obtain ⟨Ao30, co30, eo30⟩ := Kd.R_slice HO327.out; subst eo30; have p328 : 0 ≤ (0 : Int) := (by omega); have q328 : 0 < (t325.length : Int) := odt; obtain ⟨ad328, e328, hx328_0⟩ := Kd.at_int (Kd.R_reads' HO327.out).2.2 0 p328 q328; cases e328; have qi328 : (0 < t325.length) = True := eq_true (by omega); (try rw [show ((0 : Int)).toNat = 0 from rfl] at hx328_0); (try rw [Addr.add_zero'] at hx328_0); replace p328 := eq_true p328; replace q328 := eq_true q328) | ((with_reducible refine gate_callee (f := 78) rfl ?_); refine goesL_ (some 31) rfl rfl Try.func78 (by kernel_rfl) rfl #[.int .i64 12, .int .i64 (rd t325 0)] rfl zb' ?_; (with_reducible refine (spec_l1Least.calls 12 (rd t325 0) t329 _ A26.out).mono ?_); rintro e w0' ⟨rfl, ⟨nd, rfl⟩⟩; refine ⟨_, rfl, ?_⟩; (try (rw [drewN_self w29]; generalize hq_ : World.drewN w29 _ = w29; have n0_ : Aside0 (Kd.R (Kd.int .i64) 3 w29 w0.heap.size (fun k_ => some k_ ≠ (.slice Ao28 t309.length co28 : Value).ownBlock) (.slice (some ad328) t325.length co30) t325) := ⟨zk5'⟩; have n1_ : Aside0 (Kd.R k63 63 w29 w0.heap.size (fun _ => True) (.slice Ao8 t304.length co8) t304) := ⟨by rw [← hq_]; exact zt4'⟩; have n2_ : Aside0 (Kd.R (Kd.int .i64) 3 w29 w0.heap.size (fun k_ => some k_ ≠ (.slice (some ad328) t325.length co30 : Value).ownBlock) (.slice Ao28 t309.length co28) t309) := ⟨zm5'⟩; have n3_ : Aside0 (w29.heap[gb303]? = some (.cells #[.int .i64 0, .int .i64 0, .int .i64 0, .int .i64 0] 45 (0, 0))) := ⟨by rw [← hq_]; exact ze2'⟩; have n4_ : Aside0 (w29.heap[gb320]? = some (.cells #[.int .i64 t314, .int .i64 t315, .int .i64 t316, .int .i64 t317] 45 (0, 0))) := ⟨by rw [← hq_]; exact zz3'⟩; have n5_ : Aside0 (IsS96 w0 w29 g l0 x1001_4 x1002_4) := ⟨by rw [← hq_]; exact zl1'⟩; have n6_ : Aside0 (KeepBut w0 w29 g none) := ⟨by rw [← hq_]; exact zb1'⟩; have n7_ : Aside0 (Below w0.heap.size w0 w29) := ⟨by rw [← hq_]; exact zc1'⟩; clear HO327 HO_6 HO_7 BK303 BK320 HI0 HK HB hq_; have HO327 := n0_; have HO_6 := n1_; have HO_7 := n2_; have BK303 := n3_; have BK320 := n4_; have HI0 := n5_; have HK := n6_; have HB := n7_; clear n0_ n1_ n2_ n3_ n4_ n5_ n6_ n7_))) | ((with_reducible refine gate_callee (f := 77) rfl ?_); refine goesL_ (some 32) rfl rfl Try.func77 (by kernel_rfl) rfl #[.int .i64 1, .int .i64 t329] rfl zb' ?_; (with_reducible refine (spec_l1Most.calls 1 t329 t330 _ A27.out).mono ?_); rintro e w0' ⟨rfl, ⟨nd, rfl⟩⟩; refine ⟨_, rfl, ?_⟩; (try (rw [drewN_self w29]; generalize hq_ : World.drewN w29 _ = w29; have n0_ : Aside0 (Kd.R (Kd.int .i64) 3 w29 w0.heap.size (fun k_ => some k_ ≠ (.slice Ao28 t309.length co28 : Value).ownBlock) (.slice (some ad328) t325.length co30) t325) := ⟨zk5'⟩; have n1_ : Aside0 (Kd.R k63 63 w29 w0.heap.size (fun _ => True) (.slice Ao8 t304.length co8) t304) := ⟨by rw [← hq_]; exact zt4'⟩; have n2_ : Aside0 (Kd.R (Kd.int .i64) 3 w29 w0.heap.size (fun k_ => some k_ ≠ (.slice (some ad328) t325.length co30 : Value).ownBlock) (.slice Ao28 t309.length co28) t309) := ⟨zm5'⟩; have n3_ : Aside0 (w29.heap[gb303]? = some (.cells #[.int .i64 0, .int .i64 0, .int .i64 0, .int .i64 0] 45 (0, 0))) := ⟨by rw [← hq_]; exact ze2'⟩; have n4_ : Aside0 (w29.heap[gb320]? = some (.cells #[.int .i64 t314, .int .i64 t315, .int .i64 t316, .int .i64 t317] 45 (0, 0))) := ⟨by rw [← hq_]; exact zz3'⟩; have n5_ : Aside0 (IsS96 w0 w29 g l0 x1001_4 x1002_4) := ⟨by rw [← hq_]; exact zl1'⟩; have n6_ : Aside0 (KeepBut w0 w29 g none) := ⟨by rw [← hq_]; exact zb1'⟩; have n7_ : Aside0 (Below w0.heap.size w0 w29) := ⟨by rw [← hq_]; exact zc1'⟩; clear HO327 HO_6 HO_7 BK303 BK320 HI0 HK HB hq_; have HO327 := n0_; have HO_6 := n1_; have HO_7 := n2_; have BK303 := n3_; have BK320 := n4_; have HI0 := n5_; have HK := n6_; have HB := n7_; clear n0_ n1_ n2_ n3_ n4_ n5_ n6_ n7_)); have hnb31 := NB320_303.out; have hnc31 := NB303_320.out; have hnb32 := NB320_0.out; have hnc32 := NB0_320.out; have hcz33_0 : w29.cell? ⟨gb320, 0, none⟩ = some (.int .i64 t314) := (blk_cell BK320.out 0).trans rfl; have hcz33_1 : w29.cell? ⟨gb320, 1, none⟩ = some (.int .i64 t315) := (blk_cell BK320.out 1).trans rfl; have hcz33_2 : w29.cell? ⟨gb320, 2, none⟩ = some (.int .i64 t316) := (blk_cell BK320.out 2).trans rfl; have hcz33_3 : w29.cell? ⟨gb320, 3, none⟩ = some (.int .i64 t317) := (blk_cell BK320.out 3).trans rfl; have hfz33_0 := blk_frozen BK320.out 0; have hfz33_1 := blk_frozen BK320.out 1; have hfz33_2 := blk_frozen BK320.out 2; have hfz33_3 := blk_frozen BK320.out 3))
     have m1_ := Aside0.mk (Kd.R_drewN HO_6.out nd); have m2_ := Aside0.mk (Kd.R_drewN HO_7.out nd); have m3_ := Aside0.mk (Kd.R_drewN HO327.out nd); have m4_ := Aside0.mk (blk_drewN BK303.out nd); have m5_ := Aside0.mk (blk_drewN BK320.out nd); have m6_ := Aside0.mk (IsS96.drewN HI0.out nd); have m7_ := Aside0.mk (keep_drewN HK.out nd); have m8_ := Aside0.mk (pw_below_drewN HB.out nd)
     clear HO_6 HO_7 HO327 BK303 BK320 HI0 HK HB; have HO_6 := m1_; have HO_7 := m2_; have HO327 := m3_; have BK303 := m4_; have BK320 := m5_; have HI0 := m6_; have HK := m7_; have HB := m8_; clear m1_ m2_ m3_ m4_ m5_ m6_ m7_ m8_
     generalize w29.drewN nd = w29y at HO_6 HO_7 HO327 BK303 BK320 HI0 HK HB ⊢
     have n0_ : Aside0 (Kd.R k63 63 (w29y.setCell ⟨gb320, 0, none⟩ (.int .i64 t330)) w0.heap.size (fun _ => True) (.slice Ao8 t304.length co8) t304) := ⟨by (with_reducible repeat (first | apply Kd.R_alloc | apply Kd.R_drewN | apply Kd.R_drew)); exact Kd.R_mono (Kd.R_far (p := ⟨gb320, 0, none⟩) (Kd.R_types HO_6.out BK320.out (by decide)) (fun _ hk => hk.2) (.int .i64 t330)) (fun _ hk => trivial)⟩; have n1_ : Aside0 (Kd.R (Kd.int .i64) 3 (w29y.setCell ⟨gb320, 0, none⟩ (.int .i64 t330)) w0.heap.size (fun k_ => some k_ ≠ (.slice (some ad328) t325.length co30 : Value).ownBlock) (.slice Ao28 t309.length co28) t309) := ⟨by (with_reducible repeat (first | apply Kd.R_alloc | apply Kd.R_drewN | apply Kd.R_drew)); exact Kd.R_mono (Kd.R_far (p := ⟨gb320, 0, none⟩) (Kd.R_types HO_7.out BK320.out (by decide)) (fun _ hk => hk.2) (.int .i64 t330)) (fun _ hk => by first | exact hk.1.2 | exact hk.1 | trivial)⟩; have n2_ : Aside0 (Kd.R (Kd.int .i64) 3 (w29y.setCell ⟨gb320, 0, none⟩ (.int .i64 t330)) w0.heap.size (fun k_ => some k_ ≠ (.slice Ao28 t309.length co28 : Value).ownBlock) (.slice (some ad328) t325.length co30) t325) := ⟨by (with_reducible repeat (first | apply Kd.R_alloc | apply Kd.R_drewN | apply Kd.R_drew)); exact Kd.R_mono (Kd.R_far (p := ⟨gb320, 0, none⟩) (Kd.R_types HO327.out BK320.out (by decide)) (fun _ hk => hk.2) (.int .i64 t330)) (fun _ hk => by first | exact hk.1.2 | exact hk.1 | trivial)⟩; have n3_ : Aside0 ((w29y.setCell ⟨gb320, 0, none⟩ (.int .i64 t330)).heap[gb303]? = some (.cells #[.int .i64 0, .int .i64 0, .int .i64 0, .int .i64 0] 45 (0, 0))) := ⟨by (with_reducible repeat (first | apply kn | apply kd | apply ka)); refine blk_far ?_ NB303_320.out _; (with_reducible repeat (first | apply kn | apply kd | apply ka)); exact BK303.out⟩
     have n4_ : Aside0 ((w29y.setCell ⟨gb320, 0, none⟩ (.int .i64 t330)).heap[gb320]? = some (.cells #[.int .i64 t330, .int .i64 t315, .int .i64 t316, .int .i64 t317] 45 (0, 0))) := ⟨by (with_reducible repeat (first | apply kn | apply kd | apply ka)); refine blk_put (cs := #[.int .i64 t314, .int .i64 t315, .int .i64 t316, .int .i64 t317]) ?_ 0 _ rfl; (with_reducible repeat (first | apply kn | apply kd | apply ka)); exact BK320.out⟩; have n5_ : Aside0 (IsS96 w0 (w29y.setCell ⟨gb320, 0, none⟩ (.int .i64 t330)) g l0 x1001_4 x1002_4) := ⟨zl1'⟩; have n6_ : Aside0 (KeepBut w0 (w29y.setCell ⟨gb320, 0, none⟩ (.int .i64 t330)) g none) := ⟨zb1'⟩; have n7_ : Aside0 (Below w0.heap.size w0 (w29y.setCell ⟨gb320, 0, none⟩ (.int .i64 t330))) := ⟨zc1'⟩; (try clear HO_6); (try clear HO_7); (try clear HO327); (try clear BK303); (try clear BK320); (try clear HI0); (try clear HK); (try clear HB); generalize (w29y.setCell ⟨gb320, 0, none⟩ (.int .i64 t330)) = w34 at n0_ n1_ n2_ n3_ n4_ n5_ n6_ n7_ ⊢; have HO_6 := n0_; have HO_7 := n1_; have HO327 := n2_; have BK303 := n3_; have BK320 := n4_; have HI0 := n5_; have HK := n6_; have HB := n7_; clear n0_ n1_ n2_ n3_ n4_ n5_ n6_ n7_; have n0_ := am (Kd.R_drew HO_6.out); have n1_ := am (Kd.R_drew HO_7.out); have n2_ := am (Kd.R_drew HO327.out); have n3_ := am (blk_drew BK303.out); have n4_ := am (blk_drew BK320.out); have n5_ := am (IsS96.drew HI0.out); have n6_ := am (keep_drew HK.out); have n7_ := am (below_drew1 HB.out); clear HO_6; clear HO_7; clear HO327; clear BK303
     clear BK320; clear HI0; clear HK; clear HB; have HO_6 := n0_; have HO_7 := n1_; have HO327 := n2_; have BK303 := n3_; have BK320 := n4_; have HI0 := n5_; have HK := n6_; have HB := n7_; clear n0_ n1_ n2_ n3_ n4_ n5_ n6_ n7_
     refine start_ (n := 6) (S := fun w0' => w0'.cell? ⟨gb320, 0, none⟩ = some (.int .i64 t330) ∧ w0'.cell? ⟨gb320, 1, none⟩ = some (.int .i64 t315) ∧ w0'.cell? ⟨gb320, 2, none⟩ = some (.int .i64 t316) ∧ w0'.cell? ⟨gb320, 3, none⟩ = some (.int .i64 t317)) (ds := []) #[Z,Z,Z,Z,Z,Z] (by kernel_rfl) rfl rfl ⟨(blk_cell BK320.out 0).trans rfl, (blk_cell BK320.out 1).trans rfl, (blk_cell BK320.out 2).trans rfl, (blk_cell BK320.out 3).trans rfl⟩ (fun hHeld => ?_)
     generalize w34.drew = w35 at HO_6 HO_7 HO327 BK303 BK320 HI0 HK HB hHeld ⊢
     refine pure_ (i := 0) (N := some 34) (v := ?_) (a' := ?_) #[Y,Z,Z,Z,Z,Z] rfl rfl (by kernel_rfl) (fun _ _ _ h => h) (Or.inl ⟨by rfl, ?_⟩) ?_ ?_
     rotate_left
     ·intro w0'
      go_simp
      with_reducible rfl
     rotate_left
     ·simp only [Act.put, s1, s2, s3, i64_w, i32_w]
      rfl
     refine pure_ (i := 2) (N := some 36) (v := ?_) (a' := ?_) #[Y,Z,Y,Z,Z,Z] rfl rfl (by kernel_rfl) (fun _ _ _ h => h) (Or.inl ⟨by rfl, ?_⟩) ?_ ?_
     rotate_left
     ·intro w0'
      go_simp
      with_reducible rfl
     rotate_left
     ·simp only [Act.put, s1, s2, s3, i64_w, i32_w]
      rfl
     refine pure_ (i := 3) (N := some 2) (v := ?_) (a' := ?_) #[Y,Z,Y,Y,Z,Z] rfl rfl (by kernel_rfl) (fun _ _ _ h => h) (Or.inl ⟨by rfl, ?_⟩) ?_ ?_
     rotate_left
     ·intro w0'
      go_simp
      with_reducible rfl
     rotate_left
     ·simp only [Act.put, s1, s2, s3, i64_w, i32_w]
      rfl
     refine take_ (i := 1) (N := some 35) (v := ?_) (a' := ?_) #[Y,Y,Y,Y,Z,Z] rfl rfl (by kernel_rfl) (fun _ _ _ h => h) (Or.inl ⟨by rfl, ?_⟩) hHeld ?_ ?_
     rotate_left
     ·rintro w0' ⟨s0, s1, s2, s3⟩
      go_simp
      with_reducible rfl
     rotate_left
     ·simp only [Act.put, s1, s2, s3, i64_w, i32_w]
      rfl
     refine one_ (i := 4) (N := none) #[Y,Y,Y,Y,Y,Z] rfl rfl (by kernel_rfl) (by decide) (fun K hK => ?_)
     have hs36 : w35.cell? ⟨gb303, 0, none⟩ = some (.int .i64 0) := (blk_cell BK303.out 0).trans rfl; have hfs36 := blk_frozen BK303.out 0; have hns36_1 := NB320_303.out; have hms36_1 := NB303_320.out; have hs37 : w35.cell? ⟨gb303, 1, none⟩ = some (.int .i64 0) := (blk_cell BK303.out 1).trans rfl; have hfs37 := blk_frozen BK303.out 1; have hns37_1 := NB320_303.out; have hms37_1 := NB303_320.out; have hs38 : w35.cell? ⟨gb303, 2, none⟩ = some (.int .i64 0) := (blk_cell BK303.out 2).trans rfl; have hfs38 := blk_frozen BK303.out 2; have hns38_1 := NB320_303.out; have hms38_1 := NB303_320.out; have hs39 : w35.cell? ⟨gb303, 3, none⟩ = some (.int .i64 0) := (blk_cell BK303.out 3).trans rfl; have hfs39 := blk_frozen BK303.out 3; have hns39_1 := NB320_303.out; have hms39_1 := NB303_320.out
     refine skip_ (w1 := ?_) (by rfl) rfl ?_ ?_
     rotate_left
     ·go_simp
      rfl
     refine hK.out _ _ ⟨((cell_far (p := ⟨gb303, _, none⟩) NB320_303.out _).trans (((cell_far (p := ⟨gb303, _, none⟩) NB320_303.out _).trans (((cell_far (p := ⟨gb303, _, none⟩) NB320_303.out _).trans (((cell_far (p := ⟨gb303, _, none⟩) NB320_303.out _).trans (hHeld.1)))))))), ((cell_far (p := ⟨gb303, _, none⟩) NB320_303.out _).trans (((cell_far (p := ⟨gb303, _, none⟩) NB320_303.out _).trans (((cell_far (p := ⟨gb303, _, none⟩) NB320_303.out _).trans (((cell_far (p := ⟨gb303, _, none⟩) NB320_303.out _).trans (hHeld.2.1)))))))), ((cell_far (p := ⟨gb303, _, none⟩) NB320_303.out _).trans (((cell_far (p := ⟨gb303, _, none⟩) NB320_303.out _).trans (((cell_far (p := ⟨gb303, _, none⟩) NB320_303.out _).trans (((cell_far (p := ⟨gb303, _, none⟩) NB320_303.out _).trans (hHeld.2.2.1)))))))), ((cell_far (p := ⟨gb303, _, none⟩) NB320_303.out _).trans (((cell_far (p := ⟨gb303, _, none⟩) NB320_303.out _).trans (((cell_far (p := ⟨gb303, _, none⟩) NB320_303.out _).trans (((cell_far (p := ⟨gb303, _, none⟩) NB320_303.out _).trans (hHeld.2.2.2))))))))⟩ (fun hHeld => ?_)
     clear hK K
     refine pure_ (i := 5) (N := some 4) (v := ?_) (a' := ?_) #[Y,Y,Y,Y,Y,Y] rfl rfl (by kernel_rfl) (fun _ _ _ h => h) (Or.inl ⟨by rfl, ?_⟩) ?_ ?_
     rotate_left
     ·intro w0'
      go_simp
      with_reducible rfl
     rotate_left
     ·simp only [Act.put, s1, s2, s3, i64_w, i32_w]
      rfl
     refine done_ (by kernel_rfl) ?_
     try go_wp2
     refine bodyPost_ret (results_list (rs := [.tmp 2, .cell 3 45, .tmp 4]) rfl (by simp) (.tmp (.cell gb303 45 #[.int .i64 t330, .int .i64 t315, .int .i64 t316, .int .i64 t317] (0, 0) _ rfl (by (with_reducible repeat (first | apply kn | apply kd | apply ka)); refine blk_put (cs := #[.int .i64 t330, .int .i64 t315, .int .i64 t316, .int .i64 0]) ?_ 3 _ rfl; (with_reducible repeat (first | apply kn | apply kd | apply ka)); refine blk_put (cs := #[.int .i64 t330, .int .i64 t315, .int .i64 0, .int .i64 0]) ?_ 2 _ rfl; (with_reducible repeat (first | apply kn | apply kd | apply ka)); refine blk_put (cs := #[.int .i64 t330, .int .i64 0, .int .i64 0, .int .i64 0]) ?_ 1 _ rfl; (with_reducible repeat (first | apply kn | apply kd | apply ka)); refine blk_put (cs := #[.int .i64 0, .int .i64 0, .int .i64 0, .int .i64 0]) ?_ 0 _ rfl; (with_reducible repeat (first | apply kn | apply kd | apply ka)); exact BK303.out) Try.underlying45 rfl (by kernel_rfl) (.tmp .nil)))) rfl ?_
     exact ⟨w0.heap.size, HL.out, _, _, by first | rfl | (simp [errW_none, errW_some] <;> rfl) | (simp [*, errW_none, errW_some] <;> rfl), by (with_reducible repeat (first | apply Kd.R_alloc | apply Kd.R_drewN | apply Kd.R_drew)); exact Kd.R_mono (Kd.R_far (p := ⟨gb303, 3, none⟩) (Kd.R_far (p := ⟨gb303, 2, none⟩) (Kd.R_far (p := ⟨gb303, 1, none⟩) (Kd.R_far (p := ⟨gb303, 0, none⟩) (Kd.R_types HO_6.out BK303.out (by decide)) (fun _ hk => hk.2) (.int .i64 t330)) (fun _ hk => hk.2) (.int .i64 t315)) (fun _ hk => hk.2) (.int .i64 t316)) (fun _ hk => hk.2) (.int .i64 t317)) (fun _ hk => trivial), by (with_reducible repeat (first | apply Kd.R_alloc | apply Kd.R_drewN | apply Kd.R_drew)); exact Kd.R_mono (Kd.R_far (p := ⟨gb303, 3, none⟩) (Kd.R_far (p := ⟨gb303, 2, none⟩) (Kd.R_far (p := ⟨gb303, 1, none⟩) (Kd.R_far (p := ⟨gb303, 0, none⟩) (Kd.R_types HO_7.out BK303.out (by decide)) (fun _ hk => hk.2) (.int .i64 t330)) (fun _ hk => hk.2) (.int .i64 t315)) (fun _ hk => hk.2) (.int .i64 t316)) (fun _ hk => hk.2) (.int .i64 t317)) (fun _ hk => trivial), by repeat (first | (with_reducible first | exact HB.out | apply ba | apply bn | apply below_drew1 | refine below_set ?_ (IsS96.ge HI0.out) | refine below_set ?_ GE303.out | refine below_set ?_ GE320.out) | exact HB.out)⟩
    ·rw [if_neg c25] at H
     exact absurd H (by simp)
   ·replace c23 := Bool.eq_false_iff.mpr c23
    subst c23
    have H1 : (some (t304, t314, t315, t316, t317, t309, x1001_4, x1002_4)) = some (r1, r2, r3, r4, r5, r6, r7, r8) := by rw [if_neg (show ¬ (false = true) by decide)] at H; exact H
    clear H; have H := H1; clear H1; simp only [Option.some.injEq, Prod.mk.injEq] at H; obtain ⟨rfl, rfl, rfl, rfl, rfl, rfl, rfl, rfl⟩ := H
    try go_wp2
    have n0_ := am (Kd.R_drew HO_6.out); have n1_ := am (Kd.R_drew HO_7.out); have n2_ := am (blk_drew BK303.out); have n3_ := am (blk_drew BK320.out); have n4_ := am (IsS96.drew HI0.out); have n5_ := am (keep_drew HK.out); have n6_ := am (below_drew1 HB.out); clear HO_6; clear HO_7; clear BK303; clear BK320; clear HI0; clear HK; clear HB; have HO_6 := n0_; have HO_7 := n1_; have BK303 := n2_; have BK320 := n3_; have HI0 := n4_; have HK := n5_; have HB := n6_; clear n0_ n1_ n2_ n3_ n4_ n5_ n6_
    refine start_ (n := 6) (S := fun w0' => w0'.cell? ⟨gb320, 0, none⟩ = some (.int .i64 t314) ∧ w0'.cell? ⟨gb320, 1, none⟩ = some (.int .i64 t315) ∧ w0'.cell? ⟨gb320, 2, none⟩ = some (.int .i64 t316) ∧ w0'.cell? ⟨gb320, 3, none⟩ = some (.int .i64 t317)) (ds := []) #[Z,Z,Z,Z,Z,Z] (by kernel_rfl) rfl rfl ⟨(blk_cell BK320.out 0).trans rfl, (blk_cell BK320.out 1).trans rfl, (blk_cell BK320.out 2).trans rfl, (blk_cell BK320.out 3).trans rfl⟩ (fun hHeld => ?_)
    generalize wc.drew = w40 at HO_6 HO_7 BK303 BK320 HI0 HK HB hHeld ⊢
    refine pure_ (i := 0) (N := some 34) (v := ?_) (a' := ?_) #[Y,Z,Z,Z,Z,Z] rfl rfl (by kernel_rfl) (fun _ _ _ h => h) (Or.inl ⟨by rfl, ?_⟩) ?_ ?_
    rotate_left
    ·intro w0'
     go_simp
     with_reducible rfl
    rotate_left
    ·simp only [Act.put, s1, s2, s3, i64_w, i32_w]
     rfl
    refine pure_ (i := 2) (N := some 36) (v := ?_) (a' := ?_) #[Y,Z,Y,Z,Z,Z] rfl rfl (by kernel_rfl) (fun _ _ _ h => h) (Or.inl ⟨by rfl, ?_⟩) ?_ ?_
    rotate_left
    ·intro w0'
     go_simp
     with_reducible rfl
    rotate_left
    ·simp only [Act.put, s1, s2, s3, i64_w, i32_w]
     rfl
    refine pure_ (i := 3) (N := some 2) (v := ?_) (a' := ?_) #[Y,Z,Y,Y,Z,Z] rfl rfl (by kernel_rfl) (fun _ _ _ h => h) (Or.inl ⟨by rfl, ?_⟩) ?_ ?_
    rotate_left
    ·intro w0'
     go_simp
     with_reducible rfl
    rotate_left
    ·simp only [Act.put, s1, s2, s3, i64_w, i32_w]
     rfl
    refine take_ (i := 1) (N := some 35) (v := ?_) (a' := ?_) #[Y,Y,Y,Y,Z,Z] rfl rfl (by kernel_rfl) (fun _ _ _ h => h) (Or.inl ⟨by rfl, ?_⟩) hHeld ?_ ?_
    rotate_left
    ·rintro w0' ⟨s0, s1, s2, s3⟩
     go_simp
     with_reducible rfl
    rotate_left
    ·simp only [Act.put, s1, s2, s3, i64_w, i32_w]
     rfl
    refine one_ (i := 4) (N := none) #[Y,Y,Y,Y,Y,Z] rfl rfl (by kernel_rfl) (by decide) (fun K hK => ?_)
    have hs41 : w40.cell? ⟨gb303, 0, none⟩ = some (.int .i64 0) := (blk_cell BK303.out 0).trans rfl; have hfs41 := blk_frozen BK303.out 0; have hns41_1 := NB320_303.out; have hms41_1 := NB303_320.out; have hs42 : w40.cell? ⟨gb303, 1, none⟩ = some (.int .i64 0) := (blk_cell BK303.out 1).trans rfl; have hfs42 := blk_frozen BK303.out 1; have hns42_1 := NB320_303.out; have hms42_1 := NB303_320.out; have hs43 : w40.cell? ⟨gb303, 2, none⟩ = some (.int .i64 0) := (blk_cell BK303.out 2).trans rfl; have hfs43 := blk_frozen BK303.out 2; have hns43_1 := NB320_303.out; have hms43_1 := NB303_320.out; have hs44 : w40.cell? ⟨gb303, 3, none⟩ = some (.int .i64 0) := (blk_cell BK303.out 3).trans rfl; have hfs44 := blk_frozen BK303.out 3; have hns44_1 := NB320_303.out; have hms44_1 := NB303_320.out
    refine skip_ (w1 := ?_) (by rfl) rfl ?_ ?_
    rotate_left
    ·go_simp
     rfl
    refine hK.out _ _ ⟨((cell_far (p := ⟨gb303, _, none⟩) NB320_303.out _).trans (((cell_far (p := ⟨gb303, _, none⟩) NB320_303.out _).trans (((cell_far (p := ⟨gb303, _, none⟩) NB320_303.out _).trans (((cell_far (p := ⟨gb303, _, none⟩) NB320_303.out _).trans (hHeld.1)))))))), ((cell_far (p := ⟨gb303, _, none⟩) NB320_303.out _).trans (((cell_far (p := ⟨gb303, _, none⟩) NB320_303.out _).trans (((cell_far (p := ⟨gb303, _, none⟩) NB320_303.out _).trans (((cell_far (p := ⟨gb303, _, none⟩) NB320_303.out _).trans (hHeld.2.1)))))))), ((cell_far (p := ⟨gb303, _, none⟩) NB320_303.out _).trans (((cell_far (p := ⟨gb303, _, none⟩) NB320_303.out _).trans (((cell_far (p := ⟨gb303, _, none⟩) NB320_303.out _).trans (((cell_far (p := ⟨gb303, _, none⟩) NB320_303.out _).trans (hHeld.2.2.1)))))))), ((cell_far (p := ⟨gb303, _, none⟩) NB320_303.out _).trans (((cell_far (p := ⟨gb303, _, none⟩) NB320_303.out _).trans (((cell_far (p := ⟨gb303, _, none⟩) NB320_303.out _).trans (((cell_far (p := ⟨gb303, _, none⟩) NB320_303.out _).trans (hHeld.2.2.2))))))))⟩ (fun hHeld => ?_)
    clear hK K
    refine pure_ (i := 5) (N := some 4) (v := ?_) (a' := ?_) #[Y,Y,Y,Y,Y,Y] rfl rfl (by kernel_rfl) (fun _ _ _ h => h) (Or.inl ⟨by rfl, ?_⟩) ?_ ?_
    rotate_left
    ·intro w0'
     go_simp
     with_reducible rfl
    rotate_left
    ·simp only [Act.put, s1, s2, s3, i64_w, i32_w]
     rfl
    refine done_ (by kernel_rfl) ?_
    try go_wp2
    refine bodyPost_ret (results_list (rs := [.tmp 2, .cell 3 45, .tmp 4]) rfl (by simp) (.tmp (.cell gb303 45 #[.int .i64 t314, .int .i64 t315, .int .i64 t316, .int .i64 t317] (0, 0) _ rfl (by (with_reducible repeat (first | apply kn | apply kd | apply ka)); refine blk_put (cs := #[.int .i64 t314, .int .i64 t315, .int .i64 t316, .int .i64 0]) ?_ 3 _ rfl; (with_reducible repeat (first | apply kn | apply kd | apply ka)); refine blk_put (cs := #[.int .i64 t314, .int .i64 t315, .int .i64 0, .int .i64 0]) ?_ 2 _ rfl; (with_reducible repeat (first | apply kn | apply kd | apply ka)); refine blk_put (cs := #[.int .i64 t314, .int .i64 0, .int .i64 0, .int .i64 0]) ?_ 1 _ rfl; (with_reducible repeat (first | apply kn | apply kd | apply ka)); refine blk_put (cs := #[.int .i64 0, .int .i64 0, .int .i64 0, .int .i64 0]) ?_ 0 _ rfl; (with_reducible repeat (first | apply kn | apply kd | apply ka)); exact BK303.out) Try.underlying45 rfl (by kernel_rfl) (.tmp .nil)))) rfl ?_
    exact ⟨w0.heap.size, HL.out, _, _, by first | rfl | (simp [errW_none, errW_some] <;> rfl) | (simp [*, errW_none, errW_some] <;> rfl), by (with_reducible repeat (first | apply Kd.R_alloc | apply Kd.R_drewN | apply Kd.R_drew)); exact Kd.R_mono (Kd.R_far (p := ⟨gb303, 3, none⟩) (Kd.R_far (p := ⟨gb303, 2, none⟩) (Kd.R_far (p := ⟨gb303, 1, none⟩) (Kd.R_far (p := ⟨gb303, 0, none⟩) (Kd.R_types HO_6.out BK303.out (by decide)) (fun _ hk => hk.2) (.int .i64 t314)) (fun _ hk => hk.2) (.int .i64 t315)) (fun _ hk => hk.2) (.int .i64 t316)) (fun _ hk => hk.2) (.int .i64 t317)) (fun _ hk => trivial), by (with_reducible repeat (first | apply Kd.R_alloc | apply Kd.R_drewN | apply Kd.R_drew)); exact Kd.R_mono (Kd.R_far (p := ⟨gb303, 3, none⟩) (Kd.R_far (p := ⟨gb303, 2, none⟩) (Kd.R_far (p := ⟨gb303, 1, none⟩) (Kd.R_far (p := ⟨gb303, 0, none⟩) (Kd.R_types HO_7.out BK303.out (by decide)) (fun _ hk => hk.2) (.int .i64 t314)) (fun _ hk => hk.2) (.int .i64 t315)) (fun _ hk => hk.2) (.int .i64 t316)) (fun _ hk => hk.2) (.int .i64 t317)) (fun _ hk => trivial), by repeat (first | (with_reducible first | exact HB.out | apply ba | apply bn | apply below_drew1 | refine below_set ?_ (IsS96.ge HI0.out) | refine below_set ?_ GE303.out | refine below_set ?_ GE320.out) | exact HB.out)⟩


/-! ### impl_MeetsWanted: function 43 -/
def impl_MeetsWanted.f (k : Nat) (l0 : List (S63)) (a1_0 : Int) (a1_1 : Int) (a1_2 : Int) (a1_3 : Int) (l2 : List Int) : Option (Bool × Bool) := (impl_AreBins.f k l0).bind fun t292 => (if t292 = true then ((impl_IsWanted.f a1_0 a1_1 a1_2 a1_3).bind fun t293 => (if t293 = true then ((impl_areParts.f k l0 l2).bind fun t294 => (if t294 = true then ((impl_meetsWanted.f l0 a1_0 a1_1 a1_2 a1_3 l2).bind fun t295 => (some (t295, true))) else (some (false, false)))) else (some (false, false)))) else (some (false, false)))
set_option maxHeartbeats 8000000 in
set_option maxRecDepth 100000 in
theorem impl_MeetsWanted.calls (k : Nat) (A0 : Option Addr) (c0 : Nat) (l0 : List (S63)) (a1_0 : Int) (a1_1 : Int) (a1_2 : Int) (a1_3 : Int) (A2 : Option Addr) (c2 : Nat) (l2 : List Int) (r1 : Bool) (r2 : Bool) (w : World) (hr0 : Kd.C k63 w A0 l0.length l0) (hc0 : l0.length ≤ c0) (hr2 : Kd.C (Kd.int .i64) w A2 l2.length l2) (hc2 : l2.length ≤ c2) (h : impl_MeetsWanted.f k l0 a1_0 a1_1 a1_2 a1_3 l2 = some (r1, r2)) :
  Calls Try.prog 43 #[.slice A0 l0.length c0, .agg #[.int .i64 a1_0, .int .i64 a1_1, .int .i64 a1_2, .int .i64 a1_3], .slice A2 l2.length c2] w fun e w' => e = .returned (.tuple #[.bool r1, .bool r2]) ∧ Below w.heap.size w w' := by
 have hu45 := Try.underlying45
 have HR0 := Aside0.mk hr0
 have HC0 := Aside0.mk hc0
 clear hr0 hc0
 have HR2 := Aside0.mk hr2
 have HC2 := Aside0.mk hc2
 clear hr2 hc2
 have HB := am (Below.refl w.heap.size w)
 have H : ((impl_AreBins.f k l0).bind fun t292 => (if t292 = true then ((impl_IsWanted.f a1_0 a1_1 a1_2 a1_3).bind fun t293 => (if t293 = true then ((impl_areParts.f k l0 l2).bind fun t294 => (if t294 = true then ((impl_meetsWanted.f l0 a1_0 a1_1 a1_2 a1_3 l2).bind fun t295 => (some (t295, true))) else (some (false, false)))) else (some (false, false)))) else (some (false, false)))) = some (r1, r2) := h
 clear h
 replace H := Option.bind_eq_some_iff.mp H
 obtain ⟨t292, A40, H⟩ := H
 replace H : (if t292 = true then ((impl_IsWanted.f a1_0 a1_1 a1_2 a1_3).bind fun t293 => (if t293 = true then ((impl_areParts.f k l0 l2).bind fun t294 => (if t294 = true then ((impl_meetsWanted.f l0 a1_0 a1_1 a1_2 a1_3 l2).bind fun t295 => (some (t295, true))) else (some (false, false)))) else (some (false, false)))) else (some (false, false))) = some (r1, r2) := H
 have A4 := Aside0.mk A40
 clear A40
 by_cases c5 : t292 = true
 ·subst c5
  have H1 : ((impl_IsWanted.f a1_0 a1_1 a1_2 a1_3).bind fun t293 => (if t293 = true then ((impl_areParts.f k l0 l2).bind fun t294 => (if t294 = true then ((impl_meetsWanted.f l0 a1_0 a1_1 a1_2 a1_3 l2).bind fun t295 => (some (t295, true))) else (some (false, false)))) else (some (false, false)))) = some (r1, r2) := by rw [if_pos rfl] at H; exact H
  clear H
  have H := H1
  clear H1
  replace H := Option.bind_eq_some_iff.mp H
  obtain ⟨t293, A60, H⟩ := H
  replace H : (if t293 = true then ((impl_areParts.f k l0 l2).bind fun t294 => (if t294 = true then ((impl_meetsWanted.f l0 a1_0 a1_1 a1_2 a1_3 l2).bind fun t295 => (some (t295, true))) else (some (false, false)))) else (some (false, false))) = some (r1, r2) := H
  have A6 := Aside0.mk A60
  clear A60
  by_cases c7 : t293 = true
  ·subst c7
   have H1 : ((impl_areParts.f k l0 l2).bind fun t294 => (if t294 = true then ((impl_meetsWanted.f l0 a1_0 a1_1 a1_2 a1_3 l2).bind fun t295 => (some (t295, true))) else (some (false, false)))) = some (r1, r2) := by rw [if_pos rfl] at H; exact H
   clear H; have H := H1; clear H1; replace H := Option.bind_eq_some_iff.mp H; obtain ⟨t294, A80, H⟩ := H; replace H : (if t294 = true then ((impl_meetsWanted.f l0 a1_0 a1_1 a1_2 a1_3 l2).bind fun t295 => (some (t295, true))) else (some (false, false))) = some (r1, r2) := H; have A8 := Aside0.mk A80; clear A80
   by_cases c9 : t294 = true
   ·subst c9
    have H1 : ((impl_meetsWanted.f l0 a1_0 a1_1 a1_2 a1_3 l2).bind fun t295 => (some (t295, true))) = some (r1, r2) := by rw [if_pos rfl] at H; exact H
    clear H; have H := H1; clear H1; replace H := Option.bind_eq_some_iff.mp H; obtain ⟨t295, A100, H⟩ := H; replace H : (some (t295, true)) = some (r1, r2) := H; have A10 := Aside0.mk A100; clear A100; simp only [Option.some.injEq, Prod.mk.injEq] at H; obtain ⟨rfl, rfl⟩ := H
    go_enter Try.func43, Try.ntmps43
    go_wp2_with (first | ((with_reducible refine gate_dst (N := 4) rfl ?_); refine box_event ?hg (N := 4) ?hd (cs := #[.int .i64 a1_0, .int .i64 a1_1, .int .i64 a1_2, .int .i64 a1_3]) (t := 45) ?hr ?_; (case hd => rfl); (case hg => rfl); (case hr => exact zo'); intro gb291 hg w11 hbox hb; have n0_ := am (below_step za' hb); have n1_ := am (hbox); have n2_ := am ((by rw [hg]; exact (below_size za') : w.heap.size ≤ gb291)); have n3_ := am ((by rw [hg]; exact (below_size za') : w.heap.size ≤ gb291)); clear HB; have HB := n0_; have BK291 := n1_; have GW291 := n2_; have GE291 := n3_; clear n0_ n1_ n2_ n3_; clear hb hbox hg) | ((with_reducible refine gate_callee (f := 40) rfl ?_); refine goesL_ (some 9) rfl rfl Try.func40 (by kernel_rfl) rfl #[.slice A0 l0.length c0] rfl zb' ?_; (with_reducible refine (impl_AreBins.calls k _ _ l0 true _ ?side1 ?side2 A4.out).mono ?_); (case side1 => exact zh'); (case side2 => exact zj4'); rintro e w12 ⟨rfl, hb⟩; refine ⟨_, rfl, ?_⟩; have n0_ := am (blk_below (g := gb291) (o := o1') zc3' hb); have n1_ := am (below_step zq1' hb); clear BK291; clear HB; have BK291 := n0_; have HB := n1_; clear n0_ n1_; (try clear hb); (try clear hb2); (try clear hk); (try clear hi); have hcz13_0 : w12.cell? ⟨gb291, 0, none⟩ = some (.int .i64 a1_0) := (blk_cell BK291.out 0).trans rfl; have hcz13_1 : w12.cell? ⟨gb291, 1, none⟩ = some (.int .i64 a1_1) := (blk_cell BK291.out 1).trans rfl; have hcz13_2 : w12.cell? ⟨gb291, 2, none⟩ = some (.int .i64 a1_2) := (blk_cell BK291.out 2).trans rfl; have hcz13_3 : w12.cell? ⟨gb291, 3, none⟩ = some (.int .i64 a1_3) := (blk_cell BK291.out 3).trans rfl; have hfz13_0 := blk_frozen BK291.out 0; have hfz13_1 := blk_frozen BK291.out 1; have hfz13_2 := blk_frozen BK291.out 2; have hfz13_3 := blk_frozen BK291.out 3) | (go_at_call 47; (with_reducible refine (impl_IsWanted.calls a1_0 a1_1 a1_2 a1_3 true _ A6.out).mono ?_); rintro e w14 ⟨rfl, hb⟩; have n0_ := am (blk_below (g := gb291) (o := o1') zc3' hb); have n1_ := am (below_step zq1' hb); clear BK291; clear HB; have BK291 := n0_; have HB := n1_; clear n0_ n1_; (try clear hb); (try clear hb2); (try clear hk); (try clear hi)) | (go_at_call 52; (with_reducible refine (impl_areParts.calls k _ _ l0 _ _ l2 true _ ?side1 ?side2 ?side3 ?side4 A8.out).mono ?_); (case side1 => exact zh'); (case side2 => exact zj4'); (case side3 => exact zj3'); (case side4 => exact HC2.out); rintro e w' ⟨rfl, ⟨nd, rfl⟩⟩; have hcz15_0 : w14.cell? ⟨gb291, 0, none⟩ = some (.int .i64 a1_0) := (blk_cell BK291.out 0).trans rfl; have hcz15_1 : w14.cell? ⟨gb291, 1, none⟩ = some (.int .i64 a1_1) := (blk_cell BK291.out 1).trans rfl; have hcz15_2 : w14.cell? ⟨gb291, 2, none⟩ = some (.int .i64 a1_2) := (blk_cell BK291.out 2).trans rfl; have hcz15_3 : w14.cell? ⟨gb291, 3, none⟩ = some (.int .i64 a1_3) := (blk_cell BK291.out 3).trans rfl; have hfz15_0 := blk_frozen BK291.out 0; have hfz15_1 := blk_frozen BK291.out 1; have hfz15_2 := blk_frozen BK291.out 2; have hfz15_3 := blk_frozen BK291.out 3) | ((with_reducible refine gate_callee (f := 60) rfl ?_); refine goesL_ (some 25) rfl rfl Try.func60 (by kernel_rfl) rfl #[.slice A0 l0.length c0, .agg #[.int .i64 a1_0, .int .i64 a1_1, .int .i64 a1_2, .int .i64 a1_3], .slice A2 l2.length c2] rfl zb' ?_; (with_reducible refine (impl_meetsWanted.calls _ _ l0 a1_0 a1_1 a1_2 a1_3 _ _ l2 t295 _ ?side1 ?side2 ?side3 ?side4 A10.out).mono ?_); (case side1 => repeat (first | exact (Kd.C_below HR0.out zq1') | (with_reducible refine Kd.C_alloc ?_ _) | (with_reducible refine Kd.C_drewN ?_ _) | (with_reducible refine Kd.C_drew ?_))); (case side2 => exact zj4'); (case side3 => repeat (first | exact (Kd.C_below HR2.out zq1') | (with_reducible refine Kd.C_alloc ?_ _) | (with_reducible refine Kd.C_drewN ?_ _) | (with_reducible refine Kd.C_drew ?_))); (case side4 => exact HC2.out); rintro e w16 ⟨rfl, hb⟩; refine ⟨_, rfl, ?_⟩; have n0_ := am (blk_below (g := gb291) (o := o1') zc3' hb); have n1_ := am (below_step zq1' hb); clear BK291; clear HB; have BK291 := n0_; have HB := n1_; clear n0_ n1_; (try clear hb); (try clear hb2); (try clear hk); (try clear hi)))
    go_ret2
    exact ⟨by first | rfl | (simp [errW_none, errW_some] <;> rfl) | (simp [*, errW_none, errW_some] <;> rfl), by repeat (first | (with_reducible first | exact HB.out | apply ba | apply bn | apply below_drew1 | refine below_set ?_ GE291.out) | exact HB.out)⟩
   ·replace c9 := Bool.eq_false_iff.mpr c9
    subst c9
    have H1 : (some (false, false)) = some (r1, r2) := by rw [if_neg (show ¬ (false = true) by decide)] at H; exact H
    clear H; have H := H1; clear H1; simp only [Option.some.injEq, Prod.mk.injEq] at H; obtain ⟨rfl, rfl⟩ := H
    go_enter Try.func43, Try.ntmps43
    go_wp2_with (first | ((with_reducible refine gate_dst (N := 4) rfl ?_); refine box_event ?hg (N := 4) ?hd (cs := #[.int .i64 a1_0, .int .i64 a1_1, .int .i64 a1_2, .int .i64 a1_3]) (t := 45) ?hr ?_; (case hd => rfl); (case hg => rfl); (case hr => exact zo'); intro gb291 hg w17 hbox hb; have n0_ := am (below_step za' hb); have n1_ := am (hbox); have n2_ := am ((by rw [hg]; exact (below_size za') : w.heap.size ≤ gb291)); have n3_ := am ((by rw [hg]; exact (below_size za') : w.heap.size ≤ gb291)); clear HB; have HB := n0_; have BK291 := n1_; have GW291 := n2_; have GE291 := n3_; clear n0_ n1_ n2_ n3_; clear hb hbox hg) | ((with_reducible refine gate_callee (f := 40) rfl ?_); refine goesL_ (some 9) rfl rfl Try.func40 (by kernel_rfl) rfl #[.slice A0 l0.length c0] rfl zb' ?_; (with_reducible refine (impl_AreBins.calls k _ _ l0 true _ ?side1 ?side2 A4.out).mono ?_); (case side1 => exact zh'); (case side2 => exact zj4'); rintro e w18 ⟨rfl, hb⟩; refine ⟨_, rfl, ?_⟩; have n0_ := am (blk_below (g := gb291) (o := o1') zc3' hb); have n1_ := am (below_step zq1' hb); clear BK291; clear HB; have BK291 := n0_; have HB := n1_; clear n0_ n1_; (try clear hb); (try clear hb2); (try clear hk); (try clear hi); have hcz19_0 : w18.cell? ⟨gb291, 0, none⟩ = some (.int .i64 a1_0) := (blk_cell BK291.out 0).trans rfl; have hcz19_1 : w18.cell? ⟨gb291, 1, none⟩ = some (.int .i64 a1_1) := (blk_cell BK291.out 1).trans rfl; have hcz19_2 : w18.cell? ⟨gb291, 2, none⟩ = some (.int .i64 a1_2) := (blk_cell BK291.out 2).trans rfl; have hcz19_3 : w18.cell? ⟨gb291, 3, none⟩ = some (.int .i64 a1_3) := (blk_cell BK291.out 3).trans rfl; have hfz19_0 := blk_frozen BK291.out 0; have hfz19_1 := blk_frozen BK291.out 1; have hfz19_2 := blk_frozen BK291.out 2; have hfz19_3 := blk_frozen BK291.out 3) | (go_at_call 47; (with_reducible refine (impl_IsWanted.calls a1_0 a1_1 a1_2 a1_3 true _ A6.out).mono ?_); rintro e w20 ⟨rfl, hb⟩; have n0_ := am (blk_below (g := gb291) (o := o1') zc3' hb); have n1_ := am (below_step zq1' hb); clear BK291; clear HB; have BK291 := n0_; have HB := n1_; clear n0_ n1_; (try clear hb); (try clear hb2); (try clear hk); (try clear hi)) | (go_at_call 52; (with_reducible refine (impl_areParts.calls k _ _ l0 _ _ l2 false _ ?side1 ?side2 ?side3 ?side4 A8.out).mono ?_); (case side1 => exact zh'); (case side2 => exact zj4'); (case side3 => exact zj3'); (case side4 => exact HC2.out); rintro e w' ⟨rfl, ⟨nd, rfl⟩⟩))
    go_ret2
    exact ⟨by first | rfl | (simp [errW_none, errW_some] <;> rfl) | (simp [*, errW_none, errW_some] <;> rfl), by repeat (first | (with_reducible first | exact HB.out | apply ba | apply bn | apply below_drew1 | refine below_set ?_ GE291.out) | exact HB.out)⟩
  ·replace c7 := Bool.eq_false_iff.mpr c7
   subst c7
   have H1 : (some (false, false)) = some (r1, r2) := by rw [if_neg (show ¬ (false = true) by decide)] at H; exact H
   clear H; have H := H1; clear H1; simp only [Option.some.injEq, Prod.mk.injEq] at H; obtain ⟨rfl, rfl⟩ := H
   go_enter Try.func43, Try.ntmps43
   go_wp2_with (first | ((with_reducible refine gate_dst (N := 4) rfl ?_); refine box_event ?hg (N := 4) ?hd (cs := #[.int .i64 a1_0, .int .i64 a1_1, .int .i64 a1_2, .int .i64 a1_3]) (t := 45) ?hr ?_; (case hd => rfl); (case hg => rfl); (case hr => exact zo'); intro gb291 hg w21 hbox hb; have n0_ := am (below_step za' hb); have n1_ := am (hbox); have n2_ := am ((by rw [hg]; exact (below_size za') : w.heap.size ≤ gb291)); have n3_ := am ((by rw [hg]; exact (below_size za') : w.heap.size ≤ gb291)); clear HB; have HB := n0_; have BK291 := n1_; have GW291 := n2_; have GE291 := n3_; clear n0_ n1_ n2_ n3_; clear hb hbox hg) | ((with_reducible refine gate_callee (f := 40) rfl ?_); refine goesL_ (some 9) rfl rfl Try.func40 (by kernel_rfl) rfl #[.slice A0 l0.length c0] rfl zb' ?_; (with_reducible refine (impl_AreBins.calls k _ _ l0 true _ ?side1 ?side2 A4.out).mono ?_); (case side1 => exact zh'); (case side2 => exact zj4'); rintro e w22 ⟨rfl, hb⟩; refine ⟨_, rfl, ?_⟩; have n0_ := am (blk_below (g := gb291) (o := o1') zc3' hb); have n1_ := am (below_step zq1' hb); clear BK291; clear HB; have BK291 := n0_; have HB := n1_; clear n0_ n1_; (try clear hb); (try clear hb2); (try clear hk); (try clear hi); have hcz23_0 : w22.cell? ⟨gb291, 0, none⟩ = some (.int .i64 a1_0) := (blk_cell BK291.out 0).trans rfl; have hcz23_1 : w22.cell? ⟨gb291, 1, none⟩ = some (.int .i64 a1_1) := (blk_cell BK291.out 1).trans rfl; have hcz23_2 : w22.cell? ⟨gb291, 2, none⟩ = some (.int .i64 a1_2) := (blk_cell BK291.out 2).trans rfl; have hcz23_3 : w22.cell? ⟨gb291, 3, none⟩ = some (.int .i64 a1_3) := (blk_cell BK291.out 3).trans rfl; have hfz23_0 := blk_frozen BK291.out 0; have hfz23_1 := blk_frozen BK291.out 1; have hfz23_2 := blk_frozen BK291.out 2; have hfz23_3 := blk_frozen BK291.out 3) | (go_at_call 47; (with_reducible refine (impl_IsWanted.calls a1_0 a1_1 a1_2 a1_3 false _ A6.out).mono ?_); rintro e w24 ⟨rfl, hb⟩; have n0_ := am (blk_below (g := gb291) (o := o1') zc3' hb); have n1_ := am (below_step zq1' hb); clear BK291; clear HB; have BK291 := n0_; have HB := n1_; clear n0_ n1_; (try clear hb); (try clear hb2); (try clear hk); (try clear hi)))
   go_ret2
   exact ⟨by first | rfl | (simp [errW_none, errW_some] <;> rfl) | (simp [*, errW_none, errW_some] <;> rfl), by repeat (first | (with_reducible first | exact HB.out | apply ba | apply bn | apply below_drew1 | refine below_set ?_ GE291.out) | exact HB.out)⟩
 ·replace c5 := Bool.eq_false_iff.mpr c5
  subst c5
  have H1 : (some (false, false)) = some (r1, r2) := by rw [if_neg (show ¬ (false = true) by decide)] at H; exact H
  clear H
  have H := H1
  clear H1
  simp only [Option.some.injEq, Prod.mk.injEq] at H
  obtain ⟨rfl, rfl⟩ := H
  go_enter Try.func43, Try.ntmps43
  go_wp2_with (first | ((with_reducible refine gate_dst (N := 4) rfl ?_); refine box_event ?hg (N := 4) ?hd (cs := #[.int .i64 a1_0, .int .i64 a1_1, .int .i64 a1_2, .int .i64 a1_3]) (t := 45) ?hr ?_; (case hd => rfl); (case hg => rfl); (case hr => exact zo'); intro gb291 hg w25 hbox hb; have n0_ := am (below_step za' hb); have n1_ := am (hbox); have n2_ := am ((by rw [hg]; exact (below_size za') : w.heap.size ≤ gb291)); have n3_ := am ((by rw [hg]; exact (below_size za') : w.heap.size ≤ gb291)); clear HB; have HB := n0_; have BK291 := n1_; have GW291 := n2_; have GE291 := n3_; clear n0_ n1_ n2_ n3_; clear hb hbox hg) | ((with_reducible refine gate_callee (f := 40) rfl ?_); refine goesL_ (some 9) rfl rfl Try.func40 (by kernel_rfl) rfl #[.slice A0 l0.length c0] rfl zb' ?_; (with_reducible refine (impl_AreBins.calls k _ _ l0 false _ ?side1 ?side2 A4.out).mono ?_); (case side1 => exact zh'); (case side2 => exact zj4'); rintro e w26 ⟨rfl, hb⟩; refine ⟨_, rfl, ?_⟩; have n0_ := am (blk_below (g := gb291) (o := o1') zc3' hb); have n1_ := am (below_step zq1' hb); clear BK291; clear HB; have BK291 := n0_; have HB := n1_; clear n0_ n1_; (try clear hb); (try clear hb2); (try clear hk); (try clear hi)))
  go_ret2
  exact ⟨by first | rfl | (simp [errW_none, errW_some] <;> rfl) | (simp [*, errW_none, errW_some] <;> rfl), by repeat (first | (with_reducible first | exact HB.out | apply ba | apply bn | apply below_drew1 | refine below_set ?_ GE291.out) | exact HB.out)⟩

/-! ### spec_MeetsWanted: function 44 -/
def spec_MeetsWanted.j0 : Nat → List (S63) → List Int → Bool → Int → Int → Int → Int → Option (Bool × Bool)
 | 0, _, _, _, _, _, _, _ => none
 | k + 1, x0, x2, x16, x297000, x297001, x297002, x297003 => if x16 = true then (some (false, false)) else ((spec_blSums.f k x0 x2).bind fun t299 => ((spec_blMeets.f x297000 x297001 x297002 x297003 t299).bind fun t302 => (some (t302, true))))
def spec_MeetsWanted.f (k : Nat) (l0 : List (S63)) (a1_0 : Int) (a1_1 : Int) (a1_2 : Int) (a1_3 : Int) (l2 : List Int) : Option (Bool × Bool) := (spec_blWanted.f a1_0 a1_1 a1_2 a1_3).bind fun t297 => (if t297 = true then ((spec_blParts.f k l0 l2).bind fun t298 => (spec_MeetsWanted.j0 k l0 l2 (!t298) a1_0 a1_1 a1_2 a1_3)) else (spec_MeetsWanted.j0 k l0 l2 true a1_0 a1_1 a1_2 a1_3))
set_option maxHeartbeats 8000000 in
set_option maxRecDepth 100000 in
theorem spec_MeetsWanted.calls (k : Nat) (A0 : Option Addr) (c0 : Nat) (l0 : List (S63)) (a1_0 : Int) (a1_1 : Int) (a1_2 : Int) (a1_3 : Int) (A2 : Option Addr) (c2 : Nat) (l2 : List Int) (r1 : Bool) (r2 : Bool) (w : World) (hr0 : Kd.C k63 w A0 l0.length l0) (hc0 : l0.length ≤ c0) (hr2 : Kd.C (Kd.int .i64) w A2 l2.length l2) (hc2 : l2.length ≤ c2) (h : spec_MeetsWanted.f k l0 a1_0 a1_1 a1_2 a1_3 l2 = some (r1, r2)) :
  Calls Try.prog 44 #[.slice A0 l0.length c0, .agg #[.int .i64 a1_0, .int .i64 a1_1, .int .i64 a1_2, .int .i64 a1_3], .slice A2 l2.length c2] w fun e w' => e = .returned (.tuple #[.bool r1, .bool r2]) ∧ Below w.heap.size w w' := by
 have hu45 := Try.underlying45
 have HR0 := Aside0.mk hr0
 have HC0 := Aside0.mk hc0
 clear hr0 hc0
 have HR2 := Aside0.mk hr2
 have HC2 := Aside0.mk hc2
 clear hr2 hc2
 have HB := am (Below.refl w.heap.size w)
 have H : ((spec_blWanted.f a1_0 a1_1 a1_2 a1_3).bind fun t297 => (if t297 = true then ((spec_blParts.f k l0 l2).bind fun t298 => (spec_MeetsWanted.j0 k l0 l2 (!t298) a1_0 a1_1 a1_2 a1_3)) else (spec_MeetsWanted.j0 k l0 l2 true a1_0 a1_1 a1_2 a1_3))) = some (r1, r2) := h
 clear h
 have HC4 := Aside0.mk H
 clear H
 go_enter Try.func44, Try.ntmps44
 go_upto_region 1 with (first | ((with_reducible refine gate_dst (N := 4) rfl ?_); refine box_event ?hg (N := 4) ?hd (cs := #[.int .i64 a1_0, .int .i64 a1_1, .int .i64 a1_2, .int .i64 a1_3]) (t := 45) ?hr ?_; (case hd => rfl); (case hg => rfl); (case hr => exact zo'); intro gb296 hg w5 hbox hb; have n0_ := am (below_step za' hb); have n1_ := am (hbox); have n2_ := am ((by rw [hg]; exact (below_size za') : w.heap.size ≤ gb296)); have n3_ := am ((by rw [hg]; exact (below_size za') : w.heap.size ≤ gb296)); clear HB; have HB := n0_; have BK296 := n1_; have GW296 := n2_; have GE296 := n3_; clear n0_ n1_ n2_ n3_; clear hb hbox hg))
 (try simp only [Act.put, s1, s2, s3])
 go_cut [16] (fun v16 wc => ∃ (kq : Nat) (x16_3 : Bool), v16 = .bool x16_3 ∧ Aside0 (spec_MeetsWanted.j0 kq l0 l2 x16_3 a1_0 a1_1 a1_2 a1_3 = some (r1, r2)) ∧ Aside0 (kq ≤ k) ∧ Aside0 (wc.heap[gb296]? = some (.cells #[.int .i64 a1_0, .int .i64 a1_1, .int .i64 a1_2, .int .i64 a1_3] 45 (0, 0))) ∧ Aside0 (Below w.heap.size w wc))
 case first =>
  have H := HC4.out
  clear HC4
  replace H := Option.bind_eq_some_iff.mp H
  obtain ⟨t297, A60, H⟩ := H
  replace H : (if t297 = true then ((spec_blParts.f k l0 l2).bind fun t298 => (spec_MeetsWanted.j0 k l0 l2 (!t298) a1_0 a1_1 a1_2 a1_3)) else (spec_MeetsWanted.j0 k l0 l2 true a1_0 a1_1 a1_2 a1_3)) = some (r1, r2) := H
  have A6 := Aside0.mk A60
  clear A60
  by_cases c7 : t297 = true
  ·subst c7
   have H1 : ((spec_blParts.f k l0 l2).bind fun t298 => (spec_MeetsWanted.j0 k l0 l2 (!t298) a1_0 a1_1 a1_2 a1_3)) = some (r1, r2) := by rw [if_pos rfl] at H; exact H
   clear H; have H := H1; clear H1; replace H := Option.bind_eq_some_iff.mp H; obtain ⟨t298, A80, H⟩ := H; replace H : (spec_MeetsWanted.j0 k l0 l2 (!t298) a1_0 a1_1 a1_2 a1_3) = some (r1, r2) := H; have A8 := Aside0.mk A80; clear A80; have H' := Aside0.mk H; clear H; have hcz9_0 : w5.cell? ⟨gb296, 0, none⟩ = some (.int .i64 a1_0) := (blk_cell BK296.out 0).trans rfl; have hcz9_1 : w5.cell? ⟨gb296, 1, none⟩ = some (.int .i64 a1_1) := (blk_cell BK296.out 1).trans rfl; have hcz9_2 : w5.cell? ⟨gb296, 2, none⟩ = some (.int .i64 a1_2) := (blk_cell BK296.out 2).trans rfl; have hcz9_3 : w5.cell? ⟨gb296, 3, none⟩ = some (.int .i64 a1_3) := (blk_cell BK296.out 3).trans rfl; have hfz9_0 := blk_frozen BK296.out 0; have hfz9_1 := blk_frozen BK296.out 1; have hfz9_2 := blk_frozen BK296.out 2; have hfz9_3 := blk_frozen BK296.out 3
   go_wp2_with (first | ((with_reducible refine gate_callee (f := 79) rfl ?_); refine goesL_ (some 9) rfl rfl Try.func79 (by kernel_rfl) rfl #[.agg #[.int .i64 a1_0, .int .i64 a1_1, .int .i64 a1_2, .int .i64 a1_3]] rfl zb' ?_; (with_reducible refine (spec_blWanted.calls a1_0 a1_1 a1_2 a1_3 true _ A6.out).mono ?_); rintro e w10 ⟨rfl, hb⟩; refine ⟨_, rfl, ?_⟩; have n0_ := am (blk_below (g := gb296) (o := o1') zq3' hb); have n1_ := am (below_step zz1' hb); clear BK296; clear HB; have BK296 := n0_; have HB := n1_; clear n0_ n1_; (try clear hb); (try clear hb2); (try clear hk); (try clear hi)) | (go_at_call 50; (with_reducible refine (spec_blParts.calls k _ _ l0 _ _ l2 t298 _ ?side1 ?side2 ?side3 ?side4 A8.out).mono ?_); (case side1 => exact zh'); (case side2 => exact zj4'); (case side3 => exact zj3'); (case side4 => exact HC2.out); rintro e w11 ⟨rfl, hb⟩; have n0_ := am (blk_below (g := gb296) (o := o1') zq3' hb); have n1_ := am (below_step zz1' hb); clear BK296; clear HB; have BK296 := n0_; have HB := n1_; clear n0_ n1_; (try clear hb); (try clear hb2); (try clear hk); (try clear hi)))
   go_meet
   case rel => exact ⟨_, (!t298), zx', H', ⟨ze4'⟩, ⟨zq3'⟩, ⟨zz1'⟩⟩
  ·replace c7 := Bool.eq_false_iff.mpr c7
   subst c7
   have H1 : (spec_MeetsWanted.j0 k l0 l2 true a1_0 a1_1 a1_2 a1_3) = some (r1, r2) := by rw [if_neg (show ¬ (false = true) by decide)] at H; exact H
   clear H; have H := H1; clear H1; have H' := Aside0.mk H; clear H; have hcz12_0 : w5.cell? ⟨gb296, 0, none⟩ = some (.int .i64 a1_0) := (blk_cell BK296.out 0).trans rfl; have hcz12_1 : w5.cell? ⟨gb296, 1, none⟩ = some (.int .i64 a1_1) := (blk_cell BK296.out 1).trans rfl; have hcz12_2 : w5.cell? ⟨gb296, 2, none⟩ = some (.int .i64 a1_2) := (blk_cell BK296.out 2).trans rfl; have hcz12_3 : w5.cell? ⟨gb296, 3, none⟩ = some (.int .i64 a1_3) := (blk_cell BK296.out 3).trans rfl; have hfz12_0 := blk_frozen BK296.out 0; have hfz12_1 := blk_frozen BK296.out 1; have hfz12_2 := blk_frozen BK296.out 2; have hfz12_3 := blk_frozen BK296.out 3
   go_wp2_with (first | ((with_reducible refine gate_callee (f := 79) rfl ?_); refine goesL_ (some 9) rfl rfl Try.func79 (by kernel_rfl) rfl #[.agg #[.int .i64 a1_0, .int .i64 a1_1, .int .i64 a1_2, .int .i64 a1_3]] rfl zb' ?_; (with_reducible refine (spec_blWanted.calls a1_0 a1_1 a1_2 a1_3 false _ A6.out).mono ?_); rintro e w13 ⟨rfl, hb⟩; refine ⟨_, rfl, ?_⟩; have n0_ := am (blk_below (g := gb296) (o := o1') zq3' hb); have n1_ := am (below_step zz1' hb); clear BK296; clear HB; have BK296 := n0_; have HB := n1_; clear n0_ n1_; (try clear hb); (try clear hb2); (try clear hk); (try clear hi)))
   go_meet
   case rel => exact ⟨_, (true), zx', H', ⟨ze4'⟩, ⟨zq3'⟩, ⟨zz1'⟩⟩
 case rest =>
  clear HC4
  try clear c2
  try clear p2
  try clear c4
  try clear c7
  try clear hcz12_0
  try clear hcz12_1
  try clear hcz12_2
  try clear hcz12_3
  try clear hcz9_0
  try clear hcz9_1
  try clear hcz9_2
  try clear hcz9_3
  try clear hfz12_0
  try clear hfz12_1
  try clear hfz12_2
  try clear hfz12_3
  try clear hfz9_0
  try clear hfz9_1
  try clear hfz9_2
  try clear hfz9_3
  obtain ⟨kq, x16_3, rfl, HA, HJ3, BK296, HB⟩ := hcut
  cases kq with
  | zero => exact absurd HA.out (by simp [spec_MeetsWanted.j0])
  | succ kj3 =>
   have H := HA.out; clear HA; simp only [spec_MeetsWanted.j0] at H
   by_cases c14 : x16_3 = true
   ·subst c14
    have H1 : (some (false, false)) = some (r1, r2) := by rw [if_pos rfl] at H; exact H
    clear H; have H := H1; clear H1; simp only [Option.some.injEq, Prod.mk.injEq] at H; obtain ⟨rfl, rfl⟩ := H
    go_wp2
    go_ret2
    exact ⟨by first | rfl | (simp [errW_none, errW_some] <;> rfl) | (simp [*, errW_none, errW_some] <;> rfl), by repeat (first | (with_reducible first | exact HB.out | apply ba | apply bn | apply below_drew1 | refine below_set ?_ GE296.out) | exact HB.out)⟩
   ·replace c14 := Bool.eq_false_iff.mpr c14
    subst c14
    have H1 : ((spec_blSums.f kj3 l0 l2).bind fun t299 => ((spec_blMeets.f a1_0 a1_1 a1_2 a1_3 t299).bind fun t302 => (some (t302, true)))) = some (r1, r2) := by rw [if_neg (show ¬ (false = true) by decide)] at H; exact H
    clear H; have H := H1; clear H1; replace H := Option.bind_eq_some_iff.mp H; obtain ⟨t299, A150, H⟩ := H; replace H : ((spec_blMeets.f a1_0 a1_1 a1_2 a1_3 t299).bind fun t302 => (some (t302, true))) = some (r1, r2) := H; have A15 := Aside0.mk A150; clear A150; replace H := Option.bind_eq_some_iff.mp H; obtain ⟨t302, A160, H⟩ := H; replace H : (some (t302, true)) = some (r1, r2) := H; have A16 := Aside0.mk A160; clear A160; simp only [Option.some.injEq, Prod.mk.injEq] at H; obtain ⟨rfl, rfl⟩ := H
    try go_wp2
    have n0_ := am (blk_drew BK296.out); have n1_ := am (below_drew1 HB.out); clear BK296; clear HB; have BK296 := n0_; have HB := n1_; clear n0_ n1_
    refine start_ (n := 7) (S := fun w' => w'.cell? ⟨gb296, 0, none⟩ = some (.int .i64 a1_0) ∧ w'.cell? ⟨gb296, 1, none⟩ = some (.int .i64 a1_1) ∧ w'.cell? ⟨gb296, 2, none⟩ = some (.int .i64 a1_2) ∧ w'.cell? ⟨gb296, 3, none⟩ = some (.int .i64 a1_3)) (ds := []) #[Z,Z,Z,Z,Z,Z,Z] (by kernel_rfl) rfl rfl ⟨(blk_cell BK296.out 0).trans rfl, (blk_cell BK296.out 1).trans rfl, (blk_cell BK296.out 2).trans rfl, (blk_cell BK296.out 3).trans rfl⟩ (fun hHeld => ?_)
    generalize wc.drew = w17 at BK296 HB hHeld ⊢
    refine pure_ (i := 1) (N := some 18) (v := ?_) (a' := ?_) #[Z,Y,Z,Z,Z,Z,Z] rfl rfl (by kernel_rfl) (fun _ _ _ h => h) (Or.inl ⟨by rfl, ?_⟩) ?_ ?_
    rotate_left
    ·intro w'
     go_simp
     with_reducible rfl
    rotate_left
    ·simp only [Act.put, s1, s2, s3, i64_w, i32_w]
     rfl
    refine pure_ (i := 2) (N := some 19) (v := ?_) (a' := ?_) #[Z,Y,Y,Z,Z,Z,Z] rfl rfl (by kernel_rfl) (fun _ _ _ h => h) (Or.inl ⟨by rfl, ?_⟩) ?_ ?_
    rotate_left
    ·intro w'
     go_simp
     with_reducible rfl
    rotate_left
    ·simp only [Act.put, s1, s2, s3, i64_w, i32_w]
     rfl
    refine take_ (i := 0) (N := some 17) (v := ?_) (a' := ?_) #[Y,Y,Y,Z,Z,Z,Z] rfl rfl (by kernel_rfl) (fun _ _ _ h => h) (Or.inl ⟨by rfl, ?_⟩) hHeld ?_ ?_
    rotate_left
    ·rintro w' ⟨s0, s1, s2, s3⟩
     go_simp
     with_reducible rfl
    rotate_left
    ·simp only [Act.put, s1, s2, s3, i64_w, i32_w]
     rfl
    refine one_ (i := 3) (N := some 20) #[Y,Y,Y,Y,Z,Z,Z] rfl rfl (by kernel_rfl) (by decide) (fun K hK => ?_)
    refine goes_ Try.func57 (by kernel_rfl) rfl #[.slice A0 l0.length c0, .slice A2 l2.length c2] (by rfl) rfl rfl zb' ?_
    with_reducible refine (spec_blSums.calls kj3 _ _ l0 _ _ l2 t299 _ ?side1 ?side2 ?side3 ?side4 A15.out).mono ?_
    (case side1 => exact zh')
    (case side2 => exact zj4')
    (case side3 => exact zj3')
    (case side4 => exact HC2.out)
    rintro e w18 ⟨v300, rfl, ho0, hb⟩
    refine ⟨_, rfl, ?_⟩
    have n0_ := am (Kd.R_lower ho0 (below_size zz1')); have n1_ := am (blk_below (g := gb296) (o := o1') zq3' hb); have n2_ := am (below_step zz1' hb); clear BK296; clear HB; have HO301 := n0_; have BK296 := n1_; have HB := n2_; clear n0_ n1_ n2_; (try clear hb); (try clear hb2); (try clear hk); (try clear hi); (try clear ho0); obtain ⟨Ao19, co19, eo19⟩ := Kd.R_slice HO301.out
    (first | subst eo19 | (injection eo19 with f1_ f2_ f3_; have f4_ := f1_.symm; have f5_ := f3_.symm; clear f1_ f2_ f3_; subst f4_; subst f5_))
    refine hK.out _ _ ⟨(blk_cell BK296.out 0).trans rfl, (blk_cell BK296.out 1).trans rfl, (blk_cell BK296.out 2).trans rfl, (blk_cell BK296.out 3).trans rfl⟩ (fun hHeld => ?_)
    clear hK K
    refine norm_ (a' := ?_) ?_ ?_
    rotate_left
    ·show Act.put _ (some 20) _ = _
     simp only [Act.put, s1, s2, s3, i64_w, i32_w]
     rfl
    refine one_ (i := 4) (N := some 21) #[Y,Y,Y,Y,Y,Z,Z] rfl rfl (by kernel_rfl) (by decide) (fun K hK => ?_)
    refine goes_ Try.func56 (by kernel_rfl) rfl #[.agg #[.int .i64 a1_0, .int .i64 a1_1, .int .i64 a1_2, .int .i64 a1_3], .slice Ao19 t299.length co19] (by rfl) rfl rfl zb' ?_
    with_reducible refine (spec_blMeets.calls a1_0 a1_1 a1_2 a1_3 _ _ t299 t302 _ ?side1 ?side2 A16.out).mono ?_
    (case side1 => repeat (first | exact (Kd.R_reads' HO301.out).2.2 | (with_reducible refine Kd.C_alloc ?_ _) | (with_reducible refine Kd.C_drewN ?_ _) | (with_reducible refine Kd.C_drew ?_)))
    (case side2 => exact (Kd.R_reads' HO301.out).2.1)
    rintro e w20 ⟨rfl, hb⟩
    refine ⟨_, rfl, ?_⟩
    have n0_ := am (Kd.R_below (by (with_reducible repeat (first | apply Kd.R_alloc | apply Kd.R_drewN | apply Kd.R_drew)); exact HO301.out) hb); have n1_ := am (blk_below (g := gb296) (o := o1') zq3' hb); have n2_ := am (below_step zz1' hb); clear HO301; clear BK296; clear HB; have HO301 := n0_; have BK296 := n1_; have HB := n2_; clear n0_ n1_ n2_; (try clear hb); (try clear hb2); (try clear hk); (try clear hi)
    refine hK.out _ _ ⟨(blk_cell BK296.out 0).trans rfl, (blk_cell BK296.out 1).trans rfl, (blk_cell BK296.out 2).trans rfl, (blk_cell BK296.out 3).trans rfl⟩ (fun hHeld => ?_)
    clear hK K
    refine norm_ (a' := ?_) ?_ ?_
    rotate_left
    ·show Act.put _ (some 21) _ = _
     simp only [Act.put, s1, s2, s3, i64_w, i32_w]
     rfl
    refine pure_ (i := 5) (N := some 6) (v := ?_) (a' := ?_) #[Y,Y,Y,Y,Y,Y,Z] rfl rfl (by kernel_rfl) (fun _ _ _ h => h) (Or.inl ⟨by rfl, ?_⟩) ?_ ?_
    rotate_left
    ·intro w'
     go_simp
     with_reducible rfl
    rotate_left
    ·simp only [Act.put, s1, s2, s3, i64_w, i32_w]
     rfl
    refine pure_ (i := 6) (N := some 7) (v := ?_) (a' := ?_) #[Y,Y,Y,Y,Y,Y,Y] rfl rfl (by kernel_rfl) (fun _ _ _ h => h) (Or.inl ⟨by rfl, ?_⟩) ?_ ?_
    rotate_left
    ·intro w'
     go_simp
     with_reducible rfl
    rotate_left
    ·simp only [Act.put, s1, s2, s3, i64_w, i32_w]
     rfl
    refine done_ (by kernel_rfl) ?_
    try go_wp2
    go_ret2
    exact ⟨by first | rfl | (simp [errW_none, errW_some] <;> rfl) | (simp [*, errW_none, errW_some] <;> rfl), by repeat (first | (with_reducible first | exact HB.out | apply ba | apply bn | apply below_drew1 | refine below_set ?_ GE296.out) | exact HB.out)⟩

end Go.Proofs.Ytcinecbfkeefaaa.PFnBlends
