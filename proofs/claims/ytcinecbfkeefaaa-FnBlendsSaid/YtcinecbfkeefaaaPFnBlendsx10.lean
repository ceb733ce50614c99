/- Text written by a program for this claim: contracts of the functions of one law. -/
import Derived.Test.YtcinecbfkeefaaaPFnBlendsx0
import Derived.Test.YtcinecbfkeefaaaPFnBlendsx1
import Derived.Test.YtcinecbfkeefaaaPFnBlendsx7
import Derived.Test.YtcinecbfkeefaaaPFnBlendsx8
import Derived.Test.YtcinecbfkeefaaaPFnBlendsx9
namespace Go.Proofs.Ytcinecbfkeefaaa.PFnBlends
open Go.RowKit Go.Proofs.YtcinecbfkeefaaaW.PrintWords Go.Proofs.YtcinecbfkeefaaaW.PrintLast Go.Proofs.YtcinecbfkeefaaaW.PrintMore
attribute [local go_sem] max2_int min2_int max_two min_two max_three min_three max_four min_four   -- for this text's walks alone
set_option linter.unusedVariables false
set_option linter.unusedSimpArgs false
open ShortPFnBlends0

/-! ### spec_DrawCheapestBlend: function 41 -/
def spec_DrawCheapestBlend.q (k : Nat) (s0_0 : List Int) (s0_1 : Int) (s0_2 : Int) : Option ((List (S63)) × Int × Int × Int × Int × Int × Int) := (spec_l1Cur_bins.f k s0_0 s0_1 s0_2).bind fun bt263 => ((spec_l1Cur_wanted.f s0_0 bt263.2.1 bt263.2.2).bind fun bt268 => (some (bt263.1, bt268.1, bt268.2.1, bt268.2.2.1, bt268.2.2.2.1, bt268.2.2.2.2.1, bt268.2.2.2.2.2)))
def spec_DrawCheapestBlend.f (k : Nat) (l0 : List Int) : Option ((List (S63)) × Int × Int × Int × Int) := (spec_DrawCheapestBlend.q k l0 0 0).bind fun q => some (q.1, q.2.1, q.2.2.1, q.2.2.2.1, q.2.2.2.2.1)
set_option maxHeartbeats 8000000 in
set_option maxRecDepth 100000 in
theorem spec_DrawCheapestBlend.calls (k : Nat) (A0 : Option Addr) (c0 : Nat) (l0 : List Int) (z1 : List (S63)) (z2 : Int) (z3 : Int) (z4 : Int) (z5 : Int) (w0 : World) (hr0 : Kd.C (Kd.int .u8) w0 A0 l0.length l0) (hc0 : l0.length ≤ c0) (h : spec_DrawCheapestBlend.f k l0 = some (z1, z2, z3, z4, z5)) :
  Calls Try.prog 41 #[.slice A0 l0.length c0] w0 fun e w' => ∃ v0_ : Value, e = .returned (.tuple #[v0_, .agg #[.int .i64 z2, .int .i64 z3, .int .i64 z4, .int .i64 z5]]) ∧ Kd.R k63 63 w' w0.heap.size (fun _ => True) v0_ z1 ∧ Below w0.heap.size w0 w' := by
 suffices H_ : Calls Try.prog 41 #[.slice A0 l0.length c0] w0 fun e w' => ∃ b_ : Nat, w0.heap.size ≤ b_ ∧ ∃ v0_ : Value, e = .returned (.tuple #[v0_, .agg #[.int .i64 z2, .int .i64 z3, .int .i64 z4, .int .i64 z5]]) ∧ Kd.R k63 63 w' b_ (fun _ => True) v0_ z1 ∧ Below w0.heap.size w0 w' from H_.mono (fun e w' h_ => by
  obtain ⟨b_, hb_, v0_, he, ho0, hbel⟩ := h_
  exact ⟨v0_, he, Kd.R_lower ho0 hb_, hbel⟩)
 obtain ⟨⟨r1, r2, r3, r4, r5, r6, r7⟩, hq, hs⟩ := Option.bind_eq_some_iff.1 h
 simp only [Option.some.injEq, Prod.mk.injEq] at hs
 obtain ⟨rfl, rfl, rfl, rfl, rfl⟩ := hs
 have HR_ := Aside0.mk hr0
 have Hq_ := am hq
 clear hr0 hc0 hq h
 go_enter Try.func41, Try.ntmps41
 go_upto_region 2 with (first | ((with_reducible refine gate_dst (N := 3) rfl ?_); refine box_event ?hg (N := 3) ?hd (cs := #[.int .i64 0, .int .i64 0, .int .i64 0, .int .i64 0]) (t := 45) ?hr ?_; (case hd => rfl); (case hg => rfl); (case hr => exact zo'); intro gb262 hg w4_ hbox hb; have BK_ := Aside0.mk hbox; have HGB_ := Aside0.mk hg; have HB4_ := Aside0.mk hb; clear hg hbox hb) | ((with_reducible refine gate_dst (N := 7) rfl ?_); refine box_event ?hg (N := 7) ?hd (cs := #[.slice A0 l0.length c0, .int .i64 0, .int .u64 0]) (t := 96) ?hr ?_; (case hd => rfl); (case hg => rfl); (case hr => exact zo'); intro g hg wx hbox hb; have BX_ := Aside0.mk hbox; have HG_ := Aside0.mk hg; have HB_ := Aside0.mk hb; clear hg hbox hb))
 have hB : Below w0.heap.size w0 wx := below_step HB4_.out HB_.out
 have hI : IsS96 w0 wx g l0 0 0 := ⟨A0, c0, BX_.out, by rw [HG_.out]; exact HB4_.out.size, HR_.out⟩
 have BK262 : Aside0 (wx.heap[gb262]? = some (.cells #[.int .i64 0, .int .i64 0, .int .i64 0, .int .i64 0] 45 (0, 0))) := ⟨(HB_.out.block _ (blk_lt BK_.out)).trans BK_.out⟩
 have GW262 : Aside0 (w0.heap.size ≤ gb262) := ⟨Nat.le_of_eq HGB_.out.symm⟩
 have GE262 : Aside0 (w0.heap.size ≤ gb262) := ⟨Nat.le_of_eq HGB_.out.symm⟩
 have NB0_262 : Aside0 (g ≠ gb262) := ⟨by rw [HG_.out]; exact Nat.ne_of_gt (blk_lt BK_.out)⟩
 have NB262_0 : Aside0 (gb262 ≠ g) := ⟨by rw [HG_.out]; exact Nat.ne_of_lt (blk_lt BK_.out)⟩
 have h := Hq_.out
 clear BX_ HG_ HB_ Hq_ HR_ BK_ HGB_ HB4_
 have hu45 := Try.underlying45
 have HI0 := Aside0.mk hI
 have HK := am (KeepBut.of_below hB g none)
 have HL := am (Nat.le_refl w0.heap.size)
 clear hI
 have HW0 := am (Nat.le_refl w0.heap.size)
 have HB := Aside0.mk hB
 clear hB
 have H : ((spec_l1Cur_bins.f k l0 0 0).bind fun bt263 => ((spec_l1Cur_wanted.f l0 bt263.2.1 bt263.2.2).bind fun bt268 => (some (bt263.1, bt268.1, bt268.2.1, bt268.2.2.1, bt268.2.2.2.1, bt268.2.2.2.2.1, bt268.2.2.2.2.2)))) = some (r1, r2, r3, r4, r5, r6, r7) := h
 clear h
 replace H := Option.bind_eq_some_iff.mp H
 obtain ⟨⟨t263, t266, t267⟩, A20, H⟩ := H
 replace H : ((spec_l1Cur_wanted.f l0 t266 t267).bind fun bt268 => (some (t263, bt268.1, bt268.2.1, bt268.2.2.1, bt268.2.2.2.1, bt268.2.2.2.2.1, bt268.2.2.2.2.2))) = some (r1, r2, r3, r4, r5, r6, r7) := H
 have A2 := Aside0.mk A20
 clear A20
 replace H := Option.bind_eq_some_iff.mp H
 obtain ⟨⟨t268, t269, t270, t271, t272, t273⟩, A30, H⟩ := H
 replace H : (some (t263, t268, t269, t270, t271, t272, t273)) = some (r1, r2, r3, r4, r5, r6, r7) := H
 have A3 := Aside0.mk A30
 clear A30
 simp only [Option.some.injEq, Prod.mk.injEq] at H
 obtain ⟨rfl, rfl, rfl, rfl, rfl, rfl, rfl⟩ := H
 go_wp2_with (first | ((with_reducible refine gate_dst (N := 3) rfl ?_); refine box_event ?hg (N := 3) ?hd (cs := #[.int .i64 0, .int .i64 0, .int .i64 0, .int .i64 0]) (t := 45) ?hr ?_; (case hd => rfl); (case hg => rfl); (case hr => exact zo'); intro gb262 hg w4 hbox hb; have n0_ := am (IsS96.below zd' hb); have n1_ := am (KeepBut.trans zc' (KeepBut.of_below hb g none) (.inl rfl)); have n2_ := am (below_step ze' hb); have n3_ := am (hbox); have n4_ := am ((by rw [hg]; exact (keep_size (w := w0) (g := g) (row := none) zc') : w0.heap.size ≤ gb262)); have n5_ := am ((Nat.le_trans HW0.out (by rw [hg]; exact (keep_size (w := w0) (g := g) (row := none) zc') : w0.heap.size ≤ gb262) : w0.heap.size ≤ gb262)); have n6_ := am ((by rw [hg]; exact Nat.ne_of_lt (IsS96.lt (show IsS96 w0 _ g l0 0 0 from by repeat (first | (with_reducible first | exact HI0.out | apply IsS96.alloc | apply IsS96.drewN | apply IsS96.drew | apply IsS96.set_1 | apply IsS96.set_2) | exact HI0.out))) : g ≠ gb262)); have n7_ := am ((by rw [hg]; exact Nat.ne_of_gt (IsS96.lt (show IsS96 w0 _ g l0 0 0 from by repeat (first | (with_reducible first | exact HI0.out | apply IsS96.alloc | apply IsS96.drewN | apply IsS96.drew | apply IsS96.set_1 | apply IsS96.set_2) | exact HI0.out))) : gb262 ≠ g)); clear HI0; clear HK; clear HB; have HI0 := n0_; have HK := n1_; have HB := n2_; have BK262 := n3_; have GW262 := n4_; have GE262 := n5_; have NB0_262 := n6_; have NB262_0 := n7_; clear n0_ n1_ n2_ n3_ n4_ n5_ n6_ n7_; clear hb hbox hg) | ((with_reducible refine gate_callee (f := 73) rfl ?_); refine goesL_ (some 9) rfl rfl Try.func73 (by kernel_rfl) rfl #[.pointer (some ⟨g, 0, none⟩)] rfl zb' ?_; (with_reducible refine (spec_l1Cur_bins.calls k g l0 0 0 t263 t266 t267 w0 _ ?side1 ?side2 A2.out).mono ?_); (case side1 => exact zr4'); (case side2 => exact zw4'); rintro e w5 ⟨v264, rfl, ho0, hi, hb, hk⟩; refine ⟨_, rfl, ?_⟩; have n0_ := am (KeepBut.blk hk (g' := gb262) (o := o0') (by (with_reducible repeat (first | apply kn | apply kd | apply ka)); exact BK262.out) NB262_0.out (by simp)); have n1_ := am (Kd.R_lower ho0 (keep_size (w := w0) (g := g) (row := none) zb4')); have n2_ := am (KeepBut.trans zb4' hk (.inl rfl)); have n3_ := am (hb); have n4_ := am (hi); clear BK262; clear HK; clear HB; clear HI0; have BK262 := n0_; have HO265 := n1_; have HK := n2_; have HB := n3_; have HI0 := n4_; clear n0_ n1_ n2_ n3_ n4_; (try clear hb); (try clear hb2); (try clear hk); (try clear hi); (try clear ho0)) | ((with_reducible refine gate_callee (f := 74) rfl ?_); refine goesL_ (some 11) rfl rfl Try.func74 (by kernel_rfl) rfl #[.pointer (some ⟨g, 0, none⟩)] rfl zb' ?_; (with_reducible refine (spec_l1Cur_wanted.calls g l0 t266 t267 t268 t269 t270 t271 t272 t273 w0 _ ?side1 ?side2 A3.out).mono ?_); (case side1 => exact zr4'); (case side2 => exact zw4'); rintro e w6 ⟨rfl, hi, hb, hk⟩; refine ⟨_, rfl, ?_⟩; have n0_ := am (KeepBut.blk hk (g' := gb262) (o := o0') (by (with_reducible repeat (first | apply kn | apply kd | apply ka)); exact BK262.out) NB262_0.out (by simp)); have n1_ := am (Kd.R_mono (Kd.R_keep (IsS96.apart (show IsS96 w0 _ g l0 t266 t267 from by repeat (first | (with_reducible first | exact HI0.out | apply IsS96.alloc | apply IsS96.drewN | apply IsS96.drew | apply IsS96.set_1 | apply IsS96.set_2 | refine IsS96.far ?_ NB0_262.out _) | exact HI0.out)) (by (with_reducible repeat (first | apply Kd.R_alloc | apply Kd.R_drewN | apply Kd.R_drew)); exact HO265.out) (by decide)) hk (fun _ h => h.2)) (fun _ h => h.1)); have n2_ := am (KeepBut.trans zb4' hk (.inl rfl)); have n3_ := am (hb); have n4_ := am (hi); clear BK262; clear HO265; clear HK; clear HB; clear HI0; have BK262 := n0_; have HO265 := n1_; have HK := n2_; have HB := n3_; have HI0 := n4_; clear n0_ n1_ n2_ n3_ n4_; (try clear hb); (try clear hb2); (try clear hk); (try clear hi); have hnb7 := NB262_0.out; have hnc7 := NB0_262.out; have hcz8_0 : w6.cell? ⟨gb262, 0, none⟩ = some (.int .i64 0) := (blk_cell BK262.out 0).trans rfl; have hcz8_1 : w6.cell? ⟨gb262, 1, none⟩ = some (.int .i64 0) := (blk_cell BK262.out 1).trans rfl; have hcz8_2 : w6.cell? ⟨gb262, 2, none⟩ = some (.int .i64 0) := (blk_cell BK262.out 2).trans rfl; have hcz8_3 : w6.cell? ⟨gb262, 3, none⟩ = some (.int .i64 0) := (blk_cell BK262.out 3).trans rfl; have hfz8_0 := blk_frozen BK262.out 0; have hfz8_1 := blk_frozen BK262.out 1; have hfz8_2 := blk_frozen BK262.out 2; have hfz8_3 := blk_frozen BK262.out 3))
 refine bodyPost_ret (results_tc rfl _ _ gb262 45 #[.int .i64 t268, .int .i64 t269, .int .i64 t270, .int .i64 t271] (0, 0) _ rfl (by (with_reducible repeat (first | apply kn | apply kd | apply ka)); refine blk_put (cs := #[.int .i64 t268, .int .i64 t269, .int .i64 t270, .int .i64 0]) ?_ 3 _ rfl; (with_reducible repeat (first | apply kn | apply kd | apply ka)); refine blk_put (cs := #[.int .i64 t268, .int .i64 t269, .int .i64 0, .int .i64 0]) ?_ 2 _ rfl; (with_reducible repeat (first | apply kn | apply kd | apply ka)); refine blk_put (cs := #[.int .i64 t268, .int .i64 0, .int .i64 0, .int .i64 0]) ?_ 1 _ rfl; (with_reducible repeat (first | apply kn | apply kd | apply ka)); refine blk_put (cs := #[.int .i64 0, .int .i64 0, .int .i64 0, .int .i64 0]) ?_ 0 _ rfl; (with_reducible repeat (first | apply kn | apply kd | apply ka)); exact BK262.out) Try.underlying45 rfl (by kernel_rfl)) rfl ?_
 exact ⟨w0.heap.size, HL.out, _, by first | rfl | (simp [errW_none, errW_some] <;> rfl) | (simp [*, errW_none, errW_some] <;> rfl), by (with_reducible repeat (first | apply Kd.R_alloc | apply Kd.R_drewN | apply Kd.R_drew)); exact Kd.R_mono (Kd.R_far (p := ⟨gb262, 3, none⟩) (Kd.R_far (p := ⟨gb262, 2, none⟩) (Kd.R_far (p := ⟨gb262, 1, none⟩) (Kd.R_far (p := ⟨gb262, 0, none⟩) (Kd.R_types HO265.out BK262.out (by decide)) (fun _ hk => hk.2) (.int .i64 t268)) (fun _ hk => hk.2) (.int .i64 t269)) (fun _ hk => hk.2) (.int .i64 t270)) (fun _ hk => hk.2) (.int .i64 t271)) (fun _ hk => trivial), by repeat (first | (with_reducible first | exact HB.out | apply ba | apply bn | apply below_drew1 | refine below_set ?_ (IsS96.ge HI0.out) | refine below_set ?_ GE262.out) | exact HB.out)⟩


/-! ### spec_blParts: function 50 -/
mutual
def spec_blParts.j0 : Nat → List (S63) → List Int → Bool → Option (Bool)
 | 0, _, _, _ => none
 | k + 1, x0, x1, x16 => if x16 = true then (some false) else (spec_blParts.l0 k x1 x0 (x0.length : Int) 0)
def spec_blParts.l0 : Nat → List Int → List (S63) → Int → Int → Option (Bool)
 | 0, _, _, _, _ => none
 | k + 1, x1, x17, x18, x19 => if x19 < x18 then (if 0 ≤ x19 then (if x19 < (x17.length : Int) then (if x19 < (x1.length : Int) then ((spec_l1In.f (rd x1 x19) 0 ((rd_T63 x17 x19).f0)).bind fun t266 => (if t266 = true then (spec_blParts.l0 k x1 x17 x18 (wrap64 (x19 + 1))) else (some false))) else (none)) else (none)) else (none)) else (some true)
end
def spec_blParts.f (k : Nat) (l0 : List (S63)) (l1 : List Int) : Option (Bool) := (spec_blBins.f k l0).bind fun t262 => (if t262 = true then (spec_blParts.j0 k l0 l1 ((l1.length : Int) != (l0.length : Int))) else (spec_blParts.j0 k l0 l1 true))
set_option maxHeartbeats 8000000 in
set_option maxRecDepth 100000 in
theorem spec_blParts.calls (k : Nat) (A0 : Option Addr) (c0 : Nat) (l0 : List (S63)) (A1 : Option Addr) (c1 : Nat) (l1 : List Int) (r : Bool) (w : World) (hr0 : Kd.C k63 w A0 l0.length l0) (hc0 : l0.length ≤ c0) (hr1 : Kd.C (Kd.int .i64) w A1 l1.length l1) (hc1 : l1.length ≤ c1) (h : spec_blParts.f k l0 l1 = some r) :
  Calls Try.prog 50 #[.slice A0 l0.length c0, .slice A1 l1.length c1] w fun e w' => e = .returned (.bool r) ∧ Below w.heap.size w w' := by
 have hu63 := Try.underlying63
 have HR0 := Aside0.mk hr0
 have HC0 := Aside0.mk hc0
 clear hr0 hc0
 have HR1 := Aside0.mk hr1
 have HC1 := Aside0.mk hc1
 clear hr1 hc1
 have HB := am (Below.refl w.heap.size w)
 have H : ((spec_blBins.f k l0).bind fun t262 => (if t262 = true then (spec_blParts.j0 k l0 l1 ((l1.length : Int) != (l0.length : Int))) else (spec_blParts.j0 k l0 l1 true))) = some r := h
 clear h
 have HC3 := Aside0.mk H
 clear H
 go_enter Try.func50, Try.ntmps50
 go_upto_region 1 with (fail)
 repeat (go_quiet (fail); go_upto_region 1 with (fail))
 go_cut [16] (fun v16 wc => ∃ (kq : Nat) (x16_2 : Bool), v16 = .bool x16_2 ∧ Aside0 (spec_blParts.j0 kq l0 l1 x16_2 = some r) ∧ Aside0 (kq ≤ k) ∧ Aside0 (Below w.heap.size w wc))
 case first =>
  have H := HC3.out
  clear HC3
  replace H := Option.bind_eq_some_iff.mp H
  obtain ⟨t262, A40, H⟩ := H
  replace H : (if t262 = true then (spec_blParts.j0 k l0 l1 ((l1.length : Int) != (l0.length : Int))) else (spec_blParts.j0 k l0 l1 true)) = some r := H
  have A4 := Aside0.mk A40
  clear A40
  by_cases c5 : t262 = true
  ·subst c5
   have H1 : (spec_blParts.j0 k l0 l1 ((l1.length : Int) != (l0.length : Int))) = some r := by rw [if_pos rfl] at H; exact H
   clear H; have H := H1; clear H1; have H' := Aside0.mk H; clear H
   go_wp2_with (first | (go_at_call 69; (with_reducible refine (spec_blBins.calls k _ _ l0 true _ ?side1 ?side2 A4.out).mono ?_); (case side1 => exact zh'); (case side2 => exact zj4'); rintro e w6 ⟨rfl, hb⟩; have n0_ := am (below_step za' hb); clear HB; have HB := n0_; clear n0_; (try clear hb); (try clear hb2); (try clear hk); (try clear hi)))
   repeat (go_quiet (first | (go_at_call 69; (with_reducible refine (spec_blBins.calls k _ _ l0 true _ ?side1 ?side2 A4.out).mono ?_); (case side1 => exact zh'); (case side2 => exact zj4'); rintro e w6 ⟨rfl, hb⟩; have n0_ := am (below_step za' hb); clear HB; have HB := n0_; clear n0_; (try clear hb); (try clear hb2); (try clear hk); (try clear hi))); try go_wp2_with (first | (go_at_call 69; (with_reducible refine (spec_blBins.calls k _ _ l0 true _ ?side1 ?side2 A4.out).mono ?_); (case side1 => exact zh'); (case side2 => exact zj4'); rintro e w6 ⟨rfl, hb⟩; have n0_ := am (below_step za' hb); clear HB; have HB := n0_; clear n0_; (try clear hb); (try clear hb2); (try clear hk); (try clear hi))))
   go_meet
   case rel => exact ⟨_, (((l1.length : Int) != (l0.length : Int))), zx', H', ⟨ze4'⟩, ⟨za'⟩⟩
  ·replace c5 := Bool.eq_false_iff.mpr c5
   subst c5
   have H1 : (spec_blParts.j0 k l0 l1 true) = some r := by rw [if_neg (show ¬ (false = true) by decide)] at H; exact H
   clear H; have H := H1; clear H1; have H' := Aside0.mk H; clear H
   go_wp2_with (first | (go_at_call 69; (with_reducible refine (spec_blBins.calls k _ _ l0 false _ ?side1 ?side2 A4.out).mono ?_); (case side1 => exact zh'); (case side2 => exact zj4'); rintro e w7 ⟨rfl, hb⟩; have n0_ := am (below_step za' hb); clear HB; have HB := n0_; clear n0_; (try clear hb); (try clear hb2); (try clear hk); (try clear hi)))
   repeat (go_quiet (first | (go_at_call 69; (with_reducible refine (spec_blBins.calls k _ _ l0 false _ ?side1 ?side2 A4.out).mono ?_); (case side1 => exact zh'); (case side2 => exact zj4'); rintro e w7 ⟨rfl, hb⟩; have n0_ := am (below_step za' hb); clear HB; have HB := n0_; clear n0_; (try clear hb); (try clear hb2); (try clear hk); (try clear hi))); try go_wp2_with (first | (go_at_call 69; (with_reducible refine (spec_blBins.calls k _ _ l0 false _ ?side1 ?side2 A4.out).mono ?_); (case side1 => exact zh'); (case side2 => exact zj4'); rintro e w7 ⟨rfl, hb⟩; have n0_ := am (below_step za' hb); clear HB; have HB := n0_; clear n0_; (try clear hb); (try clear hb2); (try clear hk); (try clear hi))))
   go_meet
   case rel => exact ⟨_, (true), zx', H', ⟨ze4'⟩, ⟨za'⟩⟩
 case rest =>
  clear HC3
  try clear c1
  try clear p2
  try clear c5
  obtain ⟨kq, x16_2, rfl, HA, HJ2, HB⟩ := hcut
  cases kq with
  | zero => exact absurd HA.out (by simp [spec_blParts.j0])
  | succ kj2 =>
   have H := HA.out; clear HA; simp only [spec_blParts.j0] at H
   by_cases c8 : x16_2 = true
   ·subst c8
    have H1 : (some false) = some r := by rw [if_pos rfl] at H; exact H
    clear H; have H := H1; clear H1; obtain rfl := Option.some.inj H
    go_wp2
    repeat (go_quiet (fail); try go_wp2)
    go_ret
    exact ⟨by first | rfl | (simp [errW_none, errW_some] <;> rfl) | (simp [*, errW_none, errW_some] <;> rfl), by repeat (first | (with_reducible first | exact HB.out | apply ba | apply bn | apply below_drew1) | exact HB.out)⟩
   ·replace c8 := Bool.eq_false_iff.mpr c8
    subst c8
    have H1 : (spec_blParts.l0 kj2 l1 l0 (l0.length : Int) 0) = some r := by rw [if_neg (show ¬ (false = true) by decide)] at H; exact H
    clear H; have H := H1; clear H1; have H' := Aside0.mk H; clear H
    go_wp2
    repeat (go_quiet (fail); try go_wp2)
    go_loopg [19] kj2 (fun kq v19 w' => ∃ (x19_2 : Int), v19 = .int .i64 x19_2 ∧ Aside0 (spec_blParts.l0 kq l1 l0 (l0.length : Int) x19_2 = some r) ∧ Aside0 (kq ≤ kj2) ∧ Aside0 (Below w.heap.size w w'))
    case atStart => exact ⟨(0), zx', H', ⟨Nat.le_refl _⟩, ⟨za'⟩⟩
    case round =>
     clear H'; (try clear c1); (try clear p2); (try clear c5); (try clear c8); (try clear p2); obtain ⟨x19_2, rfl, HA, HK2, HB⟩ := hrel
     cases gk with
     | zero => exact absurd HA.out (by simp [spec_blParts.l0])
     | succ k2 =>
      have H := HA.out; clear HA; simp only [spec_blParts.l0] at H
      by_cases c9 : x19_2 < (l0.length : Int)
      ·rw [if_pos c9] at H
       have c9b0 : decide (x19_2 < (l0.length : Int)) = true := decide_eq_true c9; clear c9
       by_cases c10 : 0 ≤ x19_2
       ·rw [if_pos c10] at H
        have c10b0 : decide (0 ≤ x19_2) = true := decide_eq_true c10; clear c10
        by_cases c11 : x19_2 < (l0.length : Int)
        ·rw [if_pos c11] at H
         have c11b0 : decide (x19_2 < (l0.length : Int)) = true := decide_eq_true c11; clear c11
         by_cases c12 : x19_2 < (l1.length : Int)
         ·rw [if_pos c12] at H
          have c12b0 : decide (x19_2 < (l1.length : Int)) = true := decide_eq_true c12; clear c12; replace H := Option.bind_eq_some_iff.mp H; obtain ⟨t266, A130, H⟩ := H; replace H : (if t266 = true then (spec_blParts.l0 k2 l1 l0 (l0.length : Int) (wrap64 (x19_2 + 1))) else (some false)) = some r := H; have A13 := Aside0.mk A130; clear A130
          by_cases c14 : t266 = true
          ·subst c14
           have H1 : (spec_blParts.l0 k2 l1 l0 (l0.length : Int) (wrap64 (x19_2 + 1))) = some r := by rw [if_pos rfl] at H; exact H
           clear H; have H := H1; clear H1; have H' := Aside0.mk H; clear H; have p263 : 0 ≤ (x19_2 : Int) := odt; have q263 : x19_2 < (l0.length : Int) := odt; obtain ⟨ad263, e263, hx263_0, hx263_1, hx263_2, hx263_3⟩ := at_T63 HR0.out x19_2 p263 q263; cases e263
           try replace hx263_0 := (HB.out.cell (World.block_lt_of_cell? w _ hx263_0)).trans hx263_0
           try replace hx263_1 := (HB.out.cell (World.block_lt_of_cell? w _ hx263_1)).trans hx263_1
           try replace hx263_2 := (HB.out.cell (World.block_lt_of_cell? w _ hx263_2)).trans hx263_2
           try replace hx263_3 := (HB.out.cell (World.block_lt_of_cell? w _ hx263_3)).trans hx263_3
           replace p263 := eq_true p263; replace q263 := eq_true q263
           go_wp2_with (first | ((with_reducible refine gate_dst (N := 6) rfl ?_); (try (refine gate_guard (by rfl) ?_; dsimp only)); refine box_event ?hg (N := 6) ?hd (cs := #[.int .i64 0, .int .i64 0, .int .i64 0, .int .i64 0]) (t := 63) ?hr ?_; (case hd => rfl); (case hg => rfl); (case hr => exact zo'); intro gb264 hg w15 hbox hb; have n0_ := am (below_step za' hb); have n1_ := am (hbox); have n2_ := am ((by rw [hg]; exact (below_size za') : w.heap.size ≤ gb264)); have n3_ := am ((by rw [hg]; exact (below_size za') : w.heap.size ≤ gb264)); clear HB; have HB := n0_; have BK264 := n1_; have GW264 := n2_; have GE264 := n3_; clear n0_ n1_ n2_ n3_; clear hb hbox hg; have hcz16_0 : w15.cell? ⟨gb264, 0, none⟩ = some (.int .i64 0) := (blk_cell BK264.out 0).trans rfl; have hcz16_1 : w15.cell? ⟨gb264, 1, none⟩ = some (.int .i64 0) := (blk_cell BK264.out 1).trans rfl; have hcz16_2 : w15.cell? ⟨gb264, 2, none⟩ = some (.int .i64 0) := (blk_cell BK264.out 2).trans rfl; have hcz16_3 : w15.cell? ⟨gb264, 3, none⟩ = some (.int .i64 0) := (blk_cell BK264.out 3).trans rfl; have hfz16_0 := blk_frozen BK264.out 0; have hfz16_1 := blk_frozen BK264.out 1; have hfz16_2 := blk_frozen BK264.out 2; have hfz16_3 := blk_frozen BK264.out 3; have p265 : 0 ≤ (x19_2 : Int) := odt; have q265 : x19_2 < (l1.length : Int) := odt; obtain ⟨ad265, e265, hx265_0⟩ := Kd.at_int HR1.out x19_2 p265 q265; cases e265; have hn265_0 : ad265.block ≠ gb264 := Nat.ne_of_lt (Nat.lt_of_lt_of_le zy' GW264.out); have hn265_1 : ad265.block ≠ gb264 := Nat.ne_of_lt (Nat.lt_of_lt_of_le zy' GW264.out); have hn265_2 : ad265.block ≠ gb264 := Nat.ne_of_lt (Nat.lt_of_lt_of_le zy' GW264.out); have hn265_3 : ad265.block ≠ gb264 := Nat.ne_of_lt (Nat.lt_of_lt_of_le zy' GW264.out); replace hx265_0 := (HB.out.cell (World.block_lt_of_cell? w _ hx265_0)).trans hx265_0; replace hx265_0 := (cell_far (p := ⟨gb264, 0, none⟩) zt2' (.int .i64 ((rd_T63 l0 x19_2).f0))).trans hx265_0; replace hx265_0 := (cell_far (p := ⟨gb264, 1, none⟩) zu2' (.int .i64 ((rd_T63 l0 x19_2).f1))).trans hx265_0; replace hx265_0 := (cell_far (p := ⟨gb264, 2, none⟩) zv2' (.int .i64 ((rd_T63 l0 x19_2).f2))).trans hx265_0; replace hx265_0 := (cell_far (p := ⟨gb264, 3, none⟩) zw2' (.int .i64 ((rd_T63 l0 x19_2).f3))).trans hx265_0; (try have hy265_0 := fun (n_ : Nat) => (show ((((((w15.drewN n_).setCell ⟨gb264, 0, none⟩ (.int .i64 ((rd_T63 l0 x19_2).f0))).setCell ⟨gb264, 1, none⟩ (.int .i64 ((rd_T63 l0 x19_2).f1))).setCell ⟨gb264, 2, none⟩ (.int .i64 ((rd_T63 l0 x19_2).f2))).setCell ⟨gb264, 3, none⟩ (.int .i64 ((rd_T63 l0 x19_2).f3)))).cell? _ = some _ from hx265_0)); clear hn265_0; clear hn265_1; clear hn265_2; clear hn265_3; replace p265 := eq_true p265; replace q265 := eq_true q265) | (go_at_call 70; (with_reducible refine (spec_l1In.calls (rd l1 x19_2) 0 ((rd_T63 l0 x19_2).f0) true _ A13.out).mono ?_); rintro e w' ⟨rfl, ⟨nd, rfl⟩⟩; (try first | exact ⟨rfl, _, World.drewN_drewN _ _ _⟩ | exact ⟨rfl, _, Eq.trans (World.drewN_drewN _ _ _) (congrArg (World.drewN _) (Nat.add_assoc _ _ _))⟩)))
           repeat (go_quiet (first | ((with_reducible refine gate_dst (N := 6) rfl ?_); (try (refine gate_guard (by rfl) ?_; dsimp only)); refine box_event ?hg (N := 6) ?hd (cs := #[.int .i64 0, .int .i64 0, .int .i64 0, .int .i64 0]) (t := 63) ?hr ?_; (case hd => rfl); (case hg => rfl); (case hr => exact zo'); intro gb264 hg w15 hbox hb; have n0_ := am (below_step za' hb); have n1_ := am (hbox); have n2_ := am ((by rw [hg]; exact (below_size za') : w.heap.size ≤ gb264)); have n3_ := am ((by rw [hg]; exact (below_size za') : w.heap.size ≤ gb264)); clear HB; have HB := n0_; have BK264 := n1_; have GW264 := n2_; have GE264 := n3_; clear n0_ n1_ n2_ n3_; clear hb hbox hg; have hcz16_0 : w15.cell? ⟨gb264, 0, none⟩ = some (.int .i64 0) := (blk_cell BK264.out 0).trans rfl; have hcz16_1 : w15.cell? ⟨gb264, 1, none⟩ = some (.int .i64 0) := (blk_cell BK264.out 1).trans rfl; have hcz16_2 : w15.cell? ⟨gb264, 2, none⟩ = some (.int .i64 0) := (blk_cell BK264.out 2).trans rfl; have hcz16_3 : w15.cell? ⟨gb264, 3, none⟩ = some (.int .i64 0) := (blk_cell BK264.out 3).trans rfl; have hfz16_0 := blk_frozen BK264.out 0; have hfz16_1 := blk_frozen BK264.out 1; have hfz16_2 := blk_frozen BK264.out 2; have hfz16_3 := blk_frozen BK264.out 3; have p265 : 0 ≤ (x19_2 : Int) := odt; have q265 : x19_2 < (l1.length : Int) := odt; obtain ⟨ad265, e265, hx265_0⟩ := Kd.at_int HR1.out x19_2 p265 q265; cases e265; have hn265_0 : ad265.block ≠ gb264 := Nat.ne_of_lt (Nat.lt_of_lt_of_le zy' GW264.out); have hn265_1 : ad265.block ≠ gb264 := Nat.ne_of_lt (Nat.lt_of_lt_of_le zy' GW264.out); have hn265_2 : ad265.block ≠ gb264 := Nat.ne_of_lt (Nat.lt_of_lt_of_le zy' GW264.out); have hn265_3 : ad265.block ≠ gb264 := Nat.ne_of_lt (Nat.lt_of_lt_of_le zy' GW264.out); replace hx265_0 := (HB.out.cell (World.block_lt_of_cell? w _ hx265_0)).trans hx265_0; replace hx265_0 := (cell_far (p := ⟨gb264, 0, none⟩) zt2' (.int .i64 ((rd_T63 l0 x19_2).f0))).trans hx265_0; replace hx265_0 := (cell_far (p := ⟨gb264, 1, none⟩) zu2' (.int .i64 ((rd_T63 l0 x19_2).f1))).trans hx265_0; replace hx265_0 := (cell_far (p := ⟨gb264, 2, none⟩) zv2' (.int .i64 ((rd_T63 l0 x19_2).f2))).trans hx265_0; replace hx265_0 := (cell_far (p := ⟨gb264, 3, none⟩) zw2' (.int .i64 ((rd_T63 l0 x19_2).f3))).trans hx265_0; (try have hy265_0 := fun (n_ : Nat) => (show ((((((w15.drewN n_).setCell ⟨gb264, 0, none⟩ (.int .i64 ((rd_T63 l0 x19_2).f0))).setCell ⟨gb264, 1, none⟩ (.int .i64 ((rd_T63 l0 x19_2).f1))).setCell ⟨gb264, 2, none⟩ (.int .i64 ((rd_T63 l0 x19_2).f2))).setCell ⟨gb264, 3, none⟩ (.int .i64 ((rd_T63 l0 x19_2).f3)))).cell? _ = some _ from hx265_0)); clear hn265_0; clear hn265_1; clear hn265_2; clear hn265_3; replace p265 := eq_true p265; replace q265 := eq_true q265) | (go_at_call 70; (with_reducible refine (spec_l1In.calls (rd l1 x19_2) 0 ((rd_T63 l0 x19_2).f0) true _ A13.out).mono ?_); rintro e w' ⟨rfl, ⟨nd, rfl⟩⟩; (try first | exact ⟨rfl, _, World.drewN_drewN _ _ _⟩ | exact ⟨rfl, _, Eq.trans (World.drewN_drewN _ _ _) (congrArg (World.drewN _) (Nat.add_assoc _ _ _))⟩))); try go_wp2_with (first | ((with_reducible refine gate_dst (N := 6) rfl ?_); (try (refine gate_guard (by rfl) ?_; dsimp only)); refine box_event ?hg (N := 6) ?hd (cs := #[.int .i64 0, .int .i64 0, .int .i64 0, .int .i64 0]) (t := 63) ?hr ?_; (case hd => rfl); (case hg => rfl); (case hr => exact zo'); intro gb264 hg w15 hbox hb; have n0_ := am (below_step za' hb); have n1_ := am (hbox); have n2_ := am ((by rw [hg]; exact (below_size za') : w.heap.size ≤ gb264)); have n3_ := am ((by rw [hg]; exact (below_size za') : w.heap.size ≤ gb264)); clear HB; have HB := n0_; have BK264 := n1_; have GW264 := n2_; have GE264 := n3_; clear n0_ n1_ n2_ n3_; clear hb hbox hg; have hcz16_0 : w15.cell? ⟨gb264, 0, none⟩ = some (.int .i64 0) := (blk_cell BK264.out 0).trans rfl; have hcz16_1 : w15.cell? ⟨gb264, 1, none⟩ = some (.int .i64 0) := (blk_cell BK264.out 1).trans rfl; have hcz16_2 : w15.cell? ⟨gb264, 2, none⟩ = some (.int .i64 0) := (blk_cell BK264.out 2).trans rfl; have hcz16_3 : w15.cell? ⟨gb264, 3, none⟩ = some (.int .i64 0) := (blk_cell BK264.out 3).trans rfl; have hfz16_0 := blk_frozen BK264.out 0; have hfz16_1 := blk_frozen BK264.out 1; have hfz16_2 := blk_frozen BK264.out 2; have hfz16_3 := blk_frozen BK264.out 3; have p265 : 0 ≤ (x19_2 : Int) := odt; have q265 : x19_2 < (l1.length : Int) := odt; obtain ⟨ad265, e265, hx265_0⟩ := Kd.at_int HR1.out x19_2 p265 q265; cases e265; have hn265_0 : ad265.block ≠ gb264 := Nat.ne_of_lt (Nat.lt_of_lt_of_le zy' GW264.out); have hn265_1 : ad265.block ≠ gb264 := Nat.ne_of_lt (Nat.lt_of_lt_of_le zy' GW264.out); have hn265_2 : ad265.block ≠ gb264 := Nat.ne_of_lt (Nat.lt_of_lt_of_le zy' GW264.out); have hn265_3 : ad265.block ≠ gb264 := Nat.ne_of_lt (Nat.lt_of_lt_of_le zy' GW264.out); replace hx265_0 := (HB.out.cell (World.block_lt_of_cell? w _ hx265_0)).trans hx265_0; replace hx265_0 := (cell_far (p := ⟨gb264, 0, none⟩) zt2' (.int .i64 ((rd_T63 l0 x19_2).f0))).trans hx265_0; replace hx265_0 := (cell_far (p := ⟨gb264, 1, none⟩) zu2' (.int .i64 ((rd_T63 l0 x19_2).f1))).trans hx265_0; replace hx265_0 := (cell_far (p := ⟨gb264, 2, none⟩) zv2' (.int .i64 ((rd_T63 l0 x19_2).f2))).trans hx265_0; replace hx265_0 := (cell_far (p := ⟨gb264, 3, none⟩) zw2' (.int .i64 ((rd_T63 l0 x19_2).f3))).trans hx265_0; (try have hy265_0 := fun (n_ : Nat) => (show ((((((w15.drewN n_).setCell ⟨gb264, 0, none⟩ (.int .i64 ((rd_T63 l0 x19_2).f0))).setCell ⟨gb264, 1, none⟩ (.int .i64 ((rd_T63 l0 x19_2).f1))).setCell ⟨gb264, 2, none⟩ (.int .i64 ((rd_T63 l0 x19_2).f2))).setCell ⟨gb264, 3, none⟩ (.int .i64 ((rd_T63 l0 x19_2).f3)))).cell? _ = some _ from hx265_0)); clear hn265_0; clear hn265_1; clear hn265_2; clear hn265_3; replace p265 := eq_true p265; replace q265 := eq_true q265) | (go_at_call 70; (with_reducible refine (spec_l1In.calls (rd l1 x19_2) 0 ((rd_T63 l0 x19_2).f0) true _ A13.out).mono ?_); rintro e w' ⟨rfl, ⟨nd, rfl⟩⟩; (try first | exact ⟨rfl, _, World.drewN_drewN _ _ _⟩ | exact ⟨rfl, _, Eq.trans (World.drewN_drewN _ _ _) (congrArg (World.drewN _) (Nat.add_assoc _ _ _))⟩))))
           go_roundg k2
           case measure => have := HJ2.out; have := HK2.out; omega
           case rel => exact ⟨(wrap64 (x19_2 + 1)), zx', H', ⟨by have := HJ2.out; have := HK2.out; omega⟩, ⟨by repeat (first | (with_reducible first | exact HB.out | apply ba | apply bn | apply below_drew1 | refine below_set ?_ GE264.out) | exact HB.out)⟩⟩
          ·replace c14 := Bool.eq_false_iff.mpr c14
           subst c14
           have H1 : (some false) = some r := by rw [if_neg (show ¬ (false = true) by decide)] at H; exact H
           clear H; have H := H1; clear H1; obtain rfl := Option.some.inj H; have p263 : 0 ≤ (x19_2 : Int) := odt; have q263 : x19_2 < (l0.length : Int) := odt; obtain ⟨ad263, e263, hx263_0, hx263_1, hx263_2, hx263_3⟩ := at_T63 HR0.out x19_2 p263 q263; cases e263
           try replace hx263_0 := (HB.out.cell (World.block_lt_of_cell? w _ hx263_0)).trans hx263_0
           try replace hx263_1 := (HB.out.cell (World.block_lt_of_cell? w _ hx263_1)).trans hx263_1
           try replace hx263_2 := (HB.out.cell (World.block_lt_of_cell? w _ hx263_2)).trans hx263_2
           try replace hx263_3 := (HB.out.cell (World.block_lt_of_cell? w _ hx263_3)).trans hx263_3
           replace p263 := eq_true p263; replace q263 := eq_true q263
           go_wp2_with (first | ((with_reducible refine gate_dst (N := 6) rfl ?_); (try (refine gate_guard (by rfl) ?_; dsimp only)); refine box_event ?hg (N := 6) ?hd (cs := #[.int .i64 0, .int .i64 0, .int .i64 0, .int .i64 0]) (t := 63) ?hr ?_; (case hd => rfl); (case hg => rfl); (case hr => exact zo'); intro gb264 hg w17 hbox hb; have n0_ := am (below_step za' hb); have n1_ := am (hbox); have n2_ := am ((by rw [hg]; exact (below_size za') : w.heap.size ≤ gb264)); have n3_ := am ((by rw [hg]; exact (below_size za') : w.heap.size ≤ gb264)); clear HB; have HB := n0_; have BK264 := n1_; have GW264 := n2_; have GE264 := n3_; clear n0_ n1_ n2_ n3_; clear hb hbox hg; have hcz18_0 : w17.cell? ⟨gb264, 0, none⟩ = some (.int .i64 0) := (blk_cell BK264.out 0).trans rfl; have hcz18_1 : w17.cell? ⟨gb264, 1, none⟩ = some (.int .i64 0) := (blk_cell BK264.out 1).trans rfl; have hcz18_2 : w17.cell? ⟨gb264, 2, none⟩ = some (.int .i64 0) := (blk_cell BK264.out 2).trans rfl; have hcz18_3 : w17.cell? ⟨gb264, 3, none⟩ = some (.int .i64 0) := (blk_cell BK264.out 3).trans rfl; have hfz18_0 := blk_frozen BK264.out 0; have hfz18_1 := blk_frozen BK264.out 1; have hfz18_2 := blk_frozen BK264.out 2; have hfz18_3 := blk_frozen BK264.out 3; have p265 : 0 ≤ (x19_2 : Int) := odt; have q265 : x19_2 < (l1.length : Int) := odt; obtain ⟨ad265, e265, hx265_0⟩ := Kd.at_int HR1.out x19_2 p265 q265; cases e265; have hn265_0 : ad265.block ≠ gb264 := Nat.ne_of_lt (Nat.lt_of_lt_of_le zy' GW264.out); have hn265_1 : ad265.block ≠ gb264 := Nat.ne_of_lt (Nat.lt_of_lt_of_le zy' GW264.out); have hn265_2 : ad265.block ≠ gb264 := Nat.ne_of_lt (Nat.lt_of_lt_of_le zy' GW264.out); have hn265_3 : ad265.block ≠ gb264 := Nat.ne_of_lt (Nat.lt_of_lt_of_le zy' GW264.out); replace hx265_0 := (HB.out.cell (World.block_lt_of_cell? w _ hx265_0)).trans hx265_0; replace hx265_0 := (cell_far (p := ⟨gb264, 0, none⟩) zt2' (.int .i64 ((rd_T63 l0 x19_2).f0))).trans hx265_0; replace hx265_0 := (cell_far (p := ⟨gb264, 1, none⟩) zu2' (.int .i64 ((rd_T63 l0 x19_2).f1))).trans hx265_0; replace hx265_0 := (cell_far (p := ⟨gb264, 2, none⟩) zv2' (.int .i64 ((rd_T63 l0 x19_2).f2))).trans hx265_0; replace hx265_0 := (cell_far (p := ⟨gb264, 3, none⟩) zw2' (.int .i64 ((rd_T63 l0 x19_2).f3))).trans hx265_0; (try have hy265_0 := fun (n_ : Nat) => (show ((((((w17.drewN n_).setCell ⟨gb264, 0, none⟩ (.int .i64 ((rd_T63 l0 x19_2).f0))).setCell ⟨gb264, 1, none⟩ (.int .i64 ((rd_T63 l0 x19_2).f1))).setCell ⟨gb264, 2, none⟩ (.int .i64 ((rd_T63 l0 x19_2).f2))).setCell ⟨gb264, 3, none⟩ (.int .i64 ((rd_T63 l0 x19_2).f3)))).cell? _ = some _ from hx265_0)); clear hn265_0; clear hn265_1; clear hn265_2; clear hn265_3; replace p265 := eq_true p265; replace q265 := eq_true q265) | (go_at_call 70; (with_reducible refine (spec_l1In.calls (rd l1 x19_2) 0 ((rd_T63 l0 x19_2).f0) false _ A13.out).mono ?_); rintro e w' ⟨rfl, ⟨nd, rfl⟩⟩; (try first | exact ⟨rfl, _, World.drewN_drewN _ _ _⟩ | exact ⟨rfl, _, Eq.trans (World.drewN_drewN _ _ _) (congrArg (World.drewN _) (Nat.add_assoc _ _ _))⟩)))
           repeat (go_quiet (first | ((with_reducible refine gate_dst (N := 6) rfl ?_); (try (refine gate_guard (by rfl) ?_; dsimp only)); refine box_event ?hg (N := 6) ?hd (cs := #[.int .i64 0, .int .i64 0, .int .i64 0, .int .i64 0]) (t := 63) ?hr ?_; (case hd => rfl); (case hg => rfl); (case hr => exact zo'); intro gb264 hg w17 hbox hb; have n0_ := am (below_step za' hb); have n1_ := am (hbox); have n2_ := am ((by rw [hg]; exact (below_size za') : w.heap.size ≤ gb264)); have n3_ := am ((by rw [hg]; exact (below_size za') : w.heap.size ≤ gb264)); clear HB; have HB := n0_; have BK264 := n1_; have GW264 := n2_; have GE264 := n3_; clear n0_ n1_ n2_ n3_; clear hb hbox hg; have hcz18_0 : w17.cell? ⟨gb264, 0, none⟩ = some (.int .i64 0) := (blk_cell BK264.out 0).trans rfl; have hcz18_1 : w17.cell? ⟨gb264, 1, none⟩ = some (.int .i64 0) := (blk_cell BK264.out 1).trans rfl; have hcz18_2 : w17.cell? ⟨gb264, 2, none⟩ = some (.int .i64 0) := (blk_cell BK264.out 2).trans rfl; have hcz18_3 : w17.cell? ⟨gb264, 3, none⟩ = some (.int .i64 0) := (blk_cell BK264.out 3).trans rfl; have hfz18_0 := blk_frozen BK264.out 0; have hfz18_1 := blk_frozen BK264.out 1; have hfz18_2 := blk_frozen BK264.out 2; have hfz18_3 := blk_frozen BK264.out 3; have p265 : 0 ≤ (x19_2 : Int) := odt; have q265 : x19_2 < (l1.length : Int) := odt; obtain ⟨ad265, e265, hx265_0⟩ := Kd.at_int HR1.out x19_2 p265 q265; cases e265; have hn265_0 : ad265.block ≠ gb264 := Nat.ne_of_lt (Nat.lt_of_lt_of_le zy' GW264.out); have hn265_1 : ad265.block ≠ gb264 := Nat.ne_of_lt (Nat.lt_of_lt_of_le zy' GW264.out); have hn265_2 : ad265.block ≠ gb264 := Nat.ne_of_lt (Nat.lt_of_lt_of_le zy' GW264.out); have hn265_3 : ad265.block ≠ gb264 := Nat.ne_of_lt (Nat.lt_of_lt_of_le zy' GW264.out); replace hx265_0 := (HB.out.cell (World.block_lt_of_cell? w _ hx265_0)).trans hx265_0; replace hx265_0 := (cell_far (p := ⟨gb264, 0, none⟩) zt2' (.int .i64 ((rd_T63 l0 x19_2).f0))).trans hx265_0; replace hx265_0 := (cell_far (p := ⟨gb264, 1, none⟩) zu2' (.int .i64 ((rd_T63 l0 x19_2).f1))).trans hx265_0; replace hx265_0 := (cell_far (p := ⟨gb264, 2, none⟩) zv2' (.int .i64 ((rd_T63 l0 x19_2).f2))).trans hx265_0; replace hx265_0 := (cell_far (p := ⟨gb264, 3, none⟩) zw2' (.int .i64 ((rd_T63 l0 x19_2).f3))).trans hx265_0; (try have hy265_0 := fun (n_ : Nat) => (show ((((((w17.drewN n_).setCell ⟨gb264, 0, none⟩ (.int .i64 ((rd_T63 l0 x19_2).f0))).setCell ⟨gb264, 1, none⟩ (.int .i64 ((rd_T63 l0 x19_2).f1))).setCell ⟨gb264, 2, none⟩ (.int .i64 ((rd_T63 l0 x19_2).f2))).setCell ⟨gb264, 3, none⟩ (.int .i64 ((rd_T63 l0 x19_2).f3)))).cell? _ = some _ from hx265_0)); clear hn265_0; clear hn265_1; clear hn265_2; clear hn265_3; replace p265 := eq_true p265; replace q265 := eq_true q265) | (go_at_call 70; (with_reducible refine (spec_l1In.calls (rd l1 x19_2) 0 ((rd_T63 l0 x19_2).f0) false _ A13.out).mono ?_); rintro e w' ⟨rfl, ⟨nd, rfl⟩⟩; (try first | exact ⟨rfl, _, World.drewN_drewN _ _ _⟩ | exact ⟨rfl, _, Eq.trans (World.drewN_drewN _ _ _) (congrArg (World.drewN _) (Nat.add_assoc _ _ _))⟩))); try go_wp2_with (first | ((with_reducible refine gate_dst (N := 6) rfl ?_); (try (refine gate_guard (by rfl) ?_; dsimp only)); refine box_event ?hg (N := 6) ?hd (cs := #[.int .i64 0, .int .i64 0, .int .i64 0, .int .i64 0]) (t := 63) ?hr ?_; (case hd => rfl); (case hg => rfl); (case hr => exact zo'); intro gb264 hg w17 hbox hb; have n0_ := am (below_step za' hb); have n1_ := am (hbox); have n2_ := am ((by rw [hg]; exact (below_size za') : w.heap.size ≤ gb264)); have n3_ := am ((by rw [hg]; exact (below_size za') : w.heap.size ≤ gb264)); clear HB; have HB := n0_; have BK264 := n1_; have GW264 := n2_; have GE264 := n3_; clear n0_ n1_ n2_ n3_; clear hb hbox hg; have hcz18_0 : w17.cell? ⟨gb264, 0, none⟩ = some (.int .i64 0) := (blk_cell BK264.out 0).trans rfl; have hcz18_1 : w17.cell? ⟨gb264, 1, none⟩ = some (.int .i64 0) := (blk_cell BK264.out 1).trans rfl; have hcz18_2 : w17.cell? ⟨gb264, 2, none⟩ = some (.int .i64 0) := (blk_cell BK264.out 2).trans rfl; have hcz18_3 : w17.cell? ⟨gb264, 3, none⟩ = some (.int .i64 0) := (blk_cell BK264.out 3).trans rfl; have hfz18_0 := blk_frozen BK264.out 0; have hfz18_1 := blk_frozen BK264.out 1; have hfz18_2 := blk_frozen BK264.out 2; have hfz18_3 := blk_frozen BK264.out 3; have p265 : 0 ≤ (x19_2 : Int) := odt; have q265 : x19_2 < (l1.length : Int) := odt; obtain ⟨ad265, e265, hx265_0⟩ := Kd.at_int HR1.out x19_2 p265 q265; cases e265; have hn265_0 : ad265.block ≠ gb264 := Nat.ne_of_lt (Nat.lt_of_lt_of_le zy' GW264.out); have hn265_1 : ad265.block ≠ gb264 := Nat.ne_of_lt (Nat.lt_of_lt_of_le zy' GW264.out); have hn265_2 : ad265.block ≠ gb264 := Nat.ne_of_lt (Nat.lt_of_lt_of_le zy' GW264.out); have hn265_3 : ad265.block ≠ gb264 := Nat.ne_of_lt (Nat.lt_of_lt_of_le zy' GW264.out); replace hx265_0 := (HB.out.cell (World.block_lt_of_cell? w _ hx265_0)).trans hx265_0; replace hx265_0 := (cell_far (p := ⟨gb264, 0, none⟩) zt2' (.int .i64 ((rd_T63 l0 x19_2).f0))).trans hx265_0; replace hx265_0 := (cell_far (p := ⟨gb264, 1, none⟩) zu2' (.int .i64 ((rd_T63 l0 x19_2).f1))).trans hx265_0; replace hx265_0 := (cell_far (p := ⟨gb264, 2, none⟩) zv2' (.int .i64 ((rd_T63 l0 x19_2).f2))).trans hx265_0; replace hx265_0 := (cell_far (p := ⟨gb264, 3, none⟩) zw2' (.int .i64 ((rd_T63 l0 x19_2).f3))).trans hx265_0; (try have hy265_0 := fun (n_ : Nat) => (show ((((((w17.drewN n_).setCell ⟨gb264, 0, none⟩ (.int .i64 ((rd_T63 l0 x19_2).f0))).setCell ⟨gb264, 1, none⟩ (.int .i64 ((rd_T63 l0 x19_2).f1))).setCell ⟨gb264, 2, none⟩ (.int .i64 ((rd_T63 l0 x19_2).f2))).setCell ⟨gb264, 3, none⟩ (.int .i64 ((rd_T63 l0 x19_2).f3)))).cell? _ = some _ from hx265_0)); clear hn265_0; clear hn265_1; clear hn265_2; clear hn265_3; replace p265 := eq_true p265; replace q265 := eq_true q265) | (go_at_call 70; (with_reducible refine (spec_l1In.calls (rd l1 x19_2) 0 ((rd_T63 l0 x19_2).f0) false _ A13.out).mono ?_); rintro e w' ⟨rfl, ⟨nd, rfl⟩⟩; (try first | exact ⟨rfl, _, World.drewN_drewN _ _ _⟩ | exact ⟨rfl, _, Eq.trans (World.drewN_drewN _ _ _) (congrArg (World.drewN _) (Nat.add_assoc _ _ _))⟩))))
           go_ret
           exact ⟨by first | rfl | (simp [errW_none, errW_some] <;> rfl) | (simp [*, errW_none, errW_some] <;> rfl), by repeat (first | (with_reducible first | exact HB.out | apply ba | apply bn | apply below_drew1 | refine below_set ?_ GE264.out) | exact HB.out)⟩
         ·rw [if_neg c12] at H
          exact absurd H (by simp)
        ·rw [if_neg c11] at H
         exact absurd H (by simp)
       ·rw [if_neg c10] at H
        exact absurd H (by simp)
      ·rw [if_neg c9] at H
       have c9b0 : decide (x19_2 < (l0.length : Int)) = false := decide_eq_false c9; clear c9; obtain rfl := Option.some.inj H
       go_wp2
       repeat (go_quiet (fail); try go_wp2)
       go_ret
       exact ⟨by first | rfl | (simp [errW_none, errW_some] <;> rfl) | (simp [*, errW_none, errW_some] <;> rfl), by repeat (first | (with_reducible first | exact HB.out | apply ba | apply bn | apply below_drew1) | exact HB.out)⟩

/-! ### spec_l1Most: function 77 -/
def spec_l1Most.f (a0 : Int) (a1 : Int) : Option (Int) := if a0 > a1 then (some a0) else (some a1)
set_option maxHeartbeats 8000000 in
set_option maxRecDepth 100000 in
theorem spec_l1Most.calls (a0 : Int) (a1 : Int) (r : Int) (w : World) (h : spec_l1Most.f a0 a1 = some r) :
  Calls Try.prog 77 #[.int .i64 a0, .int .i64 a1] w fun e w' => e = .returned (.int .i64 r) ∧ Drawn0 w w' := by
 have H : (if a0 > a1 then (some a0) else (some a1)) = some r := h
 clear h
 by_cases c3 : a0 > a1
 ·rw [if_pos c3] at H
  have c3b0 : decide (a1 < a0) = true := decide_eq_true c3
  clear c3
  obtain rfl := Option.some.inj H
  go_enter Try.func77, Try.ntmps77
  go_wp2
  go_ret
  exact ⟨by first | rfl | (simp; done) | (simp [*]; done), by repeat (first | exact Drawn0.refl _ | apply Drawn0.step)⟩
 ·rw [if_neg c3] at H
  have c3b0 : decide (a1 < a0) = false := decide_eq_false c3
  clear c3
  obtain rfl := Option.some.inj H
  go_enter Try.func77, Try.ntmps77
  go_wp2
  go_ret
  exact ⟨by first | rfl | (simp; done) | (simp [*]; done), by repeat (first | exact Drawn0.refl _ | apply Drawn0.step)⟩

/-! ### spec_l1Cur_partsOf: function 75 -/
def spec_l1Cur_partsOf.l0 : Nat → List (S63) → List Int → List (S63) → Int → Int → List Int → Int → Int → Option (List Int × Int × Int)
 | 0, _, _, _, _, _, _, _, _ => none
 | k + 1, x1, x5, x8, x9, x10, x1000, x1001, x1002 => if x10 < x9 then (if 0 ≤ x10 then (if x10 < (x8.length : Int) then ((spec_l1Most.f 0 ((rd_T63 x8 x10).f0)).bind fun t269 => ((spec_l1Cur_pick.f x1000 x1001 x1002 (wrap64 (t269 + 1))).bind fun bt270 => (if x5.length < 17592186044416 then (spec_l1Cur_partsOf.l0 k x1 (x5 ++ [bt270.1]) x8 x9 (wrap64 (x10 + 1)) x1000 bt270.2.1 bt270.2.2) else (none)))) else (none)) else (none)) else (if (x5.length : Int) > 0 then ((spec_l1Cur_pick.f x1000 x1001 x1002 24).bind fun bt276 => (if bt276.1 = 0 then (if 0 < (x1.length : Int) then ((spec_l1Cur_among.f x1000 bt276.2.1 bt276.2.2 (([(-1), (rd_T63 x1 0).f0, wrap64 (((rd_T63 x1 0).f0) + 1)] : List Int))).bind fun bt284 => (if 0 < (x5.length : Int) then (some ((x5.set (0 : Int).toNat bt284.1), bt284.2.1, bt284.2.2)) else (none))) else (none)) else (if bt276.1 = 1 then (if x5.length < 17592186044416 then (some ((x5 ++ [0]), bt276.2.1, bt276.2.2)) else (none)) else (some (x5, bt276.2.1, bt276.2.2))))) else (some (x5, x1001, x1002)))
def spec_l1Cur_partsOf.f (k : Nat) (s0_0 : List Int) (s0_1 : Int) (s0_2 : Int) (l1 : List (S63)) : Option (List Int × Int × Int) := spec_l1Cur_partsOf.l0 k l1 ([] : List Int) l1 (l1.length : Int) 0 s0_0 s0_1 s0_2
def spec_l1Cur_partsOf.T10 : Bool × List (List Nat × List Nat) := (true, [([], []), ([], []), ([], []), ([2], [2]), ([3], [3]), ([4], [4]), ([], []), ([6], [6]), ([7], [7]), ([8], [8]), ([9], [9]), ([5, 10], [5, 10]), ([1, 11], [1, 11]), ([0, 0, 1, 2, 3, 4, 5, 6, 7, 8, 9, 10, 11, 12], [0]), ([13, 12, 12, 0, 1, 2, 3, 4, 5, 6, 7, 8, 9, 10, 11, 12], [12, 13])])
def spec_l1Cur_partsOf.B10 : List Nat := [0, 0, 0, 4, 12, 28, 0, 64, 192, 448, 960, 2044, 4094, 8191, 16383]
theorem spec_l1Cur_partsOf.tab10 : rtab .any (opsOf Try.f75 10) = spec_l1Cur_partsOf.T10 := by kernel_rfl
theorem spec_l1Cur_partsOf.bits10 : waitsOk spec_l1Cur_partsOf.T10.2 spec_l1Cur_partsOf.B10 = true := by kernel_rfl
set_option maxHeartbeats 8000000 in
set_option maxRecDepth 100000 in
theorem spec_l1Cur_partsOf.calls (k : Nat) (g : Nat) (s0_0 : List Int) (s0_1 : Int) (s0_2 : Int) (A1 : Option Addr) (c1 : Nat) (l1 : List (S63)) (r1 : List Int) (r2 : Int) (r3 : Int) (w0 w : World) (hI : IsS96 w0 w g s0_0 s0_1 s0_2) (hB : Below w0.heap.size w0 w) (hr1 : ∀ W_, KeepBut w W_ g none → Kd.C k63 W_ A1 l1.length l1) (hc1 : l1.length ≤ c1) (h : spec_l1Cur_partsOf.f k s0_0 s0_1 s0_2 l1 = some (r1, r2, r3)) :
  Calls Try.prog 75 #[.pointer (some ⟨g, 0, none⟩), .slice A1 l1.length c1] w fun e w' => ∃ v0_ : Value, e = .returned (v0_) ∧ Kd.R (Kd.int .i64) 3 w' w.heap.size (fun _ => True) v0_ r1 ∧ IsS96 w0 w' g s0_0 r2 r3 ∧ Below w0.heap.size w0 w' ∧ KeepBut w w' g none := by
 have hu63 := Try.underlying63
 have HR1 := Aside0.mk hr1
 have HC1 := Aside0.mk hc1
 clear hr1 hc1
 have HI0 := Aside0.mk hI
 have HK := am (KeepBut.refl w g none)
 have HL := Aside0.mk hB.size
 clear hI
 have HW0 := Aside0.mk hB.size
 have HB := Aside0.mk hB
 clear hB
 have H : (spec_l1Cur_partsOf.l0 k l1 ([] : List Int) l1 (l1.length : Int) 0 s0_0 s0_1 s0_2) = some (r1, r2, r3) := h
 clear h
 have H' := Aside0.mk H
 clear H
 go_enter Try.func75, Try.ntmps75
 go_wp2
 go_loopg [5, 10] k (fun kq v5 v10 w' => ∃ (x5_1 : List Int) (x10_1 : Int) (x1001_1 : Int) (x1002_1 : Int), v10 = .int .i64 x10_1 ∧ Aside0 (spec_l1Cur_partsOf.l0 kq l1 x5_1 l1 (l1.length : Int) x10_1 s0_0 x1001_1 x1002_1 = some (r1, r2, r3)) ∧ Aside0 (kq ≤ k) ∧ Aside0 (Kd.R (Kd.int .i64) 3 w' w.heap.size (fun _ => True) v5 x5_1) ∧ Aside0 (IsS96 w0 w' g s0_0 x1001_1 x1002_1) ∧ Aside0 (KeepBut w w' g none) ∧ Aside0 (Below w0.heap.size w0 w'))
 case atStart => exact ⟨(([] : List Int)), (0), (s0_1), (s0_2), zx', H', ⟨Nat.le_refl _⟩, ⟨zl4'⟩, ⟨zd'⟩, ⟨zc'⟩, ⟨ze'⟩⟩
 case round =>
  clear H'
  try clear c1
  try clear p2
  obtain ⟨x5_1, x10_1, x1001_1, x1002_1, rfl, HA, HK1, HO_5, HI0, HK, HB⟩ := hrel
  cases gk with
  | zero => exact absurd HA.out (by simp [spec_l1Cur_partsOf.l0])
  | succ k1 =>
   have H := HA.out; clear HA; simp only [spec_l1Cur_partsOf.l0] at H
   by_cases c3 : x10_1 < (l1.length : Int)
   ·rw [if_pos c3] at H
    have c3b0 : decide (x10_1 < (l1.length : Int)) = true := decide_eq_true c3; clear c3
    by_cases c4 : 0 ≤ x10_1
    ·rw [if_pos c4] at H
     have c4b0 : decide (0 ≤ x10_1) = true := decide_eq_true c4; clear c4
     by_cases c5 : x10_1 < (l1.length : Int)
     ·rw [if_pos c5] at H
      have c5b0 : decide (x10_1 < (l1.length : Int)) = true := decide_eq_true c5; clear c5; replace H := Option.bind_eq_some_iff.mp H; obtain ⟨t269, A60, H⟩ := H; replace H : ((spec_l1Cur_pick.f s0_0 x1001_1 x1002_1 (wrap64 (t269 + 1))).bind fun bt270 => (if x5_1.length < 17592186044416 then (spec_l1Cur_partsOf.l0 k1 l1 (x5_1 ++ [bt270.1]) l1 (l1.length : Int) (wrap64 (x10_1 + 1)) s0_0 bt270.2.1 bt270.2.2) else (none))) = some (r1, r2, r3) := H; have A6 := Aside0.mk A60; clear A60; replace H := Option.bind_eq_some_iff.mp H; obtain ⟨⟨t270, t271, t272⟩, A70, H⟩ := H; replace H : (if x5_1.length < 17592186044416 then (spec_l1Cur_partsOf.l0 k1 l1 (x5_1 ++ [t270]) l1 (l1.length : Int) (wrap64 (x10_1 + 1)) s0_0 t271 t272) else (none)) = some (r1, r2, r3) := H; have A7 := Aside0.mk A70; clear A70
      by_cases c8 : x5_1.length < 17592186044416
      ·rw [if_pos c8] at H
       have LMc8 := Aside0.mk c8; clear c8
       obtain ⟨y273, hy273⟩ : ∃ y_ : List Int, y_ = (x5_1 ++ [t270]) := ⟨_, rfl⟩
       replace H : (spec_l1Cur_partsOf.l0 k1 l1 y273 l1 (l1.length : Int) (wrap64 (x10_1 + 1)) s0_0 t271 t272) = some (r1, r2, r3) := by first | (rw [hy273]; with_reducible exact H) | (have H2_ := (Option.bind_some _ _).symm.trans H; rw [hy273]; with_reducible exact H2_) | (have H2_ := (Option.bind_some _ _).symm.trans H; with_reducible exact H2_) | with_reducible exact H | (rw [hy273]; exact H) | exact H
       have Ny273 := Aside0.mk hy273; clear hy273; have H' := Aside0.mk H; clear H; have p267 : 0 ≤ (x10_1 : Int) := odt; have q267 : x10_1 < (l1.length : Int) := odt; obtain ⟨ad267, e267, hx267_0, hx267_1, hx267_2, hx267_3⟩ := at_T63 (Kd.C_foot_now HR1.out HK.out) x10_1 p267 q267; cases e267; replace p267 := eq_true p267; replace q267 := eq_true q267
       go_wp2_with (first | ((with_reducible refine gate_dst (N := 7) rfl ?_); refine box_event ?hg (N := 7) ?hd (cs := #[.int .i64 0, .int .i64 0, .int .i64 0, .int .i64 0]) (t := 63) ?hr ?_; (case hd => rfl); (case hg => rfl); (case hr => exact zo'); intro gb268 hg w9 hbox hb; have n0_ := am (Kd.R_below zd1' hb); have n1_ := am (IsS96.below zd' hb); have n2_ := am (KeepBut.trans zc' (KeepBut.of_below hb g none) (.inl rfl)); have n3_ := am (below_step ze' hb); have n4_ := am (hbox); have n5_ := am ((by rw [hg]; exact (keep_size (w := w) (g := g) (row := none) zc') : w.heap.size ≤ gb268)); have n6_ := am ((Nat.le_trans HW0.out (by rw [hg]; exact (keep_size (w := w) (g := g) (row := none) zc') : w.heap.size ≤ gb268) : w0.heap.size ≤ gb268)); have n7_ := am ((by rw [hg]; exact Nat.ne_of_lt (IsS96.lt (show IsS96 w0 _ g s0_0 x1001_1 x1002_1 from by repeat (first | (with_reducible first | exact HI0.out | apply IsS96.alloc | apply IsS96.drewN | apply IsS96.drew | apply IsS96.set_1 | apply IsS96.set_2) | exact HI0.out))) : g ≠ gb268)); have n8_ := am ((by rw [hg]; exact Nat.ne_of_gt (IsS96.lt (show IsS96 w0 _ g s0_0 x1001_1 x1002_1 from by repeat (first | (with_reducible first | exact HI0.out | apply IsS96.alloc | apply IsS96.drewN | apply IsS96.drew | apply IsS96.set_1 | apply IsS96.set_2) | exact HI0.out))) : gb268 ≠ g)); clear HO_5; clear HI0; clear HK; clear HB; have HO_5 := n0_; have HI0 := n1_; have HK := n2_; have HB := n3_; have BK268 := n4_; have GW268 := n5_; have GE268 := n6_; have NB0_268 := n7_; have NB268_0 := n8_; clear n0_ n1_ n2_ n3_ n4_ n5_ n6_ n7_ n8_; clear hb hbox hg; have hnb10 := NB268_0.out; have hnc10 := NB0_268.out; have hcz11_0 : w9.cell? ⟨gb268, 0, none⟩ = some (.int .i64 0) := (blk_cell BK268.out 0).trans rfl; have hcz11_1 : w9.cell? ⟨gb268, 1, none⟩ = some (.int .i64 0) := (blk_cell BK268.out 1).trans rfl; have hcz11_2 : w9.cell? ⟨gb268, 2, none⟩ = some (.int .i64 0) := (blk_cell BK268.out 2).trans rfl; have hcz11_3 : w9.cell? ⟨gb268, 3, none⟩ = some (.int .i64 0) := (blk_cell BK268.out 3).trans rfl; have hfz11_0 := blk_frozen BK268.out 0; have hfz11_1 := blk_frozen BK268.out 1; have hfz11_2 := blk_frozen BK268.out 2; have hfz11_3 := blk_frozen BK268.out 3) | ((with_reducible refine gate_callee (f := 77) rfl ?_); refine goesL_ (some 18) rfl rfl Try.func77 (by kernel_rfl) rfl #[.int .i64 0, .int .i64 ((rd_T63 l1 x10_1).f0)] rfl zb' ?_; (with_reducible refine (spec_l1Most.calls 0 ((rd_T63 l1 x10_1).f0) t269 _ A6.out).mono ?_); rintro e w' ⟨rfl, ⟨nd, rfl⟩⟩; refine ⟨_, rfl, ?_⟩) | ((with_reducible refine gate_callee (f := 84) rfl ?_); refine goesL_ (some 20) rfl rfl Try.func84 (by kernel_rfl) rfl #[.pointer (some ⟨g, 0, none⟩), .int .i64 (wrap64 (t269 + 1))] rfl zb' ?_; (with_reducible refine (spec_l1Cur_pick.calls g s0_0 x1001_1 x1002_1 (wrap64 (t269 + 1)) t270 t271 t272 w0 _ ?side1 ?side2 A7.out).mono ?_); (case side1 => exact zu3'); (case side2 => exact za4'); rintro e w12 ⟨rfl, hi, hb, hk⟩; refine ⟨_, rfl, ?_⟩; have n0_ := am (Kd.R_mono (Kd.R_keep (IsS96.apart (show IsS96 w0 _ g s0_0 x1001_1 x1002_1 from by repeat (first | (with_reducible first | exact HI0.out | apply IsS96.alloc | apply IsS96.drewN | apply IsS96.drew | apply IsS96.set_1 | apply IsS96.set_2 | refine IsS96.far ?_ NB0_268.out _) | exact HI0.out)) (by (with_reducible repeat (first | apply Kd.R_alloc | apply Kd.R_drewN | apply Kd.R_drew)); exact (Kd.R_mono (Kd.R_far (p := ⟨gb268, 3, none⟩) (Kd.R_far (p := ⟨gb268, 2, none⟩) (Kd.R_far (p := ⟨gb268, 1, none⟩) (Kd.R_far (p := ⟨gb268, 0, none⟩) (Kd.R_types HO_5.out BK268.out (by decide)) (fun _ hk => hk.2) (.int .i64 ((rd_T63 l1 x10_1).f0))) (fun _ hk => hk.2) (.int .i64 ((rd_T63 l1 x10_1).f1))) (fun _ hk => hk.2) (.int .i64 ((rd_T63 l1 x10_1).f2))) (fun _ hk => hk.2) (.int .i64 ((rd_T63 l1 x10_1).f3))) (fun _ h_ => h_.1))) (by decide)) hk (fun _ h => h.2)) (fun _ h => h.1)); have n1_ := am (KeepBut.blk hk (g' := gb268) (o := o7') (by (with_reducible repeat (first | apply kn | apply kd | apply ka)); refine blk_put (cs := #[.int .i64 ((rd_T63 l1 x10_1).f0), .int .i64 ((rd_T63 l1 x10_1).f1), .int .i64 ((rd_T63 l1 x10_1).f2), .int .i64 0]) ?_ 3 _ rfl; (with_reducible repeat (first | apply kn | apply kd | apply ka)); refine blk_put (cs := #[.int .i64 ((rd_T63 l1 x10_1).f0), .int .i64 ((rd_T63 l1 x10_1).f1), .int .i64 0, .int .i64 0]) ?_ 2 _ rfl; (with_reducible repeat (first | apply kn | apply kd | apply ka)); refine blk_put (cs := #[.int .i64 ((rd_T63 l1 x10_1).f0), .int .i64 0, .int .i64 0, .int .i64 0]) ?_ 1 _ rfl; (with_reducible repeat (first | apply kn | apply kd | apply ka)); refine blk_put (cs := #[.int .i64 0, .int .i64 0, .int .i64 0, .int .i64 0]) ?_ 0 _ rfl; (with_reducible repeat (first | apply kn | apply kd | apply ka)); exact BK268.out) NB268_0.out (by simp)); have n2_ := am (KeepBut.trans ze3' hk (.inl rfl)); have n3_ := am (hb); have n4_ := am (hi); clear HO_5; clear BK268; clear HK; clear HB; clear HI0; have HO_5 := n0_; have BK268 := n1_; have HK := n2_; have HB := n3_; have HI0 := n4_; clear n0_ n1_ n2_ n3_ n4_; (try clear hb); (try clear hb2); (try clear hk); (try clear hi)) | ((with_reducible refine gate_builtin (b := .append) (xs := #[.tmp 14, .tmp 21]) rfl ?_); at_builtin; refine Kd.R_append (Kd.int .i64) w.heap.size rfl (.tmp 14) (.tmp 21) 29 3 (.int .i64 0) 8 rfl Try.underlying29 info3 rfl (by decide) (by omega) u5 x5_1 t270 [.int .i64 t270] (fun _ => True) (fun _ => False) rfl rfl ?aP (fun _ hk => hk.elim) ?aF ?aO (Below.refl _ _) ?aS ?aL ?_; (case aP => exact rfl); (case aF => exact zv5'); (case aO => exact zd1'); (case aS => exact (keep_size (w := w) (g := g) (row := none) ze3')); (case aL => have := LMc8.out; omega); intro v274 w13 ho hb hg hat; rw [← Ny273.out] at ho; have n0_ := am (IsS96.grown zu3' hg (IsS96.own_ne HI0.out HO_5.out (by decide))); have n1_ := am (blk_grown (g := gb268) (o := o7') (by (with_reducible repeat (first | apply kn | apply kd | apply ka)); exact BK268.out) hg (Kd.R_ne HO_5.out BK268.out (by decide))); have n2_ := am (below_weaken za4' HL.out hb); have n3_ := am (KeepBut.trans ze3' (KeepBut.of_grown hg g) (Kd.R_base2 HO_5.out)); have n4_ := am (ho); clear HI0; clear BK268; clear HB; clear HK; clear HO_5; have HI0 := n0_; have BK268 := n1_; have HB := n2_; have HK := n3_; have HO275 := n4_; clear n0_ n1_ n2_ n3_ n4_; clear ho hb hg hat))
       go_roundg k1
       case measure => have := HK1.out; omega
       case rel => exact ⟨(y273), (wrap64 (x10_1 + 1)), (t271), (t272), zx', H', ⟨zv4'⟩, ⟨by (with_reducible repeat (first | apply Kd.R_alloc | apply Kd.R_drewN | apply Kd.R_drew)); exact HO275.out⟩, ⟨zu3'⟩, ⟨ze3'⟩, ⟨za4'⟩⟩
      ·rw [if_neg c8] at H
       exact absurd H (by simp)
     ·rw [if_neg c5] at H
      exact absurd H (by simp)
    ·rw [if_neg c4] at H
     exact absurd H (by simp)
   ·rw [if_neg c3] at H
    have c3b0 : decide (x10_1 < (l1.length : Int)) = false := decide_eq_false c3; clear c3
    by_cases c14 : (x5_1.length : Int) > 0
    ·rw [if_pos c14] at H
     have c14b0 : decide (0 < (x5_1.length : Int)) = true := decide_eq_true c14; have c14b1 : decide (0 < x5_1.length) = true := decide_eq_true (by omega); clear c14; replace H := Option.bind_eq_some_iff.mp H; obtain ⟨⟨t276, t277, t278⟩, A150, H⟩ := H; replace H : (if t276 = 0 then (if 0 < (l1.length : Int) then ((spec_l1Cur_among.f s0_0 t277 t278 (([(-1), (rd_T63 l1 0).f0, wrap64 (((rd_T63 l1 0).f0) + 1)] : List Int))).bind fun bt284 => (if 0 < (x5_1.length : Int) then (some ((x5_1.set (0 : Int).toNat bt284.1), bt284.2.1, bt284.2.2)) else (none))) else (none)) else (if t276 = 1 then (if x5_1.length < 17592186044416 then (some ((x5_1 ++ [0]), t277, t278)) else (none)) else (some (x5_1, t277, t278)))) = some (r1, r2, r3) := H; have A15 := Aside0.mk A150; clear A150
     by_cases c16 : t276 = 0
     ·rw [if_pos c16] at H
      have c16b0 : (t276 == 0) = true := beq_iff_eq.mpr c16; have c16b1 : (t276 != 0) = false := bne_eq_false_iff_eq.mpr c16; clear c16
      by_cases c17 : 0 < (l1.length : Int)
      ·rw [if_pos c17] at H
       have c17b0 : decide (0 < (l1.length : Int)) = true := decide_eq_true c17; have c17b1 : decide (0 < l1.length) = true := decide_eq_true (by omega); clear c17
       obtain ⟨y281, hy281⟩ : ∃ y_ : List Int, y_ = (([(-1), (rd_T63 l1 0).f0, wrap64 (((rd_T63 l1 0).f0) + 1)] : List Int)) := ⟨_, rfl⟩
       replace H : ((spec_l1Cur_among.f s0_0 t277 t278 y281).bind fun bt284 => (if 0 < (x5_1.length : Int) then (some ((x5_1.set (0 : Int).toNat bt284.1), bt284.2.1, bt284.2.2)) else (none))) = some (r1, r2, r3) := by first | (rw [hy281]; with_reducible exact H) | (have H2_ := (Option.bind_some _ _).symm.trans H; rw [hy281]; with_reducible exact H2_) | (have H2_ := (Option.bind_some _ _).symm.trans H; with_reducible exact H2_) | with_reducible exact H | (rw [hy281]; exact H) | exact H
       have Ny281 := Aside0.mk hy281; clear hy281; replace H := Option.bind_eq_some_iff.mp H; obtain ⟨⟨t284, t285, t286⟩, A180, H⟩ := H; replace H : (if 0 < (x5_1.length : Int) then (some ((x5_1.set (0 : Int).toNat t284), t285, t286)) else (none)) = some (r1, r2, r3) := H; have A18 := Aside0.mk A180; clear A180
       by_cases c19 : 0 < (x5_1.length : Int)
       ·rw [if_pos c19] at H
        have c19b0 : decide (0 < (x5_1.length : Int)) = true := decide_eq_true c19; have c19b1 : decide (0 < x5_1.length) = true := decide_eq_true (by omega); clear c19
        obtain ⟨y287, hy287⟩ : ∃ y_ : List Int, y_ = (x5_1.set (0 : Int).toNat t284) := ⟨_, rfl⟩
        replace H : (some (y287, t285, t286)) = some (r1, r2, r3) := by first | (rw [hy287]; with_reducible exact H) | (have H2_ := (Option.bind_some _ _).symm.trans H; rw [hy287]; with_reducible exact H2_) | (have H2_ := (Option.bind_some _ _).symm.trans H; with_reducible exact H2_) | with_reducible exact H | (rw [hy287]; exact H) | exact H
        have Ny287 := Aside0.mk hy287; clear hy287; simp only [Option.some.injEq, Prod.mk.injEq] at H; obtain ⟨rfl, rfl, rfl⟩ := H; obtain ⟨Ao21, co21, eo21⟩ := Kd.R_slice HO_5.out; subst eo21
        try go_wp2_with (first | ((with_reducible refine gate_callee (f := 84) rfl ?_); refine goesL_ (some 28) rfl rfl Try.func84 (by kernel_rfl) rfl #[.pointer (some ⟨g, 0, none⟩), .int .i64 24] rfl zb' ?_; (with_reducible refine (spec_l1Cur_pick.calls g s0_0 x1001_1 x1002_1 24 t276 t277 t278 w0 _ ?side1 ?side2 A15.out).mono ?_); (case side1 => exact zd'); (case side2 => exact ze'); rintro e w22 ⟨rfl, hi, hb, hk⟩; refine ⟨_, rfl, ?_⟩; have n0_ := am (Kd.R_mono (Kd.R_keep (IsS96.apart (show IsS96 w0 _ g s0_0 x1001_1 x1002_1 from by repeat (first | (with_reducible first | exact HI0.out | apply IsS96.alloc | apply IsS96.drewN | apply IsS96.drew | apply IsS96.set_1 | apply IsS96.set_2) | exact HI0.out)) zd1' (by decide)) hk (fun _ h => h.2)) (fun _ h => h.1)); have n1_ := am (KeepBut.trans zc' hk (.inl rfl)); have n2_ := am (hb); have n3_ := am (hi); clear HO_5; clear HK; clear HB; clear HI0; have HO_5 := n0_; have HK := n1_; have HB := n2_; have HI0 := n3_; clear n0_ n1_ n2_ n3_; (try clear hb); (try clear hb2); (try clear hk); (try clear hi)))
        have n0_ := am (Kd.R_drew HO_5.out); have n1_ := am (IsS96.drew HI0.out); have n2_ := am (keep_drew HK.out); have n3_ := am (below_drew1 HB.out); clear HO_5; clear HI0; clear HK; clear HB; have HO_5 := n0_; have HI0 := n1_; have HK := n2_; have HB := n3_; clear n0_ n1_ n2_ n3_; have p279 : 0 ≤ (0 : Int) := (by omega); have q279 : 0 < (l1.length : Int) := odt; obtain ⟨ad279, e279, hx279_0, hx279_1, hx279_2, hx279_3⟩ := at_T63 (Kd.C_foot_now HR1.out HK.out) 0 p279 q279; have hw279_3 := hx279_3; (try rw [show ((0 : Int)).toNat = 0 from rfl] at hw279_3); (try rw [show 0 * 4 = 0 from rfl] at hw279_3); (try rw [Addr.add_zero'] at hw279_3); have hw279_2 := hx279_2; (try rw [show ((0 : Int)).toNat = 0 from rfl] at hw279_2); (try rw [show 0 * 4 = 0 from rfl] at hw279_2); (try rw [Addr.add_zero'] at hw279_2); have hw279_1 := hx279_1; (try rw [show ((0 : Int)).toNat = 0 from rfl] at hw279_1); (try rw [show 0 * 4 = 0 from rfl] at hw279_1); (try rw [Addr.add_zero'] at hw279_1); have hw279_0 := hx279_0; (try rw [show ((0 : Int)).toNat = 0 from rfl] at hw279_0); (try rw [show 0 * 4 = 0 from rfl] at hw279_0); (try rw [Addr.add_zero'] at hw279_0); cases e279; have hne279_3 := (show (⟨ad279.block, ad279.off + 3, none⟩ : Addr).block ≠ g from by first | (rw [add_block]; exact Kd.foot_ne HR1.out (by omega) (by decide)) | (show (Addr.add _ _).block ≠ _; rw [add_block]; exact Kd.foot_ne HR1.out (by omega) (by decide)) | exact Kd.foot_ne HR1.out (by omega) (by decide) | (dsimp only; exact Kd.foot_ne HR1.out (by omega) (by decide)))
        have hlt279_3 := (Kd.foot_lt HR1.out (by omega) (by decide)); have hne279_2 := (show (⟨ad279.block, ad279.off + 2, none⟩ : Addr).block ≠ g from by first | (rw [add_block]; exact Kd.foot_ne HR1.out (by omega) (by decide)) | (show (Addr.add _ _).block ≠ _; rw [add_block]; exact Kd.foot_ne HR1.out (by omega) (by decide)) | exact Kd.foot_ne HR1.out (by omega) (by decide) | (dsimp only; exact Kd.foot_ne HR1.out (by omega) (by decide))); have hlt279_2 := (Kd.foot_lt HR1.out (by omega) (by decide)); have hne279_1 := (show (⟨ad279.block, ad279.off + 1, none⟩ : Addr).block ≠ g from by first | (rw [add_block]; exact Kd.foot_ne HR1.out (by omega) (by decide)) | (show (Addr.add _ _).block ≠ _; rw [add_block]; exact Kd.foot_ne HR1.out (by omega) (by decide)) | exact Kd.foot_ne HR1.out (by omega) (by decide) | (dsimp only; exact Kd.foot_ne HR1.out (by omega) (by decide))); have hlt279_1 := (Kd.foot_lt HR1.out (by omega) (by decide)); have hne279_0 := (show (ad279 : Addr).block ≠ g from by first | (rw [add_block]; exact Kd.foot_ne HR1.out (by omega) (by decide)) | (show (Addr.add _ _).block ≠ _; rw [add_block]; exact Kd.foot_ne HR1.out (by omega) (by decide)) | exact Kd.foot_ne HR1.out (by omega) (by decide) | (dsimp only; exact Kd.foot_ne HR1.out (by omega) (by decide))); have hlt279_0 := (Kd.foot_lt HR1.out (by omega) (by decide)); have qi279 : (0 < l1.length) = True := eq_true (by omega); (try rw [show ((0 : Int)).toNat = 0 from rfl] at hx279_0); (try rw [show 0 * 4 = 0 from rfl] at hx279_0)
        (try rw [Addr.add_zero'] at hx279_0); (try rw [show ((0 : Int)).toNat = 0 from rfl] at hx279_1); (try rw [show 0 * 4 = 0 from rfl] at hx279_1); (try rw [Addr.add_zero'] at hx279_1); (try rw [show ((0 : Int)).toNat = 0 from rfl] at hx279_2); (try rw [show 0 * 4 = 0 from rfl] at hx279_2); (try rw [Addr.add_zero'] at hx279_2); (try rw [show ((0 : Int)).toNat = 0 from rfl] at hx279_3); (try rw [show 0 * 4 = 0 from rfl] at hx279_3); (try rw [Addr.add_zero'] at hx279_3); replace p279 := eq_true p279; replace q279 := eq_true q279; have p280 : 0 ≤ (0 : Int) := (by omega); have q280 : 0 < (l1.length : Int) := odt; obtain ⟨ad280, e280, hx280_0, hx280_1, hx280_2, hx280_3⟩ := at_T63 (Kd.C_foot_now HR1.out HK.out) 0 p280 q280; have hw280_3 := hx280_3; (try rw [show ((0 : Int)).toNat = 0 from rfl] at hw280_3); (try rw [show 0 * 4 = 0 from rfl] at hw280_3); (try rw [Addr.add_zero'] at hw280_3); have hw280_2 := hx280_2; (try rw [show ((0 : Int)).toNat = 0 from rfl] at hw280_2); (try rw [show 0 * 4 = 0 from rfl] at hw280_2); (try rw [Addr.add_zero'] at hw280_2); have hw280_1 := hx280_1; (try rw [show ((0 : Int)).toNat = 0 from rfl] at hw280_1); (try rw [show 0 * 4 = 0 from rfl] at hw280_1); (try rw [Addr.add_zero'] at hw280_1); have hw280_0 := hx280_0; (try rw [show ((0 : Int)).toNat = 0 from rfl] at hw280_0); (try rw [show 0 * 4 = 0 from rfl] at hw280_0); (try rw [Addr.add_zero'] at hw280_0); obtain rfl : ad279 = ad280 := (by injection e280); have hne280_3 := (show (⟨ad279.block, ad279.off + 3, none⟩ : Addr).block ≠ g from by first | (rw [add_block]; exact Kd.foot_ne HR1.out (by omega) (by decide)) | (show (Addr.add _ _).block ≠ _; rw [add_block]; exact Kd.foot_ne HR1.out (by omega) (by decide)) | exact Kd.foot_ne HR1.out (by omega) (by decide) | (dsimp only; exact Kd.foot_ne HR1.out (by omega) (by decide)))
        have hlt280_3 := (Kd.foot_lt HR1.out (by omega) (by decide)); have hne280_2 := (show (⟨ad279.block, ad279.off + 2, none⟩ : Addr).block ≠ g from by first | (rw [add_block]; exact Kd.foot_ne HR1.out (by omega) (by decide)) | (show (Addr.add _ _).block ≠ _; rw [add_block]; exact Kd.foot_ne HR1.out (by omega) (by decide)) | exact Kd.foot_ne HR1.out (by omega) (by decide) | (dsimp only; exact Kd.foot_ne HR1.out (by omega) (by decide))); have hlt280_2 := (Kd.foot_lt HR1.out (by omega) (by decide)); have hne280_1 := (show (⟨ad279.block, ad279.off + 1, none⟩ : Addr).block ≠ g from by first | (rw [add_block]; exact Kd.foot_ne HR1.out (by omega) (by decide)) | (show (Addr.add _ _).block ≠ _; rw [add_block]; exact Kd.foot_ne HR1.out (by omega) (by decide)) | exact Kd.foot_ne HR1.out (by omega) (by decide) | (dsimp only; exact Kd.foot_ne HR1.out (by omega) (by decide))); have hlt280_1 := (Kd.foot_lt HR1.out (by omega) (by decide)); have hne280_0 := (show (ad279 : Addr).block ≠ g from by first | (rw [add_block]; exact Kd.foot_ne HR1.out (by omega) (by decide)) | (show (Addr.add _ _).block ≠ _; rw [add_block]; exact Kd.foot_ne HR1.out (by omega) (by decide)) | exact Kd.foot_ne HR1.out (by omega) (by decide) | (dsimp only; exact Kd.foot_ne HR1.out (by omega) (by decide))); have hlt280_0 := (Kd.foot_lt HR1.out (by omega) (by decide)); have qi280 : (0 < l1.length) = True := eq_true (by omega); (try rw [show ((0 : Int)).toNat = 0 from rfl] at hx280_0); (try rw [show 0 * 4 = 0 from rfl] at hx280_0)
        (try rw [Addr.add_zero'] at hx280_0); (try rw [show ((0 : Int)).toNat = 0 from rfl] at hx280_1); (try rw [show 0 * 4 = 0 from rfl] at hx280_1); (try rw [Addr.add_zero'] at hx280_1); (try rw [show ((0 : Int)).toNat = 0 from rfl] at hx280_2); (try rw [show 0 * 4 = 0 from rfl] at hx280_2); (try rw [Addr.add_zero'] at hx280_2); (try rw [show ((0 : Int)).toNat = 0 from rfl] at hx280_3); (try rw [show 0 * 4 = 0 from rfl] at hx280_3); (try rw [Addr.add_zero'] at hx280_3); replace p280 := eq_true p280; replace q280 := eq_true q280
        refine start_ (n := 15) (S := fun w' => w'.cell? ad279 = some (.int .i64 ((rd_T63 l1 0).f0)) ∧ w'.cell? ⟨ad279.block, ad279.off + 1, none⟩ = some (.int .i64 ((rd_T63 l1 0).f1)) ∧ w'.cell? ⟨ad279.block, ad279.off + 2, none⟩ = some (.int .i64 ((rd_T63 l1 0).f2)) ∧ w'.cell? ⟨ad279.block, ad279.off + 3, none⟩ = some (.int .i64 ((rd_T63 l1 0).f3)) ∧ w'.cell? ad279 = some (.int .i64 ((rd_T63 l1 0).f0)) ∧ w'.cell? ⟨ad279.block, ad279.off + 1, none⟩ = some (.int .i64 ((rd_T63 l1 0).f1)) ∧ w'.cell? ⟨ad279.block, ad279.off + 2, none⟩ = some (.int .i64 ((rd_T63 l1 0).f2)) ∧ w'.cell? ⟨ad279.block, ad279.off + 3, none⟩ = some (.int .i64 ((rd_T63 l1 0).f3))) (ds := [14]) #[Z,Z,Z,Z,Z,Z,Z,Z,Z,Z,Z,Z,Z,Z,Z] (by kernel_rfl) rfl rfl ⟨hx279_0, hx279_1, hx279_2, hx279_3, hx280_0, hx280_1, hx280_2, hx280_3⟩ (fun hHeld => ?_); refine with_tabW spec_l1Cur_partsOf.tab10 spec_l1Cur_partsOf.bits10 (fun HT_ HW_ => ?_)
        generalize w22.drew = w23 at HO_5 HI0 HK HB hx279_0 hx279_1 hx279_2 hx279_3 hx280_0 hx280_1 hx280_2 hx280_3 hHeld ⊢
        refine pure_ (i := 0) (N := some 31) (v := ?_) (a' := ?_) #[Y,Z,Z,Z,Z,Z,Z,Z,Z,Z,Z,Z,Z,Z,Z] rfl rfl (any_of HT_.out (by kernel_rfl)) (fun _ _ _ h => h) (Or.inl ⟨by rfl, ?_⟩) ?_ ?_
        rotate_left
        ·intro w'
         go_simp
         with_reducible rfl
        rotate_left
        ·simp only [Act.put, s1, s2, s3, i64_w, i32_w]
         rfl
        refine pure_ (i := 1) (N := some 32) (v := ?_) (a' := ?_) #[Y,Y,Z,Z,Z,Z,Z,Z,Z,Z,Z,Z,Z,Z,Z] rfl rfl (any_of HT_.out (by kernel_rfl)) (fun _ _ _ h => h) (Or.inl ⟨by rfl, ?_⟩) ?_ ?_
        rotate_left
        ·intro w'
         go_simp
         with_reducible rfl
        rotate_left
        ·simp only [Act.put, s1, s2, s3, i64_w, i32_w]
         rfl
        refine pure_ (i := 2) (N := some 33) (v := ?_) (a' := ?_) #[Y,Y,Y,Z,Z,Z,Z,Z,Z,Z,Z,Z,Z,Z,Z] rfl rfl (any_of HT_.out (by kernel_rfl)) (fun _ _ _ h => h) (Or.inl ⟨by rfl, ?_⟩) ?_ ?_
        rotate_left
        ·intro w'
         go_simp
         with_reducible rfl
        rotate_left
        ·simp only [Act.put, s1, s2, s3, i64_w, i32_w]
         rfl
        refine pure_ (i := 3) (N := some 34) (v := ?_) (a' := ?_) #[Y,Y,Y,Y,Z,Z,Z,Z,Z,Z,Z,Z,Z,Z,Z] rfl rfl (any_of HT_.out (by kernel_rfl)) (fun _ _ _ h => h) (Or.inl ⟨by rfl, ?_⟩) ?_ ?_
        rotate_left
        ·intro w'
         go_simp
         with_reducible rfl
        rotate_left
        ·simp only [Act.put, s1, s2, s3, i64_w, i32_w]
         rfl
        refine pure_ (i := 4) (N := some 35) (v := ?_) (a' := ?_) #[Y,Y,Y,Y,Y,Z,Z,Z,Z,Z,Z,Z,Z,Z,Z] rfl rfl (any_of HT_.out (by kernel_rfl)) (fun _ _ _ h => h) (Or.inl ⟨by rfl, ?_⟩) ?_ ?_
        rotate_left
        ·intro w'
         go_simp
         with_reducible rfl
        rotate_left
        ·simp only [Act.put, s1, s2, s3, i64_w, i32_w]
         rfl
        refine pure_ (i := 6) (N := some 37) (v := ?_) (a' := ?_) #[Y,Y,Y,Y,Y,Z,Y,Z,Z,Z,Z,Z,Z,Z,Z] rfl rfl (any_of HT_.out (by kernel_rfl)) (fun _ _ _ h => h) (Or.inl ⟨by rfl, ?_⟩) ?_ ?_
        rotate_left
        ·intro w'
         go_simp
         with_reducible rfl
        rotate_left
        ·simp only [Act.put, s1, s2, s3, i64_w, i32_w]
         rfl
        refine pure_ (i := 7) (N := some 38) (v := ?_) (a' := ?_) #[Y,Y,Y,Y,Y,Z,Y,Y,Z,Z,Z,Z,Z,Z,Z] rfl rfl (any_of HT_.out (by kernel_rfl)) (fun _ _ _ h => h) (Or.inl ⟨by rfl, ?_⟩) ?_ ?_
        rotate_left
        ·intro w'
         go_simp
         with_reducible rfl
        rotate_left
        ·simp only [Act.put, s1, s2, s3, i64_w, i32_w]
         rfl
        refine pure_ (i := 8) (N := some 39) (v := ?_) (a' := ?_) #[Y,Y,Y,Y,Y,Z,Y,Y,Y,Z,Z,Z,Z,Z,Z] rfl rfl (any_of HT_.out (by kernel_rfl)) (fun _ _ _ h => h) (Or.inl ⟨by rfl, ?_⟩) ?_ ?_
        rotate_left
        ·intro w'
         go_simp
         with_reducible rfl
        rotate_left
        ·simp only [Act.put, s1, s2, s3, i64_w, i32_w]
         rfl
        refine take_ (i := 5) (N := some 36) (v := ?_) (a' := ?_) #[Y,Y,Y,Y,Y,Y,Y,Y,Y,Z,Z,Z,Z,Z,Z] rfl rfl (take_ofW HT_.out HW_.out (by kernel_rfl)) (fun _ _ _ h => h) (Or.inl ⟨by rfl, ?_⟩) hHeld ?_ ?_
        rotate_left
        ·rintro w' ⟨s0, s1, s2, s3, s4, s5, s6, s7⟩
         go_simp
         with_reducible rfl
        rotate_left
        ·simp only [Act.put, s1, s2, s3, i64_w, i32_w]
         rfl
        refine take_ (i := 9) (N := some 40) (v := ?_) (a' := ?_) #[Y,Y,Y,Y,Y,Y,Y,Y,Y,Y,Z,Z,Z,Z,Z] rfl rfl (take_ofW HT_.out HW_.out (by kernel_rfl)) (fun _ _ _ h => h) (Or.inl ⟨by rfl, ?_⟩) hHeld ?_ ?_
        rotate_left
        ·rintro w' ⟨s0, s1, s2, s3, s4, s5, s6, s7⟩
         go_simp
         with_reducible rfl
        rotate_left
        ·simp only [Act.put, s1, s2, s3, i64_w, i32_w]
         rfl
        refine pure_ (i := 10) (N := some 41) (v := ?_) (a' := ?_) #[Y,Y,Y,Y,Y,Y,Y,Y,Y,Y,Y,Z,Z,Z,Z] rfl rfl (any_of HT_.out (by kernel_rfl)) (fun _ _ _ h => h) (Or.inl ⟨by rfl, ?_⟩) ?_ ?_
        rotate_left
        ·intro w'
         go_simp
         with_reducible rfl
        rotate_left
        ·simp only [Act.put, s1, s2, s3, i64_w, i32_w]
         rfl
        refine one_ (i := 11) (N := some 42) #[Y,Y,Y,Y,Y,Y,Y,Y,Y,Y,Y,Y,Z,Z,Z] rfl rfl (one_of HT_.out (by kernel_rfl)) (by decide) (fun K hK => ?_)
        refine Kd.R_lit_step (Kd.int .i64) _ 3 ?hg (N := 42) ?hd (xs := ([(-1), (rd_T63 l1 0).f0, wrap64 (((rd_T63 l1 0).f0) + 1)] : List Int)) (inner := [.int .i64 (-1), .int .i64 ((rd_T63 l1 0).f0), .int .i64 (wrap64 (((rd_T63 l1 0).f0) + 1))]) (ok := fun _ => True) (okp := fun _ => True) ?hr ?hp (fun _ hk => hk) trivial (Below.refl _ _) (Nat.le_refl _) (by simp) ?_; (case hd => rfl); (case hg => rfl); (case hr => exact zo'); (case hp => exact (Reps.one (show Kd.M (Kd.int .i64) _ _ _ (-1) [.int .i64 (-1)] from rfl) (Reps.one (show Kd.M (Kd.int .i64) _ _ _ ((rd_T63 l1 0).f0) [.int .i64 ((rd_T63 l1 0).f0)] from rfl) (Reps.one (show Kd.M (Kd.int .i64) _ _ _ (wrap64 (((rd_T63 l1 0).f0) + 1)) [.int .i64 (wrap64 (((rd_T63 l1 0).f0) + 1))] from rfl) (Reps.none _ _)))))
        intro v282 w24 ho25 hb hg_ hnew_
        have HS0_ := (hb.cell (World.block_lt_of_cell? _ _ (hHeld.1))).trans (hHeld.1); have HS1_ := (hb.cell (World.block_lt_of_cell? _ _ (hHeld.2.1))).trans (hHeld.2.1); have HS2_ := (hb.cell (World.block_lt_of_cell? _ _ (hHeld.2.2.1))).trans (hHeld.2.2.1); have HS3_ := (hb.cell (World.block_lt_of_cell? _ _ (hHeld.2.2.2.1))).trans (hHeld.2.2.2.1); have HS4_ := (hb.cell (World.block_lt_of_cell? _ _ (hHeld.2.2.2.2.1))).trans (hHeld.2.2.2.2.1); have HS5_ := (hb.cell (World.block_lt_of_cell? _ _ (hHeld.2.2.2.2.2.1))).trans (hHeld.2.2.2.2.2.1); have HS6_ := (hb.cell (World.block_lt_of_cell? _ _ (hHeld.2.2.2.2.2.2.1))).trans (hHeld.2.2.2.2.2.2.1); have HS7_ := (hb.cell (World.block_lt_of_cell? _ _ (hHeld.2.2.2.2.2.2.2))).trans (hHeld.2.2.2.2.2.2.2); clear hg_ hnew_
        (first | rw [← Ny281.out] at ho25 | (simp only [Int.reduceToNat] at ho25; rw [← Ny281.out] at ho25))
        have n0_ := am (Kd.R_elder' zd1' (Kd.R_base ho25) hb); have n1_ := am (Kd.R_lower (Kd.R_new' ho25 (Kd.R_lt zd1')) (keep_size (w := w) (g := g) (row := none) zc')); have n2_ := am (IsS96.below zd' hb); have n3_ := am (KeepBut.trans zc' (KeepBut.of_below hb g none) (.inl rfl)); have n4_ := am (below_step ze' hb); clear HO_5; clear HI0; clear HK; clear HB; have HO_5 := n0_; have HO283 := n1_; have HI0 := n2_; have HK := n3_; have HB := n4_; clear n0_ n1_ n2_ n3_ n4_; clear hb ho25; obtain ⟨Ao26, co26, eo26⟩ := Kd.R_slice HO283.out
        (first | subst eo26 | (injection eo26 with f1_ f2_ f3_; have f4_ := f1_.symm; have f5_ := f3_.symm; clear f1_ f2_ f3_; subst f4_; subst f5_))
        refine hK.out _ _ ⟨HS0_, HS1_, HS2_, HS3_, HS4_, HS5_, HS6_, HS7_⟩ (fun hHeld => ?_)
        clear hK K
        refine norm_ (a' := ?_) ?_ ?_
        rotate_left
        ·show Act.put _ (some 42) _ = _
         simp only [Act.put, s1, s2, s3, i64_w, i32_w]
         rfl
        refine one_ (i := 12) (N := some 43) #[Y,Y,Y,Y,Y,Y,Y,Y,Y,Y,Y,Y,Y,Z,Z] rfl rfl (one_of HT_.out (by kernel_rfl)) (by decide) (fun K hK => ?_)
        refine goes_ Try.func82 (by kernel_rfl) rfl #[.pointer (some ⟨g, 0, none⟩), .slice Ao26 y281.length co26] (by rfl) rfl rfl zb' ?_
        with_reducible refine (spec_l1Cur_among.calls g s0_0 t277 t278 _ _ y281 t284 t285 t286 w0 _ ?side1 ?side2 ?side3 ?side4 ?side5 A18.out).mono ?_
        (case side1 => exact zd')
        (case side2 => exact ze')
        (case side3 => repeat (first | exact (Kd.R_reads' HO283.out).2.2 | (with_reducible refine Kd.C_alloc ?_ _) | (with_reducible refine Kd.C_drewN ?_ _) | (with_reducible refine Kd.C_drew ?_)))
        (case side4 => exact (Kd.R_reads' HO283.out).2.1)
        (case side5 => exact far_slice (IsS96.own_ne HI0.out HO283.out (by decide)))
        rintro e w27 ⟨rfl, hi, hb, hk⟩
        have HS0_ := keep_cell hk (hHeld.1) (by first | (rw [add_block]; exact hne279_0) | (show (Addr.add _ _).block ≠ _; rw [add_block]; exact hne279_0) | exact hne279_0); have HS1_ := keep_cell hk (hHeld.2.1) (by first | (rw [add_block]; exact hne279_1) | (show (Addr.add _ _).block ≠ _; rw [add_block]; exact hne279_1) | exact hne279_1); have HS2_ := keep_cell hk (hHeld.2.2.1) (by first | (rw [add_block]; exact hne279_2) | (show (Addr.add _ _).block ≠ _; rw [add_block]; exact hne279_2) | exact hne279_2); have HS3_ := keep_cell hk (hHeld.2.2.2.1) (by first | (rw [add_block]; exact hne279_3) | (show (Addr.add _ _).block ≠ _; rw [add_block]; exact hne279_3) | exact hne279_3); have HS4_ := keep_cell hk (hHeld.2.2.2.2.1) (by first | (rw [add_block]; exact hne280_0) | (show (Addr.add _ _).block ≠ _; rw [add_block]; exact hne280_0) | exact hne280_0); have HS5_ := keep_cell hk (hHeld.2.2.2.2.2.1) (by first | (rw [add_block]; exact hne280_1) | (show (Addr.add _ _).block ≠ _; rw [add_block]; exact hne280_1) | exact hne280_1); have HS6_ := keep_cell hk (hHeld.2.2.2.2.2.2.1) (by first | (rw [add_block]; exact hne280_2) | (show (Addr.add _ _).block ≠ _; rw [add_block]; exact hne280_2) | exact hne280_2); have HS7_ := keep_cell hk (hHeld.2.2.2.2.2.2.2) (by first | (rw [add_block]; exact hne280_3) | (show (Addr.add _ _).block ≠ _; rw [add_block]; exact hne280_3) | exact hne280_3)
        refine ⟨_, rfl, ?_⟩
        have n0_ := am (Kd.R_mono (Kd.R_keep (IsS96.apart (show IsS96 w0 _ g s0_0 t277 t278 from by repeat (first | (with_reducible first | exact HI0.out | apply IsS96.alloc | apply IsS96.drewN | apply IsS96.drew | apply IsS96.set_1 | apply IsS96.set_2) | exact HI0.out)) zd1' (by decide)) hk (fun _ h => h.2)) (fun _ h => h.1)); have n1_ := am (Kd.R_mono (Kd.R_keep (IsS96.apart (show IsS96 w0 _ g s0_0 t277 t278 from by repeat (first | (with_reducible first | exact HI0.out | apply IsS96.alloc | apply IsS96.drewN | apply IsS96.drew | apply IsS96.set_1 | apply IsS96.set_2) | exact HI0.out)) (by (with_reducible repeat (first | apply Kd.R_alloc | apply Kd.R_drewN | apply Kd.R_drew)); exact HO283.out) (by decide)) hk (fun _ h => h.2)) (fun _ h => h.1)); have n2_ := am (KeepBut.trans zc' hk (.inl rfl)); have n3_ := am (hb); have n4_ := am (hi); clear HO_5; clear HO283; clear HK; clear HB; clear HI0; have HO_5 := n0_; have HO283 := n1_; have HK := n2_; have HB := n3_; have HI0 := n4_; clear n0_ n1_ n2_ n3_ n4_; (try clear hb); (try clear hb2); (try clear hk); (try clear hi); have p20 : 0 ≤ (0 : Int) := (by omega); have q20 : (0 : Int) < ((x5_1.length : Int) : Int) := odt; have qi20 : (0 < x5_1.length) = True := eq_true (by omega); obtain ⟨go20, co20, eo20, gb20, gl20, cl20, HG20⟩ := Kd.R_form HO_5.out (by omega)
        (first | cases eo20 | (injection eo20 with ea_ en_ ec_; (first | subst ea_ | (injection ea_ with ea_; subst ea_)); subst ec_; clear en_))
        have GB20 := Aside0.mk gb20; have GG20 := Aside0.mk HG20; clear gb20 gl20 HG20; obtain ⟨hx20_0, hf20_0⟩ := Kd.R_celln 0 HO_5.out (0 : Int) p20 q20; (try rw [show ((0 : Int)).toNat = 0 from rfl] at hx20_0); (try simp only [Nat.reduceMul, Nat.zero_mul, Nat.zero_add, Nat.reduceAdd] at hx20_0); (try rw [show ((0 : Int)).toNat = 0 from rfl] at hf20_0); (try simp only [Nat.reduceMul, Nat.zero_mul, Nat.zero_add, Nat.reduceAdd] at hf20_0); replace p20 := eq_true p20; replace q20 := eq_true q20; have HN0_go20 := am (show g ≠ go20 from by have h_ := IsS96.own_ne HI0.out HO_5.out (by decide); intro e_; exact h_ (by rw [e_]; rfl)); have HP28 := Kd.R_putn HO_5.out (0 : Int) t284; rw [← Ny287.out] at HP28; have HQ28 := Aside0.mk HP28; clear HP28
        refine hK.out _ _ ⟨HS0_, HS1_, HS2_, HS3_, HS4_, HS5_, HS6_, HS7_⟩ (fun hHeld => ?_)
        clear hK K
        refine norm_ (a' := ?_) ?_ ?_
        rotate_left
        ·show Act.put _ (some 43) _ = _
         simp only [Act.put, s1, s2, s3, i64_w, i32_w]
         rfl
        refine pure_ (i := 13) (N := some 44) (v := ?_) (a' := ?_) #[Y,Y,Y,Y,Y,Y,Y,Y,Y,Y,Y,Y,Y,Y,Z] rfl rfl (any_of HT_.out (by kernel_rfl)) (fun _ _ _ h => h) (Or.inl ⟨by rfl, ?_⟩) ?_ ?_
        rotate_left
        ·intro w'
         go_simp
         with_reducible rfl
        rotate_left
        ·simp only [Act.put, s1, s2, s3, i64_w, i32_w]
         rfl
        refine last_ (i := 14) (N := none) #[Y,Y,Y,Y,Y,Y,Y,Y,Y,Y,Y,Y,Y,Y,Y] rfl rfl (one_of HT_.out (by kernel_rfl)) (by decide) (fun K hK => ?_)
        refine skip_ (w1 := ?_) (by rfl) rfl ?_ ?_
        rotate_left
        ·go_simp
         rfl
        refine hK.out _ _ ?_
        clear hK K
        refine done_ (done_of HT_.out (by kernel_rfl)) ?_
        try go_wp2
        go_ret
        exact ⟨_, by first | rfl | (simp [errW_none, errW_some] <;> rfl) | (simp [*, errW_none, errW_some] <;> rfl), by (with_reducible repeat (first | apply Kd.R_alloc | apply Kd.R_drewN | apply Kd.R_drew)); exact Kd.R_mono HQ28.out (fun _ hk => trivial), by repeat (first | (with_reducible first | exact HI0.out | apply IsS96.alloc | apply IsS96.drewN | apply IsS96.drew | apply IsS96.set_1 | apply IsS96.set_2 | refine IsS96.far ?_ HN0_go20.out _) | exact HI0.out), by repeat (first | (with_reducible first | exact HB.out | apply ba | apply bn | apply below_drew1 | refine below_set ?_ (Nat.le_trans HL.out GB20.out) | refine below_set ?_ (IsS96.ge HI0.out)) | exact HB.out), by repeat (first | (with_reducible first | exact HK.out | apply KeepBut.set_ | apply keep_drewN | apply keep_drew | apply keep_alloc | refine keep_far ?_ GB20.out _) | exact HK.out)⟩
       ·rw [if_neg c19] at H
        exact absurd H (by simp)
      ·rw [if_neg c17] at H
       exact absurd H (by simp)
     ·rw [if_neg c16] at H
      have c16b0 : (t276 == 0) = false := beq_eq_false_iff_ne.mpr c16; have c16b1 : (t276 != 0) = true := bne_iff_ne.mpr c16
      by_cases c29 : t276 = 1
      ·rw [if_pos c29] at H
       have c29b0 : (t276 == 1) = true := beq_iff_eq.mpr c29; have c29b1 : (t276 != 1) = false := bne_eq_false_iff_eq.mpr c29; clear c29
       by_cases c30 : x5_1.length < 17592186044416
       ·rw [if_pos c30] at H
        have LMc30 := Aside0.mk c30; clear c30
        obtain ⟨y288, hy288⟩ : ∃ y_ : List Int, y_ = (x5_1 ++ [0]) := ⟨_, rfl⟩
        replace H : (some (y288, t277, t278)) = some (r1, r2, r3) := by first | (rw [hy288]; with_reducible exact H) | (have H2_ := (Option.bind_some _ _).symm.trans H; rw [hy288]; with_reducible exact H2_) | (have H2_ := (Option.bind_some _ _).symm.trans H; with_reducible exact H2_) | with_reducible exact H | (rw [hy288]; exact H) | exact H
        have Ny288 := Aside0.mk hy288; clear hy288; simp only [Option.some.injEq, Prod.mk.injEq] at H; obtain ⟨rfl, rfl, rfl⟩ := H; obtain ⟨Ao31, co31, eo31⟩ := Kd.R_slice HO_5.out; subst eo31
        go_wp2_with (first | ((with_reducible refine gate_callee (f := 84) rfl ?_); refine goesL_ (some 28) rfl rfl Try.func84 (by kernel_rfl) rfl #[.pointer (some ⟨g, 0, none⟩), .int .i64 24] rfl zb' ?_; (with_reducible refine (spec_l1Cur_pick.calls g s0_0 x1001_1 x1002_1 24 t276 t277 t278 w0 _ ?side1 ?side2 A15.out).mono ?_); (case side1 => exact zd'); (case side2 => exact ze'); rintro e w32 ⟨rfl, hi, hb, hk⟩; refine ⟨_, rfl, ?_⟩; have n0_ := am (Kd.R_mono (Kd.R_keep (IsS96.apart (show IsS96 w0 _ g s0_0 x1001_1 x1002_1 from by repeat (first | (with_reducible first | exact HI0.out | apply IsS96.alloc | apply IsS96.drewN | apply IsS96.drew | apply IsS96.set_1 | apply IsS96.set_2) | exact HI0.out)) zd1' (by decide)) hk (fun _ h => h.2)) (fun _ h => h.1)); have n1_ := am (KeepBut.trans zc' hk (.inl rfl)); have n2_ := am (hb); have n3_ := am (hi); clear HO_5; clear HK; clear HB; clear HI0; have HO_5 := n0_; have HK := n1_; have HB := n2_; have HI0 := n3_; clear n0_ n1_ n2_ n3_; (try clear hb); (try clear hb2); (try clear hk); (try clear hi)) | ((with_reducible refine gate_builtin (b := .append) (xs := #[.tmp 47, .tmp 48]) rfl ?_); at_builtin; refine Kd.R_append (Kd.int .i64) w.heap.size rfl (.tmp 47) (.tmp 48) 29 3 (.int .i64 0) 8 rfl Try.underlying29 info3 rfl (by decide) (by omega) (.slice Ao31 x5_1.length co31) x5_1 0 [.int .i64 0] (fun _ => True) (fun _ => False) rfl rfl ?aP (fun _ hk => hk.elim) ?aF ?aO (Below.refl _ _) ?aS ?aL ?_; (case aP => exact rfl); (case aF => exact zv5'); (case aO => exact zd1'); (case aS => exact (keep_size (w := w) (g := g) (row := none) zc')); (case aL => have := LMc30.out; omega); intro v289 w33 ho hb hg hat; rw [← Ny288.out] at ho; have n0_ := am (IsS96.grown zd' hg (IsS96.own_ne HI0.out HO_5.out (by decide))); have n1_ := am (below_weaken ze' HL.out hb); have n2_ := am (KeepBut.trans zc' (KeepBut.of_grown hg g) (Kd.R_base2 HO_5.out)); have n3_ := am (ho); clear HI0; clear HB; clear HK; clear HO_5; have HI0 := n0_; have HB := n1_; have HK := n2_; have HO290 := n3_; clear n0_ n1_ n2_ n3_; clear ho hb hg hat))
        go_ret
        exact ⟨_, by first | rfl | (simp [errW_none, errW_some] <;> rfl) | (simp [*, errW_none, errW_some] <;> rfl), by (with_reducible repeat (first | apply Kd.R_alloc | apply Kd.R_drewN | apply Kd.R_drew)); exact HO290.out, by repeat (first | (with_reducible first | exact HI0.out | apply IsS96.alloc | apply IsS96.drewN | apply IsS96.drew | apply IsS96.set_1 | apply IsS96.set_2) | exact HI0.out), by repeat (first | (with_reducible first | exact HB.out | apply ba | apply bn | apply below_drew1 | refine below_set ?_ (IsS96.ge HI0.out)) | exact HB.out), by repeat (first | (with_reducible first | exact HK.out | apply KeepBut.set_ | apply keep_drewN | apply keep_drew | apply keep_alloc) | exact HK.out)⟩
       ·rw [if_neg c30] at H
        exact absurd H (by simp)
      ·rw [if_neg c29] at H
       have c29b0 : (t276 == 1) = false := beq_eq_false_iff_ne.mpr c29; have c29b1 : (t276 != 1) = true := bne_iff_ne.mpr c29; simp only [Option.some.injEq, Prod.mk.injEq] at H; obtain ⟨rfl, rfl, rfl⟩ := H; obtain ⟨Ao34, co34, eo34⟩ := Kd.R_slice HO_5.out; subst eo34
       go_wp2_with (first | ((with_reducible refine gate_callee (f := 84) rfl ?_); refine goesL_ (some 28) rfl rfl Try.func84 (by kernel_rfl) rfl #[.pointer (some ⟨g, 0, none⟩), .int .i64 24] rfl zb' ?_; (with_reducible refine (spec_l1Cur_pick.calls g s0_0 x1001_1 x1002_1 24 t276 t277 t278 w0 _ ?side1 ?side2 A15.out).mono ?_); (case side1 => exact zd'); (case side2 => exact ze'); rintro e w35 ⟨rfl, hi, hb, hk⟩; refine ⟨_, rfl, ?_⟩; have n0_ := am (Kd.R_mono (Kd.R_keep (IsS96.apart (show IsS96 w0 _ g s0_0 x1001_1 x1002_1 from by repeat (first | (with_reducible first | exact HI0.out | apply IsS96.alloc | apply IsS96.drewN | apply IsS96.drew | apply IsS96.set_1 | apply IsS96.set_2) | exact HI0.out)) zd1' (by decide)) hk (fun _ h => h.2)) (fun _ h => h.1)); have n1_ := am (KeepBut.trans zc' hk (.inl rfl)); have n2_ := am (hb); have n3_ := am (hi); clear HO_5; clear HK; clear HB; clear HI0; have HO_5 := n0_; have HK := n1_; have HB := n2_; have HI0 := n3_; clear n0_ n1_ n2_ n3_; (try clear hb); (try clear hb2); (try clear hk); (try clear hi)))
       go_ret
       exact ⟨_, by first | rfl | (simp [errW_none, errW_some] <;> rfl) | (simp [*, errW_none, errW_some] <;> rfl), by (with_reducible repeat (first | apply Kd.R_alloc | apply Kd.R_drewN | apply Kd.R_drew)); exact HO_5.out, by repeat (first | (with_reducible first | exact HI0.out | apply IsS96.alloc | apply IsS96.drewN | apply IsS96.drew | apply IsS96.set_1 | apply IsS96.set_2) | exact HI0.out), by repeat (first | (with_reducible first | exact HB.out | apply ba | apply bn | apply below_drew1 | refine below_set ?_ (IsS96.ge HI0.out)) | exact HB.out), by repeat (first | (with_reducible first | exact HK.out | apply KeepBut.set_ | apply keep_drewN | apply keep_drew | apply keep_alloc) | exact HK.out)⟩
    ·rw [if_neg c14] at H
     have c14b0 : decide (0 < (x5_1.length : Int)) = false := decide_eq_false c14; have c14b1 : decide (0 < x5_1.length) = false := decide_eq_false (by omega); clear c14; simp only [Option.some.injEq, Prod.mk.injEq] at H; obtain ⟨rfl, rfl, rfl⟩ := H; obtain ⟨Ao36, co36, eo36⟩ := Kd.R_slice HO_5.out; subst eo36
     go_wp2
     go_ret
     exact ⟨_, by first | rfl | (simp [errW_none, errW_some] <;> rfl) | (simp [*, errW_none, errW_some] <;> rfl), by (with_reducible repeat (first | apply Kd.R_alloc | apply Kd.R_drewN | apply Kd.R_drew)); exact HO_5.out, by repeat (first | (with_reducible first | exact HI0.out | apply IsS96.alloc | apply IsS96.drewN | apply IsS96.drew | apply IsS96.set_1 | apply IsS96.set_2) | exact HI0.out), by repeat (first | (with_reducible first | exact HB.out | apply ba | apply bn | apply below_drew1 | refine below_set ?_ (IsS96.ge HI0.out)) | exact HB.out), by repeat (first | (with_reducible first | exact HK.out | apply KeepBut.set_ | apply keep_drewN | apply keep_drew | apply keep_alloc) | exact HK.out)⟩

end Go.Proofs.Ytcinecbfkeefaaa.PFnBlends
