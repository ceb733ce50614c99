/- Text written by a program for this claim: contracts of the functions of one law. -/
import Derived.Test.YtjipboafhakjfaaPFnStablex0
import Derived.Test.YtjipboafhakjfaaPFnStablex2
import Derived.Test.YtjipboafhakjfaaPFnStablex7
import Derived.Test.YtjipboafhakjfaaPFnStablex10
import Derived.Test.YtjipboafhakjfaaPFnStablex12
namespace Go.Proofs.Ytjipboafhakjfaa.PFnStable
open Go.RowKit Go.Proofs.YtjipboafhakjfaaW.PrintWords Go.Proofs.YtjipboafhakjfaaW.PrintLast Go.Proofs.YtjipboafhakjfaaW.PrintMore
attribute [local go_sem] max2_int min2_int max_two min_two max_three min_three max_four min_four   -- for this text's walks alone
set_option linter.unusedVariables false
set_option linter.unusedSimpArgs false
open ShortPFnStable0

/-! ### spec_DrawBlockingPairs: function 49 -/
def spec_DrawBlockingPairs.j0 : Nat → List (List Int) → List (List Int) → Bool → List Int → Int → Int → Option ((List (List Int)) × (List (List Int)) × List Int × Int × Int)
 | 0, _, _, _, _, _, _ => none
 | k + 1, x5, x6, x22, x2000, x2001, x2002 => if x22 = true then ((spec_maStable.f k x5 x6).bind fun t414 => (some (x5, x6, t414, x2001, x2002))) else ((spec_l1Cur_matchOf.f x2000 x2001 x2002 (x5.length : Int)).bind fun bt417 => (some (x5, x6, bt417.1, bt417.2.1, bt417.2.2)))
def spec_DrawBlockingPairs.q (k : Nat) (l0 : List Int) (s1_0 : List Int) (s1_1 : Int) (s1_2 : Int) : Option ((List (List Int)) × (List (List Int)) × List Int × Int × Int) := (spec_DrawStableMatch.f k l0).bind fun bt404 => ((spec_maBoth.f k bt404.1 bt404.2).bind fun t410 => (if t410 = true then ((spec_l1Cur_one.f s1_0 s1_1 s1_2 3).bind fun bt411 => (spec_DrawBlockingPairs.j0 k bt404.1 bt404.2 bt411.1 s1_0 bt411.2.1 bt411.2.2)) else (spec_DrawBlockingPairs.j0 k bt404.1 bt404.2 false s1_0 s1_1 s1_2)))
def spec_DrawBlockingPairs.f (k : Nat) (l0 : List Int) : Option (List (List Int) × List (List Int) × List Int) := (spec_DrawBlockingPairs.q k l0 l0 0 5).bind fun q => some (q.1, q.2.1, q.2.2.1)
set_option maxHeartbeats 8000000 in
set_option maxRecDepth 100000 in
theorem spec_DrawBlockingPairs.calls (k : Nat) (A0 : Option Addr) (c0 : Nat) (l0 : List Int) (z1 z2 : List (List Int)) (z3 : List Int) (w : World) (hr0 : Kd.C (Kd.int .u8) w A0 l0.length l0) (hc0 : l0.length ≤ c0) (h : spec_DrawBlockingPairs.f k l0 = some (z1, z2, z3)) :
  Calls Try.prog 49 #[.slice A0 l0.length c0] w fun e w' => ∃ v0_ v1_ v2_ : Value, e = .returned (.tuple #[v0_, v1_, v2_]) ∧ Kd.S (Kd.slice 3 (Kd.int .i64)) 27 w' w.heap.size (fun k_ => some k_ ≠ (v1_ : Value).ownBlock ∧ some k_ ≠ (v2_ : Value).ownBlock) v0_ z1 ∧ Kd.S (Kd.slice 3 (Kd.int .i64)) 27 w' w.heap.size (fun k_ => some k_ ≠ (v0_ : Value).ownBlock ∧ some k_ ≠ (v2_ : Value).ownBlock) v1_ z2 ∧ Kd.R (Kd.int .i64) 3 w' w.heap.size (fun _ => True) v2_ z3 ∧ Below w.heap.size w w' := by
 obtain ⟨⟨r1, r2, r3, r4, r5⟩, hq, hs⟩ := Option.bind_eq_some_iff.1 h
 simp only [Option.some.injEq, Prod.mk.injEq] at hs
 obtain ⟨rfl, rfl, rfl⟩ := hs
 have HR0 := Aside0.mk hr0
 have HC0 := Aside0.mk hc0
 clear hr0 hc0 h
 have h := hq
 clear hq
 have HL := am (Nat.le_refl w.heap.size)
 have HW0 := am (Nat.le_refl w.heap.size)
 have H : ((spec_DrawStableMatch.f k l0).bind fun bt404 => ((spec_maBoth.f k bt404.1 bt404.2).bind fun t410 => (if t410 = true then ((spec_l1Cur_one.f l0 0 5 3).bind fun bt411 => (spec_DrawBlockingPairs.j0 k bt404.1 bt404.2 bt411.1 l0 bt411.2.1 bt411.2.2)) else (spec_DrawBlockingPairs.j0 k bt404.1 bt404.2 false l0 0 5)))) = some (r1, r2, r3, r4, r5) := h
 clear h
 replace H := Option.bind_eq_some_iff.mp H
 obtain ⟨⟨t404, t405⟩, A30, H⟩ := H
 replace H : ((spec_maBoth.f k t404 t405).bind fun t410 => (if t410 = true then ((spec_l1Cur_one.f l0 0 5 3).bind fun bt411 => (spec_DrawBlockingPairs.j0 k t404 t405 bt411.1 l0 bt411.2.1 bt411.2.2)) else (spec_DrawBlockingPairs.j0 k t404 t405 false l0 0 5))) = some (r1, r2, r3, r4, r5) := H
 have A3 := Aside0.mk A30
 clear A30
 have HC4 := Aside0.mk H
 clear H
 go_enter Try.func49, Try.ntmps49
 go_upto_region 3 with (first | ((with_reducible refine gate_callee (f := 48) rfl ?_); refine goesL_ (some 10) rfl rfl Try.func48 (by kernel_rfl) rfl #[.slice A0 l0.length c0] rfl zb' ?_; (with_reducible refine (spec_DrawStableMatch.calls k _ _ l0 t404 t405 _ HR0.out HC0.out A3.out).mono ?_); rintro e w5 ⟨v406, v408, rfl, ho0, ho1, hb⟩; refine ⟨_, rfl, ?_⟩; have HO407 := Aside0.mk ho0; have HO409 := Aside0.mk ho1; have HB := Aside0.mk hb; clear ho0 ho1 hb) | ((with_reducible refine gate_dst (N := 15) rfl ?_); refine box_event ?hg (N := 15) ?hd (cs := #[.slice A0 l0.length c0, .int .i64 0, .int .u64 5]) (t := 69) ?hr ?_; (case hd => rfl); (case hg => rfl); (case hr => exact zo'); intro g hg w6 hbox hb; have n0_ := am (Kd.S_below HO407.out hb); have n1_ := am (Kd.S_below HO409.out hb); have n2_ := am (show IsS69 w w6 g l0 0 5 from ⟨A0, c0, hbox, (by rw [hg]; exact HB.out.size), HR0.out⟩); have n3_ := am (below_step HB.out hb); have n4_ := am (KeepBut.of_below (below_step HB.out hb) g none); clear HO407 HO409 HB hg hbox hb; have HO407 := n0_; have HO409 := n1_; have HI1 := n2_; have HB := n3_; have HK := n4_; clear n0_ n1_ n2_ n3_ n4_))
 (try simp only [Act.put, s1, s2, s3])
 go_cut [22] (fun v22 wc => ∃ (kq : Nat) (x22_3 : Bool) (x2001_3 : Int) (x2002_3 : Int), v22 = .bool x22_3 ∧ Aside0 (spec_DrawBlockingPairs.j0 kq t404 t405 x22_3 l0 x2001_3 x2002_3 = some (r1, r2, r3, r4, r5)) ∧ Aside0 (kq ≤ k) ∧ Aside0 (Kd.S (Kd.slice 3 (Kd.int .i64)) 27 wc w.heap.size (fun k_ => some k_ ≠ (v408 : Value).ownBlock) v406 t404) ∧ Aside0 (Kd.S (Kd.slice 3 (Kd.int .i64)) 27 wc w.heap.size (fun k_ => some k_ ≠ (v406 : Value).ownBlock) v408 t405) ∧ Aside0 (IsS69 w wc g l0 x2001_3 x2002_3) ∧ Aside0 (KeepBut w wc g none) ∧ Aside0 (Below w.heap.size w wc))
 case first =>
  have H := HC4.out
  clear HC4
  replace H := Option.bind_eq_some_iff.mp H
  obtain ⟨t410, A60, H⟩ := H
  replace H : (if t410 = true then ((spec_l1Cur_one.f l0 0 5 3).bind fun bt411 => (spec_DrawBlockingPairs.j0 k t404 t405 bt411.1 l0 bt411.2.1 bt411.2.2)) else (spec_DrawBlockingPairs.j0 k t404 t405 false l0 0 5)) = some (r1, r2, r3, r4, r5) := H
  have A6 := Aside0.mk A60
  clear A60
  by_cases c7 : t410 = true
  ·subst c7
   have H1 : ((spec_l1Cur_one.f l0 0 5 3).bind fun bt411 => (spec_DrawBlockingPairs.j0 k t404 t405 bt411.1 l0 bt411.2.1 bt411.2.2)) = some (r1, r2, r3, r4, r5) := by rw [if_pos rfl] at H; exact H
   clear H; have H := H1; clear H1; replace H := Option.bind_eq_some_iff.mp H; obtain ⟨⟨t411, t412, t413⟩, A80, H⟩ := H; replace H : (spec_DrawBlockingPairs.j0 k t404 t405 t411 l0 t412 t413) = some (r1, r2, r3, r4, r5) := H; have A8 := Aside0.mk A80; clear A80; have H' := Aside0.mk H; clear H; obtain ⟨Ao9, co9, eo9⟩ := Kd.S_slice HO407.out; subst eo9; obtain ⟨Ao10, co10, eo10⟩ := Kd.S_slice HO409.out; subst eo10
   go_wp2_with (first | ((with_reducible refine gate_callee (f := 62) rfl ?_); refine goesL_ (some 18) rfl rfl Try.func62 (by kernel_rfl) rfl #[.slice Ao9 t404.length co9, .slice Ao10 t405.length co10] rfl zb' ?_; (with_reducible refine (spec_maBoth.calls k _ _ t404 _ _ t405 true _ ?side1 ?side2 ?side3 ?side4 A6.out).mono ?_); (case side1 => exact za4'); (case side2 => exact (Kd.S_reads' HO407.out).2.1); (case side3 => exact zb4'); (case side4 => exact (Kd.S_reads' HO409.out).2.1); rintro e w11 ⟨rfl, hb⟩; refine ⟨_, rfl, ?_⟩; have n0_ := am (Kd.S_below ze2' hb); have n1_ := am (Kd.S_below zf2' hb); have n2_ := am (IsS69.below zb1' hb); have n3_ := am (KeepBut.trans zc' (KeepBut.of_below hb g none) (.inl rfl)); have n4_ := am (below_step zd1' hb); clear HO407; clear HO409; clear HI1; clear HK; clear HB; have HO407 := n0_; have HO409 := n1_; have HI1 := n2_; have HK := n3_; have HB := n4_; clear n0_ n1_ n2_ n3_ n4_; (try clear hb); (try clear hb2); (try clear hk); (try clear hi)) | (go_at_call 80; (with_reducible refine (spec_l1Cur_one.calls g l0 0 5 3 t411 t412 t413 w _ ?side1 ?side2 A8.out).mono ?_); (case side1 => exact zb1'); (case side2 => exact zd1'); rintro e w12 ⟨rfl, hi, hb, hk⟩; have n0_ := am (Kd.S_mono (Kd.S_keep (IsS69.apartS (show IsS69 w _ g l0 0 5 from by repeat (first | (with_reducible first | exact HI1.out | apply IsS69.alloc | apply IsS69.drewN | apply IsS69.drew | apply IsS69.set_1 | apply IsS69.set_2) | exact HI1.out)) ze2' (by decide)) hk (fun _ h => h.2)) (fun _ h => h.1)); have n1_ := am (Kd.S_mono (Kd.S_keep (IsS69.apartS (show IsS69 w _ g l0 0 5 from by repeat (first | (with_reducible first | exact HI1.out | apply IsS69.alloc | apply IsS69.drewN | apply IsS69.drew | apply IsS69.set_1 | apply IsS69.set_2) | exact HI1.out)) zf2' (by decide)) hk (fun _ h => h.2)) (fun _ h => h.1)); have n2_ := am (KeepBut.trans zc' hk (.inl rfl)); have n3_ := am (hb); have n4_ := am (hi); clear HO407; clear HO409; clear HK; clear HB; clear HI1; have HO407 := n0_; have HO409 := n1_; have HK := n2_; have HB := n3_; have HI1 := n4_; clear n0_ n1_ n2_ n3_ n4_; (try clear hb); (try clear hb2); (try clear hk); (try clear hi)))
   go_meet
   case rel => exact ⟨_, (t411), (t412), (t413), zj', H', ⟨zo4'⟩, ⟨ze2'⟩, ⟨zf2'⟩, ⟨zb1'⟩, ⟨zc'⟩, ⟨zd1'⟩⟩
  ·replace c7 := Bool.eq_false_iff.mpr c7
   subst c7
   have H1 : (spec_DrawBlockingPairs.j0 k t404 t405 false l0 0 5) = some (r1, r2, r3, r4, r5) := by rw [if_neg (show ¬ (false = true) by decide)] at H; exact H
   clear H; have H := H1; clear H1; have H' := Aside0.mk H; clear H; obtain ⟨Ao13, co13, eo13⟩ := Kd.S_slice HO407.out; subst eo13; obtain ⟨Ao14, co14, eo14⟩ := Kd.S_slice HO409.out; subst eo14
   go_wp2_with (first | ((with_reducible refine gate_callee (f := 62) rfl ?_); refine goesL_ (some 18) rfl rfl Try.func62 (by kernel_rfl) rfl #[.slice Ao13 t404.length co13, .slice Ao14 t405.length co14] rfl zb' ?_; (with_reducible refine (spec_maBoth.calls k _ _ t404 _ _ t405 false _ ?side1 ?side2 ?side3 ?side4 A6.out).mono ?_); (case side1 => exact za4'); (case side2 => exact (Kd.S_reads' HO407.out).2.1); (case side3 => exact zb4'); (case side4 => exact (Kd.S_reads' HO409.out).2.1); rintro e w15 ⟨rfl, hb⟩; refine ⟨_, rfl, ?_⟩; have n0_ := am (Kd.S_below ze2' hb); have n1_ := am (Kd.S_below zf2' hb); have n2_ := am (IsS69.below zb1' hb); have n3_ := am (KeepBut.trans zc' (KeepBut.of_below hb g none) (.inl rfl)); have n4_ := am (below_step zd1' hb); clear HO407; clear HO409; clear HI1; clear HK; clear HB; have HO407 := n0_; have HO409 := n1_; have HI1 := n2_; have HK := n3_; have HB := n4_; clear n0_ n1_ n2_ n3_ n4_; (try clear hb); (try clear hb2); (try clear hk); (try clear hi)))
   go_meet
   case rel => exact ⟨_, (false), (0), (5), zj', H', ⟨zo4'⟩, ⟨ze2'⟩, ⟨zf2'⟩, ⟨zb1'⟩, ⟨zc'⟩, ⟨zd1'⟩⟩
 case rest =>
  clear HC4
  try clear p2
  try clear c4
  try clear c6
  try clear c7
  obtain ⟨kq, x22_3, x2001_3, x2002_3, rfl, HA, HJ3, HO_5, HO_6, HI1, HK, HB⟩ := hcut
  cases kq with
  | zero => exact absurd HA.out (by simp [spec_DrawBlockingPairs.j0])
  | succ kj3 =>
   have H := HA.out; clear HA; simp only [spec_DrawBlockingPairs.j0] at H
   by_cases c16 : x22_3 = true
   ·subst c16
    have H1 : ((spec_maStable.f kj3 t404 t405).bind fun t414 => (some (t404, t405, t414, x2001_3, x2002_3))) = some (r1, r2, r3, r4, r5) := by rw [if_pos rfl] at H; exact H
    clear H; have H := H1; clear H1; replace H := Option.bind_eq_some_iff.mp H; obtain ⟨t414, A170, H⟩ := H; replace H : (some (t404, t405, t414, x2001_3, x2002_3)) = some (r1, r2, r3, r4, r5) := H; have A17 := Aside0.mk A170; clear A170; simp only [Option.some.injEq, Prod.mk.injEq] at H; obtain ⟨rfl, rfl, rfl, rfl, rfl⟩ := H; obtain ⟨Ao18, co18, eo18⟩ := Kd.S_slice HO_5.out; subst eo18; obtain ⟨Ao19, co19, eo19⟩ := Kd.S_slice HO_6.out; subst eo19
    go_wp2_with (first | ((with_reducible refine gate_callee (f := 66) rfl ?_); refine goesL_ (some 27) rfl rfl Try.func66 (by kernel_rfl) rfl #[.slice Ao18 t404.length co18, .slice Ao19 t405.length co19] rfl zb' ?_; (with_reducible refine (spec_maStable.calls kj3 _ _ t404 _ _ t405 t414 _ ?side1 ?side2 ?side3 ?side4 A17.out).mono ?_); (case side1 => exact zu1'); (case side2 => exact (Kd.S_reads' HO_5.out).2.1); (case side3 => exact zv1'); (case side4 => exact (Kd.S_reads' HO_6.out).2.1); rintro e w20 ⟨v415, rfl, ho0, hb⟩; refine ⟨_, rfl, ?_⟩; have n0_ := am (Kd.S_elder' zp' (Kd.R_base ho0) hb); have n1_ := am (Kd.S_elder' zx' (Kd.R_base ho0) hb); have n2_ := am (Kd.R_lower ho0 (keep_size (w := w) (g := g) (row := none) zc')); have n3_ := am (IsS69.below zb1' hb); have n4_ := am (KeepBut.trans zc' (KeepBut.of_below hb g none) (.inl rfl)); have n5_ := am (below_step zd1' hb); clear HO_5; clear HO_6; clear HI1; clear HK; clear HB; have HO_5 := n0_; have HO_6 := n1_; have HO416 := n2_; have HI1 := n3_; have HK := n4_; have HB := n5_; clear n0_ n1_ n2_ n3_ n4_ n5_; (try clear hb); (try clear hb2); (try clear hk); (try clear hi); (try clear ho0)))
    go_ret3
    exact ⟨_, _, _, by first | rfl | (simp [errW_none, errW_some] <;> rfl) | (simp [*, errW_none, errW_some] <;> rfl), by (with_reducible repeat (first | apply Kd.S_alloc | apply Kd.S_drewN | apply Kd.S_drew)); exact HO_5.out, by (with_reducible repeat (first | apply Kd.S_alloc | apply Kd.S_drewN | apply Kd.S_drew)); exact HO_6.out, by (with_reducible repeat (first | apply Kd.R_alloc | apply Kd.R_drewN | apply Kd.R_drew)); exact HO416.out, by repeat (first | (with_reducible first | exact HB.out | apply ba | apply bn | apply below_drew1 | refine below_set ?_ (IsS69.ge HI1.out)) | exact HB.out)⟩
   ·replace c16 := Bool.eq_false_iff.mpr c16
    subst c16
    have H1 : ((spec_l1Cur_matchOf.f l0 x2001_3 x2002_3 (t404.length : Int)).bind fun bt417 => (some (t404, t405, bt417.1, bt417.2.1, bt417.2.2))) = some (r1, r2, r3, r4, r5) := by rw [if_neg (show ¬ (false = true) by decide)] at H; exact H
    clear H; have H := H1; clear H1; replace H := Option.bind_eq_some_iff.mp H; obtain ⟨⟨t417, t420, t421⟩, A210, H⟩ := H; replace H : (some (t404, t405, t417, t420, t421)) = some (r1, r2, r3, r4, r5) := H; have A21 := Aside0.mk A210; clear A210; simp only [Option.some.injEq, Prod.mk.injEq] at H; obtain ⟨rfl, rfl, rfl, rfl, rfl⟩ := H; obtain ⟨Ao22, co22, eo22⟩ := Kd.S_slice HO_5.out; subst eo22
    go_wp2_with (first | ((with_reducible refine gate_callee (f := 75) rfl ?_); refine goesL_ (some 33) rfl rfl Try.func75 (by kernel_rfl) rfl #[.pointer (some ⟨g, 0, none⟩), .int .i64 (t404.length : Int)] rfl zb' ?_; (with_reducible refine (spec_l1Cur_matchOf.calls g l0 x2001_3 x2002_3 (t404.length : Int) t417 t420 t421 w _ ?side1 ?side2 A21.out).mono ?_); (case side1 => exact zb1'); (case side2 => exact zd1'); rintro e w23 ⟨v418, rfl, ho0, hi, hb, hk⟩; refine ⟨_, rfl, ?_⟩; have n0_ := am (Kd.S_mono (Kd.S_told (Kd.S_oldK (IsS69.apartS (show IsS69 w _ g l0 x2001_3 x2002_3 from by repeat (first | (with_reducible first | exact HI1.out | apply IsS69.alloc | apply IsS69.drewN | apply IsS69.drew | apply IsS69.set_1 | apply IsS69.set_2) | exact HI1.out)) zp' (by decide)) hk) (Kd.R_base ho0)) (fun _ h_ => h_.1)); have n1_ := am (Kd.S_mono (Kd.S_told (Kd.S_oldK (IsS69.apartS (show IsS69 w _ g l0 x2001_3 x2002_3 from by repeat (first | (with_reducible first | exact HI1.out | apply IsS69.alloc | apply IsS69.drewN | apply IsS69.drew | apply IsS69.set_1 | apply IsS69.set_2) | exact HI1.out)) zx' (by decide)) hk) (Kd.R_base ho0)) (fun _ h_ => h_.1)); have n2_ := am (Kd.R_lower ho0 (keep_size (w := w) (g := g) (row := none) zc')); have n3_ := am (KeepBut.trans zc' hk (.inl rfl)); have n4_ := am (hb); have n5_ := am (hi); clear HO_5; clear HO_6; clear HK; clear HB; clear HI1; have HO_5 := n0_; have HO_6 := n1_; have HO419 := n2_; have HK := n3_; have HB := n4_; have HI1 := n5_; clear n0_ n1_ n2_ n3_ n4_ n5_; (try clear hb); (try clear hb2); (try clear hk); (try clear hi); (try clear ho0)))
    go_ret3
    exact ⟨_, _, _, by first | rfl | (simp [errW_none, errW_some] <;> rfl) | (simp [*, errW_none, errW_some] <;> rfl), by (with_reducible repeat (first | apply Kd.S_alloc | apply Kd.S_drewN | apply Kd.S_drew)); exact HO_5.out, by (with_reducible repeat (first | apply Kd.S_alloc | apply Kd.S_drewN | apply Kd.S_drew)); exact HO_6.out, by (with_reducible repeat (first | apply Kd.R_alloc | apply Kd.R_drewN | apply Kd.R_drew)); exact HO419.out, by repeat (first | (with_reducible first | exact HB.out | apply ba | apply bn | apply below_drew1 | refine below_set ?_ (IsS69.ge HI1.out)) | exact HB.out)⟩



/-! ### laws_qLists: function 50 -/
def laws_qLists.l0 : Nat → List (List Int) → List (List Int) → Int → Int → Option (Bool)
 | 0, _, _, _, _ => none
 | k + 1, x0, x1, x12, x13 => if x13 < x12 then (if 0 ≤ x13 then (if x13 < (x0.length : Int) then (if x13 < (x1.length : Int) then ((laws_qInts.f k (rd_L2 x0 x13) (rd_L2 x1 x13)).bind fun t406 => (if t406 = true then (laws_qLists.l0 k x0 x1 x12 (wrap64 (x13 + 1))) else (some false))) else (none)) else (none)) else (none)) else (some true)
def laws_qLists.f (k : Nat) (l0 : List (List Int)) (l1 : List (List Int)) : Option (Bool) := if (l0.length : Int) = (l1.length : Int) then (laws_qLists.l0 k l0 l1 (l0.length : Int) 0) else (some false)
set_option maxHeartbeats 8000000 in
set_option maxRecDepth 100000 in
theorem laws_qLists.calls (k : Nat) (A0 : Option Addr) (c0 : Nat) (l0 : List (List Int)) (A1 : Option Addr) (c1 : Nat) (l1 : List (List Int)) (r : Bool) (w : World) (hr0 : Kd.C (Kd.slice 3 (Kd.int .i64)) w A0 l0.length l0) (hc0 : l0.length ≤ c0) (hr1 : Kd.C (Kd.slice 3 (Kd.int .i64)) w A1 l1.length l1) (hc1 : l1.length ≤ c1) (h : laws_qLists.f k l0 l1 = some r) :
  Calls Try.prog 50 #[.slice A0 l0.length c0, .slice A1 l1.length c1] w fun e w' => e = .returned (.bool r) ∧ Drawn0 w w' := by
 have HR0 := Aside0.mk hr0
 have HC0 := Aside0.mk hc0
 clear hr0 hc0
 have HR1 := Aside0.mk hr1
 have HC1 := Aside0.mk hc1
 clear hr1 hc1
 have H : (if (l0.length : Int) = (l1.length : Int) then (laws_qLists.l0 k l0 l1 (l0.length : Int) 0) else (some false)) = some r := h
 clear h
 by_cases c3 : (l0.length : Int) = (l1.length : Int)
 ·rw [if_pos c3] at H
  have c3b0 : ((l0.length : Int) == (l1.length : Int)) = true := beq_iff_eq.mpr c3
  have c3b1 : ((l0.length : Int) != (l1.length : Int)) = false := bne_eq_false_iff_eq.mpr c3
  have c3b2 : (l0.length == l1.length) = true := by first | simpa using c3 | (simp at c3 ⊢; omega)
  clear c3
  have H' := Aside0.mk H
  clear H
  go_enter Try.func50, Try.ntmps50
  go_wp2
  repeat (go_quiet (fail); try go_wp2)
  go_loopg [13] k (fun kq v13 w' => ∃ (x13_1 : Int), v13 = .int .i64 x13_1 ∧ Aside0 (laws_qLists.l0 kq l0 l1 (l0.length : Int) x13_1 = some r) ∧ Aside0 (kq ≤ k) ∧ Drawn0 w w')
  case atStart => exact ⟨(0), zj', H', ⟨Nat.le_refl _⟩, by repeat (first | exact Drawn0.refl _ | apply Drawn0.step)⟩
  case round =>
   clear H'; (try clear c1); (try clear p2); (try clear c3); (try clear c3b0); (try clear c3b1); (try clear c3b2); obtain ⟨x13_1, rfl, HA, HK1, ⟨m1, rfl⟩⟩ := hrel
   cases gk with
   | zero => exact absurd HA.out (by simp [laws_qLists.l0])
   | succ k1 =>
    have H := HA.out; clear HA; simp only [laws_qLists.l0] at H
    by_cases c4 : x13_1 < (l0.length : Int)
    ·rw [if_pos c4] at H
     have c4b0 : decide (x13_1 < (l0.length : Int)) = true := decide_eq_true c4; clear c4
     by_cases c5 : 0 ≤ x13_1
     ·rw [if_pos c5] at H
      have c5b0 : decide (0 ≤ x13_1) = true := decide_eq_true c5; clear c5
      by_cases c6 : x13_1 < (l0.length : Int)
      ·rw [if_pos c6] at H
       have c6b0 : decide (x13_1 < (l0.length : Int)) = true := decide_eq_true c6; clear c6
       by_cases c7 : x13_1 < (l1.length : Int)
       ·rw [if_pos c7] at H
        have c7b0 : decide (x13_1 < (l1.length : Int)) = true := decide_eq_true c7; clear c7; replace H := Option.bind_eq_some_iff.mp H; obtain ⟨t406, A80, H⟩ := H; replace H : (if t406 = true then (laws_qLists.l0 k1 l0 l1 (l0.length : Int) (wrap64 (x13_1 + 1))) else (some false)) = some r := H; have A8 := Aside0.mk A80; clear A80
        by_cases c9 : t406 = true
        ·subst c9
         have H1 : (laws_qLists.l0 k1 l0 l1 (l0.length : Int) (wrap64 (x13_1 + 1))) = some r := by rw [if_pos rfl] at H; exact H
         clear H; have H := H1; clear H1; have H' := Aside0.mk H; clear H; have p404 : 0 ≤ (x13_1 : Int) := odt; have q404 : x13_1 < (l0.length : Int) := odt; obtain ⟨ad404, A404_0, c404_0, e404, hx404_0, hl404_0, hi404_0⟩ := at_L2 HR0.out x13_1 p404 q404; cases e404; have HR404_0 := Aside0.mk hi404_0; have HC404_0 := Aside0.mk hl404_0; clear hi404_0 hl404_0; replace p404 := eq_true p404; replace q404 := eq_true q404; have p405 : 0 ≤ (x13_1 : Int) := odt; have q405 : x13_1 < (l1.length : Int) := odt; obtain ⟨ad405, A405_0, c405_0, e405, hx405_0, hl405_0, hi405_0⟩ := at_L2 HR1.out x13_1 p405 q405; cases e405; have HR405_0 := Aside0.mk hi405_0; have HC405_0 := Aside0.mk hl405_0; clear hi405_0 hl405_0; replace p405 := eq_true p405; replace q405 := eq_true q405
         go_wp2_with (first | (go_at_call 47; (with_reducible refine (laws_qInts.calls k1 _ _ (rd_L2 l0 x13_1) _ _ (rd_L2 l1 x13_1) true _ ?side1 ?side2 ?side3 ?side4 A8.out).mono ?_); (case side1 => exact zk1'); (case side2 => exact HC404_0.out); (case side3 => exact zl1'); (case side4 => exact HC405_0.out); rintro e w' ⟨rfl, ⟨nd, rfl⟩⟩; (try first | exact ⟨rfl, _, World.drewN_drewN _ _ _⟩ | exact ⟨rfl, _, Eq.trans (World.drewN_drewN _ _ _) (congrArg (World.drewN _) (Nat.add_assoc _ _ _))⟩)))
         repeat (go_quiet (first | (go_at_call 47; (with_reducible refine (laws_qInts.calls k1 _ _ (rd_L2 l0 x13_1) _ _ (rd_L2 l1 x13_1) true _ ?side1 ?side2 ?side3 ?side4 A8.out).mono ?_); (case side1 => exact zk1'); (case side2 => exact HC404_0.out); (case side3 => exact zl1'); (case side4 => exact HC405_0.out); rintro e w' ⟨rfl, ⟨nd, rfl⟩⟩; (try first | exact ⟨rfl, _, World.drewN_drewN _ _ _⟩ | exact ⟨rfl, _, Eq.trans (World.drewN_drewN _ _ _) (congrArg (World.drewN _) (Nat.add_assoc _ _ _))⟩))); try go_wp2_with (first | (go_at_call 47; (with_reducible refine (laws_qInts.calls k1 _ _ (rd_L2 l0 x13_1) _ _ (rd_L2 l1 x13_1) true _ ?side1 ?side2 ?side3 ?side4 A8.out).mono ?_); (case side1 => exact zk1'); (case side2 => exact HC404_0.out); (case side3 => exact zl1'); (case side4 => exact HC405_0.out); rintro e w' ⟨rfl, ⟨nd, rfl⟩⟩; (try first | exact ⟨rfl, _, World.drewN_drewN _ _ _⟩ | exact ⟨rfl, _, Eq.trans (World.drewN_drewN _ _ _) (congrArg (World.drewN _) (Nat.add_assoc _ _ _))⟩))))
         go_roundg k1
         case measure => have := HK1.out; omega
         case rel => exact ⟨(wrap64 (x13_1 + 1)), zj', H', ⟨zo2'⟩, by repeat (first | exact Drawn0.refl _ | apply Drawn0.step)⟩
        ·replace c9 := Bool.eq_false_iff.mpr c9
         subst c9
         have H1 : (some false) = some r := by rw [if_neg (show ¬ (false = true) by decide)] at H; exact H
         clear H; have H := H1; clear H1; obtain rfl := Option.some.inj H; have p404 : 0 ≤ (x13_1 : Int) := odt; have q404 : x13_1 < (l0.length : Int) := odt; obtain ⟨ad404, A404_0, c404_0, e404, hx404_0, hl404_0, hi404_0⟩ := at_L2 HR0.out x13_1 p404 q404; cases e404; have HR404_0 := Aside0.mk hi404_0; have HC404_0 := Aside0.mk hl404_0; clear hi404_0 hl404_0; replace p404 := eq_true p404; replace q404 := eq_true q404; have p405 : 0 ≤ (x13_1 : Int) := odt; have q405 : x13_1 < (l1.length : Int) := odt; obtain ⟨ad405, A405_0, c405_0, e405, hx405_0, hl405_0, hi405_0⟩ := at_L2 HR1.out x13_1 p405 q405; cases e405; have HR405_0 := Aside0.mk hi405_0; have HC405_0 := Aside0.mk hl405_0; clear hi405_0 hl405_0; replace p405 := eq_true p405; replace q405 := eq_true q405
         go_wp2_with (first | (go_at_call 47; (with_reducible refine (laws_qInts.calls k1 _ _ (rd_L2 l0 x13_1) _ _ (rd_L2 l1 x13_1) false _ ?side1 ?side2 ?side3 ?side4 A8.out).mono ?_); (case side1 => exact zk1'); (case side2 => exact HC404_0.out); (case side3 => exact zl1'); (case side4 => exact HC405_0.out); rintro e w' ⟨rfl, ⟨nd, rfl⟩⟩; (try first | exact ⟨rfl, _, World.drewN_drewN _ _ _⟩ | exact ⟨rfl, _, Eq.trans (World.drewN_drewN _ _ _) (congrArg (World.drewN _) (Nat.add_assoc _ _ _))⟩)))
         repeat (go_quiet (first | (go_at_call 47; (with_reducible refine (laws_qInts.calls k1 _ _ (rd_L2 l0 x13_1) _ _ (rd_L2 l1 x13_1) false _ ?side1 ?side2 ?side3 ?side4 A8.out).mono ?_); (case side1 => exact zk1'); (case side2 => exact HC404_0.out); (case side3 => exact zl1'); (case side4 => exact HC405_0.out); rintro e w' ⟨rfl, ⟨nd, rfl⟩⟩; (try first | exact ⟨rfl, _, World.drewN_drewN _ _ _⟩ | exact ⟨rfl, _, Eq.trans (World.drewN_drewN _ _ _) (congrArg (World.drewN _) (Nat.add_assoc _ _ _))⟩))); try go_wp2_with (first | (go_at_call 47; (with_reducible refine (laws_qInts.calls k1 _ _ (rd_L2 l0 x13_1) _ _ (rd_L2 l1 x13_1) false _ ?side1 ?side2 ?side3 ?side4 A8.out).mono ?_); (case side1 => exact zk1'); (case side2 => exact HC404_0.out); (case side3 => exact zl1'); (case side4 => exact HC405_0.out); rintro e w' ⟨rfl, ⟨nd, rfl⟩⟩; (try first | exact ⟨rfl, _, World.drewN_drewN _ _ _⟩ | exact ⟨rfl, _, Eq.trans (World.drewN_drewN _ _ _) (congrArg (World.drewN _) (Nat.add_assoc _ _ _))⟩))))
         go_ret
         exact ⟨by first | rfl | (simp; done) | (simp [*]; done), by repeat (first | exact Drawn0.refl _ | apply Drawn0.step)⟩
       ·rw [if_neg c7] at H
        exact absurd H (by simp)
      ·rw [if_neg c6] at H
       exact absurd H (by simp)
     ·rw [if_neg c5] at H
      exact absurd H (by simp)
    ·rw [if_neg c4] at H
     have c4b0 : decide (x13_1 < (l0.length : Int)) = false := decide_eq_false c4; clear c4; obtain rfl := Option.some.inj H
     go_wp2
     repeat (go_quiet (fail); try go_wp2)
     go_ret
     exact ⟨by first | rfl | (simp; done) | (simp [*]; done), by repeat (first | exact Drawn0.refl _ | apply Drawn0.step)⟩
 ·rw [if_neg c3] at H
  have c3b0 : ((l0.length : Int) == (l1.length : Int)) = false := beq_eq_false_iff_ne.mpr c3
  have c3b1 : ((l0.length : Int) != (l1.length : Int)) = true := bne_iff_ne.mpr c3
  have c3b2 : (l0.length == l1.length) = false := by first | simpa using c3 | (simp at c3 ⊢; omega)
  obtain rfl := Option.some.inj H
  go_enter Try.func50, Try.ntmps50
  go_wp2
  repeat (go_quiet (fail); try go_wp2)
  go_ret
  exact ⟨by first | rfl | (simp; done) | (simp [*]; done), by repeat (first | exact Drawn0.refl _ | apply Drawn0.step)⟩

end Go.Proofs.Ytjipboafhakjfaa.PFnStable
