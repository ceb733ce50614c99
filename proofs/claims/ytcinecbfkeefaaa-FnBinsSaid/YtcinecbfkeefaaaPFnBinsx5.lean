/- Text written by a program for this claim: contracts of the functions of one law. -/
import Derived.Test.YtcinecbfkeefaaaPFnBinsx0
import Derived.Test.YtcinecbfkeefaaaPFnBinsx3
import Derived.Test.YtcinecbfkeefaaaPFnBinsx4
namespace Go.Proofs.Ytcinecbfkeefaaa.PFnBins
open Go.RowKit Go.Proofs.YtcinecbfkeefaaaW.PrintWords Go.Proofs.YtcinecbfkeefaaaW.PrintLast Go.Proofs.YtcinecbfkeefaaaW.PrintMore
attribute [local go_sem] max2_int min2_int max_two min_two max_three min_three max_four min_four   -- for this text's walks alone
set_option linter.unusedVariables false
set_option linter.unusedSimpArgs false
open ShortPFnBins0

/-! ### spec_l1Cur_partsOf: function 75 -/
def spec_l1Cur_partsOf.l0 : Nat → List (S63) → List Int → List (S63) → Int → Int → List Int → Int → Int → Option (List Int × Int × Int)
 | 0, _, _, _, _, _, _, _, _ => none
 | k + 1, x1, x5, x8, x9, x10, x1000, x1001, x1002 => if x10 < x9 then (if 0 ≤ x10 then (if x10 < (x8.length : Int) then ((spec_l1Most.f 0 ((rd_T63 x8 x10).f0)).bind fun t154 => ((spec_l1Cur_pick.f x1000 x1001 x1002 (wrap64 (t154 + 1))).bind fun bt155 => (if x5.length < 17592186044416 then (spec_l1Cur_partsOf.l0 k x1 (x5 ++ [bt155.1]) x8 x9 (wrap64 (x10 + 1)) x1000 bt155.2.1 bt155.2.2) else (none)))) else (none)) else (none)) else (if (x5.length : Int) > 0 then ((spec_l1Cur_pick.f x1000 x1001 x1002 24).bind fun bt161 => (if bt161.1 = 0 then (if 0 < (x1.length : Int) then ((spec_l1Cur_among.f x1000 bt161.2.1 bt161.2.2 (([(-1), (rd_T63 x1 0).f0, wrap64 (((rd_T63 x1 0).f0) + 1)] : List Int))).bind fun bt169 => (if 0 < (x5.length : Int) then (some ((x5.set (0 : Int).toNat bt169.1), bt169.2.1, bt169.2.2)) else (none))) else (none)) else (if bt161.1 = 1 then (if x5.length < 17592186044416 then (some ((x5 ++ [0]), bt161.2.1, bt161.2.2)) else (none)) else (some (x5, bt161.2.1, bt161.2.2))))) else (some (x5, x1001, x1002)))
def spec_l1Cur_partsOf.f (k : Nat) (s0_0 : List Int) (s0_1 : Int) (s0_2 : Int) (l1 : List (S63)) : Option (List Int × Int × Int) := spec_l1Cur_partsOf.l0 k l1 ([] : List Int) l1 (l1.length : Int) 0 s0_0 s0_1 s0_2
def spec_l1Cur_partsOf.T10 : Bool × List (List Nat × List Nat) := (true, [([], []), ([], []), ([], []), ([2], [2]), ([3], [3]), ([4], [4]), ([], []), ([6], [6]), ([7], [7]), ([8], [8]), ([9], [9]), ([5, 10], [5, 10]), ([1, 11], [1, 11]), ([0, 0, 1, 2, 3, 4, 5, 6, 7, 8, 9, 10, 11, 12], [0]), ([13, 12, 12, 0, 1, 2, 3, 4, 5, 6, 7, 8, 9, 10, 11, 12], [12, 13])])
def spec_l1Cur_partsOf.B10 : List Nat := [0, 0, 0, 4, 12, 28, 0, 64, 192, 448, 960, 2044, 4094, 8191, 16383]
theorem spec_l1Cur_partsOf.tab10 : rtab .any (opsOf Try.f75 10) = spec_l1Cur_partsOf.T10 := by kernel_rfl
theorem spec_l1Cur_partsOf.bits10 : waitsOk spec_l1Cur_partsOf.T10.2 spec_l1Cur_partsOf.B10 = true := by kernel_rfl
set_option maxHeartbeats 8000000 in
set_option maxRecDepth 100000 in
theorem spec_l1Cur_partsOf.calls (k : Nat) (g : Nat) (s0_0 : List Int) (s0_1 : Int) (s0_2 : Int) (A1 : Option Addr) (c1 : Nat) (l1 : List (S63)) (r1 : List Int) (r2 : Int) (r3 : Int) (w0 w : World) (hI : IsS96 w0 w g s0_0 s0_1 s0_2) (hB : Below w0.heap.size w0 w) (hr1 : ∀ W_, KeepBut w W_ g none → Kd.C k63 W_ A1 l1.length l1) (hc1 : l1.length ≤ c1) (h : spec_l1Cur_partsOf.f k s0_0 s0_1 s0_2 l1 = some (r1, r2, r3)) :
  Calls Try.prog 75 #[.pointer (some ⟨g, 0, none⟩), .slice A1 l1.length c1] w fun e w' => ∃ v0_ : Value, e = .returned (v0_) ∧ Kd.R (Kd.int .i64) 3 w' w.heap.size (fun _ => True) v0_ r1 ∧ IsS96 w0 w' g s0_0 r2 r3 ∧ Below w0.heap.size w0 w' ∧ KeepBut w w' g none := by
 have hu63 := Try.underlying63
 have HR1 := Aside0.mk hr1
 have HC1 := Aside0.mk hc1
 clear hr1 hc1
 have HI0 := Aside0.mk hI
 have HK := am (KeepBut.refl w g none)
 have HL := Aside0.mk hB.size
 clear hI
 have HW0 := Aside0.mk hB.size
 have HB := Aside0.mk hB
 clear hB
 have H : (spec_l1Cur_partsOf.l0 k l1 ([] : List Int) l1 (l1.length : Int) 0 s0_0 s0_1 s0_2) = some (r1, r2, r3) := h
 clear h
 have H' := Aside0.mk H
 clear H
 go_enter Try.func75, Try.ntmps75
 go_wp2
 go_loopg [5, 10] k (fun kq v5 v10 w' => ∃ (x5_1 : List Int) (x10_1 : Int) (x1001_1 : Int) (x1002_1 : Int), v10 = .int .i64 x10_1 ∧ Aside0 (spec_l1Cur_partsOf.l0 kq l1 x5_1 l1 (l1.length : Int) x10_1 s0_0 x1001_1 x1002_1 = some (r1, r2, r3)) ∧ Aside0 (kq ≤ k) ∧ Aside0 (Kd.R (Kd.int .i64) 3 w' w.heap.size (fun _ => True) v5 x5_1) ∧ Aside0 (IsS96 w0 w' g s0_0 x1001_1 x1002_1) ∧ Aside0 (KeepBut w w' g none) ∧ Aside0 (Below w0.heap.size w0 w'))
 case atStart => exact ⟨(([] : List Int)), (0), (s0_1), (s0_2), zh', H', ⟨Nat.le_refl _⟩, ⟨zb2'⟩, ⟨zc'⟩, ⟨zb'⟩, ⟨ze'⟩⟩
 case round =>
  clear H'
  try clear c1
  try clear p2
  obtain ⟨x5_1, x10_1, x1001_1, x1002_1, rfl, HA, HK1, HO_5, HI0, HK, HB⟩ := hrel
  cases gk with
  | zero => exact absurd HA.out (by simp [spec_l1Cur_partsOf.l0])
  | succ k1 =>
   have H := HA.out; clear HA; simp only [spec_l1Cur_partsOf.l0] at H
   by_cases c3 : x10_1 < (l1.length : Int)
   ·rw [if_pos c3] at H
    have c3b0 : decide (x10_1 < (l1.length : Int)) = true := decide_eq_true c3; clear c3
    by_cases c4 : 0 ≤ x10_1
    ·rw [if_pos c4] at H
     have c4b0 : decide (0 ≤ x10_1) = true := decide_eq_true c4; clear c4
     by_cases c5 : x10_1 < (l1.length : Int)
     ·rw [if_pos c5] at H
      have c5b0 : decide (x10_1 < (l1.length : Int)) = true := decide_eq_true c5; clear c5; replace H := Option.bind_eq_some_iff.mp H; obtain ⟨t154, A60, H⟩ := H; replace H : ((spec_l1Cur_pick.f s0_0 x1001_1 x1002_1 (wrap64 (t154 + 1))).bind fun bt155 => (if x5_1.length < 17592186044416 then (spec_l1Cur_partsOf.l0 k1 l1 (x5_1 ++ [bt155.1]) l1 (l1.length : Int) (wrap64 (x10_1 + 1)) s0_0 bt155.2.1 bt155.2.2) else (none))) = some (r1, r2, r3) := H; have A6 := Aside0.mk A60; clear A60; replace H := Option.bind_eq_some_iff.mp H; obtain ⟨⟨t155, t156, t157⟩, A70, H⟩ := H; replace H : (if x5_1.length < 17592186044416 then (spec_l1Cur_partsOf.l0 k1 l1 (x5_1 ++ [t155]) l1 (l1.length : Int) (wrap64 (x10_1 + 1)) s0_0 t156 t157) else (none)) = some (r1, r2, r3) := H; have A7 := Aside0.mk A70; clear A70
      by_cases c8 : x5_1.length < 17592186044416
      ·rw [if_pos c8] at H
       have LMc8 := Aside0.mk c8; clear c8
       obtain ⟨y158, hy158⟩ : ∃ y_ : List Int, y_ = (x5_1 ++ [t155]) := ⟨_, rfl⟩
       replace H : (spec_l1Cur_partsOf.l0 k1 l1 y158 l1 (l1.length : Int) (wrap64 (x10_1 + 1)) s0_0 t156 t157) = some (r1, r2, r3) := by first | (rw [hy158]; with_reducible exact H) | (have H2_ := (Option.bind_some _ _).symm.trans H; rw [hy158]; with_reducible exact H2_) | (have H2_ := (Option.bind_some _ _).symm.trans H; with_reducible exact H2_) | with_reducible exact H | (rw [hy158]; exact H) | exact H
       have Ny158 := Aside0.mk hy158; clear hy158; have H' := Aside0.mk H; clear H; have p152 : 0 ≤ (x10_1 : Int) := odt; have q152 : x10_1 < (l1.length : Int) := odt; obtain ⟨ad152, e152, hx152_0, hx152_1, hx152_2, hx152_3⟩ := at_T63 (Kd.C_foot_now HR1.out HK.out) x10_1 p152 q152; cases e152; replace p152 := eq_true p152; replace q152 := eq_true q152
       go_wp2_with (first | ((with_reducible refine gate_dst (N := 7) rfl ?_); refine box_event ?hg (N := 7) ?hd (cs := #[.int .i64 0, .int .i64 0, .int .i64 0, .int .i64 0]) (t := 63) ?hr ?_; (case hd => rfl); (case hg => rfl); (case hr => exact zv'); intro gb153 hg w9 hbox hb; have n0_ := am (Kd.R_below zl' hb); have n1_ := am (IsS96.below zc' hb); have n2_ := am (KeepBut.trans zb' (KeepBut.of_below hb g none) (.inl rfl)); have n3_ := am (below_step ze' hb); have n4_ := am (hbox); have n5_ := am ((by rw [hg]; exact (keep_size (w := w) (g := g) (row := none) zb') : w.heap.size ≤ gb153)); have n6_ := am ((Nat.le_trans HW0.out (by rw [hg]; exact (keep_size (w := w) (g := g) (row := none) zb') : w.heap.size ≤ gb153) : w0.heap.size ≤ gb153)); have n7_ := am ((by rw [hg]; exact Nat.ne_of_lt (IsS96.lt (show IsS96 w0 _ g s0_0 x1001_1 x1002_1 from by repeat (first | (with_reducible first | exact HI0.out | apply IsS96.alloc | apply IsS96.drewN | apply IsS96.drew | apply IsS96.set_1 | apply IsS96.set_2) | exact HI0.out))) : g ≠ gb153)); have n8_ := am ((by rw [hg]; exact Nat.ne_of_gt (IsS96.lt (show IsS96 w0 _ g s0_0 x1001_1 x1002_1 from by repeat (first | (with_reducible first | exact HI0.out | apply IsS96.alloc | apply IsS96.drewN | apply IsS96.drew | apply IsS96.set_1 | apply IsS96.set_2) | exact HI0.out))) : gb153 ≠ g)); clear HO_5; clear HI0; clear HK; clear HB; have HO_5 := n0_; have HI0 := n1_; have HK := n2_; have HB := n3_; have BK153 := n4_; have GW153 := n5_; have GE153 := n6_; have NB0_153 := n7_; have NB153_0 := n8_; clear n0_ n1_ n2_ n3_ n4_ n5_ n6_ n7_ n8_; clear hb hbox hg; have hnb10 := NB153_0.out; have hnc10 := NB0_153.out; have hcz11_0 : w9.cell? ⟨gb153, 0, none⟩ = some (.int .i64 0) := (blk_cell BK153.out 0).trans rfl; have hcz11_1 : w9.cell? ⟨gb153, 1, none⟩ = some (.int .i64 0) := (blk_cell BK153.out 1).trans rfl; have hcz11_2 : w9.cell? ⟨gb153, 2, none⟩ = some (.int .i64 0) := (blk_cell BK153.out 2).trans rfl; have hcz11_3 : w9.cell? ⟨gb153, 3, none⟩ = some (.int .i64 0) := (blk_cell BK153.out 3).trans rfl; have hfz11_0 := blk_frozen BK153.out 0; have hfz11_1 := blk_frozen BK153.out 1; have hfz11_2 := blk_frozen BK153.out 2; have hfz11_3 := blk_frozen BK153.out 3) | ((with_reducible refine gate_callee (f := 77) rfl ?_); refine goesL_ (some 18) rfl rfl Try.func77 (by kernel_rfl) rfl #[.int .i64 0, .int .i64 ((rd_T63 l1 x10_1).f0)] rfl zd' ?_; (with_reducible refine (spec_l1Most.calls 0 ((rd_T63 l1 x10_1).f0) t154 _ A6.out).mono ?_); rintro e w' ⟨rfl, ⟨nd, rfl⟩⟩; refine ⟨_, rfl, ?_⟩) | ((with_reducible refine gate_callee (f := 84) rfl ?_); refine goesL_ (some 20) rfl rfl Try.func84 (by kernel_rfl) rfl #[.pointer (some ⟨g, 0, none⟩), .int .i64 (wrap64 (t154 + 1))] rfl zd' ?_; (with_reducible refine (spec_l1Cur_pick.calls g s0_0 x1001_1 x1002_1 (wrap64 (t154 + 1)) t155 t156 t157 w0 _ ?side1 ?side2 A7.out).mono ?_); (case side1 => exact zc2'); (case side2 => exact zf2'); rintro e w12 ⟨rfl, hi, hb, hk⟩; refine ⟨_, rfl, ?_⟩; have n0_ := am (Kd.R_mono (Kd.R_keep (IsS96.apart (show IsS96 w0 _ g s0_0 x1001_1 x1002_1 from by repeat (first | (with_reducible first | exact HI0.out | apply IsS96.alloc | apply IsS96.drewN | apply IsS96.drew | apply IsS96.set_1 | apply IsS96.set_2 | refine IsS96.far ?_ NB0_153.out _) | exact HI0.out)) (by (with_reducible repeat (first | apply Kd.R_alloc | apply Kd.R_drewN | apply Kd.R_drew)); exact (Kd.R_mono (Kd.R_far (p := ⟨gb153, 3, none⟩) (Kd.R_far (p := ⟨gb153, 2, none⟩) (Kd.R_far (p := ⟨gb153, 1, none⟩) (Kd.R_far (p := ⟨gb153, 0, none⟩) (Kd.R_types HO_5.out BK153.out (by decide)) (fun _ hk => hk.2) (.int .i64 ((rd_T63 l1 x10_1).f0))) (fun _ hk => hk.2) (.int .i64 ((rd_T63 l1 x10_1).f1))) (fun _ hk => hk.2) (.int .i64 ((rd_T63 l1 x10_1).f2))) (fun _ hk => hk.2) (.int .i64 ((rd_T63 l1 x10_1).f3))) (fun _ h_ => h_.1))) (by decide)) hk (fun _ h => h.2)) (fun _ h => h.1)); have n1_ := am (KeepBut.blk hk (g' := gb153) (o := o1') (by (with_reducible repeat (first | apply kn | apply kd | apply ka)); refine blk_put (cs := #[.int .i64 ((rd_T63 l1 x10_1).f0), .int .i64 ((rd_T63 l1 x10_1).f1), .int .i64 ((rd_T63 l1 x10_1).f2), .int .i64 0]) ?_ 3 _ rfl; (with_reducible repeat (first | apply kn | apply kd | apply ka)); refine blk_put (cs := #[.int .i64 ((rd_T63 l1 x10_1).f0), .int .i64 ((rd_T63 l1 x10_1).f1), .int .i64 0, .int .i64 0]) ?_ 2 _ rfl; (with_reducible repeat (first | apply kn | apply kd | apply ka)); refine blk_put (cs := #[.int .i64 ((rd_T63 l1 x10_1).f0), .int .i64 0, .int .i64 0, .int .i64 0]) ?_ 1 _ rfl; (with_reducible repeat (first | apply kn | apply kd | apply ka)); refine blk_put (cs := #[.int .i64 0, .int .i64 0, .int .i64 0, .int .i64 0]) ?_ 0 _ rfl; (with_reducible repeat (first | apply kn | apply kd | apply ka)); exact BK153.out) NB153_0.out (by simp)); have n2_ := am (KeepBut.trans zx1' hk (.inl rfl)); have n3_ := am (hb); have n4_ := am (hi); clear HO_5; clear BK153; clear HK; clear HB; clear HI0; have HO_5 := n0_; have BK153 := n1_; have HK := n2_; have HB := n3_; have HI0 := n4_; clear n0_ n1_ n2_ n3_ n4_; (try clear hb); (try clear hb2); (try clear hk); (try clear hi)) | ((with_reducible refine gate_builtin (b := .append) (xs := #[.tmp 14, .tmp 21]) rfl ?_); at_builtin; refine Kd.R_append (Kd.int .i64) w.heap.size rfl (.tmp 14) (.tmp 21) 29 3 (.int .i64 0) 8 rfl Try.underlying29 info3 rfl (by decide) (by omega) u5 x5_1 t155 [.int .i64 t155] (fun _ => True) (fun _ => False) rfl rfl ?aP (fun _ hk => hk.elim) ?aF ?aO (Below.refl _ _) ?aS ?aL ?_; (case aP => exact rfl); (case aF => exact (fun _ _ => trivial)); (case aO => exact zl'); (case aS => exact (keep_size (w := w) (g := g) (row := none) zx1')); (case aL => have := LMc8.out; omega); intro v159 w13 ho hb hg hat; rw [← Ny158.out] at ho; have n0_ := am (IsS96.grown zc2' hg (IsS96.own_ne HI0.out HO_5.out (by decide))); have n1_ := am (blk_grown (g := gb153) (o := o1') (by (with_reducible repeat (first | apply kn | apply kd | apply ka)); exact BK153.out) hg (Kd.R_ne HO_5.out BK153.out (by decide))); have n2_ := am (below_weaken zf2' HL.out hb); have n3_ := am (KeepBut.trans zx1' (KeepBut.of_grown hg g) (Kd.R_base2 HO_5.out)); have n4_ := am (ho); clear HI0; clear BK153; clear HB; clear HK; clear HO_5; have HI0 := n0_; have BK153 := n1_; have HB := n2_; have HK := n3_; have HO160 := n4_; clear n0_ n1_ n2_ n3_ n4_; clear ho hb hg hat))
       go_roundg k1
       case measure => have := HK1.out; omega
       case rel => exact ⟨(y158), (wrap64 (x10_1 + 1)), (t156), (t157), zh', H', ⟨by have := HK1.out; omega⟩, ⟨by (with_reducible repeat (first | apply Kd.R_alloc | apply Kd.R_drewN | apply Kd.R_drew)); exact HO160.out⟩, ⟨zc2'⟩, ⟨zx1'⟩, ⟨zf2'⟩⟩
      ·rw [if_neg c8] at H
       exact absurd H (by simp)
     ·rw [if_neg c5] at H
      exact absurd H (by simp)
    ·rw [if_neg c4] at H
     exact absurd H (by simp)
   ·rw [if_neg c3] at H
    have c3b0 : decide (x10_1 < (l1.length : Int)) = false := decide_eq_false c3; clear c3
    by_cases c14 : (x5_1.length : Int) > 0
    ·rw [if_pos c14] at H
     have c14b0 : decide (0 < (x5_1.length : Int)) = true := decide_eq_true c14; have c14b1 : decide (0 < x5_1.length) = true := decide_eq_true (by omega); clear c14; replace H := Option.bind_eq_some_iff.mp H; obtain ⟨⟨t161, t162, t163⟩, A150, H⟩ := H; replace H : (if t161 = 0 then (if 0 < (l1.length : Int) then ((spec_l1Cur_among.f s0_0 t162 t163 (([(-1), (rd_T63 l1 0).f0, wrap64 (((rd_T63 l1 0).f0) + 1)] : List Int))).bind fun bt169 => (if 0 < (x5_1.length : Int) then (some ((x5_1.set (0 : Int).toNat bt169.1), bt169.2.1, bt169.2.2)) else (none))) else (none)) else (if t161 = 1 then (if x5_1.length < 17592186044416 then (some ((x5_1 ++ [0]), t162, t163)) else (none)) else (some (x5_1, t162, t163)))) = some (r1, r2, r3) := H; have A15 := Aside0.mk A150; clear A150
     by_cases c16 : t161 = 0
     ·rw [if_pos c16] at H
      have c16b0 : (t161 == 0) = true := beq_iff_eq.mpr c16; have c16b1 : (t161 != 0) = false := bne_eq_false_iff_eq.mpr c16; clear c16
      by_cases c17 : 0 < (l1.length : Int)
      ·rw [if_pos c17] at H
       have c17b0 : decide (0 < (l1.length : Int)) = true := decide_eq_true c17; have c17b1 : decide (0 < l1.length) = true := decide_eq_true (by omega); clear c17
       obtain ⟨y166, hy166⟩ : ∃ y_ : List Int, y_ = (([(-1), (rd_T63 l1 0).f0, wrap64 (((rd_T63 l1 0).f0) + 1)] : List Int)) := ⟨_, rfl⟩
       replace H : ((spec_l1Cur_among.f s0_0 t162 t163 y166).bind fun bt169 => (if 0 < (x5_1.length : Int) then (some ((x5_1.set (0 : Int).toNat bt169.1), bt169.2.1, bt169.2.2)) else (none))) = some (r1, r2, r3) := by first | (rw [hy166]; with_reducible exact H) | (have H2_ := (Option.bind_some _ _).symm.trans H; rw [hy166]; with_reducible exact H2_) | (have H2_ := (Option.bind_some _ _).symm.trans H; with_reducible exact H2_) | with_reducible exact H | (rw [hy166]; exact H) | exact H
       have Ny166 := Aside0.mk hy166; clear hy166; replace H := Option.bind_eq_some_iff.mp H; obtain ⟨⟨t169, t170, t171⟩, A180, H⟩ := H; replace H : (if 0 < (x5_1.length : Int) then (some ((x5_1.set (0 : Int).toNat t169), t170, t171)) else (none)) = some (r1, r2, r3) := H; have A18 := Aside0.mk A180; clear A180
       by_cases c19 : 0 < (x5_1.length : Int)
       ·rw [if_pos c19] at H
        have c19b0 : decide (0 < (x5_1.length : Int)) = true := decide_eq_true c19; have c19b1 : decide (0 < x5_1.length) = true := decide_eq_true (by omega); clear c19
        obtain ⟨y172, hy172⟩ : ∃ y_ : List Int, y_ = (x5_1.set (0 : Int).toNat t169) := ⟨_, rfl⟩
        replace H : (some (y172, t170, t171)) = some (r1, r2, r3) := by first | (rw [hy172]; with_reducible exact H) | (have H2_ := (Option.bind_some _ _).symm.trans H; rw [hy172]; with_reducible exact H2_) | (have H2_ := (Option.bind_some _ _).symm.trans H; with_reducible exact H2_) | with_reducible exact H | (rw [hy172]; exact H) | exact H
        have Ny172 := Aside0.mk hy172; clear hy172; simp only [Option.some.injEq, Prod.mk.injEq] at H; obtain ⟨rfl, rfl, rfl⟩ := H; obtain ⟨Ao21, co21, eo21⟩ := Kd.R_slice HO_5.out; subst eo21
        try go_wp2_with (first | ((with_reducible refine gate_callee (f := 84) rfl ?_); refine goesL_ (some 28) rfl rfl Try.func84 (by kernel_rfl) rfl #[.pointer (some ⟨g, 0, none⟩), .int .i64 24] rfl zd' ?_; (with_reducible refine (spec_l1Cur_pick.calls g s0_0 x1001_1 x1002_1 24 t161 t162 t163 w0 _ ?side1 ?side2 A15.out).mono ?_); (case side1 => exact zc'); (case side2 => exact ze'); rintro e w22 ⟨rfl, hi, hb, hk⟩; refine ⟨_, rfl, ?_⟩; have n0_ := am (Kd.R_mono (Kd.R_keep (IsS96.apart (show IsS96 w0 _ g s0_0 x1001_1 x1002_1 from by repeat (first | (with_reducible first | exact HI0.out | apply IsS96.alloc | apply IsS96.drewN | apply IsS96.drew | apply IsS96.set_1 | apply IsS96.set_2) | exact HI0.out)) zl' (by decide)) hk (fun _ h => h.2)) (fun _ h => h.1)); have n1_ := am (KeepBut.trans zb' hk (.inl rfl)); have n2_ := am (hb); have n3_ := am (hi); clear HO_5; clear HK; clear HB; clear HI0; have HO_5 := n0_; have HK := n1_; have HB := n2_; have HI0 := n3_; clear n0_ n1_ n2_ n3_; (try clear hb); (try clear hb2); (try clear hk); (try clear hi)))
        have n0_ := am (Kd.R_drew HO_5.out); have n1_ := am (IsS96.drew HI0.out); have n2_ := am (keep_drew HK.out); have n3_ := am (below_drew1 HB.out); clear HO_5; clear HI0; clear HK; clear HB; have HO_5 := n0_; have HI0 := n1_; have HK := n2_; have HB := n3_; clear n0_ n1_ n2_ n3_; have p164 : 0 ≤ (0 : Int) := (by omega); have q164 : 0 < (l1.length : Int) := odt; obtain ⟨ad164, e164, hx164_0, hx164_1, hx164_2, hx164_3⟩ := at_T63 (Kd.C_foot_now HR1.out HK.out) 0 p164 q164; have hw164_3 := hx164_3; (try rw [show ((0 : Int)).toNat = 0 from rfl] at hw164_3); (try rw [show 0 * 4 = 0 from rfl] at hw164_3); (try rw [Addr.add_zero'] at hw164_3); have hw164_2 := hx164_2; (try rw [show ((0 : Int)).toNat = 0 from rfl] at hw164_2); (try rw [show 0 * 4 = 0 from rfl] at hw164_2); (try rw [Addr.add_zero'] at hw164_2); have hw164_1 := hx164_1; (try rw [show ((0 : Int)).toNat = 0 from rfl] at hw164_1); (try rw [show 0 * 4 = 0 from rfl] at hw164_1); (try rw [Addr.add_zero'] at hw164_1); have hw164_0 := hx164_0; (try rw [show ((0 : Int)).toNat = 0 from rfl] at hw164_0); (try rw [show 0 * 4 = 0 from rfl] at hw164_0); (try rw [Addr.add_zero'] at hw164_0); cases e164; have hne164_3 := (show (⟨ad164.block, ad164.off + 3, none⟩ : Addr).block ≠ g from by first | (rw [add_block]; exact Kd.foot_ne HR1.out (by omega) (by decide)) | (show (Addr.add _ _).block ≠ _; rw [add_block]; exact Kd.foot_ne HR1.out (by omega) (by decide)) | exact Kd.foot_ne HR1.out (by omega) (by decide) | (dsimp only; exact Kd.foot_ne HR1.out (by omega) (by decide)))
        have hlt164_3 := (Kd.foot_lt HR1.out (by omega) (by decide)); have hne164_2 := (show (⟨ad164.block, ad164.off + 2, none⟩ : Addr).block ≠ g from by first | (rw [add_block]; exact Kd.foot_ne HR1.out (by omega) (by decide)) | (show (Addr.add _ _).block ≠ _; rw [add_block]; exact Kd.foot_ne HR1.out (by omega) (by decide)) | exact Kd.foot_ne HR1.out (by omega) (by decide) | (dsimp only; exact Kd.foot_ne HR1.out (by omega) (by decide))); have hlt164_2 := (Kd.foot_lt HR1.out (by omega) (by decide)); have hne164_1 := (show (⟨ad164.block, ad164.off + 1, none⟩ : Addr).block ≠ g from by first | (rw [add_block]; exact Kd.foot_ne HR1.out (by omega) (by decide)) | (show (Addr.add _ _).block ≠ _; rw [add_block]; exact Kd.foot_ne HR1.out (by omega) (by decide)) | exact Kd.foot_ne HR1.out (by omega) (by decide) | (dsimp only; exact Kd.foot_ne HR1.out (by omega) (by decide))); have hlt164_1 := (Kd.foot_lt HR1.out (by omega) (by decide)); have hne164_0 := (show (ad164 : Addr).block ≠ g from by first | (rw [add_block]; exact Kd.foot_ne HR1.out (by omega) (by decide)) | (show (Addr.add _ _).block ≠ _; rw [add_block]; exact Kd.foot_ne HR1.out (by omega) (by decide)) | exact Kd.foot_ne HR1.out (by omega) (by decide) | (dsimp only; exact Kd.foot_ne HR1.out (by omega) (by decide))); have hlt164_0 := (Kd.foot_lt HR1.out (by omega) (by decide)); have qi164 : (0 < l1.length) = True := eq_true (by omega); (try rw [show ((0 : Int)).toNat = 0 from rfl] at hx164_0); (try rw [show 0 * 4 = 0 from rfl] at hx164_0)
        (try rw [Addr.add_zero'] at hx164_0); (try rw [show ((0 : Int)).toNat = 0 from rfl] at hx164_1); (try rw [show 0 * 4 = 0 from rfl] at hx164_1); (try rw [Addr.add_zero'] at hx164_1); (try rw [show ((0 : Int)).toNat = 0 from rfl] at hx164_2); (try rw [show 0 * 4 = 0 from rfl] at hx164_2); (try rw [Addr.add_zero'] at hx164_2); (try rw [show ((0 : Int)).toNat = 0 from rfl] at hx164_3); (try rw [show 0 * 4 = 0 from rfl] at hx164_3); (try rw [Addr.add_zero'] at hx164_3); replace p164 := eq_true p164; replace q164 := eq_true q164; have p165 : 0 ≤ (0 : Int) := (by omega); have q165 : 0 < (l1.length : Int) := odt; obtain ⟨ad165, e165, hx165_0, hx165_1, hx165_2, hx165_3⟩ := at_T63 (Kd.C_foot_now HR1.out HK.out) 0 p165 q165; have hw165_3 := hx165_3; (try rw [show ((0 : Int)).toNat = 0 from rfl] at hw165_3); (try rw [show 0 * 4 = 0 from rfl] at hw165_3); (try rw [Addr.add_zero'] at hw165_3); have hw165_2 := hx165_2; (try rw [show ((0 : Int)).toNat = 0 from rfl] at hw165_2); (try rw [show 0 * 4 = 0 from rfl] at hw165_2); (try rw [Addr.add_zero'] at hw165_2); have hw165_1 := hx165_1; (try rw [show ((0 : Int)).toNat = 0 from rfl] at hw165_1); (try rw [show 0 * 4 = 0 from rfl] at hw165_1); (try rw [Addr.add_zero'] at hw165_1); have hw165_0 := hx165_0; (try rw [show ((0 : Int)).toNat = 0 from rfl] at hw165_0); (try rw [show 0 * 4 = 0 from rfl] at hw165_0); (try rw [Addr.add_zero'] at hw165_0); obtain rfl : ad164 = ad165 := (by injection e165); have hne165_3 := (show (⟨ad164.block, ad164.off + 3, none⟩ : Addr).block ≠ g from by first | (rw [add_block]; exact Kd.foot_ne HR1.out (by omega) (by decide)) | (show (Addr.add _ _).block ≠ _; rw [add_block]; exact Kd.foot_ne HR1.out (by omega) (by decide)) | exact Kd.foot_ne HR1.out (by omega) (by decide) | (dsimp only; exact Kd.foot_ne HR1.out (by omega) (by decide)))
        have hlt165_3 := (Kd.foot_lt HR1.out (by omega) (by decide)); have hne165_2 := (show (⟨ad164.block, ad164.off + 2, none⟩ : Addr).block ≠ g from by first | (rw [add_block]; exact Kd.foot_ne HR1.out (by omega) (by decide)) | (show (Addr.add _ _).block ≠ _; rw [add_block]; exact Kd.foot_ne HR1.out (by omega) (by decide)) | exact Kd.foot_ne HR1.out (by omega) (by decide) | (dsimp only; exact Kd.foot_ne HR1.out (by omega) (by decide))); have hlt165_2 := (Kd.foot_lt HR1.out (by omega) (by decide)); have hne165_1 := (show (⟨ad164.block, ad164.off + 1, none⟩ : Addr).block ≠ g from by first | (rw [add_block]; exact Kd.foot_ne HR1.out (by omega) (by decide)) | (show (Addr.add _ _).block ≠ _; rw [add_block]; exact Kd.foot_ne HR1.out (by omega) (by decide)) | exact Kd.foot_ne HR1.out (by omega) (by decide) | (dsimp only; exact Kd.foot_ne HR1.out (by omega) (by decide))); have hlt165_1 := (Kd.foot_lt HR1.out (by omega) (by decide)); have hne165_0 := (show (ad164 : Addr).block ≠ g from by first | (rw [add_block]; exact Kd.foot_ne HR1.out (by omega) (by decide)) | (show (Addr.add _ _).block ≠ _; rw [add_block]; exact Kd.foot_ne HR1.out (by omega) (by decide)) | exact Kd.foot_ne HR1.out (by omega) (by decide) | (dsimp only; exact Kd.foot_ne HR1.out (by omega) (by decide))); have hlt165_0 := (Kd.foot_lt HR1.out (by omega) (by decide)); have qi165 : (0 < l1.length) = True := eq_true (by omega); (try rw [show ((0 : Int)).toNat = 0 from rfl] at hx165_0); (try rw [show 0 * 4 = 0 from rfl] at hx165_0)
        (try rw [Addr.add_zero'] at hx165_0); (try rw [show ((0 : Int)).toNat = 0 from rfl] at hx165_1); (try rw [show 0 * 4 = 0 from rfl] at hx165_1); (try rw [Addr.add_zero'] at hx165_1); (try rw [show ((0 : Int)).toNat = 0 from rfl] at hx165_2); (try rw [show 0 * 4 = 0 from rfl] at hx165_2); (try rw [Addr.add_zero'] at hx165_2); (try rw [show ((0 : Int)).toNat = 0 from rfl] at hx165_3); (try rw [show 0 * 4 = 0 from rfl] at hx165_3); (try rw [Addr.add_zero'] at hx165_3); replace p165 := eq_true p165; replace q165 := eq_true q165
        refine start_ (n := 15) (S := fun w' => w'.cell? ad164 = some (.int .i64 ((rd_T63 l1 0).f0)) ∧ w'.cell? ⟨ad164.block, ad164.off + 1, none⟩ = some (.int .i64 ((rd_T63 l1 0).f1)) ∧ w'.cell? ⟨ad164.block, ad164.off + 2, none⟩ = some (.int .i64 ((rd_T63 l1 0).f2)) ∧ w'.cell? ⟨ad164.block, ad164.off + 3, none⟩ = some (.int .i64 ((rd_T63 l1 0).f3)) ∧ w'.cell? ad164 = some (.int .i64 ((rd_T63 l1 0).f0)) ∧ w'.cell? ⟨ad164.block, ad164.off + 1, none⟩ = some (.int .i64 ((rd_T63 l1 0).f1)) ∧ w'.cell? ⟨ad164.block, ad164.off + 2, none⟩ = some (.int .i64 ((rd_T63 l1 0).f2)) ∧ w'.cell? ⟨ad164.block, ad164.off + 3, none⟩ = some (.int .i64 ((rd_T63 l1 0).f3))) (ds := [14]) #[Z,Z,Z,Z,Z,Z,Z,Z,Z,Z,Z,Z,Z,Z,Z] (by kernel_rfl) rfl rfl ⟨hx164_0, hx164_1, hx164_2, hx164_3, hx165_0, hx165_1, hx165_2, hx165_3⟩ (fun hHeld => ?_); refine with_tabW spec_l1Cur_partsOf.tab10 spec_l1Cur_partsOf.bits10 (fun HT_ HW_ => ?_)
        generalize w22.drew = w23 at HO_5 HI0 HK HB hx164_0 hx164_1 hx164_2 hx164_3 hx165_0 hx165_1 hx165_2 hx165_3 hHeld ⊢
        refine pure_ (i := 0) (N := some 31) (v := ?_) (a' := ?_) #[Y,Z,Z,Z,Z,Z,Z,Z,Z,Z,Z,Z,Z,Z,Z] rfl rfl (any_of HT_.out (by kernel_rfl)) (fun _ _ _ h => h) (Or.inl ⟨by rfl, ?_⟩) ?_ ?_
        rotate_left
        ·intro w'
         go_simp
         with_reducible rfl
        rotate_left
        ·simp only [Act.put, s1, s2, s3, i64_w, i32_w]
         rfl
        refine pure_ (i := 1) (N := some 32) (v := ?_) (a' := ?_) #[Y,Y,Z,Z,Z,Z,Z,Z,Z,Z,Z,Z,Z,Z,Z] rfl rfl (any_of HT_.out (by kernel_rfl)) (fun _ _ _ h => h) (Or.inl ⟨by rfl, ?_⟩) ?_ ?_
        rotate_left
        ·intro w'
         go_simp
         with_reducible rfl
        rotate_left
        ·simp only [Act.put, s1, s2, s3, i64_w, i32_w]
         rfl
        refine pure_ (i := 2) (N := some 33) (v := ?_) (a' := ?_) #[Y,Y,Y,Z,Z,Z,Z,Z,Z,Z,Z,Z,Z,Z,Z] rfl rfl (any_of HT_.out (by kernel_rfl)) (fun _ _ _ h => h) (Or.inl ⟨by rfl, ?_⟩) ?_ ?_
        rotate_left
        ·intro w'
         go_simp
         with_reducible rfl
        rotate_left
        ·simp only [Act.put, s1, s2, s3, i64_w, i32_w]
         rfl
        refine pure_ (i := 3) (N := some 34) (v := ?_) (a' := ?_) #[Y,Y,Y,Y,Z,Z,Z,Z,Z,Z,Z,Z,Z,Z,Z] rfl rfl (any_of HT_.out (by kernel_rfl)) (fun _ _ _ h => h) (Or.inl ⟨by rfl, ?_⟩) ?_ ?_
        rotate_left
        ·intro w'
         go_simp
         with_reducible rfl
        rotate_left
        ·simp only [Act.put, s1, s2, s3, i64_w, i32_w]
         rfl
        refine pure_ (i := 4) (N := some 35) (v := ?_) (a' := ?_) #[Y,Y,Y,Y,Y,Z,Z,Z,Z,Z,Z,Z,Z,Z,Z] rfl rfl (any_of HT_.out (by kernel_rfl)) (fun _ _ _ h => h) (Or.inl ⟨by rfl, ?_⟩) ?_ ?_
        rotate_left
        ·intro w'
         go_simp
         with_reducible rfl
        rotate_left
        ·simp only [Act.put, s1, s2, s3, i64_w, i32_w]
         rfl
        refine pure_ (i := 6) (N := some 37) (v := ?_) (a' := ?_) #[Y,Y,Y,Y,Y,Z,Y,Z,Z,Z,Z,Z,Z,Z,Z] rfl rfl (any_of HT_.out (by kernel_rfl)) (fun _ _ _ h => h) (Or.inl ⟨by rfl, ?_⟩) ?_ ?_
        rotate_left
        ·intro w'
         go_simp
         with_reducible rfl
        rotate_left
        ·simp only [Act.put, s1, s2, s3, i64_w, i32_w]
         rfl
        refine pure_ (i := 7) (N := some 38) (v := ?_) (a' := ?_) #[Y,Y,Y,Y,Y,Z,Y,Y,Z,Z,Z,Z,Z,Z,Z] rfl rfl (any_of HT_.out (by kernel_rfl)) (fun _ _ _ h => h) (Or.inl ⟨by rfl, ?_⟩) ?_ ?_
        rotate_left
        ·intro w'
         go_simp
         with_reducible rfl
        rotate_left
        ·simp only [Act.put, s1, s2, s3, i64_w, i32_w]
         rfl
        refine pure_ (i := 8) (N := some 39) (v := ?_) (a' := ?_) #[Y,Y,Y,Y,Y,Z,Y,Y,Y,Z,Z,Z,Z,Z,Z] rfl rfl (any_of HT_.out (by kernel_rfl)) (fun _ _ _ h => h) (Or.inl ⟨by rfl, ?_⟩) ?_ ?_
        rotate_left
        ·intro w'
         go_simp
         with_reducible rfl
        rotate_left
        ·simp only [Act.put, s1, s2, s3, i64_w, i32_w]
         rfl
        refine take_ (i := 5) (N := some 36) (v := ?_) (a' := ?_) #[Y,Y,Y,Y,Y,Y,Y,Y,Y,Z,Z,Z,Z,Z,Z] rfl rfl (take_ofW HT_.out HW_.out (by kernel_rfl)) (fun _ _ _ h => h) (Or.inl ⟨by rfl, ?_⟩) hHeld ?_ ?_
        rotate_left
        ·rintro w' ⟨s0, s1, s2, s3, s4, s5, s6, s7⟩
         go_simp
         with_reducible rfl
        rotate_left
        ·simp only [Act.put, s1, s2, s3, i64_w, i32_w]
         rfl
        refine take_ (i := 9) (N := some 40) (v := ?_) (a' := ?_) #[Y,Y,Y,Y,Y,Y,Y,Y,Y,Y,Z,Z,Z,Z,Z] rfl rfl (take_ofW HT_.out HW_.out (by kernel_rfl)) (fun _ _ _ h => h) (Or.inl ⟨by rfl, ?_⟩) hHeld ?_ ?_
        rotate_left
        ·rintro w' ⟨s0, s1, s2, s3, s4, s5, s6, s7⟩
         go_simp
         with_reducible rfl
        rotate_left
        ·simp only [Act.put, s1, s2, s3, i64_w, i32_w]
         rfl
        refine pure_ (i := 10) (N := some 41) (v := ?_) (a' := ?_) #[Y,Y,Y,Y,Y,Y,Y,Y,Y,Y,Y,Z,Z,Z,Z] rfl rfl (any_of HT_.out (by kernel_rfl)) (fun _ _ _ h => h) (Or.inl ⟨by rfl, ?_⟩) ?_ ?_
        rotate_left
        ·intro w'
         go_simp
         with_reducible rfl
        rotate_left
        ·simp only [Act.put, s1, s2, s3, i64_w, i32_w]
         rfl
        refine one_ (i := 11) (N := some 42) #[Y,Y,Y,Y,Y,Y,Y,Y,Y,Y,Y,Y,Z,Z,Z] rfl rfl (one_of HT_.out (by kernel_rfl)) (by decide) (fun K hK => ?_)
        refine Kd.R_lit_step (Kd.int .i64) _ 3 ?hg (N := 42) ?hd (xs := ([(-1), (rd_T63 l1 0).f0, wrap64 (((rd_T63 l1 0).f0) + 1)] : List Int)) (inner := [.int .i64 (-1), .int .i64 ((rd_T63 l1 0).f0), .int .i64 (wrap64 (((rd_T63 l1 0).f0) + 1))]) (ok := fun _ => True) (okp := fun _ => True) ?hr ?hp (fun _ hk => hk) trivial (Below.refl _ _) (Nat.le_refl _) (by simp) ?_; (case hd => rfl); (case hg => rfl); (case hr => exact zv'); (case hp => exact (Reps.one (show Kd.M (Kd.int .i64) _ _ _ (-1) [.int .i64 (-1)] from rfl) (Reps.one (show Kd.M (Kd.int .i64) _ _ _ ((rd_T63 l1 0).f0) [.int .i64 ((rd_T63 l1 0).f0)] from rfl) (Reps.one (show Kd.M (Kd.int .i64) _ _ _ (wrap64 (((rd_T63 l1 0).f0) + 1)) [.int .i64 (wrap64 (((rd_T63 l1 0).f0) + 1))] from rfl) (Reps.none _ _)))))
        intro v167 w24 ho25 hb hg_ hnew_
        have HS0_ := (hb.cell (World.block_lt_of_cell? _ _ (hHeld.1))).trans (hHeld.1); have HS1_ := (hb.cell (World.block_lt_of_cell? _ _ (hHeld.2.1))).trans (hHeld.2.1); have HS2_ := (hb.cell (World.block_lt_of_cell? _ _ (hHeld.2.2.1))).trans (hHeld.2.2.1); have HS3_ := (hb.cell (World.block_lt_of_cell? _ _ (hHeld.2.2.2.1))).trans (hHeld.2.2.2.1); have HS4_ := (hb.cell (World.block_lt_of_cell? _ _ (hHeld.2.2.2.2.1))).trans (hHeld.2.2.2.2.1); have HS5_ := (hb.cell (World.block_lt_of_cell? _ _ (hHeld.2.2.2.2.2.1))).trans (hHeld.2.2.2.2.2.1); have HS6_ := (hb.cell (World.block_lt_of_cell? _ _ (hHeld.2.2.2.2.2.2.1))).trans (hHeld.2.2.2.2.2.2.1); have HS7_ := (hb.cell (World.block_lt_of_cell? _ _ (hHeld.2.2.2.2.2.2.2))).trans (hHeld.2.2.2.2.2.2.2); clear hg_ hnew_
        (first | rw [← Ny166.out] at ho25 | (simp only [Int.reduceToNat] at ho25; rw [← Ny166.out] at ho25))
        have n0_ := am (Kd.R_elder' zl' (Kd.R_base ho25) hb); have n1_ := am (Kd.R_lower (Kd.R_new' ho25 (Kd.R_lt zl')) (keep_size (w := w) (g := g) (row := none) zb')); have n2_ := am (IsS96.below zc' hb); have n3_ := am (KeepBut.trans zb' (KeepBut.of_below hb g none) (.inl rfl)); have n4_ := am (below_step ze' hb); clear HO_5; clear HI0; clear HK; clear HB; have HO_5 := n0_; have HO168 := n1_; have HI0 := n2_; have HK := n3_; have HB := n4_; clear n0_ n1_ n2_ n3_ n4_; clear hb ho25; obtain ⟨Ao26, co26, eo26⟩ := Kd.R_slice HO168.out
        (first | subst eo26 | (injection eo26 with f1_ f2_ f3_; have f4_ := f1_.symm; have f5_ := f3_.symm; clear f1_ f2_ f3_; subst f4_; subst f5_))
        refine hK.out _ _ ⟨HS0_, HS1_, HS2_, HS3_, HS4_, HS5_, HS6_, HS7_⟩ (fun hHeld => ?_)
        clear hK K
        refine norm_ (a' := ?_) ?_ ?_
        rotate_left
        ·show Act.put _ (some 42) _ = _
         simp only [Act.put, s1, s2, s3, i64_w, i32_w]
         rfl
        refine one_ (i := 12) (N := some 43) #[Y,Y,Y,Y,Y,Y,Y,Y,Y,Y,Y,Y,Y,Z,Z] rfl rfl (one_of HT_.out (by kernel_rfl)) (by decide) (fun K hK => ?_)
        refine goes_ Try.func82 (by kernel_rfl) rfl #[.pointer (some ⟨g, 0, none⟩), .slice Ao26 y166.length co26] (by rfl) rfl rfl zd' ?_
        with_reducible refine (spec_l1Cur_among.calls g s0_0 t162 t163 _ _ y166 t169 t170 t171 w0 _ ?side1 ?side2 ?side3 ?side4 ?side5 A18.out).mono ?_
        (case side1 => exact zc')
        (case side2 => exact ze')
        (case side3 => repeat (first | exact (Kd.R_reads' HO168.out).2.2 | (with_reducible refine Kd.C_alloc ?_ _) | (with_reducible refine Kd.C_drewN ?_ _) | (with_reducible refine Kd.C_drew ?_)))
        (case side4 => exact (Kd.R_reads' HO168.out).2.1)
        (case side5 => exact far_slice (IsS96.own_ne HI0.out HO168.out (by decide)))
        rintro e w27 ⟨rfl, hi, hb, hk⟩
        have HS0_ := keep_cell hk (hHeld.1) (by first | (rw [add_block]; exact hne164_0) | (show (Addr.add _ _).block ≠ _; rw [add_block]; exact hne164_0) | exact hne164_0); have HS1_ := keep_cell hk (hHeld.2.1) (by first | (rw [add_block]; exact hne164_1) | (show (Addr.add _ _).block ≠ _; rw [add_block]; exact hne164_1) | exact hne164_1); have HS2_ := keep_cell hk (hHeld.2.2.1) (by first | (rw [add_block]; exact hne164_2) | (show (Addr.add _ _).block ≠ _; rw [add_block]; exact hne164_2) | exact hne164_2); have HS3_ := keep_cell hk (hHeld.2.2.2.1) (by first | (rw [add_block]; exact hne164_3) | (show (Addr.add _ _).block ≠ _; rw [add_block]; exact hne164_3) | exact hne164_3); have HS4_ := keep_cell hk (hHeld.2.2.2.2.1) (by first | (rw [add_block]; exact hne165_0) | (show (Addr.add _ _).block ≠ _; rw [add_block]; exact hne165_0) | exact hne165_0); have HS5_ := keep_cell hk (hHeld.2.2.2.2.2.1) (by first | (rw [add_block]; exact hne165_1) | (show (Addr.add _ _).block ≠ _; rw [add_block]; exact hne165_1) | exact hne165_1); have HS6_ := keep_cell hk (hHeld.2.2.2.2.2.2.1) (by first | (rw [add_block]; exact hne165_2) | (show (Addr.add _ _).block ≠ _; rw [add_block]; exact hne165_2) | exact hne165_2); have HS7_ := keep_cell hk (hHeld.2.2.2.2.2.2.2) (by first | (rw [add_block]; exact hne165_3) | (show (Addr.add _ _).block ≠ _; rw [add_block]; exact hne165_3) | exact hne165_3)
        refine ⟨_, rfl, ?_⟩
        have n0_ := am (Kd.R_mono (Kd.R_keep (IsS96.apart (show IsS96 w0 _ g s0_0 t162 t163 from by repeat (first | (with_reducible first | exact HI0.out | apply IsS96.alloc | apply IsS96.drewN | apply IsS96.drew | apply IsS96.set_1 | apply IsS96.set_2) | exact HI0.out)) zl' (by decide)) hk (fun _ h => h.2)) (fun _ h => h.1)); have n1_ := am (Kd.R_mono (Kd.R_keep (IsS96.apart (show IsS96 w0 _ g s0_0 t162 t163 from by repeat (first | (with_reducible first | exact HI0.out | apply IsS96.alloc | apply IsS96.drewN | apply IsS96.drew | apply IsS96.set_1 | apply IsS96.set_2) | exact HI0.out)) (by (with_reducible repeat (first | apply Kd.R_alloc | apply Kd.R_drewN | apply Kd.R_drew)); exact HO168.out) (by decide)) hk (fun _ h => h.2)) (fun _ h => h.1)); have n2_ := am (KeepBut.trans zb' hk (.inl rfl)); have n3_ := am (hb); have n4_ := am (hi); clear HO_5; clear HO168; clear HK; clear HB; clear HI0; have HO_5 := n0_; have HO168 := n1_; have HK := n2_; have HB := n3_; have HI0 := n4_; clear n0_ n1_ n2_ n3_ n4_; (try clear hb); (try clear hb2); (try clear hk); (try clear hi); have p20 : 0 ≤ (0 : Int) := (by omega); have q20 : (0 : Int) < ((x5_1.length : Int) : Int) := odt; have qi20 : (0 < x5_1.length) = True := eq_true (by omega); obtain ⟨go20, co20, eo20, gb20, gl20, cl20, HG20⟩ := Kd.R_form HO_5.out (by omega)
        (first | cases eo20 | (injection eo20 with ea_ en_ ec_; (first | subst ea_ | (injection ea_ with ea_; subst ea_)); subst ec_; clear en_))
        have GB20 := Aside0.mk gb20; have GG20 := Aside0.mk HG20; clear gb20 gl20 HG20; obtain ⟨hx20_0, hf20_0⟩ := Kd.R_celln 0 HO_5.out (0 : Int) p20 q20; (try rw [show ((0 : Int)).toNat = 0 from rfl] at hx20_0); (try simp only [Nat.reduceMul, Nat.zero_mul, Nat.zero_add, Nat.reduceAdd] at hx20_0); (try rw [show ((0 : Int)).toNat = 0 from rfl] at hf20_0); (try simp only [Nat.reduceMul, Nat.zero_mul, Nat.zero_add, Nat.reduceAdd] at hf20_0); replace p20 := eq_true p20; replace q20 := eq_true q20; have HN0_go20 := am (show g ≠ go20 from by have h_ := IsS96.own_ne HI0.out HO_5.out (by decide); intro e_; exact h_ (by rw [e_]; rfl)); have HP28 := Kd.R_putn HO_5.out (0 : Int) t169; rw [← Ny172.out] at HP28; have HQ28 := Aside0.mk HP28; clear HP28
        refine hK.out _ _ ⟨HS0_, HS1_, HS2_, HS3_, HS4_, HS5_, HS6_, HS7_⟩ (fun hHeld => ?_)
        clear hK K
        refine norm_ (a' := ?_) ?_ ?_
        rotate_left
        ·show Act.put _ (some 43) _ = _
         simp only [Act.put, s1, s2, s3, i64_w, i32_w]
         rfl
        refine pure_ (i := 13) (N := some 44) (v := ?_) (a' := ?_) #[Y,Y,Y,Y,Y,Y,Y,Y,Y,Y,Y,Y,Y,Y,Z] rfl rfl (any_of HT_.out (by kernel_rfl)) (fun _ _ _ h => h) (Or.inl ⟨by rfl, ?_⟩) ?_ ?_
        rotate_left
        ·intro w'
         go_simp
         with_reducible rfl
        rotate_left
        ·simp only [Act.put, s1, s2, s3, i64_w, i32_w]
         rfl
        refine last_ (i := 14) (N := none) #[Y,Y,Y,Y,Y,Y,Y,Y,Y,Y,Y,Y,Y,Y,Y] rfl rfl (one_of HT_.out (by kernel_rfl)) (by decide) (fun K hK => ?_)
        refine skip_ (w1 := ?_) (by rfl) rfl ?_ ?_
        rotate_left
        ·go_simp
         rfl
        refine hK.out _ _ ?_
        clear hK K
        refine done_ (done_of HT_.out (by kernel_rfl)) ?_
        try go_wp2
        go_ret
        exact ⟨_, by first | rfl | (simp [errW_none, errW_some] <;> rfl) | (simp [*, errW_none, errW_some] <;> rfl), by (with_reducible repeat (first | apply Kd.R_alloc | apply Kd.R_drewN | apply Kd.R_drew)); exact Kd.R_mono HQ28.out (fun _ hk => trivial), by repeat (first | (with_reducible first | exact HI0.out | apply IsS96.alloc | apply IsS96.drewN | apply IsS96.drew | apply IsS96.set_1 | apply IsS96.set_2 | refine IsS96.far ?_ HN0_go20.out _) | exact HI0.out), by repeat (first | (with_reducible first | exact HB.out | apply ba | apply bn | apply below_drew1 | refine below_set ?_ (Nat.le_trans HL.out GB20.out) | refine below_set ?_ (IsS96.ge HI0.out)) | exact HB.out), by repeat (first | (with_reducible first | exact HK.out | apply KeepBut.set_ | apply keep_drewN | apply keep_drew | apply keep_alloc | refine keep_far ?_ GB20.out _) | exact HK.out)⟩
       ·rw [if_neg c19] at H
        exact absurd H (by simp)
      ·rw [if_neg c17] at H
       exact absurd H (by simp)
     ·rw [if_neg c16] at H
      have c16b0 : (t161 == 0) = false := beq_eq_false_iff_ne.mpr c16; have c16b1 : (t161 != 0) = true := bne_iff_ne.mpr c16
      by_cases c29 : t161 = 1
      ·rw [if_pos c29] at H
       have c29b0 : (t161 == 1) = true := beq_iff_eq.mpr c29; have c29b1 : (t161 != 1) = false := bne_eq_false_iff_eq.mpr c29; clear c29
       by_cases c30 : x5_1.length < 17592186044416
       ·rw [if_pos c30] at H
        have LMc30 := Aside0.mk c30; clear c30
        obtain ⟨y173, hy173⟩ : ∃ y_ : List Int, y_ = (x5_1 ++ [0]) := ⟨_, rfl⟩
        replace H : (some (y173, t162, t163)) = some (r1, r2, r3) := by first | (rw [hy173]; with_reducible exact H) | (have H2_ := (Option.bind_some _ _).symm.trans H; rw [hy173]; with_reducible exact H2_) | (have H2_ := (Option.bind_some _ _).symm.trans H; with_reducible exact H2_) | with_reducible exact H | (rw [hy173]; exact H) | exact H
        have Ny173 := Aside0.mk hy173; clear hy173; simp only [Option.some.injEq, Prod.mk.injEq] at H; obtain ⟨rfl, rfl, rfl⟩ := H; obtain ⟨Ao31, co31, eo31⟩ := Kd.R_slice HO_5.out; subst eo31
        go_wp2_with (first | ((with_reducible refine gate_callee (f := 84) rfl ?_); refine goesL_ (some 28) rfl rfl Try.func84 (by kernel_rfl) rfl #[.pointer (some ⟨g, 0, none⟩), .int .i64 24] rfl zd' ?_; (with_reducible refine (spec_l1Cur_pick.calls g s0_0 x1001_1 x1002_1 24 t161 t162 t163 w0 _ ?side1 ?side2 A15.out).mono ?_); (case side1 => exact zc'); (case side2 => exact ze'); rintro e w32 ⟨rfl, hi, hb, hk⟩; refine ⟨_, rfl, ?_⟩; have n0_ := am (Kd.R_mono (Kd.R_keep (IsS96.apart (show IsS96 w0 _ g s0_0 x1001_1 x1002_1 from by repeat (first | (with_reducible first | exact HI0.out | apply IsS96.alloc | apply IsS96.drewN | apply IsS96.drew | apply IsS96.set_1 | apply IsS96.set_2) | exact HI0.out)) zl' (by decide)) hk (fun _ h => h.2)) (fun _ h => h.1)); have n1_ := am (KeepBut.trans zb' hk (.inl rfl)); have n2_ := am (hb); have n3_ := am (hi); clear HO_5; clear HK; clear HB; clear HI0; have HO_5 := n0_; have HK := n1_; have HB := n2_; have HI0 := n3_; clear n0_ n1_ n2_ n3_; (try clear hb); (try clear hb2); (try clear hk); (try clear hi)) | ((with_reducible refine gate_builtin (b := .append) (xs := #[.tmp 47, .tmp 48]) rfl ?_); at_builtin; refine Kd.R_append (Kd.int .i64) w.heap.size rfl (.tmp 47) (.tmp 48) 29 3 (.int .i64 0) 8 rfl Try.underlying29 info3 rfl (by decide) (by omega) (.slice Ao31 x5_1.length co31) x5_1 0 [.int .i64 0] (fun _ => True) (fun _ => False) rfl rfl ?aP (fun _ hk => hk.elim) ?aF ?aO (Below.refl _ _) ?aS ?aL ?_; (case aP => exact rfl); (case aF => exact (fun _ _ => trivial)); (case aO => exact zl'); (case aS => exact (keep_size (w := w) (g := g) (row := none) zb')); (case aL => have := LMc30.out; omega); intro v174 w33 ho hb hg hat; rw [← Ny173.out] at ho; have n0_ := am (IsS96.grown zc' hg (IsS96.own_ne HI0.out HO_5.out (by decide))); have n1_ := am (below_weaken ze' HL.out hb); have n2_ := am (KeepBut.trans zb' (KeepBut.of_grown hg g) (Kd.R_base2 HO_5.out)); have n3_ := am (ho); clear HI0; clear HB; clear HK; clear HO_5; have HI0 := n0_; have HB := n1_; have HK := n2_; have HO175 := n3_; clear n0_ n1_ n2_ n3_; clear ho hb hg hat))
        go_ret
        exact ⟨_, by first | rfl | (simp [errW_none, errW_some] <;> rfl) | (simp [*, errW_none, errW_some] <;> rfl), by (with_reducible repeat (first | apply Kd.R_alloc | apply Kd.R_drewN | apply Kd.R_drew)); exact HO175.out, by repeat (first | (with_reducible first | exact HI0.out | apply IsS96.alloc | apply IsS96.drewN | apply IsS96.drew | apply IsS96.set_1 | apply IsS96.set_2) | exact HI0.out), by repeat (first | (with_reducible first | exact HB.out | apply ba | apply bn | apply below_drew1 | refine below_set ?_ (IsS96.ge HI0.out)) | exact HB.out), by repeat (first | (with_reducible first | exact HK.out | apply KeepBut.set_ | apply keep_drewN | apply keep_drew | apply keep_alloc) | exact HK.out)⟩
       ·rw [if_neg c30] at H
        exact absurd H (by simp)
      ·rw [if_neg c29] at H
       have c29b0 : (t161 == 1) = false := beq_eq_false_iff_ne.mpr c29; have c29b1 : (t161 != 1) = true := bne_iff_ne.mpr c29; simp only [Option.some.injEq, Prod.mk.injEq] at H; obtain ⟨rfl, rfl, rfl⟩ := H; obtain ⟨Ao34, co34, eo34⟩ := Kd.R_slice HO_5.out; subst eo34
       go_wp2_with (first | ((with_reducible refine gate_callee (f := 84) rfl ?_); refine goesL_ (some 28) rfl rfl Try.func84 (by kernel_rfl) rfl #[.pointer (some ⟨g, 0, none⟩), .int .i64 24] rfl zd' ?_; (with_reducible refine (spec_l1Cur_pick.calls g s0_0 x1001_1 x1002_1 24 t161 t162 t163 w0 _ ?side1 ?side2 A15.out).mono ?_); (case side1 => exact zc'); (case side2 => exact ze'); rintro e w35 ⟨rfl, hi, hb, hk⟩; refine ⟨_, rfl, ?_⟩; have n0_ := am (Kd.R_mono (Kd.R_keep (IsS96.apart (show IsS96 w0 _ g s0_0 x1001_1 x1002_1 from by repeat (first | (with_reducible first | exact HI0.out | apply IsS96.alloc | apply IsS96.drewN | apply IsS96.drew | apply IsS96.set_1 | apply IsS96.set_2) | exact HI0.out)) zl' (by decide)) hk (fun _ h => h.2)) (fun _ h => h.1)); have n1_ := am (KeepBut.trans zb' hk (.inl rfl)); have n2_ := am (hb); have n3_ := am (hi); clear HO_5; clear HK; clear HB; clear HI0; have HO_5 := n0_; have HK := n1_; have HB := n2_; have HI0 := n3_; clear n0_ n1_ n2_ n3_; (try clear hb); (try clear hb2); (try clear hk); (try clear hi)))
       go_ret
       exact ⟨_, by first | rfl | (simp [errW_none, errW_some] <;> rfl) | (simp [*, errW_none, errW_some] <;> rfl), by (with_reducible repeat (first | apply Kd.R_alloc | apply Kd.R_drewN | apply Kd.R_drew)); exact HO_5.out, by repeat (first | (with_reducible first | exact HI0.out | apply IsS96.alloc | apply IsS96.drewN | apply IsS96.drew | apply IsS96.set_1 | apply IsS96.set_2) | exact HI0.out), by repeat (first | (with_reducible first | exact HB.out | apply ba | apply bn | apply below_drew1 | refine below_set ?_ (IsS96.ge HI0.out)) | exact HB.out), by repeat (first | (with_reducible first | exact HK.out | apply KeepBut.set_ | apply keep_drewN | apply keep_drew | apply keep_alloc) | exact HK.out)⟩
    ·rw [if_neg c14] at H
     have c14b0 : decide (0 < (x5_1.length : Int)) = false := decide_eq_false c14; have c14b1 : decide (0 < x5_1.length) = false := decide_eq_false (by omega); clear c14; simp only [Option.some.injEq, Prod.mk.injEq] at H; obtain ⟨rfl, rfl, rfl⟩ := H; obtain ⟨Ao36, co36, eo36⟩ := Kd.R_slice HO_5.out; subst eo36
     go_wp2
     go_ret
     exact ⟨_, by first | rfl | (simp [errW_none, errW_some] <;> rfl) | (simp [*, errW_none, errW_some] <;> rfl), by (with_reducible repeat (first | apply Kd.R_alloc | apply Kd.R_drewN | apply Kd.R_drew)); exact HO_5.out, by repeat (first | (with_reducible first | exact HI0.out | apply IsS96.alloc | apply IsS96.drewN | apply IsS96.drew | apply IsS96.set_1 | apply IsS96.set_2) | exact HI0.out), by repeat (first | (with_reducible first | exact HB.out | apply ba | apply bn | apply below_drew1 | refine below_set ?_ (IsS96.ge HI0.out)) | exact HB.out), by repeat (first | (with_reducible first | exact HK.out | apply KeepBut.set_ | apply keep_drewN | apply keep_drew | apply keep_alloc) | exact HK.out)⟩

/-! ### spec_DrawBlendSums: function 65 -/
def spec_DrawBlendSums.q (k : Nat) (s0_0 : List Int) (s0_1 : Int) (s0_2 : Int) : Option ((List (S63)) × List Int × Int × Int) := (spec_l1Cur_bins.f k s0_0 s0_1 s0_2).bind fun bt176 => ((spec_l1Cur_partsOf.f k s0_0 bt176.2.1 bt176.2.2 bt176.1).bind fun bt181 => (some (bt176.1, bt181.1, bt181.2.1, bt181.2.2)))
def spec_DrawBlendSums.f (k : Nat) (l0 : List Int) : Option ((List (S63)) × List Int) := (spec_DrawBlendSums.q k l0 0 0).bind fun q => some (q.1, q.2.1)
set_option maxHeartbeats 8000000 in
set_option maxRecDepth 100000 in
theorem spec_DrawBlendSums.calls (k : Nat) (A0 : Option Addr) (c0 : Nat) (l0 : List Int) (z1 : List (S63)) (z2 : List Int) (w0 : World) (hr0 : Kd.C (Kd.int .u8) w0 A0 l0.length l0) (hc0 : l0.length ≤ c0) (h : spec_DrawBlendSums.f k l0 = some (z1, z2)) :
  Calls Try.prog 65 #[.slice A0 l0.length c0] w0 fun e w' => ∃ v0_ v1_ : Value, e = .returned (.tuple #[v0_, v1_]) ∧ Kd.R k63 63 w' w0.heap.size (fun _ => True) v0_ z1 ∧ Kd.R (Kd.int .i64) 3 w' w0.heap.size (fun _ => True) v1_ z2 ∧ Below w0.heap.size w0 w' := by
 suffices H_ : Calls Try.prog 65 #[.slice A0 l0.length c0] w0 fun e w' => ∃ b_ : Nat, w0.heap.size ≤ b_ ∧ ∃ v0_ v1_ : Value, e = .returned (.tuple #[v0_, v1_]) ∧ Kd.R k63 63 w' b_ (fun _ => True) v0_ z1 ∧ Kd.R (Kd.int .i64) 3 w' b_ (fun _ => True) v1_ z2 ∧ Below w0.heap.size w0 w' from H_.mono (fun e w' h_ => by
  obtain ⟨b_, hb_, v0_, v1_, he, ho0, ho1, hbel⟩ := h_
  exact ⟨v0_, v1_, he, Kd.R_lower ho0 hb_, Kd.R_lower ho1 hb_, hbel⟩)
 obtain ⟨⟨r1, r2, r3, r4⟩, hq, hs⟩ := Option.bind_eq_some_iff.1 h
 simp only [Option.some.injEq, Prod.mk.injEq] at hs
 obtain ⟨rfl, rfl⟩ := hs
 have HR_ := Aside0.mk hr0
 have Hq_ := am hq
 clear hr0 hc0 hq h
 go_enter Try.func65, Try.ntmps65
 go_upto_region 2 with (first | ((with_reducible refine gate_dst (N := 8) rfl ?_); refine box_event ?hg (N := 8) ?hd (cs := #[.slice A0 l0.length c0, .int .i64 0, .int .u64 0]) (t := 96) ?hr ?_; (case hd => rfl); (case hg => rfl); (case hr => exact zv'); intro g hg w hbox hb; have BX_ := Aside0.mk hbox; have HG_ := Aside0.mk hg; have HB_ := Aside0.mk hb; clear hg hbox hb))
 have hI : IsS96 w0 w g l0 0 0 := ⟨A0, c0, BX_.out, Nat.le_of_eq HG_.out.symm, HR_.out⟩
 have hB : Below w0.heap.size w0 w := HB_.out
 have h := Hq_.out
 clear BX_ HG_ HB_ Hq_ HR_
 have HI0 := Aside0.mk hI
 have HK := am (KeepBut.refl w g none)
 have HL := Aside0.mk hB.size
 clear hI
 have HW0 := Aside0.mk hB.size
 have HB := Aside0.mk hB
 clear hB
 have H : ((spec_l1Cur_bins.f k l0 0 0).bind fun bt176 => ((spec_l1Cur_partsOf.f k l0 bt176.2.1 bt176.2.2 bt176.1).bind fun bt181 => (some (bt176.1, bt181.1, bt181.2.1, bt181.2.2)))) = some (r1, r2, r3, r4) := h
 clear h
 replace H := Option.bind_eq_some_iff.mp H
 obtain ⟨⟨t176, t179, t180⟩, A20, H⟩ := H
 replace H : ((spec_l1Cur_partsOf.f k l0 t179 t180 t176).bind fun bt181 => (some (t176, bt181.1, bt181.2.1, bt181.2.2))) = some (r1, r2, r3, r4) := H
 have A2 := Aside0.mk A20
 clear A20
 replace H := Option.bind_eq_some_iff.mp H
 obtain ⟨⟨t181, t184, t185⟩, A30, H⟩ := H
 replace H : (some (t176, t181, t184, t185)) = some (r1, r2, r3, r4) := H
 have A3 := Aside0.mk A30
 clear A30
 simp only [Option.some.injEq, Prod.mk.injEq] at H
 obtain ⟨rfl, rfl, rfl, rfl⟩ := H
 go_wp2_with (first | ((with_reducible refine gate_callee (f := 73) rfl ?_); refine goesL_ (some 10) rfl rfl Try.func73 (by kernel_rfl) rfl #[.pointer (some ⟨g, 0, none⟩)] rfl zd' ?_; (with_reducible refine (spec_l1Cur_bins.calls k g l0 0 0 t176 t179 t180 w0 _ ?side1 ?side2 A2.out).mono ?_); (case side1 => exact zc'); (case side2 => exact ze'); rintro e w4 ⟨v177, rfl, ho0, hi, hb, hk⟩; refine ⟨_, rfl, ?_⟩; have n0_ := am (Kd.R_lower ho0 (keep_size (w := w) (g := g) (row := none) zb')); have n1_ := am (KeepBut.trans zb' hk (.inl rfl)); have n2_ := am (hb); have n3_ := am (hi); clear HK; clear HB; clear HI0; have HO178 := n0_; have HK := n1_; have HB := n2_; have HI0 := n3_; clear n0_ n1_ n2_ n3_; (try clear hb); (try clear hb2); (try clear hk); (try clear hi); (try clear ho0); obtain ⟨Ao5, co5, eo5⟩ := Kd.R_slice HO178.out; subst eo5) | ((with_reducible refine gate_callee (f := 75) rfl ?_); refine goesL_ (some 14) rfl rfl Try.func75 (by kernel_rfl) rfl #[.pointer (some ⟨g, 0, none⟩), .slice Ao5 t176.length co5] rfl zd' ?_; (with_reducible refine (spec_l1Cur_partsOf.calls k g l0 t179 t180 _ _ t176 t181 t184 t185 w0 _ ?side1 ?side2 ?side3 ?side4 A3.out).mono ?_); (case side1 => exact zc'); (case side2 => exact ze'); (case side3 => exact Kd.C_foot_own (IsS96.apart (show IsS96 w0 _ g l0 t179 t180 from by repeat (first | (with_reducible first | exact HI0.out | apply IsS96.alloc | apply IsS96.drewN | apply IsS96.drew | apply IsS96.set_1 | apply IsS96.set_2) | exact HI0.out)) (by (with_reducible repeat (first | apply Kd.R_alloc | apply Kd.R_drewN | apply Kd.R_drew)); exact HO178.out) (by decide)) (fun _ h_ => h_.2)); (case side4 => exact (Kd.R_reads' HO178.out).2.1); rintro e w6 ⟨v182, rfl, ho0, hi, hb, hk⟩; refine ⟨_, rfl, ?_⟩; have n0_ := am (Kd.R_mono (Kd.R_keep (IsS96.apart (show IsS96 w0 _ g l0 t179 t180 from by repeat (first | (with_reducible first | exact HI0.out | apply IsS96.alloc | apply IsS96.drewN | apply IsS96.drew | apply IsS96.set_1 | apply IsS96.set_2) | exact HI0.out)) (by (with_reducible repeat (first | apply Kd.R_alloc | apply Kd.R_drewN | apply Kd.R_drew)); exact HO178.out) (by decide)) hk (fun _ h => h.2)) (fun _ h => h.1)); have n1_ := am (Kd.R_lower ho0 (keep_size (w := w) (g := g) (row := none) zb')); have n2_ := am (KeepBut.trans zb' hk (.inl rfl)); have n3_ := am (hb); have n4_ := am (hi); clear HO178; clear HK; clear HB; clear HI0; have HO178 := n0_; have HO183 := n1_; have HK := n2_; have HB := n3_; have HI0 := n4_; clear n0_ n1_ n2_ n3_ n4_; (try clear hb); (try clear hb2); (try clear hk); (try clear hi); (try clear ho0)))
 go_ret2
 exact ⟨w.heap.size, HL.out, _, _, by first | rfl | (simp [errW_none, errW_some] <;> rfl) | (simp [*, errW_none, errW_some] <;> rfl), by (with_reducible repeat (first | apply Kd.R_alloc | apply Kd.R_drewN | apply Kd.R_drew)); exact HO178.out, by (with_reducible repeat (first | apply Kd.R_alloc | apply Kd.R_drewN | apply Kd.R_drew)); exact HO183.out, by repeat (first | (with_reducible first | exact HB.out | apply ba | apply bn | apply below_drew1 | refine below_set ?_ (IsS96.ge HI0.out)) | exact HB.out)⟩


/-! ### spec_DrawTakeBlend: function 31 -/
def spec_DrawTakeBlend.f (k : Nat) (l0 : List Int) : Option ((List (S63)) × List Int) := (spec_DrawBlendSums.f k l0).bind fun bt176 => (some (bt176.1, bt176.2))
set_option maxHeartbeats 8000000 in
set_option maxRecDepth 100000 in
theorem spec_DrawTakeBlend.calls (k : Nat) (A0 : Option Addr) (c0 : Nat) (l0 : List Int) (r1 : List (S63)) (r2 : List Int) (w : World) (hr0 : Kd.C (Kd.int .u8) w A0 l0.length l0) (hc0 : l0.length ≤ c0) (h : spec_DrawTakeBlend.f k l0 = some (r1, r2)) :
  Calls Try.prog 31 #[.slice A0 l0.length c0] w fun e w' => ∃ v0_ v1_ : Value, e = .returned (.tuple #[v0_, v1_]) ∧ Kd.R k63 63 w' w.heap.size (fun _ => True) v0_ r1 ∧ Kd.R (Kd.int .i64) 3 w' w.heap.size (fun _ => True) v1_ r2 ∧ Below w.heap.size w w' := by
 have HR0 := Aside0.mk hr0
 have HC0 := Aside0.mk hc0
 clear hr0 hc0
 have HB := am (Below.refl w.heap.size w)
 have H : ((spec_DrawBlendSums.f k l0).bind fun bt176 => (some (bt176.1, bt176.2))) = some (r1, r2) := h
 clear h
 replace H := Option.bind_eq_some_iff.mp H
 obtain ⟨⟨t176, t177⟩, A20, H⟩ := H
 replace H : (some (t176, t177)) = some (r1, r2) := H
 have A2 := Aside0.mk A20
 clear A20
 simp only [Option.some.injEq, Prod.mk.injEq] at H
 obtain ⟨rfl, rfl⟩ := H
 go_enter Try.func31, Try.ntmps31
 go_wp2_with (first | ((with_reducible refine gate_callee (f := 65) rfl ?_); refine goesL_ (some 5) rfl rfl Try.func65 (by kernel_rfl) rfl #[.slice A0 l0.length c0] rfl zd' ?_; (with_reducible refine (spec_DrawBlendSums.calls k _ _ l0 t176 t177 _ ?side1 ?side2 A2.out).mono ?_); (case side1 => exact zj'); (case side2 => exact zl2'); rintro e w3 ⟨v178, v180, rfl, ho0, ho1, hb⟩; refine ⟨_, rfl, ?_⟩; have n0_ := am (Kd.R_lower ho0 (below_size za')); have n1_ := am (Kd.R_lower ho1 (below_size za')); have n2_ := am (below_step za' hb); clear HB; have HO179 := n0_; have HO181 := n1_; have HB := n2_; clear n0_ n1_ n2_; (try clear hb); (try clear hb2); (try clear hk); (try clear hi); (try clear ho0); (try clear ho1)))
 go_ret2
 exact ⟨_, _, by first | rfl | (simp [errW_none, errW_some] <;> rfl) | (simp [*, errW_none, errW_some] <;> rfl), by (with_reducible repeat (first | apply Kd.R_alloc | apply Kd.R_drewN | apply Kd.R_drew)); exact HO179.out, by (with_reducible repeat (first | apply Kd.R_alloc | apply Kd.R_drewN | apply Kd.R_drew)); exact HO181.out, by repeat (first | (with_reducible first | exact HB.out | apply ba | apply bn | apply below_drew1) | exact HB.out)⟩

/-! ### impl_BlendSums: function 32 -/
/-- The sums of the first parts. -/
def sumsTo (l : List S63) (ps : List Int) : Nat → Int × Int × Int × Int
 | 0 => (0, 0, 0, 0)
 | i + 1 => (wrap64 ((sumsTo l ps i).1 + rd ps (i : Int)), wrap64 ((sumsTo l ps i).2.1 + wrap64 (rd ps (i : Int) * (rd_T63 l (i : Int)).f1)), wrap64 ((sumsTo l ps i).2.2.1 + wrap64 (rd ps (i : Int) * (rd_T63 l (i : Int)).f2)), wrap64 ((sumsTo l ps i).2.2.2 + wrap64 (rd ps (i : Int) * (rd_T63 l (i : Int)).f3)))
theorem size_al {W : World} {B : Nat} (o : Obj) (h : W.heap.size = B) : (W.alloc o).heap.size = B + 1 := by subst h; simp
theorem blk_here {W : World} {B : Nat} (o : Obj) (h : W.heap.size = B) : (W.alloc o).heap[B]? = some o := by subst h; exact blk_new W o
structure BsInv (h : Nat) (l : List S63) (ps : List Int) (i : Nat) (W : World) : Prop where
 r : W.heap[h]? = some (.cells #[.int .i64 0, .int .i64 0, .int .i64 0, .int .i64 0] 88 (0, 0))
 o : W.heap[h + 1]? = some (.cells #[.int .i64 (sumsTo l ps i).1, .int .i64 (sumsTo l ps i).2.1, .int .i64 (sumsTo l ps i).2.2.1, .int .i64 (sumsTo l ps i).2.2.2] 88 (0, 0))
set_option maxHeartbeats 8000000 in
set_option maxRecDepth 100000 in
theorem impl_blendSums.callsO (A0 : Option Addr) (c0 : Nat) (l0 : List S63) (A1 : Option Addr) (c1 : Nat) (l1 : List Int) (w : World) (hr0 : Kd.C k63 w A0 l0.length l0) (hc0 : l0.length ≤ c0) (hr1 : Kd.C (Kd.int .i64) w A1 l1.length l1) (hc1 : l1.length ≤ c1) (hle : l1.length ≤ l0.length) :
  Calls Try.prog 66 #[.slice A0 l0.length c0, .slice A1 l1.length c1] w fun e w' => e = .returned (.agg #[.int .i64 (sumsTo l0 l1 l1.length).1, .int .i64 (sumsTo l0 l1 l1.length).2.1, .int .i64 (sumsTo l0 l1 l1.length).2.2.1, .int .i64 (sumsTo l0 l1 l1.length).2.2.2]) ∧ Below w.heap.size w w' := by
 have HR0 := Aside0.mk hr0
 have HC0 := Aside0.mk hc0
 have HR1 := Aside0.mk hr1
 have HC1 := Aside0.mk hc1
 have HLE := Aside0.mk hle
 have hmax := Kd.C_max hr1
 clear hr0 hc0 hr1 hc1 hle
 go_enter Try.func66, Try.ntmps66
 go_wp2
 go_loopg [11] l1.length (fun kq v11 w' => ∃ i : Nat, v11 = .int .i64 (i : Int) ∧ Aside0 (i + kq = l1.length) ∧ Aside0 (BsInv w.heap.size l0 l1 i w') ∧ Aside0 (Below w.heap.size w w'))
 case atStart => exact ⟨0, rfl, ⟨Nat.zero_add _⟩, ⟨⟨blk_alloc (blk_new _ _) _, blk_here _ (size_al _ rfl)⟩⟩, ⟨below_alloc (below_alloc (Below.refl _ _) _) _⟩⟩
 case round =>
  obtain ⟨i, rfl, HK, HI, HB⟩ := hrel
  cases gk with
  | zero =>
   have hk := HK.out; rw [Nat.add_zero] at hk; subst hk; have hz0 : wr.cell? ⟨w.heap.size + 1, 0, none⟩ = some (.int .i64 (sumsTo l0 l1 l1.length).1) := (blk_cell HI.out.o 0).trans rfl; have hz1 : wr.cell? ⟨w.heap.size + 1, 1, none⟩ = some (.int .i64 (sumsTo l0 l1 l1.length).2.1) := (blk_cell HI.out.o 1).trans rfl; have hz2 : wr.cell? ⟨w.heap.size + 1, 2, none⟩ = some (.int .i64 (sumsTo l0 l1 l1.length).2.2.1) := (blk_cell HI.out.o 2).trans rfl; have hz3 : wr.cell? ⟨w.heap.size + 1, 3, none⟩ = some (.int .i64 (sumsTo l0 l1 l1.length).2.2.2) := (blk_cell HI.out.o 3).trans rfl; have hy0 : wr.cell? ⟨w.heap.size, 0, none⟩ = some (.int .i64 0) := (blk_cell HI.out.r 0).trans rfl; have hy1 : wr.cell? ⟨w.heap.size, 1, none⟩ = some (.int .i64 0) := (blk_cell HI.out.r 1).trans rfl; have hy2 : wr.cell? ⟨w.heap.size, 2, none⟩ = some (.int .i64 0) := (blk_cell HI.out.r 2).trans rfl; have hy3 : wr.cell? ⟨w.heap.size, 3, none⟩ = some (.int .i64 0) := (blk_cell HI.out.r 3).trans rfl; have hf0 := blk_frozen HI.out.r 0; have hf1 := blk_frozen HI.out.r 1; have hf2 := blk_frozen HI.out.r 2; have hf3 := blk_frozen HI.out.r 3
   go_wp2
   exact bodyPost_ret (v := .agg #[.int .i64 (sumsTo l0 l1 l1.length).1, .int .i64 (sumsTo l0 l1 l1.length).2.1, .int .i64 (sumsTo l0 l1 l1.length).2.2.1, .int .i64 (sumsTo l0 l1 l1.length).2.2.2]) (by simp [results, Try.results66, go_sem, hf0, hf1, hf2, hf3, hy0, hy1, hy2, hy3]) rfl ⟨rfl, by (with_reducible repeat (first | refine below_drew ?_ | refine pw_below_drewN ?_ _ | refine Below.setCell ?_ (by simp) _)); exact HB.out⟩
  | succ k1 =>
   have hk := HK.out
   have hlt : i < l1.length := by omega
   have hle := HLE.out
   have hlt0 : i < l0.length := by omega
   have hb1 : decide ((i : Int) < (l1.length : Int)) = true := decide_eq_true (by omega); obtain ⟨ad1, e1, hx1⟩ := Kd.at_int (Kd.C_below HR1.out HB.out) (i : Int) (by omega) (by omega); subst e1; obtain ⟨ad0, e0, hy0, hy1, hy2, hy3⟩ := at_T63 (Kd.C_below HR0.out HB.out) (i : Int) (by omega) (by omega); subst e0; rw [Int.toNat_natCast] at hx1 hy0 hy1 hy2 hy3; have hz0 : wr.cell? ⟨w.heap.size + 1, 0, none⟩ = some (.int .i64 (sumsTo l0 l1 i).1) := (blk_cell HI.out.o 0).trans rfl; have hz1 : wr.cell? ⟨w.heap.size + 1, 1, none⟩ = some (.int .i64 (sumsTo l0 l1 i).2.1) := (blk_cell HI.out.o 1).trans rfl; have hz2 : wr.cell? ⟨w.heap.size + 1, 2, none⟩ = some (.int .i64 (sumsTo l0 l1 i).2.2.1) := (blk_cell HI.out.o 2).trans rfl; have hz3 : wr.cell? ⟨w.heap.size + 1, 3, none⟩ = some (.int .i64 (sumsTo l0 l1 i).2.2.2) := (blk_cell HI.out.o 3).trans rfl; have hf0 := blk_frozen HI.out.o 0; have hf1 := blk_frozen HI.out.o 1; have hf2 := blk_frozen HI.out.o 2; have hf3 := blk_frozen HI.out.o 3; clear hk
   go_wp2
   go_region
   go_wp2
   go_region
   go_wp2
   go_region
   go_wp2
   go_roundg k1
   case measure => omega
   case rel => exact ⟨i + 1, by go_num, ⟨by have := HK.out; omega⟩, ⟨⟨by (with_reducible repeat (first | refine blk_drew ?_ | refine blk_drewN ?_ _ | refine blk_far ?_ (by simp) _)); exact HI.out.r, by (with_reducible repeat (first | refine blk_drew ?_ | refine blk_drewN ?_ _)); exact (blk_set (blk_set (blk_set (blk_set HI.out.o 0 _) 1 _) 2 _) 3 _).trans rfl⟩⟩, ⟨by (with_reducible repeat (first | refine below_drew ?_ | refine pw_below_drewN ?_ _ | refine Below.setCell ?_ (by simp) _)); exact HB.out⟩⟩
def impl_BlendSums.f (k : Nat) (l0 : List S63) (l1 : List Int) : Option (Int × Int × Int × Int × Bool) := (impl_AreBins.f k l0).bind fun t1 => if t1 = true then ((impl_areParts.f k l0 l1).bind fun t2 => if t2 = true then (if l1.length ≤ l0.length then some ((sumsTo l0 l1 l1.length).1, (sumsTo l0 l1 l1.length).2.1, (sumsTo l0 l1 l1.length).2.2.1, (sumsTo l0 l1 l1.length).2.2.2, true) else none) else some (0, 0, 0, 0, false)) else some (0, 0, 0, 0, false)
set_option maxHeartbeats 8000000 in
set_option maxRecDepth 100000 in
theorem impl_BlendSums.calls (k : Nat) (A0 : Option Addr) (c0 : Nat) (l0 : List S63) (A1 : Option Addr) (c1 : Nat) (l1 : List Int) (r1 r2 r3 r4 : Int) (r5 : Bool) (w : World) (hr0 : Kd.C k63 w A0 l0.length l0) (hc0 : l0.length ≤ c0) (hr1 : Kd.C (Kd.int .i64) w A1 l1.length l1) (hc1 : l1.length ≤ c1) (h : impl_BlendSums.f k l0 l1 = some (r1, r2, r3, r4, r5)) :
  Calls Try.prog 32 #[.slice A0 l0.length c0, .slice A1 l1.length c1] w fun e w' => e = .returned (.tuple #[.int .i64 r1, .int .i64 r2, .int .i64 r3, .int .i64 r4, .bool r5]) ∧ Below w.heap.size w w' := by
 have HR0 := Aside0.mk hr0
 have HC0 := Aside0.mk hc0
 have HR1 := Aside0.mk hr1
 have HC1 := Aside0.mk hc1
 unfold impl_BlendSums.f at h
 obtain ⟨t, h1, h2⟩ := Option.bind_eq_some_iff.1 h
 have H1 := Aside0.mk h1
 clear hr0 hc0 hr1 hc1 h h1
 cases t with
 | false =>
  simp only [Bool.false_eq_true, if_false, Option.some.injEq, Prod.mk.injEq] at h2
  obtain ⟨rfl, rfl, rfl, rfl, rfl⟩ := h2
  go_enter Try.func32, Try.ntmps32
  go_wp2_with (go_at_call 40; fail)
  refine (impl_AreBins.calls k A0 c0 l0 false _ HR0.out HC0.out H1.out).mono ?_
  rintro e W1 ⟨rfl, hb⟩
  have HB := Aside0.mk hb
  clear hb
  go_wp2
  (try simp only [Exit.inBlock, Exit.then])
  refine bodyPost_ret (results_list (rs := [.tmp 4, .tmp 5, .tmp 6, .tmp 7, .tmp 8]) rfl (by simp) (.tmp (.tmp (.tmp (.tmp (.tmp .nil)))))) rfl ?_
  exact ⟨rfl, HB.out⟩
 | true =>
  simp only [if_true] at h2
  obtain ⟨t2, g1, g2⟩ := Option.bind_eq_some_iff.1 h2
  have G1 := Aside0.mk g1
  clear h2 g1
  go_enter Try.func32, Try.ntmps32
  go_wp2_with (go_at_call 40; fail)
  refine (impl_AreBins.calls k A0 c0 l0 true _ HR0.out HC0.out H1.out).mono ?_
  rintro e W1 ⟨rfl, hb⟩
  have HB := Aside0.mk hb
  clear hb
  go_wp2_with (go_at_call 52; fail)
  refine (impl_areParts.calls k A0 c0 l0 A1 c1 l1 t2 W1 (Kd.C_below HR0.out HB.out) HC0.out (Kd.C_below HR1.out HB.out) HC1.out G1.out).mono ?_
  rintro e W2 ⟨rfl, hd⟩
  have HB2 : Aside0 (Below w.heap.size w W2) := ⟨below_step HB.out (Drawn0.below hd)⟩
  clear hd HB
  cases t2 with
  | false =>
   simp only [Bool.false_eq_true, if_false, Option.some.injEq, Prod.mk.injEq] at g2; obtain ⟨rfl, rfl, rfl, rfl, rfl⟩ := g2
   go_wp2
   (try simp only [Exit.inBlock, Exit.then])
   refine bodyPost_ret (results_list (rs := [.tmp 4, .tmp 5, .tmp 6, .tmp 7, .tmp 8]) rfl (by simp) (.tmp (.tmp (.tmp (.tmp (.tmp .nil)))))) rfl ?_
   exact ⟨rfl, HB2.out⟩
  | true =>
   simp only [if_true] at g2
   by_cases g : l1.length ≤ l0.length
   ·rw [if_pos g] at g2
    obtain ⟨s0, s1, s2, s3, hs⟩ : ∃ s0 s1 s2 s3, sumsTo l0 l1 l1.length = (s0, s1, s2, s3) := ⟨_, _, _, _, rfl⟩
    rw [hs] at g2; simp only [Option.some.injEq, Prod.mk.injEq] at g2; obtain ⟨rfl, rfl, rfl, rfl, rfl⟩ := g2; have hcall := impl_blendSums.callsO A0 c0 l0 A1 c1 l1 W2 (Kd.C_below HR0.out HB2.out) HC0.out (Kd.C_below HR1.out HB2.out) HC1.out g; rw [hs] at hcall; have HCA := Aside0.mk hcall; clear hcall g hs
    go_wp2_with (go_at_call 66; fail)
    refine HCA.out.mono ?_
    rintro e W3 ⟨rfl, hb⟩
    have HE : Aside0 (Below w.heap.size w (W3.alloc (.cells #[.int .i64 s0, .int .i64 s1, .int .i64 s2, .int .i64 s3] 88))) := ⟨(below_step HB2.out hb).alloc (below_step HB2.out hb).size _⟩; clear hb HB2 HCA; have hx0 : (W3.alloc (.cells #[.int .i64 s0, .int .i64 s1, .int .i64 s2, .int .i64 s3] 88)).cell? ⟨W3.heap.size, 0, none⟩ = some (.int .i64 s0) := (blk_cell (blk_new _ _) 0).trans rfl; have hx1 : (W3.alloc (.cells #[.int .i64 s0, .int .i64 s1, .int .i64 s2, .int .i64 s3] 88)).cell? ⟨W3.heap.size, 1, none⟩ = some (.int .i64 s1) := (blk_cell (blk_new _ _) 1).trans rfl; have hx2 : (W3.alloc (.cells #[.int .i64 s0, .int .i64 s1, .int .i64 s2, .int .i64 s3] 88)).cell? ⟨W3.heap.size, 2, none⟩ = some (.int .i64 s2) := (blk_cell (blk_new _ _) 2).trans rfl; have hx3 : (W3.alloc (.cells #[.int .i64 s0, .int .i64 s1, .int .i64 s2, .int .i64 s3] 88)).cell? ⟨W3.heap.size, 3, none⟩ = some (.int .i64 s3) := (blk_cell (blk_new _ _) 3).trans rfl
    go_wp2
    go_region
    go_wp2
    (try simp only [Exit.inBlock, Exit.then])
    refine bodyPost_ret (results_list (rs := [.tmp 4, .tmp 5, .tmp 6, .tmp 7, .tmp 8]) rfl (by simp) (.tmp (.tmp (.tmp (.tmp (.tmp .nil)))))) rfl ?_
    exact ⟨rfl, by (with_reducible repeat (first | refine below_drew ?_ | refine pw_below_drewN ?_ _)); exact HE.out⟩
   ·rw [if_neg g] at g2; cases g2


end Go.Proofs.Ytcinecbfkeefaaa.PFnBins
