/- Text written by a program for this claim: contracts of the functions of one law. -/
import Derived.Test.YtcinecbfkeefaaaPFnBinsx0
import Derived.Test.YtcinecbfkeefaaaPFnBinsx2
import Derived.Test.YtcinecbfkeefaaaPFnBinsx4
namespace Go.Proofs.Ytcinecbfkeefaaa.PFnBins
open Go.RowKit Go.Proofs.YtcinecbfkeefaaaW.PrintWords Go.Proofs.YtcinecbfkeefaaaW.PrintLast Go.Proofs.YtcinecbfkeefaaaW.PrintMore
attribute [local go_sem] max2_int min2_int max_two min_two max_three min_three max_four min_four   -- for this text's walks alone
set_option linter.unusedVariables false
set_option linter.unusedSimpArgs false
open ShortPFnBins0

/-! ### spec_blSums: function 57 -/
mutual
def spec_blSums.l0 : Nat → List Int → List Int → List (S63) → Int → Int → Option (List Int)
 | 0, _, _, _, _, _ => none
 | k + 1, x1, x5, x11, x12, x13 => if x13 < x12 then (if 0 ≤ x13 then (if x13 < (x11.length : Int) then ((some (([1, (rd_T63 x11 x13).f1, (rd_T63 x11 x13).f2, (rd_T63 x11 x13).f3] : List Int) : List Int)).bind fun y187 => (spec_blSums.l1 k x1 x5 x13 x11 x12 x13 y187 (y187.length : Int) 0)) else (none)) else (none)) else (some x5)
def spec_blSums.l1 : Nat → List Int → List Int → Int → List (S63) → Int → Int → List Int → Int → Int → Option (List Int)
 | 0, _, _, _, _, _, _, _, _, _ => none
 | k + 1, x1, x5, x6, x11, x12, x13, x24, x25, x26 => if x26 < x25 then (if 0 ≤ x26 then (if x26 < (x24.length : Int) then (if x26 < (x5.length : Int) then (if 0 ≤ x6 then (if x6 < (x1.length : Int) then (spec_blSums.l1 k x1 (x5.set (x26 : Int).toNat (wrap64 ((rd x5 x26) + (wrap64 ((rd x1 x6) * (rd x24 x26)))))) x6 x11 x12 x13 x24 x25 (wrap64 (x26 + 1))) else (none)) else (none)) else (none)) else (none)) else (none)) else (spec_blSums.l0 k x1 x5 x11 x12 (wrap64 (x13 + 1)))
end
def spec_blSums.f (k : Nat) (l0 : List (S63)) (l1 : List Int) : Option (List Int) := if 4 ≤ 35184372088832 then (spec_blSums.l0 k l1 (List.replicate 4 0) l0 (l0.length : Int) 0) else (none)
def spec_blSums.T8 : Bool × List (List Nat × List Nat) := (true, [([], []), ([], []), ([0, 1], [0, 1]), ([2], [2]), ([], []), ([], []), ([4, 5], [4, 5]), ([6], [6]), ([], []), ([7, 8], [7, 8]), ([3, 9], [3, 9]), ([0, 1, 0, 1, 2, 3, 4, 5, 6, 7, 8, 9, 10], [0, 1]), ([11, 10, 0, 1, 2, 3, 4, 5, 6, 7, 8, 9, 10], [10, 11])])
def spec_blSums.B8 : List Nat := [0, 0, 3, 7, 0, 0, 48, 112, 0, 496, 1023, 2047, 4095]
theorem spec_blSums.tab8 : rtab .any (opsOf Try.f57 8) = spec_blSums.T8 := by kernel_rfl
theorem spec_blSums.bits8 : waitsOk spec_blSums.T8.2 spec_blSums.B8 = true := by kernel_rfl
set_option maxHeartbeats 8000000 in
set_option maxRecDepth 100000 in
theorem spec_blSums.calls (k : Nat) (A0 : Option Addr) (c0 : Nat) (l0 : List (S63)) (A1 : Option Addr) (c1 : Nat) (l1 : List Int) (r : List Int) (w : World) (hr0 : Kd.C k63 w A0 l0.length l0) (hc0 : l0.length ≤ c0) (hr1 : Kd.C (Kd.int .i64) w A1 l1.length l1) (hc1 : l1.length ≤ c1) (h : spec_blSums.f k l0 l1 = some r) :
  Calls Try.prog 57 #[.slice A0 l0.length c0, .slice A1 l1.length c1] w fun e w' => ∃ v0_ : Value, e = .returned (v0_) ∧ Kd.R (Kd.int .i64) 3 w' w.heap.size (fun _ => True) v0_ r ∧ Below w.heap.size w w' := by
 have hu63 := Try.underlying63
 have HR0 := Aside0.mk hr0
 have HC0 := Aside0.mk hc0
 clear hr0 hc0
 have HR1 := Aside0.mk hr1
 have HC1 := Aside0.mk hc1
 clear hr1 hc1
 have HB := am (Below.refl w.heap.size w)
 have H : (if 4 ≤ 35184372088832 then (spec_blSums.l0 k l1 (List.replicate 4 0) l0 (l0.length : Int) 0) else (none)) = some r := h
 clear h
 by_cases c3 : 4 ≤ 35184372088832
 ·rw [if_pos c3] at H
  have c3b0 := eq_true c3
  have c3b1 : decide (4 ≤ 35184372088832) = true := decide_eq_true c3
  clear c3
  obtain ⟨y182, hy182⟩ : ∃ y_ : List Int, y_ = (List.replicate 4 0) := ⟨_, rfl⟩
  replace H : (spec_blSums.l0 k l1 y182 l0 (l0.length : Int) 0) = some r := by first | (rw [hy182]; with_reducible exact H) | (have H2_ := (Option.bind_some _ _).symm.trans H; rw [hy182]; with_reducible exact H2_) | (have H2_ := (Option.bind_some _ _).symm.trans H; with_reducible exact H2_) | with_reducible exact H | (rw [hy182]; exact H) | exact H
  have Ny182 := Aside0.mk hy182
  clear hy182
  have H' := Aside0.mk H
  clear H
  go_enter Try.func57, Try.ntmps57
  go_wp2_with (first | ((with_reducible refine gate_dst (N := 10) rfl ?_); refine Kd.R_make (Kd.int .i64) _ 3 rfl (N := 10) rfl 29 _ _ rfl 4 rfl rfl Try.underlying29 (.int .i64 0) 8 info3 rfl (by decide) (by omega) 0 (ok := fun _ => True) (okp := fun _ => True) rfl (fun _ hk => hk) trivial (by omega) (by omega) (Below.refl _ _) (Nat.le_refl _) ?_; intro v183 w4 ho5 hb hg_ hnew_; clear hg_ hnew_; (first | rw [← Ny182.out] at ho5 | (simp only [Int.reduceToNat] at ho5; rw [← Ny182.out] at ho5)); have n0_ := am (Kd.R_lower ho5 (below_size za')); have n1_ := am (below_step za' hb); clear HB; have HO184 := n0_; have HB := n1_; clear n0_ n1_; clear hb ho5))
  go_loopg [13] k (fun kq v13 w' => ∃ (x5_1 : List Int) (x13_1 : Int), v13 = .int .i64 x13_1 ∧ Aside0 (spec_blSums.l0 kq l1 x5_1 l0 (l0.length : Int) x13_1 = some r) ∧ Aside0 (kq ≤ k) ∧ Aside0 (Kd.R (Kd.int .i64) 3 w' w.heap.size (fun _ => True) v183 x5_1) ∧ Aside0 (Below w.heap.size w w'))
  case atStart => exact ⟨(y182), (0), zh', H', ⟨Nat.le_refl _⟩, ⟨by (with_reducible repeat (first | apply Kd.R_alloc | apply Kd.R_drewN | apply Kd.R_drew)); exact HO184.out⟩, ⟨za'⟩⟩
  case round =>
   clear H'; (try clear c1); (try clear p2); (try clear c3); (try clear c3b0); (try clear c3b1); (try clear c5); obtain ⟨x5_1, x13_1, rfl, HA, HK1, HO_5, HB⟩ := hrel
   cases gk with
   | zero => exact absurd HA.out (by simp [spec_blSums.l0])
   | succ k1 =>
    have H := HA.out; clear HA; simp only [spec_blSums.l0] at H
    by_cases c6 : x13_1 < (l0.length : Int)
    ·rw [if_pos c6] at H
     have c6b0 : decide (x13_1 < (l0.length : Int)) = true := decide_eq_true c6; clear c6
     by_cases c7 : 0 ≤ x13_1
     ·rw [if_pos c7] at H
      have c7b0 : decide (0 ≤ x13_1) = true := decide_eq_true c7; clear c7
      by_cases c8 : x13_1 < (l0.length : Int)
      ·rw [if_pos c8] at H
       have c8b0 : decide (x13_1 < (l0.length : Int)) = true := decide_eq_true c8; clear c8
       obtain ⟨y187, hy187⟩ : ∃ y_ : List Int, y_ = (([1, (rd_T63 l0 x13_1).f1, (rd_T63 l0 x13_1).f2, (rd_T63 l0 x13_1).f3] : List Int)) := ⟨_, rfl⟩
       replace H : (spec_blSums.l1 k1 l1 x5_1 x13_1 l0 (l0.length : Int) x13_1 y187 (y187.length : Int) 0) = some r := by first | (rw [hy187]; with_reducible exact H) | (have H2_ := (Option.bind_some _ _).symm.trans H; rw [hy187]; with_reducible exact H2_) | (have H2_ := (Option.bind_some _ _).symm.trans H; with_reducible exact H2_) | with_reducible exact H | (rw [hy187]; exact H) | exact H
       have Ny187 := Aside0.mk hy187; clear hy187; have H' := Aside0.mk H; clear H; have p185 : 0 ≤ (x13_1 : Int) := odt; have q185 : x13_1 < (l0.length : Int) := odt; obtain ⟨ad185, e185, hx185_0, hx185_1, hx185_2, hx185_3⟩ := at_T63 HR0.out x13_1 p185 q185; cases e185
       try replace hx185_0 := (HB.out.cell (World.block_lt_of_cell? w _ hx185_0)).trans hx185_0
       try replace hx185_1 := (HB.out.cell (World.block_lt_of_cell? w _ hx185_1)).trans hx185_1
       try replace hx185_2 := (HB.out.cell (World.block_lt_of_cell? w _ hx185_2)).trans hx185_2
       try replace hx185_3 := (HB.out.cell (World.block_lt_of_cell? w _ hx185_3)).trans hx185_3
       replace p185 := eq_true p185; replace q185 := eq_true q185
       go_wp2_with (first | ((with_reducible refine gate_dst (N := 7) rfl ?_); refine box_event ?hg (N := 7) ?hd (cs := #[.int .i64 0, .int .i64 0, .int .i64 0, .int .i64 0]) (t := 63) ?hr ?_; (case hd => rfl); (case hg => rfl); (case hr => exact zv'); intro gb186 hg w9 hbox hb; have n0_ := am (Kd.R_below zl' hb); have n1_ := am (below_step za' hb); have n2_ := am (hbox); have n3_ := am ((by rw [hg]; exact (below_size za') : w.heap.size ≤ gb186)); have n4_ := am ((by rw [hg]; exact (below_size za') : w.heap.size ≤ gb186)); clear HO_5; clear HB; have HO_5 := n0_; have HB := n1_; have BK186 := n2_; have GW186 := n3_; have GE186 := n4_; clear n0_ n1_ n2_ n3_ n4_; clear hb hbox hg; have hcz10_0 : w9.cell? ⟨gb186, 0, none⟩ = some (.int .i64 0) := (blk_cell BK186.out 0).trans rfl; have hcz10_1 : w9.cell? ⟨gb186, 1, none⟩ = some (.int .i64 0) := (blk_cell BK186.out 1).trans rfl; have hcz10_2 : w9.cell? ⟨gb186, 2, none⟩ = some (.int .i64 0) := (blk_cell BK186.out 2).trans rfl; have hcz10_3 : w9.cell? ⟨gb186, 3, none⟩ = some (.int .i64 0) := (blk_cell BK186.out 3).trans rfl; have hfz10_0 := blk_frozen BK186.out 0; have hfz10_1 := blk_frozen BK186.out 1; have hfz10_2 := blk_frozen BK186.out 2; have hfz10_3 := blk_frozen BK186.out 3) | ((with_reducible refine gate_dst (N := 24) rfl ?_); refine Kd.R_lit (Kd.int .i64) _ 3 ?hg (N := 24) ?hd (xs := ([1, (rd_T63 l0 x13_1).f1, (rd_T63 l0 x13_1).f2, (rd_T63 l0 x13_1).f3] : List Int)) (inner := [.int .i64 1, .int .i64 ((rd_T63 l0 x13_1).f1), .int .i64 ((rd_T63 l0 x13_1).f2), .int .i64 ((rd_T63 l0 x13_1).f3)]) (ok := fun _ => True) (okp := fun _ => True) ?hr ?hp (fun _ hk => hk) trivial (Below.refl _ _) (Nat.le_refl _) (by simp) ?_; (case hd => rfl); (case hg => rfl); (case hr => exact zv'); (case hp => exact (Reps.one (show Kd.M (Kd.int .i64) _ _ _ 1 [.int .i64 1] from rfl) (Reps.one (show Kd.M (Kd.int .i64) _ _ _ ((rd_T63 l0 x13_1).f1) [.int .i64 ((rd_T63 l0 x13_1).f1)] from rfl) (Reps.one (show Kd.M (Kd.int .i64) _ _ _ ((rd_T63 l0 x13_1).f2) [.int .i64 ((rd_T63 l0 x13_1).f2)] from rfl) (Reps.one (show Kd.M (Kd.int .i64) _ _ _ ((rd_T63 l0 x13_1).f3) [.int .i64 ((rd_T63 l0 x13_1).f3)] from rfl) (Reps.none _ _)))))); intro v188 w11 ho12 hb hg_ hnew_; clear hg_ hnew_; (first | rw [← Ny187.out] at ho12 | (simp only [Int.reduceToNat] at ho12; rw [← Ny187.out] at ho12)); have n0_ := am (Kd.R_elder' zw1' (Kd.R_base ho12) hb); have n1_ := am (Kd.R_lower (Kd.R_new' ho12 (Kd.R_lt zw1')) (below_size za2')); have n2_ := am (blk_below (g := gb186) (o := .cells #[.int .i64 ((rd_T63 l0 x13_1).f0), .int .i64 ((rd_T63 l0 x13_1).f1), .int .i64 ((rd_T63 l0 x13_1).f2), .int .i64 ((rd_T63 l0 x13_1).f3)] 63 (0, 0)) (by (with_reducible repeat (first | apply kn | apply kd | apply ka)); refine blk_put (cs := #[.int .i64 ((rd_T63 l0 x13_1).f0), .int .i64 ((rd_T63 l0 x13_1).f1), .int .i64 ((rd_T63 l0 x13_1).f2), .int .i64 0]) ?_ 3 _ rfl; (with_reducible repeat (first | apply kn | apply kd | apply ka)); refine blk_put (cs := #[.int .i64 ((rd_T63 l0 x13_1).f0), .int .i64 ((rd_T63 l0 x13_1).f1), .int .i64 0, .int .i64 0]) ?_ 2 _ rfl; (with_reducible repeat (first | apply kn | apply kd | apply ka)); refine blk_put (cs := #[.int .i64 ((rd_T63 l0 x13_1).f0), .int .i64 0, .int .i64 0, .int .i64 0]) ?_ 1 _ rfl; (with_reducible repeat (first | apply kn | apply kd | apply ka)); refine blk_put (cs := #[.int .i64 0, .int .i64 0, .int .i64 0, .int .i64 0]) ?_ 0 _ rfl; (with_reducible repeat (first | apply kn | apply kd | apply ka)); exact BK186.out) hb); have n3_ := am (below_step za2' hb); clear HO_5; clear BK186; clear HB; have HO_5 := n0_; have HO189 := n1_; have BK186 := n2_; have HB := n3_; clear n0_ n1_ n2_ n3_; clear hb ho12; obtain ⟨Ao13, co13, eo13⟩ := Kd.R_slice HO189.out; subst eo13))
       go_loopg [26] k1 (fun kq v26 w' => ∃ (x5_2 : List Int) (x26_2 : Int), v26 = .int .i64 x26_2 ∧ Aside0 (spec_blSums.l1 kq l1 x5_2 x13_1 l0 (l0.length : Int) x13_1 y187 (y187.length : Int) x26_2 = some r) ∧ Aside0 (kq ≤ k1) ∧ Aside0 (Kd.R (Kd.int .i64) 3 w' w.heap.size (fun k_ => some k_ ≠ ((.slice Ao13 y187.length co13) : Value).ownBlock) v183 x5_2) ∧ Aside0 (Kd.R (Kd.int .i64) 3 w' w.heap.size (fun k_ => some k_ ≠ (v183 : Value).ownBlock) (.slice Ao13 y187.length co13) y187) ∧ Aside0 (w'.heap[gb186]? = some (.cells #[.int .i64 ((rd_T63 l0 x13_1).f0), .int .i64 ((rd_T63 l0 x13_1).f1), .int .i64 ((rd_T63 l0 x13_1).f2), .int .i64 ((rd_T63 l0 x13_1).f3)] 63 (0, 0))) ∧ Aside0 (Below w.heap.size w w'))
       case atStart => exact ⟨(x5_1), (0), zh', H', ⟨Nat.le_refl _⟩, ⟨by (with_reducible repeat (first | apply Kd.R_alloc | apply Kd.R_drewN | apply Kd.R_drew)); exact Kd.R_mono HO_5.out (fun _ hk => hk.2)⟩, ⟨by (with_reducible repeat (first | apply Kd.R_alloc | apply Kd.R_drewN | apply Kd.R_drew)); exact Kd.R_mono HO189.out (fun _ hk => hk.2)⟩, ⟨by (with_reducible repeat (first | apply kn | apply kd | apply ka)); exact BK186.out⟩, ⟨za2'⟩⟩
       case round =>
        clear H'; (try clear c1); (try clear p1); (try clear q1); (try clear hx1); (try clear p2); (try clear c3); (try clear c3b0); (try clear c3b1); (try clear c5); (try clear c6); (try clear c6b0); (try clear c7); (try clear c7b0); (try clear c8); (try clear c8b0); (try clear hcz10_0); (try clear hcz10_1); (try clear hcz10_2); (try clear hcz10_3); (try clear hfz10_0); (try clear hfz10_1); (try clear hfz10_2); (try clear hfz10_3); (try clear hx185_0); (try clear hx185_1); (try clear hx185_2); (try clear hx185_3); (try clear p185); (try clear p2); (try clear q185); obtain ⟨x5_2, x26_2, rfl, HA, HK2, HO_5, HO_24, BK186, HB⟩ := hrel
        cases gk with
        | zero => exact absurd HA.out (by simp [spec_blSums.l1])
        | succ k2 =>
         have H := HA.out; clear HA; simp only [spec_blSums.l1] at H
         by_cases c14 : x26_2 < (y187.length : Int)
         ·rw [if_pos c14] at H
          have c14b0 : decide (x26_2 < (y187.length : Int)) = true := decide_eq_true c14; clear c14
          by_cases c15 : 0 ≤ x26_2
          ·rw [if_pos c15] at H
           have c15b0 : decide (0 ≤ x26_2) = true := decide_eq_true c15; clear c15
           by_cases c16 : x26_2 < (y187.length : Int)
           ·rw [if_pos c16] at H
            have c16b0 : decide (x26_2 < (y187.length : Int)) = true := decide_eq_true c16; clear c16
            by_cases c17 : x26_2 < (x5_2.length : Int)
            ·rw [if_pos c17] at H
             have c17b0 : decide (x26_2 < (x5_2.length : Int)) = true := decide_eq_true c17; clear c17
             by_cases c18 : 0 ≤ x13_1
             ·rw [if_pos c18] at H
              have c18b0 : decide (0 ≤ x13_1) = true := decide_eq_true c18; clear c18
              by_cases c19 : x13_1 < (l1.length : Int)
              ·rw [if_pos c19] at H
               have c19b0 : decide (x13_1 < (l1.length : Int)) = true := decide_eq_true c19; clear c19
               obtain ⟨y193, hy193⟩ : ∃ y_ : List Int, y_ = (x5_2.set (x26_2 : Int).toNat (wrap64 ((rd x5_2 x26_2) + (wrap64 ((rd l1 x13_1) * (rd y187 x26_2)))))) := ⟨_, rfl⟩
               replace H : (spec_blSums.l1 k2 l1 y193 x13_1 l0 (l0.length : Int) x13_1 y187 (y187.length : Int) (wrap64 (x26_2 + 1))) = some r := by first | (rw [hy193]; with_reducible exact H) | (have H2_ := (Option.bind_some _ _).symm.trans H; rw [hy193]; with_reducible exact H2_) | (have H2_ := (Option.bind_some _ _).symm.trans H; with_reducible exact H2_) | with_reducible exact H | (rw [hy193]; exact H) | exact H
               have Ny193 := Aside0.mk hy193; clear hy193; have H' := Aside0.mk H; clear H; have p190 : 0 ≤ (x26_2 : Int) := odt; have q190 : x26_2 < (y187.length : Int) := odt; obtain ⟨ad190, e190, hx190_0⟩ := Kd.at_int (Kd.R_reads' HO_24.out).2.2 x26_2 p190 q190; cases e190; replace p190 := eq_true p190; replace q190 := eq_true q190
               try go_wp2
               have n0_ := am (Kd.R_drew HO_5.out); have n1_ := am (Kd.R_drew HO_24.out); have n2_ := am (blk_drew BK186.out); have n3_ := am (below_drew1 HB.out); clear HO_5; clear HO_24; clear BK186; clear HB; have HO_5 := n0_; have HO_24 := n1_; have BK186 := n2_; have HB := n3_; clear n0_ n1_ n2_ n3_; obtain ⟨Ao22, co22, eo22⟩ := Kd.R_slice HO_5.out
               (first | subst eo22 | (injection eo22 with f1_ f2_ f3_; have f4_ := f1_.symm; have f5_ := f3_.symm; clear f1_ f2_ f3_; subst f4_; subst f5_))
               have p191 : 0 ≤ (x26_2 : Int) := odt; have q191 : x26_2 < (x5_2.length : Int) := odt; obtain ⟨ad191, e191, hx191_0⟩ := Kd.at_int (Kd.R_reads' HO_5.out).2.2 x26_2 p191 q191; cases e191; replace p191 := eq_true p191; replace q191 := eq_true q191; have p192 : 0 ≤ (x13_1 : Int) := odt; have q192 : x13_1 < (l1.length : Int) := odt; obtain ⟨ad192, e192, hx192_0⟩ := Kd.at_int HR1.out x13_1 p192 q192; have hw192_0 := hx192_0; cases e192
               try replace hx192_0 := (HB.out.cell (World.block_lt_of_cell? w _ hx192_0)).trans hx192_0
               replace p192 := eq_true p192; replace q192 := eq_true q192; have p20 : 0 ≤ (x26_2 : Int) := odt; have q20 : (x26_2 : Int) < ((x5_2.length : Int) : Int) := odt; obtain ⟨go20, co20, eo20, gb20, gl20, cl20, HG20⟩ := Kd.R_form HO_5.out (by omega)
               (first | cases eo20 | (injection eo20 with ea_ en_ ec_; (first | subst ea_ | (injection ea_ with ea_; subst ea_)); subst ec_; clear en_))
               have GB20 := Aside0.mk gb20; have GG20 := Aside0.mk HG20; clear gb20 gl20 HG20
               (first | simp only [add_plain] at hx191_0 | skip)
               obtain ⟨hx20_0, hf20_0⟩ := Kd.R_celln 0 HO_5.out (x26_2 : Int) p20 q20; replace p20 := eq_true p20; replace q20 := eq_true q20; have HP23 := Kd.R_putn HO_5.out (x26_2 : Int) (wrap64 ((rd x5_2 x26_2) + (wrap64 ((rd l1 x13_1) * (rd y187 x26_2))))); rw [← Ny193.out] at HP23; have HQ23 := Aside0.mk HP23; clear HP23
               refine start_ (n := 13) (S := fun w' => w'.cell? ⟨go20, (x26_2).toNat, none⟩ = some (.int .i64 (rd x5_2 x26_2)) ∧ w'.cell? (ad192.add (x13_1).toNat) = some (.int .i64 (rd l1 x13_1))) (ds := [12]) #[Z,Z,Z,Z,Z,Z,Z,Z,Z,Z,Z,Z,Z] (by kernel_rfl) rfl rfl ⟨hx191_0, ((HB.out.cell (World.block_lt_of_cell? w _ hw192_0)).trans hw192_0)⟩ (fun hHeld => ?_); refine with_tabW spec_blSums.tab8 spec_blSums.bits8 (fun HT_ HW_ => ?_)
               generalize wr.drew = w21 at HO_5 HO_24 BK186 HB GG20 HQ23 hf20_0 hx191_0 hx192_0 hx20_0 hHeld ⊢
               refine pure_ (i := 0) (N := some 31) (v := ?_) (a' := ?_) #[Y,Z,Z,Z,Z,Z,Z,Z,Z,Z,Z,Z,Z] rfl rfl (any_of HT_.out (by kernel_rfl)) (fun _ _ _ h => h) (Or.inl ⟨by rfl, ?_⟩) ?_ ?_
               rotate_left
               ·intro w'
                go_simp
                with_reducible rfl
               rotate_left
               ·simp only [Act.put, s1, s2, s3, i64_w, i32_w]
                rfl
               refine pure_ (i := 1) (N := some 32) (v := ?_) (a' := ?_) #[Y,Y,Z,Z,Z,Z,Z,Z,Z,Z,Z,Z,Z] rfl rfl (any_of HT_.out (by kernel_rfl)) (fun _ _ _ h => h) (Or.inl ⟨by rfl, ?_⟩) ?_ ?_
               rotate_left
               ·intro w'
                go_simp
                with_reducible rfl
               rotate_left
               ·simp only [Act.put, s1, s2, s3, i64_w, i32_w]
                rfl
               refine pure_ (i := 2) (N := some 33) (v := ?_) (a' := ?_) #[Y,Y,Y,Z,Z,Z,Z,Z,Z,Z,Z,Z,Z] rfl rfl (any_of HT_.out (by kernel_rfl)) (fun _ _ _ h => h) (Or.inl ⟨by rfl, ?_⟩) ?_ ?_
               rotate_left
               ·intro w'
                go_simp
                with_reducible rfl
               rotate_left
               ·simp only [Act.put, s1, s2, s3, i64_w, i32_w]
                rfl
               refine pure_ (i := 4) (N := some 35) (v := ?_) (a' := ?_) #[Y,Y,Y,Z,Y,Z,Z,Z,Z,Z,Z,Z,Z] rfl rfl (any_of HT_.out (by kernel_rfl)) (fun _ _ _ h => h) (Or.inl ⟨by rfl, ?_⟩) ?_ ?_
               rotate_left
               ·intro w'
                go_simp
                with_reducible rfl
               rotate_left
               ·simp only [Act.put, s1, s2, s3, i64_w, i32_w]
                rfl
               refine pure_ (i := 5) (N := some 36) (v := ?_) (a' := ?_) #[Y,Y,Y,Z,Y,Y,Z,Z,Z,Z,Z,Z,Z] rfl rfl (any_of HT_.out (by kernel_rfl)) (fun _ _ _ h => h) (Or.inl ⟨by rfl, ?_⟩) ?_ ?_
               rotate_left
               ·intro w'
                go_simp
                with_reducible rfl
               rotate_left
               ·simp only [Act.put, s1, s2, s3, i64_w, i32_w]
                rfl
               refine pure_ (i := 6) (N := some 37) (v := ?_) (a' := ?_) #[Y,Y,Y,Z,Y,Y,Y,Z,Z,Z,Z,Z,Z] rfl rfl (any_of HT_.out (by kernel_rfl)) (fun _ _ _ h => h) (Or.inl ⟨by rfl, ?_⟩) ?_ ?_
               rotate_left
               ·intro w'
                go_simp
                with_reducible rfl
               rotate_left
               ·simp only [Act.put, s1, s2, s3, i64_w, i32_w]
                rfl
               refine pure_ (i := 8) (N := some 39) (v := ?_) (a' := ?_) #[Y,Y,Y,Z,Y,Y,Y,Z,Y,Z,Z,Z,Z] rfl rfl (any_of HT_.out (by kernel_rfl)) (fun _ _ _ h => h) (Or.inl ⟨by rfl, ?_⟩) ?_ ?_
               rotate_left
               ·intro w'
                go_simp
                with_reducible rfl
               rotate_left
               ·simp only [Act.put, s1, s2, s3, i64_w, i32_w]
                rfl
               refine take_ (i := 3) (N := some 34) (v := ?_) (a' := ?_) #[Y,Y,Y,Y,Y,Y,Y,Z,Y,Z,Z,Z,Z] rfl rfl (take_ofW HT_.out HW_.out (by kernel_rfl)) (fun _ _ _ h => h) (Or.inl ⟨by rfl, ?_⟩) hHeld ?_ ?_
               rotate_left
               ·rintro w' ⟨s0, s1⟩
                go_simp
                with_reducible rfl
               rotate_left
               ·simp only [Act.put, s1, s2, s3, i64_w, i32_w]
                rfl
               refine take_ (i := 7) (N := some 38) (v := ?_) (a' := ?_) #[Y,Y,Y,Y,Y,Y,Y,Y,Y,Z,Z,Z,Z] rfl rfl (take_ofW HT_.out HW_.out (by kernel_rfl)) (fun _ _ _ h => h) (Or.inl ⟨by rfl, ?_⟩) hHeld ?_ ?_
               rotate_left
               ·rintro w' ⟨s0, s1⟩
                go_simp
                with_reducible rfl
               rotate_left
               ·simp only [Act.put, s1, s2, s3, i64_w, i32_w]
                rfl
               refine pure_ (i := 9) (N := some 40) (v := ?_) (a' := ?_) #[Y,Y,Y,Y,Y,Y,Y,Y,Y,Y,Z,Z,Z] rfl rfl (any_of HT_.out (by kernel_rfl)) (fun _ _ _ h => h) (Or.inl ⟨by rfl, ?_⟩) ?_ ?_
               rotate_left
               ·intro w'
                go_simp
                with_reducible rfl
               rotate_left
               ·simp only [Act.put, s1, s2, s3, i64_w, i32_w]
                rfl
               refine pure_ (i := 10) (N := some 41) (v := ?_) (a' := ?_) #[Y,Y,Y,Y,Y,Y,Y,Y,Y,Y,Y,Z,Z] rfl rfl (any_of HT_.out (by kernel_rfl)) (fun _ _ _ h => h) (Or.inl ⟨by rfl, ?_⟩) ?_ ?_
               rotate_left
               ·intro w'
                go_simp
                with_reducible rfl
               rotate_left
               ·simp only [Act.put, s1, s2, s3, i64_w, i32_w]
                rfl
               refine pure_ (i := 11) (N := some 42) (v := ?_) (a' := ?_) #[Y,Y,Y,Y,Y,Y,Y,Y,Y,Y,Y,Y,Z] rfl rfl (any_of HT_.out (by kernel_rfl)) (fun _ _ _ h => h) (Or.inl ⟨by rfl, ?_⟩) ?_ ?_
               rotate_left
               ·intro w'
                go_simp
                with_reducible rfl
               rotate_left
               ·simp only [Act.put, s1, s2, s3, i64_w, i32_w]
                rfl
               refine last_ (i := 12) (N := none) #[Y,Y,Y,Y,Y,Y,Y,Y,Y,Y,Y,Y,Y] rfl rfl (one_of HT_.out (by kernel_rfl)) (by decide) (fun K hK => ?_)
               refine skip_ (w1 := ?_) (by rfl) rfl ?_ ?_
               rotate_left
               ·go_simp
                rfl
               refine hK.out _ _ ?_
               clear hK K
               refine done_ (done_of HT_.out (by kernel_rfl)) ?_
               try go_wp2
               go_roundg k2
               case measure => have := HK1.out; have := HK2.out; omega
               case rel => exact ⟨(y193), (wrap64 (x26_2 + 1)), zh', H', ⟨by have := HK1.out; have := HK2.out; omega⟩, ⟨by (with_reducible repeat (first | apply Kd.R_alloc | apply Kd.R_drewN | apply Kd.R_drew)); exact HQ23.out⟩, ⟨by (with_reducible repeat (first | apply Kd.R_alloc | apply Kd.R_drewN | apply Kd.R_drew)); exact Kd.R_mono (Kd.R_far (p := ⟨go20, (x26_2 : Int).toNat, none⟩) (Kd.R_mono HO_24.out (fun k_ hk => (⟨hk, fun e_ => hk (by rw [e_]; rfl)⟩ : _ ∧ k_ ≠ go20))) (fun _ hk => hk.2) (.int .i64 (wrap64 ((rd x5_2 x26_2) + (wrap64 ((rd l1 x13_1) * (rd y187 x26_2))))))) (fun _ hk => hk.1)⟩, ⟨by (with_reducible repeat (first | apply kn | apply kd | apply ka)); refine blk_far ?_ (by have h_ := Kd.R_ne HO_5.out BK186.out (by decide); intro e_; exact h_ (by rw [e_]; rfl)) _; (with_reducible repeat (first | apply kn | apply kd | apply ka)); exact BK186.out⟩, ⟨by repeat (first | (with_reducible first | exact HB.out | apply ba | apply bn | apply below_drew1 | refine below_set ?_ GB20.out | refine below_set ?_ GE186.out) | exact HB.out)⟩⟩
              ·rw [if_neg c19] at H
               exact absurd H (by simp)
             ·rw [if_neg c18] at H
              exact absurd H (by simp)
            ·rw [if_neg c17] at H
             exact absurd H (by simp)
           ·rw [if_neg c16] at H
            exact absurd H (by simp)
          ·rw [if_neg c15] at H
           exact absurd H (by simp)
         ·rw [if_neg c14] at H
          have c14b0 : decide (x26_2 < (y187.length : Int)) = false := decide_eq_false c14; clear c14; have H' := Aside0.mk H; clear H
          go_wp2
          go_roundg k2
          case measure => have := HK1.out; have := HK2.out; omega
          case rel => exact ⟨(x5_2), (wrap64 (x13_1 + 1)), zh', H', ⟨by have := HK1.out; have := HK2.out; omega⟩, ⟨by (with_reducible repeat (first | apply Kd.R_alloc | apply Kd.R_drewN | apply Kd.R_drew)); exact Kd.R_mono HO_5.out (fun _ hk => trivial)⟩, ⟨za2'⟩⟩
      ·rw [if_neg c8] at H
       exact absurd H (by simp)
     ·rw [if_neg c7] at H
      exact absurd H (by simp)
    ·rw [if_neg c6] at H
     have c6b0 : decide (x13_1 < (l0.length : Int)) = false := decide_eq_false c6; clear c6; obtain rfl := Option.some.inj H
     go_wp2
     go_ret
     exact ⟨_, by first | rfl | (simp [errW_none, errW_some] <;> rfl) | (simp [*, errW_none, errW_some] <;> rfl), by (with_reducible repeat (first | apply Kd.R_alloc | apply Kd.R_drewN | apply Kd.R_drew)); exact HO_5.out, by repeat (first | (with_reducible first | exact HB.out | apply ba | apply bn | apply below_drew1) | exact HB.out)⟩
 ·rw [if_neg c3] at H
  exact absurd H (by simp)

/-! ### spec_BlendSums: function 33 -/
def spec_BlendSums.f (k : Nat) (l0 : List (S63)) (l1 : List Int) : Option (Int × Int × Int × Int × Bool) := (spec_blParts.f k l0 l1).bind fun t194 => (if t194 = true then ((spec_blSums.f k l0 l1).bind fun t195 => (if 0 < (t195.length : Int) then (if 1 < (t195.length : Int) then (if 2 < (t195.length : Int) then (if 3 < (t195.length : Int) then (some (rd t195 0, rd t195 1, rd t195 2, rd t195 3, true)) else (none)) else (none)) else (none)) else (none))) else (some (0, 0, 0, 0, false)))
set_option maxHeartbeats 8000000 in
set_option maxRecDepth 100000 in
theorem spec_BlendSums.calls (k : Nat) (A0 : Option Addr) (c0 : Nat) (l0 : List (S63)) (A1 : Option Addr) (c1 : Nat) (l1 : List Int) (r1 : Int) (r2 : Int) (r3 : Int) (r4 : Int) (r5 : Bool) (w : World) (hr0 : Kd.C k63 w A0 l0.length l0) (hc0 : l0.length ≤ c0) (hr1 : Kd.C (Kd.int .i64) w A1 l1.length l1) (hc1 : l1.length ≤ c1) (h : spec_BlendSums.f k l0 l1 = some (r1, r2, r3, r4, r5)) :
  Calls Try.prog 33 #[.slice A0 l0.length c0, .slice A1 l1.length c1] w fun e w' => e = .returned (.tuple #[.int .i64 r1, .int .i64 r2, .int .i64 r3, .int .i64 r4, .bool r5]) ∧ Below w.heap.size w w' := by
 have HR0 := Aside0.mk hr0
 have HC0 := Aside0.mk hc0
 clear hr0 hc0
 have HR1 := Aside0.mk hr1
 have HC1 := Aside0.mk hc1
 clear hr1 hc1
 have HB := am (Below.refl w.heap.size w)
 have H : ((spec_blParts.f k l0 l1).bind fun t194 => (if t194 = true then ((spec_blSums.f k l0 l1).bind fun t195 => (if 0 < (t195.length : Int) then (if 1 < (t195.length : Int) then (if 2 < (t195.length : Int) then (if 3 < (t195.length : Int) then (some (rd t195 0, rd t195 1, rd t195 2, rd t195 3, true)) else (none)) else (none)) else (none)) else (none))) else (some (0, 0, 0, 0, false)))) = some (r1, r2, r3, r4, r5) := h
 clear h
 replace H := Option.bind_eq_some_iff.mp H
 obtain ⟨t194, A30, H⟩ := H
 replace H : (if t194 = true then ((spec_blSums.f k l0 l1).bind fun t195 => (if 0 < (t195.length : Int) then (if 1 < (t195.length : Int) then (if 2 < (t195.length : Int) then (if 3 < (t195.length : Int) then (some (rd t195 0, rd t195 1, rd t195 2, rd t195 3, true)) else (none)) else (none)) else (none)) else (none))) else (some (0, 0, 0, 0, false))) = some (r1, r2, r3, r4, r5) := H
 have A3 := Aside0.mk A30
 clear A30
 by_cases c4 : t194 = true
 ·subst c4
  have H1 : ((spec_blSums.f k l0 l1).bind fun t195 => (if 0 < (t195.length : Int) then (if 1 < (t195.length : Int) then (if 2 < (t195.length : Int) then (if 3 < (t195.length : Int) then (some (rd t195 0, rd t195 1, rd t195 2, rd t195 3, true)) else (none)) else (none)) else (none)) else (none))) = some (r1, r2, r3, r4, r5) := by rw [if_pos rfl] at H; exact H
  clear H
  have H := H1
  clear H1
  replace H := Option.bind_eq_some_iff.mp H
  obtain ⟨t195, A50, H⟩ := H
  replace H : (if 0 < (t195.length : Int) then (if 1 < (t195.length : Int) then (if 2 < (t195.length : Int) then (if 3 < (t195.length : Int) then (some (rd t195 0, rd t195 1, rd t195 2, rd t195 3, true)) else (none)) else (none)) else (none)) else (none)) = some (r1, r2, r3, r4, r5) := H
  have A5 := Aside0.mk A50
  clear A50
  by_cases c6 : 0 < (t195.length : Int)
  ·rw [if_pos c6] at H
   have c6b0 : decide (0 < (t195.length : Int)) = true := decide_eq_true c6; have c6b1 : decide (0 < t195.length) = true := decide_eq_true (by omega); clear c6
   by_cases c7 : 1 < (t195.length : Int)
   ·rw [if_pos c7] at H
    have c7b0 : decide (1 < (t195.length : Int)) = true := decide_eq_true c7; have c7b1 : decide (1 < t195.length) = true := decide_eq_true (by omega); clear c7
    by_cases c8 : 2 < (t195.length : Int)
    ·rw [if_pos c8] at H
     have c8b0 : decide (2 < (t195.length : Int)) = true := decide_eq_true c8; have c8b1 : decide (2 < t195.length) = true := decide_eq_true (by omega); clear c8
     by_cases c9 : 3 < (t195.length : Int)
     ·rw [if_pos c9] at H
      have c9b0 : decide (3 < (t195.length : Int)) = true := decide_eq_true c9; have c9b1 : decide (3 < t195.length) = true := decide_eq_true (by omega); clear c9; simp only [Option.some.injEq, Prod.mk.injEq] at H; obtain ⟨rfl, rfl, rfl, rfl, rfl⟩ := H
      go_enter Try.func33, Try.ntmps33
      go_wp2_with (first | (go_at_call 50; (with_reducible refine (spec_blParts.calls k _ _ l0 _ _ l1 true _ ?side1 ?side2 ?side3 ?side4 A3.out).mono ?_); (case side1 => exact zj'); (case side2 => exact zl2'); (case side3 => exact zh1'); (case side4 => exact zl3'); rintro e w10 ⟨rfl, hb⟩; have n0_ := am (below_step za' hb); clear HB; have HB := n0_; clear n0_; (try clear hb); (try clear hb2); (try clear hk); (try clear hi)) | (go_at_call 57; (with_reducible refine (spec_blSums.calls k _ _ l0 _ _ l1 t195 _ ?side1 ?side2 ?side3 ?side4 A5.out).mono ?_); (case side1 => exact zn'); (case side2 => exact zl2'); (case side3 => exact zi1'); (case side4 => exact zl3'); rintro e w11 ⟨v196, rfl, ho0, hb⟩; have n0_ := am (Kd.R_lower ho0 (below_size za')); have n1_ := am (below_step za' hb); clear HB; have HO197 := n0_; have HB := n1_; clear n0_ n1_; (try clear hb); (try clear hb2); (try clear hk); (try clear hi); (try clear ho0); obtain ⟨Ao12, co12, eo12⟩ := Kd.R_slice HO197.out; subst eo12; have p198 : 0 ≤ (0 : Int) := (by omega); have q198 : 0 < (t195.length : Int) := odt; obtain ⟨ad198, e198, hx198_0⟩ := Kd.at_int (Kd.R_reads' HO197.out).2.2 0 p198 q198; cases e198; have qi198 : (0 < t195.length) = True := eq_true (by omega); (try rw [show ((0 : Int)).toNat = 0 from rfl] at hx198_0); (try rw [Addr.add_zero'] at hx198_0); replace p198 := eq_true p198; replace q198 := eq_true q198; have p199 : 0 ≤ (1 : Int) := (by omega); have q199 : 1 < (t195.length : Int) := odt; obtain ⟨ad199, e199, hx199_0⟩ := Kd.at_int (Kd.R_reads' HO197.out).2.2 1 p199 q199; obtain rfl : ad198 = ad199 := (by injection e199); (try simp only [show (1 : Int).toNat = 1 from rfl, Nat.reduceMul, Nat.reduceEqDiff, Go.Addr.add, ↓reduceIte] at hx199_0); have qi199 : (1 < t195.length) = True := eq_true (by omega); (try rw [show ((1 : Int)).toNat = 1 from rfl] at hx199_0); replace p199 := eq_true p199; replace q199 := eq_true q199; have p200 : 0 ≤ (2 : Int) := (by omega); have q200 : 2 < (t195.length : Int) := odt; obtain ⟨ad200, e200, hx200_0⟩ := Kd.at_int (Kd.R_reads' HO197.out).2.2 2 p200 q200; obtain rfl : ad198 = ad200 := (by injection e200); (try simp only [show (2 : Int).toNat = 2 from rfl, Nat.reduceMul, Nat.reduceEqDiff, Go.Addr.add, ↓reduceIte] at hx200_0); have qi200 : (2 < t195.length) = True := eq_true (by omega); (try rw [show ((2 : Int)).toNat = 2 from rfl] at hx200_0); replace p200 := eq_true p200; replace q200 := eq_true q200; have p201 : 0 ≤ (3 : Int) := (by omega); have q201 : 3 < (t195.length : Int) := odt; obtain ⟨ad201, e201, hx201_0⟩ := Kd.at_int (Kd.R_reads' HO197.out).2.2 3 p201 q201; obtain rfl : ad198 = ad201 := (by injection e201); (try simp only [show (3 : Int).toNat = 3 from rfl, Nat.reduceMul, Nat.reduceEqDiff, Go.Addr.add, ↓reduceIte] at hx201_0); have qi201 : (3 < t195.length) = True := eq_true (by omega); (try rw [show ((3 : Int)).toNat = 3 from rfl] at hx201_0); replace p201 := eq_true p201; replace q201 := eq_true q201))
      repeat (go_quiet (first | (go_at_call 50; (with_reducible refine (spec_blParts.calls k _ _ l0 _ _ l1 true _ ?side1 ?side2 ?side3 ?side4 A3.out).mono ?_); (case side1 => exact zj'); (case side2 => exact zl2'); (case side3 => exact zh1'); (case side4 => exact zl3'); rintro e w10 ⟨rfl, hb⟩; have n0_ := am (below_step za' hb); clear HB; have HB := n0_; clear n0_; (try clear hb); (try clear hb2); (try clear hk); (try clear hi)) | (go_at_call 57; (with_reducible refine (spec_blSums.calls k _ _ l0 _ _ l1 t195 _ ?side1 ?side2 ?side3 ?side4 A5.out).mono ?_); (case side1 => exact zn'); (case side2 => exact zl2'); (case side3 => exact zi1'); (case side4 => exact zl3'); rintro e w11 ⟨v196, rfl, ho0, hb⟩; have n0_ := am (Kd.R_lower ho0 (below_size za')); have n1_ := am (below_step za' hb); clear HB; have HO197 := n0_; have HB := n1_; clear n0_ n1_; (try clear hb); (try clear hb2); (try clear hk); (try clear hi); (try clear ho0); obtain ⟨Ao12, co12, eo12⟩ := Kd.R_slice HO197.out; subst eo12; have p198 : 0 ≤ (0 : Int) := (by omega); have q198 : 0 < (t195.length : Int) := odt; obtain ⟨ad198, e198, hx198_0⟩ := Kd.at_int (Kd.R_reads' HO197.out).2.2 0 p198 q198; cases e198; have qi198 : (0 < t195.length) = True := eq_true (by omega); (try rw [show ((0 : Int)).toNat = 0 from rfl] at hx198_0); (try rw [Addr.add_zero'] at hx198_0); replace p198 := eq_true p198; replace q198 := eq_true q198; have p199 : 0 ≤ (1 : Int) := (by omega); have q199 : 1 < (t195.length : Int) := odt; obtain ⟨ad199, e199, hx199_0⟩ := Kd.at_int (Kd.R_reads' HO197.out).2.2 1 p199 q199; obtain rfl : ad198 = ad199 := (by injection e199); (try simp only [show (1 : Int).toNat = 1 from rfl, Nat.reduceMul, Nat.reduceEqDiff, Go.Addr.add, ↓reduceIte] at hx199_0); have qi199 : (1 < t195.length) = True := eq_true (by omega); (try rw [show ((1 : Int)).toNat = 1 from rfl] at hx199_0); replace p199 := eq_true p199; replace q199 := eq_true q199; have p200 : 0 ≤ (2 : Int) := (by omega); have q200 : 2 < (t195.length : Int) := odt; obtain ⟨ad200, e200, hx200_0⟩ := Kd.at_int (Kd.R_reads' HO197.out).2.2 2 p200 q200; obtain rfl : ad198 = ad200 := (by injection e200); (try simp only [show (2 : Int).toNat = 2 from rfl, Nat.reduceMul, Nat.reduceEqDiff, Go.Addr.add, ↓reduceIte] at hx200_0); have qi200 : (2 < t195.length) = True := eq_true (by omega); (try rw [show ((2 : Int)).toNat = 2 from rfl] at hx200_0); replace p200 := eq_true p200; replace q200 := eq_true q200; have p201 : 0 ≤ (3 : Int) := (by omega); have q201 : 3 < (t195.length : Int) := odt; obtain ⟨ad201, e201, hx201_0⟩ := Kd.at_int (Kd.R_reads' HO197.out).2.2 3 p201 q201; obtain rfl : ad198 = ad201 := (by injection e201); (try simp only [show (3 : Int).toNat = 3 from rfl, Nat.reduceMul, Nat.reduceEqDiff, Go.Addr.add, ↓reduceIte] at hx201_0); have qi201 : (3 < t195.length) = True := eq_true (by omega); (try rw [show ((3 : Int)).toNat = 3 from rfl] at hx201_0); replace p201 := eq_true p201; replace q201 := eq_true q201)); try go_wp2_with (first | (go_at_call 50; (with_reducible refine (spec_blParts.calls k _ _ l0 _ _ l1 true _ ?side1 ?side2 ?side3 ?side4 A3.out).mono ?_); (case side1 => exact zj'); (case side2 => exact zl2'); (case side3 => exact zh1'); (case side4 => exact zl3'); rintro e w10 ⟨rfl, hb⟩; have n0_ := am (below_step za' hb); clear HB; have HB := n0_; clear n0_; (try clear hb); (try clear hb2); (try clear hk); (try clear hi)) | (go_at_call 57; (with_reducible refine (spec_blSums.calls k _ _ l0 _ _ l1 t195 _ ?side1 ?side2 ?side3 ?side4 A5.out).mono ?_); (case side1 => exact zn'); (case side2 => exact zl2'); (case side3 => exact zi1'); (case side4 => exact zl3'); rintro e w11 ⟨v196, rfl, ho0, hb⟩; have n0_ := am (Kd.R_lower ho0 (below_size za')); have n1_ := am (below_step za' hb); clear HB; have HO197 := n0_; have HB := n1_; clear n0_ n1_; (try clear hb); (try clear hb2); (try clear hk); (try clear hi); (try clear ho0); obtain ⟨Ao12, co12, eo12⟩ := Kd.R_slice HO197.out; subst eo12; have p198 : 0 ≤ (0 : Int) := (by omega); have q198 : 0 < (t195.length : Int) := odt; obtain ⟨ad198, e198, hx198_0⟩ := Kd.at_int (Kd.R_reads' HO197.out).2.2 0 p198 q198; cases e198; have qi198 : (0 < t195.length) = True := eq_true (by omega); (try rw [show ((0 : Int)).toNat = 0 from rfl] at hx198_0); (try rw [Addr.add_zero'] at hx198_0); replace p198 := eq_true p198; replace q198 := eq_true q198; have p199 : 0 ≤ (1 : Int) := (by omega); have q199 : 1 < (t195.length : Int) := odt; obtain ⟨ad199, e199, hx199_0⟩ := Kd.at_int (Kd.R_reads' HO197.out).2.2 1 p199 q199; obtain rfl : ad198 = ad199 := (by injection e199); (try simp only [show (1 : Int).toNat = 1 from rfl, Nat.reduceMul, Nat.reduceEqDiff, Go.Addr.add, ↓reduceIte] at hx199_0); have qi199 : (1 < t195.length) = True := eq_true (by omega); (try rw [show ((1 : Int)).toNat = 1 from rfl] at hx199_0); replace p199 := eq_true p199; replace q199 := eq_true q199; have p200 : 0 ≤ (2 : Int) := (by omega); have q200 : 2 < (t195.length : Int) := odt; obtain ⟨ad200, e200, hx200_0⟩ := Kd.at_int (Kd.R_reads' HO197.out).2.2 2 p200 q200; obtain rfl : ad198 = ad200 := (by injection e200); (try simp only [show (2 : Int).toNat = 2 from rfl, Nat.reduceMul, Nat.reduceEqDiff, Go.Addr.add, ↓reduceIte] at hx200_0); have qi200 : (2 < t195.length) = True := eq_true (by omega); (try rw [show ((2 : Int)).toNat = 2 from rfl] at hx200_0); replace p200 := eq_true p200; replace q200 := eq_true q200; have p201 : 0 ≤ (3 : Int) := (by omega); have q201 : 3 < (t195.length : Int) := odt; obtain ⟨ad201, e201, hx201_0⟩ := Kd.at_int (Kd.R_reads' HO197.out).2.2 3 p201 q201; obtain rfl : ad198 = ad201 := (by injection e201); (try simp only [show (3 : Int).toNat = 3 from rfl, Nat.reduceMul, Nat.reduceEqDiff, Go.Addr.add, ↓reduceIte] at hx201_0); have qi201 : (3 < t195.length) = True := eq_true (by omega); (try rw [show ((3 : Int)).toNat = 3 from rfl] at hx201_0); replace p201 := eq_true p201; replace q201 := eq_true q201)))
      refine bodyPost_ret (results_list (rs := [.tmp 4, .tmp 5, .tmp 6, .tmp 7, .tmp 8]) rfl (by simp) (.tmp (.tmp (.tmp (.tmp (.tmp .nil)))))) rfl ?_
      exact ⟨by first | rfl | (simp [errW_none, errW_some] <;> rfl) | (simp [*, errW_none, errW_some] <;> rfl), by repeat (first | (with_reducible first | exact HB.out | apply ba | apply bn | apply below_drew1) | exact HB.out)⟩
     ·rw [if_neg c9] at H
      exact absurd H (by simp)
    ·rw [if_neg c8] at H
     exact absurd H (by simp)
   ·rw [if_neg c7] at H
    exact absurd H (by simp)
  ·rw [if_neg c6] at H
   exact absurd H (by simp)
 ·replace c4 := Bool.eq_false_iff.mpr c4
  subst c4
  have H1 : (some (0, 0, 0, 0, false)) = some (r1, r2, r3, r4, r5) := by rw [if_neg (show ¬ (false = true) by decide)] at H; exact H
  clear H
  have H := H1
  clear H1
  simp only [Option.some.injEq, Prod.mk.injEq] at H
  obtain ⟨rfl, rfl, rfl, rfl, rfl⟩ := H
  go_enter Try.func33, Try.ntmps33
  go_wp2_with (first | (go_at_call 50; (with_reducible refine (spec_blParts.calls k _ _ l0 _ _ l1 false _ ?side1 ?side2 ?side3 ?side4 A3.out).mono ?_); (case side1 => exact zj'); (case side2 => exact zl2'); (case side3 => exact zh1'); (case side4 => exact zl3'); rintro e w13 ⟨rfl, hb⟩; have n0_ := am (below_step za' hb); clear HB; have HB := n0_; clear n0_; (try clear hb); (try clear hb2); (try clear hk); (try clear hi)))
  repeat (go_quiet (first | (go_at_call 50; (with_reducible refine (spec_blParts.calls k _ _ l0 _ _ l1 false _ ?side1 ?side2 ?side3 ?side4 A3.out).mono ?_); (case side1 => exact zj'); (case side2 => exact zl2'); (case side3 => exact zh1'); (case side4 => exact zl3'); rintro e w13 ⟨rfl, hb⟩; have n0_ := am (below_step za' hb); clear HB; have HB := n0_; clear n0_; (try clear hb); (try clear hb2); (try clear hk); (try clear hi))); try go_wp2_with (first | (go_at_call 50; (with_reducible refine (spec_blParts.calls k _ _ l0 _ _ l1 false _ ?side1 ?side2 ?side3 ?side4 A3.out).mono ?_); (case side1 => exact zj'); (case side2 => exact zl2'); (case side3 => exact zh1'); (case side4 => exact zl3'); rintro e w13 ⟨rfl, hb⟩; have n0_ := am (below_step za' hb); clear HB; have HB := n0_; clear n0_; (try clear hb); (try clear hb2); (try clear hk); (try clear hi))))
  refine bodyPost_ret (results_list (rs := [.tmp 4, .tmp 5, .tmp 6, .tmp 7, .tmp 8]) rfl (by simp) (.tmp (.tmp (.tmp (.tmp (.tmp .nil)))))) rfl ?_
  exact ⟨by first | rfl | (simp [errW_none, errW_some] <;> rfl) | (simp [*, errW_none, errW_some] <;> rfl), by repeat (first | (with_reducible first | exact HB.out | apply ba | apply bn | apply below_drew1) | exact HB.out)⟩

/-! ### spec_DrawLeastImpurity: function 67 -/
def spec_DrawLeastImpurity.q (k : Nat) (s0_0 : List Int) (s0_1 : Int) (s0_2 : Int) : Option ((List (S63)) × Int × Int × Int) := (spec_l1Cur_bins.f k s0_0 s0_1 s0_2).bind fun bt206 => ((spec_l1Cur_among.f s0_0 bt206.2.1 bt206.2.2 (([0, 1, 2, 5, 12, 13, (-1)] : List Int))).bind fun bt214 => (some (bt206.1, bt214.1, bt214.2.1, bt214.2.2)))
def spec_DrawLeastImpurity.f (k : Nat) (l0 : List Int) : Option ((List (S63)) × Int) := (spec_DrawLeastImpurity.q k l0 0 0).bind fun q => some (q.1, q.2.1)
set_option maxHeartbeats 8000000 in
set_option maxRecDepth 100000 in
theorem spec_DrawLeastImpurity.calls (k : Nat) (A0 : Option Addr) (c0 : Nat) (l0 : List Int) (z1 : List (S63)) (z2 : Int) (w0 : World) (hr0 : Kd.C (Kd.int .u8) w0 A0 l0.length l0) (hc0 : l0.length ≤ c0) (h : spec_DrawLeastImpurity.f k l0 = some (z1, z2)) :
  Calls Try.prog 67 #[.slice A0 l0.length c0] w0 fun e w' => ∃ v0_ : Value, e = .returned (.tuple #[v0_, .int .i64 z2]) ∧ Kd.R k63 63 w' w0.heap.size (fun _ => True) v0_ z1 ∧ Below w0.heap.size w0 w' := by
 suffices H_ : Calls Try.prog 67 #[.slice A0 l0.length c0] w0 fun e w' => ∃ b_ : Nat, w0.heap.size ≤ b_ ∧ ∃ v0_ : Value, e = .returned (.tuple #[v0_, .int .i64 z2]) ∧ Kd.R k63 63 w' b_ (fun _ => True) v0_ z1 ∧ Below w0.heap.size w0 w' from H_.mono (fun e w' h_ => by
  obtain ⟨b_, hb_, v0_, he, ho0, hbel⟩ := h_
  exact ⟨v0_, he, Kd.R_lower ho0 hb_, hbel⟩)
 obtain ⟨⟨r1, r2, r3, r4⟩, hq, hs⟩ := Option.bind_eq_some_iff.1 h
 simp only [Option.some.injEq, Prod.mk.injEq] at hs
 obtain ⟨rfl, rfl⟩ := hs
 have HR_ := Aside0.mk hr0
 have Hq_ := am hq
 clear hr0 hc0 hq h
 go_enter Try.func67, Try.ntmps67
 go_upto_region 2 with (first | ((with_reducible refine gate_dst (N := 7) rfl ?_); refine box_event ?hg (N := 7) ?hd (cs := #[.slice A0 l0.length c0, .int .i64 0, .int .u64 0]) (t := 96) ?hr ?_; (case hd => rfl); (case hg => rfl); (case hr => exact zv'); intro g hg w hbox hb; have BX_ := Aside0.mk hbox; have HG_ := Aside0.mk hg; have HB_ := Aside0.mk hb; clear hg hbox hb))
 have hI : IsS96 w0 w g l0 0 0 := ⟨A0, c0, BX_.out, Nat.le_of_eq HG_.out.symm, HR_.out⟩
 have hB : Below w0.heap.size w0 w := HB_.out
 have h := Hq_.out
 clear BX_ HG_ HB_ Hq_ HR_
 have HI0 := Aside0.mk hI
 have HK := am (KeepBut.refl w g none)
 have HL := Aside0.mk hB.size
 clear hI
 have HW0 := Aside0.mk hB.size
 have HB := Aside0.mk hB
 clear hB
 have H : ((spec_l1Cur_bins.f k l0 0 0).bind fun bt206 => ((spec_l1Cur_among.f l0 bt206.2.1 bt206.2.2 (([0, 1, 2, 5, 12, 13, (-1)] : List Int))).bind fun bt214 => (some (bt206.1, bt214.1, bt214.2.1, bt214.2.2)))) = some (r1, r2, r3, r4) := h
 clear h
 replace H := Option.bind_eq_some_iff.mp H
 obtain ⟨⟨t206, t209, t210⟩, A20, H⟩ := H
 replace H : ((spec_l1Cur_among.f l0 t209 t210 (([0, 1, 2, 5, 12, 13, (-1)] : List Int))).bind fun bt214 => (some (t206, bt214.1, bt214.2.1, bt214.2.2))) = some (r1, r2, r3, r4) := H
 have A2 := Aside0.mk A20
 clear A20
 obtain ⟨y211, hy211⟩ : ∃ y_ : List Int, y_ = (([0, 1, 2, 5, 12, 13, (-1)] : List Int)) := ⟨_, rfl⟩
 replace H : ((spec_l1Cur_among.f l0 t209 t210 y211).bind fun bt214 => (some (t206, bt214.1, bt214.2.1, bt214.2.2))) = some (r1, r2, r3, r4) := by first | (rw [hy211]; with_reducible exact H) | (have H2_ := (Option.bind_some _ _).symm.trans H; rw [hy211]; with_reducible exact H2_) | (have H2_ := (Option.bind_some _ _).symm.trans H; with_reducible exact H2_) | with_reducible exact H | (rw [hy211]; exact H) | exact H
 have Ny211 := Aside0.mk hy211
 clear hy211
 replace H := Option.bind_eq_some_iff.mp H
 obtain ⟨⟨t214, t215, t216⟩, A30, H⟩ := H
 replace H : (some (t206, t214, t215, t216)) = some (r1, r2, r3, r4) := H
 have A3 := Aside0.mk A30
 clear A30
 simp only [Option.some.injEq, Prod.mk.injEq] at H
 obtain ⟨rfl, rfl, rfl, rfl⟩ := H
 go_wp2_with (first | ((with_reducible refine gate_callee (f := 73) rfl ?_); refine goesL_ (some 9) rfl rfl Try.func73 (by kernel_rfl) rfl #[.pointer (some ⟨g, 0, none⟩)] rfl zd' ?_; (with_reducible refine (spec_l1Cur_bins.calls k g l0 0 0 t206 t209 t210 w0 _ ?side1 ?side2 A2.out).mono ?_); (case side1 => exact zc'); (case side2 => exact ze'); rintro e w4 ⟨v207, rfl, ho0, hi, hb, hk⟩; refine ⟨_, rfl, ?_⟩; have n0_ := am (Kd.R_lower ho0 (keep_size (w := w) (g := g) (row := none) zb')); have n1_ := am (KeepBut.trans zb' hk (.inl rfl)); have n2_ := am (hb); have n3_ := am (hi); clear HK; clear HB; clear HI0; have HO208 := n0_; have HK := n1_; have HB := n2_; have HI0 := n3_; clear n0_ n1_ n2_ n3_; (try clear hb); (try clear hb2); (try clear hk); (try clear hi); (try clear ho0)) | ((with_reducible refine gate_dst (N := 11) rfl ?_); refine Kd.R_lit (Kd.int .i64) _ 3 ?hg (N := 11) ?hd (xs := ([0, 1, 2, 5, 12, 13, (-1)] : List Int)) (inner := [.int .i64 0, .int .i64 1, .int .i64 2, .int .i64 5, .int .i64 12, .int .i64 13, .int .i64 (-1)]) (ok := fun _ => True) (okp := fun _ => True) ?hr ?hp (fun _ hk => hk) trivial (Below.refl _ _) (Nat.le_refl _) (by simp) ?_; (case hd => rfl); (case hg => rfl); (case hr => exact zv'); (case hp => exact (Reps.one (show Kd.M (Kd.int .i64) _ _ _ 0 [.int .i64 0] from rfl) (Reps.one (show Kd.M (Kd.int .i64) _ _ _ 1 [.int .i64 1] from rfl) (Reps.one (show Kd.M (Kd.int .i64) _ _ _ 2 [.int .i64 2] from rfl) (Reps.one (show Kd.M (Kd.int .i64) _ _ _ 5 [.int .i64 5] from rfl) (Reps.one (show Kd.M (Kd.int .i64) _ _ _ 12 [.int .i64 12] from rfl) (Reps.one (show Kd.M (Kd.int .i64) _ _ _ 13 [.int .i64 13] from rfl) (Reps.one (show Kd.M (Kd.int .i64) _ _ _ (-1) [.int .i64 (-1)] from rfl) (Reps.none _ _))))))))); intro v212 w5 ho6 hb hg_ hnew_; clear hg_ hnew_; (first | rw [← Ny211.out] at ho6 | (simp only [Int.reduceToNat] at ho6; rw [← Ny211.out] at ho6)); have n0_ := am (Kd.R_below (by (with_reducible repeat (first | apply Kd.R_alloc | apply Kd.R_drewN | apply Kd.R_drew)); exact HO208.out) hb); have n1_ := am (Kd.R_lower ho6 (keep_size (w := w) (g := g) (row := none) zb')); have n2_ := am (IsS96.below zc' hb); have n3_ := am (KeepBut.trans zb' (KeepBut.of_below hb g none) (.inl rfl)); have n4_ := am (below_step ze' hb); clear HO208; clear HI0; clear HK; clear HB; have HO208 := n0_; have HO213 := n1_; have HI0 := n2_; have HK := n3_; have HB := n4_; clear n0_ n1_ n2_ n3_ n4_; clear hb ho6; obtain ⟨Ao7, co7, eo7⟩ := Kd.R_slice HO213.out; subst eo7) | ((with_reducible refine gate_callee (f := 82) rfl ?_); refine goesL_ (some 12) rfl rfl Try.func82 (by kernel_rfl) rfl #[.pointer (some ⟨g, 0, none⟩), .slice Ao7 y211.length co7] rfl zd' ?_; (with_reducible refine (spec_l1Cur_among.calls g l0 t209 t210 _ _ y211 t214 t215 t216 w0 _ ?side1 ?side2 ?side3 ?side4 ?side5 A3.out).mono ?_); (case side1 => exact zc'); (case side2 => exact ze'); (case side3 => repeat (first | exact (Kd.R_reads' HO213.out).2.2 | (with_reducible refine Kd.C_alloc ?_ _) | (with_reducible refine Kd.C_drewN ?_ _) | (with_reducible refine Kd.C_drew ?_))); (case side4 => exact (Kd.R_reads' HO213.out).2.1); (case side5 => exact far_slice (IsS96.own_ne HI0.out HO213.out (by decide))); rintro e w8 ⟨rfl, hi, hb, hk⟩; refine ⟨_, rfl, ?_⟩; have n0_ := am (Kd.R_mono (Kd.R_keep (IsS96.apart (show IsS96 w0 _ g l0 t209 t210 from by repeat (first | (with_reducible first | exact HI0.out | apply IsS96.alloc | apply IsS96.drewN | apply IsS96.drew | apply IsS96.set_1 | apply IsS96.set_2) | exact HI0.out)) (by (with_reducible repeat (first | apply Kd.R_alloc | apply Kd.R_drewN | apply Kd.R_drew)); exact HO208.out) (by decide)) hk (fun _ h => h.2)) (fun _ h => h.1)); have n1_ := am (Kd.R_mono (Kd.R_keep (IsS96.apart (show IsS96 w0 _ g l0 t209 t210 from by repeat (first | (with_reducible first | exact HI0.out | apply IsS96.alloc | apply IsS96.drewN | apply IsS96.drew | apply IsS96.set_1 | apply IsS96.set_2) | exact HI0.out)) (by (with_reducible repeat (first | apply Kd.R_alloc | apply Kd.R_drewN | apply Kd.R_drew)); exact HO213.out) (by decide)) hk (fun _ h => h.2)) (fun _ h => h.1)); have n2_ := am (KeepBut.trans zb' hk (.inl rfl)); have n3_ := am (hb); have n4_ := am (hi); clear HO208; clear HO213; clear HK; clear HB; clear HI0; have HO208 := n0_; have HO213 := n1_; have HK := n2_; have HB := n3_; have HI0 := n4_; clear n0_ n1_ n2_ n3_ n4_; (try clear hb); (try clear hb2); (try clear hk); (try clear hi)))
 go_ret2
 exact ⟨w.heap.size, HL.out, _, by first | rfl | (simp [errW_none, errW_some] <;> rfl) | (simp [*, errW_none, errW_some] <;> rfl), by (with_reducible repeat (first | apply Kd.R_alloc | apply Kd.R_drewN | apply Kd.R_drew)); exact HO208.out, by repeat (first | (with_reducible first | exact HB.out | apply ba | apply bn | apply below_drew1 | refine below_set ?_ (IsS96.ge HI0.out)) | exact HB.out)⟩


/-! ### spec_DrawGradeRange: function 34 -/
def spec_DrawGradeRange.f (k : Nat) (l0 : List Int) : Option ((List (S63)) × Int) := (spec_DrawLeastImpurity.f k l0).bind fun bt202 => (some (bt202.1, bt202.2))
set_option maxHeartbeats 8000000 in
set_option maxRecDepth 100000 in
theorem spec_DrawGradeRange.calls (k : Nat) (A0 : Option Addr) (c0 : Nat) (l0 : List Int) (r1 : List (S63)) (r2 : Int) (w : World) (hr0 : Kd.C (Kd.int .u8) w A0 l0.length l0) (hc0 : l0.length ≤ c0) (h : spec_DrawGradeRange.f k l0 = some (r1, r2)) :
  Calls Try.prog 34 #[.slice A0 l0.length c0] w fun e w' => ∃ v0_ : Value, e = .returned (.tuple #[v0_, .int .i64 r2]) ∧ Kd.R k63 63 w' w.heap.size (fun _ => True) v0_ r1 ∧ Below w.heap.size w w' := by
 have HR0 := Aside0.mk hr0
 have HC0 := Aside0.mk hc0
 clear hr0 hc0
 have HB := am (Below.refl w.heap.size w)
 have H : ((spec_DrawLeastImpurity.f k l0).bind fun bt202 => (some (bt202.1, bt202.2))) = some (r1, r2) := h
 clear h
 replace H := Option.bind_eq_some_iff.mp H
 obtain ⟨⟨t202, t203⟩, A20, H⟩ := H
 replace H : (some (t202, t203)) = some (r1, r2) := H
 have A2 := Aside0.mk A20
 clear A20
 simp only [Option.some.injEq, Prod.mk.injEq] at H
 obtain ⟨rfl, rfl⟩ := H
 go_enter Try.func34, Try.ntmps34
 go_wp2_with (first | ((with_reducible refine gate_callee (f := 67) rfl ?_); refine goesL_ (some 5) rfl rfl Try.func67 (by kernel_rfl) rfl #[.slice A0 l0.length c0] rfl zd' ?_; (with_reducible refine (spec_DrawLeastImpurity.calls k _ _ l0 t202 t203 _ ?side1 ?side2 A2.out).mono ?_); (case side1 => exact zj'); (case side2 => exact zl2'); rintro e w3 ⟨v204, rfl, ho0, hb⟩; refine ⟨_, rfl, ?_⟩; have n0_ := am (Kd.R_lower ho0 (below_size za')); have n1_ := am (below_step za' hb); clear HB; have HO205 := n0_; have HB := n1_; clear n0_ n1_; (try clear hb); (try clear hb2); (try clear hk); (try clear hi); (try clear ho0)))
 go_ret2
 exact ⟨_, by first | rfl | (simp [errW_none, errW_some] <;> rfl) | (simp [*, errW_none, errW_some] <;> rfl), by (with_reducible repeat (first | apply Kd.R_alloc | apply Kd.R_drewN | apply Kd.R_drew)); exact HO205.out, by repeat (first | (with_reducible first | exact HB.out | apply ba | apply bn | apply below_drew1) | exact HB.out)⟩

end Go.Proofs.Ytcinecbfkeefaaa.PFnBins
