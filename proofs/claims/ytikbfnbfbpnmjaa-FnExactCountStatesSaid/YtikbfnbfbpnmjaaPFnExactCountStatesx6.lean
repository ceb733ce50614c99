/- Text written by a program for this claim: contracts of the functions of one law. -/
import Derived.Test.YtikbfnbfbpnmjaaPFnExactCountStatesx0
import Derived.Test.YtikbfnbfbpnmjaaPFnExactCountStatesx4
namespace Go.Proofs.Ytikbfnbfbpnmjaa.PFnExactCountStates
open Go.RowKit Go.Proofs.YtikbfnbfbpnmjaaW.PrintWords Go.Proofs.YtikbfnbfbpnmjaaW.PrintLast Go.Proofs.YtikbfnbfbpnmjaaW.PrintMore
attribute [local go_sem] max2_int min2_int max_two min_two max_three min_three max_four min_four   -- for this text's walks alone
set_option linter.unusedVariables false
set_option linter.unusedSimpArgs false
open ShortPFnExactCountStates0

/-! ### spec_flList: function 102 -/
mutual
def spec_flList.l0 : Nat → List Int → Int → Int → Int → List (S80) → Int → Int → Option (Bool)
 | 0, _, _, _, _, _, _, _ => none
 | k + 1, x1, x2, x3, x9, x13, x14, x15 => if x15 < x14 then (if 0 ≤ x15 then (if x15 < (x13.length : Int) then (if ((rd_T80 x13 x15).f0) = x2 then (if x3 < 0 then (spec_flList.j1 k x1 x2 x3 x9 x15 x13 x14 x15 true) else (spec_flList.j1 k x1 x2 x3 x9 x15 x13 x14 x15 (((rd_T80 x13 x15).f1) == x3))) else (spec_flList.j1 k x1 x2 x3 x9 x15 x13 x14 x15 false)) else (none)) else (none)) else (some (x9 == (x1.length : Int)))
def spec_flList.j1 : Nat → List Int → Int → Int → Int → Int → List (S80) → Int → Int → Bool → Option (Bool)
 | 0, _, _, _, _, _, _, _, _, _ => none
 | k + 1, x1, x2, x3, x9, x10, x13, x14, x15, x33 => if x33 = true then ((spec_l1Has.f k x1 x10).bind fun t240 => (if t240 = true then (spec_flList.l0 k x1 x2 x3 (wrap64 (x9 + 1)) x13 x14 (wrap64 (x15 + 1))) else (some false))) else (spec_flList.l0 k x1 x2 x3 x9 x13 x14 (wrap64 (x15 + 1)))
end
def spec_flList.f (k : Nat) (l0_0 : List Int) (l0_1 : List Int) (l0_2 : List Int) (a0_3 : Int) (a0_4 : Int) (l0_5 : List (S80)) (l0_6 : List (List Int)) (l0_7 : List Int) (a0_8 : Int) (a0_9 : Int) (a0_10 : Int) (l1 : List Int) (a2 : Int) (a3 : Int) : Option (Bool) := spec_flList.l0 k l1 a2 a3 0 l0_5 (l0_5.length : Int) 0
set_option maxHeartbeats 8000000 in
set_option maxRecDepth 100000 in
theorem spec_flList.calls (k : Nat) (A0_0 : Option Addr) (c0_0 : Nat) (l0_0 : List Int) (A0_1 : Option Addr) (c0_1 : Nat) (l0_1 : List Int) (A0_2 : Option Addr) (c0_2 : Nat) (l0_2 : List Int) (a0_3 : Int) (a0_4 : Int) (A0_5 : Option Addr) (c0_5 : Nat) (l0_5 : List (S80)) (A0_6 : Option Addr) (c0_6 : Nat) (l0_6 : List (List Int)) (A0_7 : Option Addr) (c0_7 : Nat) (l0_7 : List Int) (a0_8 : Int) (a0_9 : Int) (a0_10 : Int) (A1 : Option Addr) (c1 : Nat) (l1 : List Int) (a2 : Int) (a3 : Int) (r : Bool) (w : World) (hr0_0 : Kd.C (Kd.int .i64) w A0_0 l0_0.length l0_0) (hc0_0 : l0_0.length ≤ c0_0) (hr0_1 : Kd.C (Kd.int .i64) w A0_1 l0_1.length l0_1) (hc0_1 : l0_1.length ≤ c0_1) (hr0_2 : Kd.C (Kd.int .i64) w A0_2 l0_2.length l0_2) (hc0_2 : l0_2.length ≤ c0_2) (hr0_5 : Kd.C k80 w A0_5 l0_5.length l0_5) (hc0_5 : l0_5.length ≤ c0_5) (hr0_6 : Kd.C (Kd.slice 3 (Kd.int .i64)) w A0_6 l0_6.length l0_6) (hc0_6 : l0_6.length ≤ c0_6) (hr0_7 : Kd.C (Kd.int .i64) w A0_7 l0_7.length l0_7) (hc0_7 : l0_7.length ≤ c0_7) (hr1 : Kd.C (Kd.int .i64) w A1 l1.length l1) (hc1 : l1.length ≤ c1) (h : spec_flList.f k l0_0 l0_1 l0_2 a0_3 a0_4 l0_5 l0_6 l0_7 a0_8 a0_9 a0_10 l1 a2 a3 = some r) :
  Calls Try.prog 102 #[.agg #[.slice A0_0 l0_0.length c0_0, .slice A0_1 l0_1.length c0_1, .slice A0_2 l0_2.length c0_2, .int .i64 a0_3, .int .i64 a0_4, .slice A0_5 l0_5.length c0_5, .slice A0_6 l0_6.length c0_6, .slice A0_7 l0_7.length c0_7, .int .i64 a0_8, .int .i64 a0_9, .int .i64 a0_10], .slice A1 l1.length c1, .int .i64 a2, .int .i64 a3] w fun e w' => e = .returned (.bool r) ∧ Below w.heap.size w w' := by
 have hu44 := Try.underlying44
 have hu80 := Try.underlying80
 have HR0_0 := Aside0.mk hr0_0
 have HC0_0 := Aside0.mk hc0_0
 clear hr0_0 hc0_0
 have HR0_1 := Aside0.mk hr0_1
 have HC0_1 := Aside0.mk hc0_1
 clear hr0_1 hc0_1
 have HR0_2 := Aside0.mk hr0_2
 have HC0_2 := Aside0.mk hc0_2
 clear hr0_2 hc0_2
 have HR0_5 := Aside0.mk hr0_5
 have HC0_5 := Aside0.mk hc0_5
 clear hr0_5 hc0_5
 have HR0_6 := Aside0.mk hr0_6
 have HC0_6 := Aside0.mk hc0_6
 clear hr0_6 hc0_6
 have HR0_7 := Aside0.mk hr0_7
 have HC0_7 := Aside0.mk hc0_7
 clear hr0_7 hc0_7
 have HR1 := Aside0.mk hr1
 have HC1 := Aside0.mk hc1
 clear hr1 hc1
 have HB := am (Below.refl w.heap.size w)
 have H : (spec_flList.l0 k l1 a2 a3 0 l0_5 (l0_5.length : Int) 0) = some r := h
 clear h
 have H' := Aside0.mk H
 clear H
 go_enter Try.func102, Try.ntmps102
 go_wp2_with (first | ((with_reducible refine gate_dst (N := 4) rfl ?_); refine box_event ?hg (N := 4) ?hd (cs := #[.slice A0_0 l0_0.length c0_0, .slice A0_1 l0_1.length c0_1, .slice A0_2 l0_2.length c0_2, .int .i64 a0_3, .int .i64 a0_4, .slice A0_5 l0_5.length c0_5, .slice A0_6 l0_6.length c0_6, .slice A0_7 l0_7.length c0_7, .int .i64 a0_8, .int .i64 a0_9, .int .i64 a0_10]) (t := 44) ?hr ?_; (case hd => rfl); (case hg => rfl); (case hr => exact zl'); intro gb237 hg w5 hbox hb; have n0_ := am (below_step za' hb); have n1_ := am (hbox); have n2_ := am ((by rw [hg]; exact (below_size za') : w.heap.size ≤ gb237)); have n3_ := am ((by rw [hg]; exact (below_size za') : w.heap.size ≤ gb237)); clear HB; have HB := n0_; have BK237 := n1_; have GW237 := n2_; have GE237 := n3_; clear n0_ n1_ n2_ n3_; clear hb hbox hg; have hcz6_0 : w5.cell? ⟨gb237, 0, none⟩ = some (.slice A0_0 l0_0.length c0_0) := (blk_cell BK237.out 0).trans rfl; have hcz6_1 : w5.cell? ⟨gb237, 1, none⟩ = some (.slice A0_1 l0_1.length c0_1) := (blk_cell BK237.out 1).trans rfl; have hcz6_2 : w5.cell? ⟨gb237, 2, none⟩ = some (.slice A0_2 l0_2.length c0_2) := (blk_cell BK237.out 2).trans rfl; have hcz6_3 : w5.cell? ⟨gb237, 3, none⟩ = some (.int .i64 a0_3) := (blk_cell BK237.out 3).trans rfl; have hcz6_4 : w5.cell? ⟨gb237, 4, none⟩ = some (.int .i64 a0_4) := (blk_cell BK237.out 4).trans rfl; have hcz6_5 : w5.cell? ⟨gb237, 5, none⟩ = some (.slice A0_5 l0_5.length c0_5) := (blk_cell BK237.out 5).trans rfl; have hcz6_6 : w5.cell? ⟨gb237, 6, none⟩ = some (.slice A0_6 l0_6.length c0_6) := (blk_cell BK237.out 6).trans rfl; have hcz6_7 : w5.cell? ⟨gb237, 7, none⟩ = some (.slice A0_7 l0_7.length c0_7) := (blk_cell BK237.out 7).trans rfl; have hcz6_8 : w5.cell? ⟨gb237, 8, none⟩ = some (.int .i64 a0_8) := (blk_cell BK237.out 8).trans rfl; have hcz6_9 : w5.cell? ⟨gb237, 9, none⟩ = some (.int .i64 a0_9) := (blk_cell BK237.out 9).trans rfl; have hcz6_10 : w5.cell? ⟨gb237, 10, none⟩ = some (.int .i64 a0_10) := (blk_cell BK237.out 10).trans rfl; have hfz6_0 := blk_frozen BK237.out 0; have hfz6_1 := blk_frozen BK237.out 1; have hfz6_2 := blk_frozen BK237.out 2; have hfz6_3 := blk_frozen BK237.out 3; have hfz6_4 := blk_frozen BK237.out 4; have hfz6_5 := blk_frozen BK237.out 5; have hfz6_6 := blk_frozen BK237.out 6; have hfz6_7 := blk_frozen BK237.out 7; have hfz6_8 := blk_frozen BK237.out 8; have hfz6_9 := blk_frozen BK237.out 9; have hfz6_10 := blk_frozen BK237.out 10))
 go_loopg [9, 15] k (fun kq v9 v15 w' => ∃ (x9_1 : Int) (x15_1 : Int), v9 = .int .i64 x9_1 ∧ v15 = .int .i64 x15_1 ∧ Aside0 (spec_flList.l0 kq l1 a2 a3 x9_1 l0_5 (l0_5.length : Int) x15_1 = some r) ∧ Aside0 (kq ≤ k) ∧ Aside0 (w'.heap[gb237]? = some (.cells #[(.slice A0_0 l0_0.length c0_0), (.slice A0_1 l0_1.length c0_1), (.slice A0_2 l0_2.length c0_2), .int .i64 a0_3, .int .i64 a0_4, (.slice A0_5 l0_5.length c0_5), (.slice A0_6 l0_6.length c0_6), (.slice A0_7 l0_7.length c0_7), .int .i64 a0_8, .int .i64 a0_9, .int .i64 a0_10] 44 (0, 0))) ∧ Aside0 (Below w.heap.size w w'))
 case atStart => exact ⟨(0), (0), zj', zj', H', ⟨Nat.le_refl _⟩, ⟨ze3'⟩, ⟨zb3'⟩⟩
 case round =>
  clear H'
  try clear c1
  try clear p2
  try clear hcz6_0
  try clear hcz6_1
  try clear hcz6_10
  try clear hcz6_2
  try clear hcz6_3
  try clear hcz6_4
  try clear hcz6_5
  try clear hcz6_6
  try clear hcz6_7
  try clear hcz6_8
  try clear hcz6_9
  try clear hfz6_0
  try clear hfz6_1
  try clear hfz6_10
  try clear hfz6_2
  try clear hfz6_3
  try clear hfz6_4
  try clear hfz6_5
  try clear hfz6_6
  try clear hfz6_7
  try clear hfz6_8
  try clear hfz6_9
  obtain ⟨x9_1, x15_1, rfl, rfl, HA, HK1, BK237, HB⟩ := hrel
  cases gk with
  | zero => exact absurd HA.out (by simp [spec_flList.l0])
  | succ k1 =>
   have H := HA.out; clear HA; simp only [spec_flList.l0] at H
   by_cases c7 : x15_1 < (l0_5.length : Int)
   ·rw [if_pos c7] at H
    have c7b0 : decide (x15_1 < (l0_5.length : Int)) = true := decide_eq_true c7; clear c7
    by_cases c8 : 0 ≤ x15_1
    ·rw [if_pos c8] at H
     have c8b0 : decide (0 ≤ x15_1) = true := decide_eq_true c8; clear c8
     by_cases c9 : x15_1 < (l0_5.length : Int)
     ·rw [if_pos c9] at H
      have c9b0 : decide (x15_1 < (l0_5.length : Int)) = true := decide_eq_true c9; clear c9; have HC10 := Aside0.mk H; clear H; have p238 : 0 ≤ (x15_1 : Int) := odt; have q238 : x15_1 < (l0_5.length : Int) := odt; obtain ⟨ad238, e238, hx238_0, hx238_1, hx238_2⟩ := at_T80 HR0_5.out x15_1 p238 q238; cases e238
      try replace hx238_0 := (HB.out.cell (World.block_lt_of_cell? w _ hx238_0)).trans hx238_0
      try replace hx238_1 := (HB.out.cell (World.block_lt_of_cell? w _ hx238_1)).trans hx238_1
      try replace hx238_2 := (HB.out.cell (World.block_lt_of_cell? w _ hx238_2)).trans hx238_2
      replace p238 := eq_true p238; replace q238 := eq_true q238
      go_upto_region 5 with (first | ((with_reducible refine gate_dst (N := 11) rfl ?_); refine box_event ?hg (N := 11) ?hd (cs := #[.int .i64 0, .int .i64 0, .int .i64 0]) (t := 80) ?hr ?_; (case hd => rfl); (case hg => rfl); (case hr => exact zl'); intro gb239 hg w11 hbox hb; have n0_ := am (blk_below (g := gb237) (o := o11') ze3' hb); have n1_ := am (below_step zb3' hb); have n2_ := am (hbox); have n3_ := am ((by rw [hg]; exact (below_size zb3') : w.heap.size ≤ gb239)); have n4_ := am ((by rw [hg]; exact (below_size zb3') : w.heap.size ≤ gb239)); have n5_ := am ((by rw [hg]; exact Nat.ne_of_lt (blk_lt (g := gb237) (o := o11') ze3') : gb237 ≠ gb239)); have n6_ := am ((by rw [hg]; exact Nat.ne_of_gt (blk_lt (g := gb237) (o := o11') ze3') : gb239 ≠ gb237)); clear BK237; clear HB; have BK237 := n0_; have HB := n1_; have BK239 := n2_; have GW239 := n3_; have GE239 := n4_; have NB237_239 := n5_; have NB239_237 := n6_; clear n0_ n1_ n2_ n3_ n4_ n5_ n6_; clear hb hbox hg; have hnb12 := NB239_237.out; have hnc12 := NB237_239.out; have hcz13_0 : w11.cell? ⟨gb239, 0, none⟩ = some (.int .i64 0) := (blk_cell BK239.out 0).trans rfl; have hcz13_1 : w11.cell? ⟨gb239, 1, none⟩ = some (.int .i64 0) := (blk_cell BK239.out 1).trans rfl; have hcz13_2 : w11.cell? ⟨gb239, 2, none⟩ = some (.int .i64 0) := (blk_cell BK239.out 2).trans rfl; have hfz13_0 := blk_frozen BK239.out 0; have hfz13_1 := blk_frozen BK239.out 1; have hfz13_2 := blk_frozen BK239.out 2))
      (try simp only [Act.put, s1, s2, s3])
      go_cut [33] (fun v33 wc => ∃ (kq : Nat) (x33_9 : Bool), v33 = .bool x33_9 ∧ Aside0 (spec_flList.j1 kq l1 a2 a3 x9_1 x15_1 l0_5 (l0_5.length : Int) x15_1 x33_9 = some r) ∧ Aside0 (kq ≤ k1) ∧ Aside0 (wc.heap[gb237]? = some (.cells #[(.slice A0_0 l0_0.length c0_0), (.slice A0_1 l0_1.length c0_1), (.slice A0_2 l0_2.length c0_2), .int .i64 a0_3, .int .i64 a0_4, (.slice (some ad238) l0_5.length c0_5), (.slice A0_6 l0_6.length c0_6), (.slice A0_7 l0_7.length c0_7), .int .i64 a0_8, .int .i64 a0_9, .int .i64 a0_10] 44 (0, 0))) ∧ Aside0 (wc.heap[gb239]? = some (.cells #[.int .i64 ((rd_T80 l0_5 x15_1).f0), .int .i64 ((rd_T80 l0_5 x15_1).f1), .int .i64 ((rd_T80 l0_5 x15_1).f2)] 80 (0, 0))) ∧ Aside0 (Below w.heap.size w wc))
      case first =>
       have H := HC10.out; clear HC10
       by_cases c14 : ((rd_T80 l0_5 x15_1).f0) = a2
       ·rw [if_pos c14] at H
        have c14b0 : (((rd_T80 l0_5 x15_1).f0) == a2) = true := beq_iff_eq.mpr c14; have c14b1 : (((rd_T80 l0_5 x15_1).f0) != a2) = false := bne_eq_false_iff_eq.mpr c14; clear c14
        (first | rw [c14b0] | (simp only [i64_w, i32_w]; rw [c14b0]) | skip)
        by_cases c15 : a3 < 0
        ·rw [if_pos c15] at H
         have c15b0 : decide (a3 < 0) = true := decide_eq_true c15; clear c15; have H' := Aside0.mk H; clear H; have hnb16 := NB239_237.out; have hnc16 := NB237_239.out; have hcz17_0 : w11.cell? ⟨gb239, 0, none⟩ = some (.int .i64 0) := (blk_cell BK239.out 0).trans rfl; have hcz17_1 : w11.cell? ⟨gb239, 1, none⟩ = some (.int .i64 0) := (blk_cell BK239.out 1).trans rfl; have hcz17_2 : w11.cell? ⟨gb239, 2, none⟩ = some (.int .i64 0) := (blk_cell BK239.out 2).trans rfl; have hfz17_0 := blk_frozen BK239.out 0; have hfz17_1 := blk_frozen BK239.out 1; have hfz17_2 := blk_frozen BK239.out 2
         go_wp2
         go_meet
         case rel => exact ⟨_, (true), zj', H', ⟨zs4'⟩, ⟨zd2'⟩, ⟨zm1'⟩, ⟨ze2'⟩⟩
        ·rw [if_neg c15] at H
         have c15b0 : decide (a3 < 0) = false := decide_eq_false c15; clear c15; have H' := Aside0.mk H; clear H; have hnb18 := NB239_237.out; have hnc18 := NB237_239.out; have hcz19_0 : w11.cell? ⟨gb239, 0, none⟩ = some (.int .i64 0) := (blk_cell BK239.out 0).trans rfl; have hcz19_1 : w11.cell? ⟨gb239, 1, none⟩ = some (.int .i64 0) := (blk_cell BK239.out 1).trans rfl; have hcz19_2 : w11.cell? ⟨gb239, 2, none⟩ = some (.int .i64 0) := (blk_cell BK239.out 2).trans rfl; have hfz19_0 := blk_frozen BK239.out 0; have hfz19_1 := blk_frozen BK239.out 1; have hfz19_2 := blk_frozen BK239.out 2
         go_wp2
         go_meet
         case rel => exact ⟨_, ((((rd_T80 l0_5 x15_1).f1) == a3)), zj', H', ⟨zs4'⟩, ⟨zd2'⟩, ⟨zm1'⟩, ⟨ze2'⟩⟩
       ·rw [if_neg c14] at H
        have c14b0 : (((rd_T80 l0_5 x15_1).f0) == a2) = false := beq_eq_false_iff_ne.mpr c14; have c14b1 : (((rd_T80 l0_5 x15_1).f0) != a2) = true := bne_iff_ne.mpr c14
        (first | rw [c14b0] | (simp only [i64_w, i32_w]; rw [c14b0]) | skip)
        have H' := Aside0.mk H; clear H; have hnb20 := NB239_237.out; have hnc20 := NB237_239.out; have hcz21_0 : w11.cell? ⟨gb239, 0, none⟩ = some (.int .i64 0) := (blk_cell BK239.out 0).trans rfl; have hcz21_1 : w11.cell? ⟨gb239, 1, none⟩ = some (.int .i64 0) := (blk_cell BK239.out 1).trans rfl; have hcz21_2 : w11.cell? ⟨gb239, 2, none⟩ = some (.int .i64 0) := (blk_cell BK239.out 2).trans rfl; have hfz21_0 := blk_frozen BK239.out 0; have hfz21_1 := blk_frozen BK239.out 1; have hfz21_2 := blk_frozen BK239.out 2
        go_wp2
        go_meet
        case rel => exact ⟨_, (false), zj', H', ⟨zs4'⟩, ⟨zd2'⟩, ⟨zm1'⟩, ⟨ze2'⟩⟩
      case rest =>
       clear HC10; (try clear c1); (try clear c2); (try clear p2); (try clear q2); (try clear hx2); (try clear c7); (try clear c7b0); (try clear c8); (try clear c8b0); (try clear c9); (try clear c9b0); (try clear c10); (try clear c12); (try clear c14); (try clear c14b0); (try clear c14b1); (try clear c15); (try clear c15b0); (try clear c16); (try clear c18); (try clear c20); (try clear hcz13_0); (try clear hcz13_1); (try clear hcz13_2); (try clear hcz17_0); (try clear hcz17_1); (try clear hcz17_2); (try clear hcz19_0); (try clear hcz19_1); (try clear hcz19_2); (try clear hcz21_0); (try clear hcz21_1); (try clear hcz21_2); (try clear hcz6_0); (try clear hcz6_1); (try clear hcz6_10); (try clear hcz6_2); (try clear hcz6_3); (try clear hcz6_4); (try clear hcz6_5); (try clear hcz6_6); (try clear hcz6_7); (try clear hcz6_8); (try clear hcz6_9); (try clear hfz13_0); (try clear hfz13_1); (try clear hfz13_2); (try clear hfz17_0); (try clear hfz17_1); (try clear hfz17_2); (try clear hfz19_0); (try clear hfz19_1); (try clear hfz19_2); (try clear hfz21_0); (try clear hfz21_1); (try clear hfz21_2); (try clear hfz6_0); (try clear hfz6_1); (try clear hfz6_10); (try clear hfz6_2); (try clear hfz6_3); (try clear hfz6_4); (try clear hfz6_5); (try clear hfz6_6); (try clear hfz6_7); (try clear hfz6_8); (try clear hfz6_9); (try clear hx238_0); (try clear hx238_1); (try clear hx238_2); (try clear p2); (try clear p238); (try clear q238); obtain ⟨kq, x33_9, rfl, HA, HJ9, BK237, BK239, HB⟩ := hcut
       cases kq with
       | zero => exact absurd HA.out (by simp [spec_flList.j1])
       | succ kj9 =>
        have H := HA.out; clear HA; simp only [spec_flList.j1] at H
        by_cases c22 : x33_9 = true
        ·subst c22
         have H1 : ((spec_l1Has.f kj9 l1 x15_1).bind fun t240 => (if t240 = true then (spec_flList.l0 kj9 l1 a2 a3 (wrap64 (x9_1 + 1)) l0_5 (l0_5.length : Int) (wrap64 (x15_1 + 1))) else (some false))) = some r := by rw [if_pos rfl] at H; exact H
         clear H; have H := H1; clear H1; replace H := Option.bind_eq_some_iff.mp H; obtain ⟨t240, A230, H⟩ := H; replace H : (if t240 = true then (spec_flList.l0 kj9 l1 a2 a3 (wrap64 (x9_1 + 1)) l0_5 (l0_5.length : Int) (wrap64 (x15_1 + 1))) else (some false)) = some r := H; have A23 := Aside0.mk A230; clear A230
         by_cases c24 : t240 = true
         ·subst c24
          have H1 : (spec_flList.l0 kj9 l1 a2 a3 (wrap64 (x9_1 + 1)) l0_5 (l0_5.length : Int) (wrap64 (x15_1 + 1))) = some r := by rw [if_pos rfl] at H; exact H
          clear H; have H := H1; clear H1; have H' := Aside0.mk H; clear H
          go_wp2_with (first | ((with_reducible refine gate_callee (f := 117) rfl ?_); refine goesL_ (some 38) rfl rfl Try.func117 (by kernel_rfl) rfl #[.slice A1 l1.length c1, .int .i64 x15_1] rfl zb' ?_; (with_reducible refine (spec_l1Has.calls kj9 _ _ l1 x15_1 true _ ?side1 ?side2 A23.out).mono ?_); (case side1 => exact zc5'); (case side2 => exact HC1.out); rintro e w' ⟨rfl, ⟨nd, rfl⟩⟩; refine ⟨_, rfl, ?_⟩))
          go_roundg kj9
          case measure => have := HK1.out; have := HJ9.out; omega
          case rel => exact ⟨(wrap64 (x9_1 + 1)), (wrap64 (x15_1 + 1)), zj', zj', H', ⟨by have := HK1.out; have := HJ9.out; omega⟩, ⟨ze3'⟩, ⟨ze2'⟩⟩
         ·replace c24 := Bool.eq_false_iff.mpr c24
          subst c24
          have H1 : (some false) = some r := by rw [if_neg (show ¬ (false = true) by decide)] at H; exact H
          clear H; have H := H1; clear H1; obtain rfl := Option.some.inj H
          go_wp2_with (first | ((with_reducible refine gate_callee (f := 117) rfl ?_); refine goesL_ (some 38) rfl rfl Try.func117 (by kernel_rfl) rfl #[.slice A1 l1.length c1, .int .i64 x15_1] rfl zb' ?_; (with_reducible refine (spec_l1Has.calls kj9 _ _ l1 x15_1 false _ ?side1 ?side2 A23.out).mono ?_); (case side1 => exact zc5'); (case side2 => exact HC1.out); rintro e w' ⟨rfl, ⟨nd, rfl⟩⟩; refine ⟨_, rfl, ?_⟩))
          go_ret
          exact ⟨by first | rfl | (simp [errW_none, errW_some] <;> rfl) | (simp [*, errW_none, errW_some] <;> rfl), by repeat (first | (with_reducible first | exact HB.out | apply ba | apply bn | apply below_drew1 | refine below_set ?_ GE237.out | refine below_set ?_ GE239.out) | exact HB.out)⟩
        ·replace c22 := Bool.eq_false_iff.mpr c22
         subst c22
         have H1 : (spec_flList.l0 kj9 l1 a2 a3 x9_1 l0_5 (l0_5.length : Int) (wrap64 (x15_1 + 1))) = some r := by rw [if_neg (show ¬ (false = true) by decide)] at H; exact H
         clear H; have H := H1; clear H1; have H' := Aside0.mk H; clear H
         go_wp2
         go_roundg kj9
         case measure => have := HK1.out; have := HJ9.out; omega
         case rel => exact ⟨(x9_1), (wrap64 (x15_1 + 1)), zj', zj', H', ⟨by have := HK1.out; have := HJ9.out; omega⟩, ⟨ze3'⟩, ⟨ze2'⟩⟩
     ·rw [if_neg c9] at H
      exact absurd H (by simp)
    ·rw [if_neg c8] at H
     exact absurd H (by simp)
   ·rw [if_neg c7] at H
    have c7b0 : decide (x15_1 < (l0_5.length : Int)) = false := decide_eq_false c7; clear c7; obtain rfl := Option.some.inj H
    go_wp2
    go_ret
    exact ⟨by first | rfl | (simp [errW_none, errW_some] <;> rfl) | (simp [*, errW_none, errW_some] <;> rfl), by repeat (first | (with_reducible first | exact HB.out | apply ba | apply bn | apply below_drew1 | refine below_set ?_ GE237.out) | exact HB.out)⟩

end Go.Proofs.Ytikbfnbfbpnmjaa.PFnExactCountStates
