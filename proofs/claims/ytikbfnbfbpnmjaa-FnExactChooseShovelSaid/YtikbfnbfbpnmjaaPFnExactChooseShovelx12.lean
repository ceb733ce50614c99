/- Text written by a program for this claim: contracts of the functions of one law. -/
import Derived.Test.YtikbfnbfbpnmjaaPFnExactChooseShovelx0
import Derived.Test.YtikbfnbfbpnmjaaPFnExactChooseShovelx11
namespace Go.Proofs.Ytikbfnbfbpnmjaa.PFnExactChooseShovel
open Go.RowKit Go.Proofs.YtikbfnbfbpnmjaaW.PrintWords Go.Proofs.YtikbfnbfbpnmjaaW.PrintLast Go.Proofs.YtikbfnbfbpnmjaaW.PrintMore
attribute [local go_sem] max2_int min2_int max_two min_two max_three min_three max_four min_four   -- for this text's walks alone
set_option linter.unusedVariables false
set_option linter.unusedSimpArgs false
open ShortPFnExactChooseShovel0

/-! ### impl_chooseShovel: function 83 -/
mutual
def impl_chooseShovel.l0 : Nat → Int → Int → Int → Int → List Int → List Int → List Int → Int → Int → List (S80) → List (List Int) → List Int → Int → Int → Int → Option (Int)
 | 0, _, _, _, _, _, _, _, _, _, _, _, _, _, _, _ => none
 | k + 1, x3, x4, x12, x13, x278000, x278001, x278002, x278003, x278004, x278005, x278006, x278007, x278008, x278009, x278010 => if x13 < x12 then (if 0 ≤ x13 then (if x13 < (x278002.length : Int) then (impl_chooseShovel.l1 k x3 x4 x13 (rd x278002 x13) x12 x13 x278005 (x278005.length : Int) 0 x278000 x278001 x278002 x278003 x278004 x278005 x278006 x278007 x278008 x278009 x278010) else (none)) else (none)) else (some x3)
def impl_chooseShovel.l1 : Nat → Int → Int → Int → Int → Int → Int → List (S80) → Int → Int → List Int → List Int → List Int → Int → Int → List (S80) → List (List Int) → List Int → Int → Int → Int → Option (Int)
 | 0, _, _, _, _, _, _, _, _, _, _, _, _, _, _, _, _, _, _, _, _ => none
 | k + 1, x3, x4, x5, x6, x12, x13, x23, x24, x25, x278000, x278001, x278002, x278003, x278004, x278005, x278006, x278007, x278008, x278009, x278010 => if x25 < x24 then (if 0 ≤ x25 then (if x25 < (x23.length : Int) then (if ((rd_T80 x23 x25).f1) = x5 then (if ((rd_T80 x23 x25).f0) = 0 then (if 0 ≤ x5 then (if x5 < (x278000.length : Int) then (impl_chooseShovel.l1 k x3 x4 x5 (wrap64 (x6 + (rd x278000 x5))) x12 x13 x23 x24 (wrap64 (x25 + 1)) x278000 x278001 x278002 x278003 x278004 x278005 x278006 x278007 x278008 x278009 x278010) else (none)) else (none)) else (if ((rd_T80 x23 x25).f0) = 1 then (if 0 ≤ x5 then (if x5 < (x278000.length : Int) then (impl_chooseShovel.l1 k x3 x4 x5 (wrap64 (x6 + (rd x278000 x5))) x12 x13 x23 x24 (wrap64 (x25 + 1)) x278000 x278001 x278002 x278003 x278004 x278005 x278006 x278007 x278008 x278009 x278010) else (none)) else (none)) else (if ((rd_T80 x23 x25).f0) = 5 then (if 0 ≤ x5 then (if x5 < (x278000.length : Int) then (impl_chooseShovel.l1 k x3 x4 x5 (wrap64 (x6 + (rd x278000 x5))) x12 x13 x23 x24 (wrap64 (x25 + 1)) x278000 x278001 x278002 x278003 x278004 x278005 x278006 x278007 x278008 x278009 x278010) else (none)) else (none)) else (impl_chooseShovel.l1 k x3 x4 x5 x6 x12 x13 x23 x24 (wrap64 (x25 + 1)) x278000 x278001 x278002 x278003 x278004 x278005 x278006 x278007 x278008 x278009 x278010)))) else (impl_chooseShovel.l1 k x3 x4 x5 x6 x12 x13 x23 x24 (wrap64 (x25 + 1)) x278000 x278001 x278002 x278003 x278004 x278005 x278006 x278007 x278008 x278009 x278010)) else (none)) else (none)) else (if x4 < 0 then (impl_chooseShovel.l0 k x5 x6 x12 (wrap64 (x13 + 1)) x278000 x278001 x278002 x278003 x278004 x278005 x278006 x278007 x278008 x278009 x278010) else (if x6 < x4 then (impl_chooseShovel.l0 k x5 x6 x12 (wrap64 (x13 + 1)) x278000 x278001 x278002 x278003 x278004 x278005 x278006 x278007 x278008 x278009 x278010) else (impl_chooseShovel.l0 k x3 x4 x12 (wrap64 (x13 + 1)) x278000 x278001 x278002 x278003 x278004 x278005 x278006 x278007 x278008 x278009 x278010)))
end
def impl_chooseShovel.f (k : Nat) (l0_0 : List Int) (l0_1 : List Int) (l0_2 : List Int) (a0_3 : Int) (a0_4 : Int) (l0_5 : List (S80)) (l0_6 : List (List Int)) (l0_7 : List Int) (a0_8 : Int) (a0_9 : Int) (a0_10 : Int) : Option (Int) := impl_chooseShovel.l0 k 0 (-1) (l0_0.length : Int) 0 l0_0 l0_1 l0_2 a0_3 a0_4 l0_5 l0_6 l0_7 a0_8 a0_9 a0_10
set_option maxHeartbeats 8000000 in
set_option maxRecDepth 100000 in
theorem impl_chooseShovel.calls (k : Nat) (A0_0 : Option Addr) (c0_0 : Nat) (l0_0 : List Int) (A0_1 : Option Addr) (c0_1 : Nat) (l0_1 : List Int) (A0_2 : Option Addr) (c0_2 : Nat) (l0_2 : List Int) (a0_3 : Int) (a0_4 : Int) (A0_5 : Option Addr) (c0_5 : Nat) (l0_5 : List (S80)) (A0_6 : Option Addr) (c0_6 : Nat) (l0_6 : List (List Int)) (A0_7 : Option Addr) (c0_7 : Nat) (l0_7 : List Int) (a0_8 : Int) (a0_9 : Int) (a0_10 : Int) (r : Int) (w : World) (hr0_0 : Kd.C (Kd.int .i64) w A0_0 l0_0.length l0_0) (hc0_0 : l0_0.length ≤ c0_0) (hr0_1 : Kd.C (Kd.int .i64) w A0_1 l0_1.length l0_1) (hc0_1 : l0_1.length ≤ c0_1) (hr0_2 : Kd.C (Kd.int .i64) w A0_2 l0_2.length l0_2) (hc0_2 : l0_2.length ≤ c0_2) (hr0_5 : Kd.C k80 w A0_5 l0_5.length l0_5) (hc0_5 : l0_5.length ≤ c0_5) (hr0_6 : Kd.C (Kd.slice 3 (Kd.int .i64)) w A0_6 l0_6.length l0_6) (hc0_6 : l0_6.length ≤ c0_6) (hr0_7 : Kd.C (Kd.int .i64) w A0_7 l0_7.length l0_7) (hc0_7 : l0_7.length ≤ c0_7) (h : impl_chooseShovel.f k l0_0 l0_1 l0_2 a0_3 a0_4 l0_5 l0_6 l0_7 a0_8 a0_9 a0_10 = some r) :
  Calls Try.prog 83 #[.agg #[.slice A0_0 l0_0.length c0_0, .slice A0_1 l0_1.length c0_1, .slice A0_2 l0_2.length c0_2, .int .i64 a0_3, .int .i64 a0_4, .slice A0_5 l0_5.length c0_5, .slice A0_6 l0_6.length c0_6, .slice A0_7 l0_7.length c0_7, .int .i64 a0_8, .int .i64 a0_9, .int .i64 a0_10]] w fun e w' => e = .returned (.int .i64 r) ∧ Below w.heap.size w w' := by
 have hu44 := Try.underlying44
 have hu80 := Try.underlying80
 have HR0_0 := Aside0.mk hr0_0
 have HC0_0 := Aside0.mk hc0_0
 clear hr0_0 hc0_0
 have HR0_1 := Aside0.mk hr0_1
 have HC0_1 := Aside0.mk hc0_1
 clear hr0_1 hc0_1
 have HR0_2 := Aside0.mk hr0_2
 have HC0_2 := Aside0.mk hc0_2
 clear hr0_2 hc0_2
 have HR0_5 := Aside0.mk hr0_5
 have HC0_5 := Aside0.mk hc0_5
 clear hr0_5 hc0_5
 have HR0_6 := Aside0.mk hr0_6
 have HC0_6 := Aside0.mk hc0_6
 clear hr0_6 hc0_6
 have HR0_7 := Aside0.mk hr0_7
 have HC0_7 := Aside0.mk hc0_7
 clear hr0_7 hc0_7
 have HB := am (Below.refl w.heap.size w)
 have H : (impl_chooseShovel.l0 k 0 (-1) (l0_0.length : Int) 0 l0_0 l0_1 l0_2 a0_3 a0_4 l0_5 l0_6 l0_7 a0_8 a0_9 a0_10) = some r := h
 clear h
 have H' := Aside0.mk H
 clear H
 go_enter Try.func83, Try.ntmps83
 go_wp2_with (first | ((with_reducible refine gate_dst (N := 1) rfl ?_); refine box_event ?hg (N := 1) ?hd (cs := #[.slice A0_0 l0_0.length c0_0, .slice A0_1 l0_1.length c0_1, .slice A0_2 l0_2.length c0_2, .int .i64 a0_3, .int .i64 a0_4, .slice A0_5 l0_5.length c0_5, .slice A0_6 l0_6.length c0_6, .slice A0_7 l0_7.length c0_7, .int .i64 a0_8, .int .i64 a0_9, .int .i64 a0_10]) (t := 44) ?hr ?_; (case hd => rfl); (case hg => rfl); (case hr => exact zm'); intro gb277 hg w2 hbox hb; have n0_ := am (below_step za' hb); have n1_ := am (hbox); have n2_ := am ((by rw [hg]; exact (below_size za') : w.heap.size ≤ gb277)); have n3_ := am ((by rw [hg]; exact (below_size za') : w.heap.size ≤ gb277)); clear HB; have HB := n0_; have BK277 := n1_; have GW277 := n2_; have GE277 := n3_; clear n0_ n1_ n2_ n3_; clear hb hbox hg; have hcz3_0 : w2.cell? ⟨gb277, 0, none⟩ = some (.slice A0_0 l0_0.length c0_0) := (blk_cell BK277.out 0).trans rfl; have hcz3_1 : w2.cell? ⟨gb277, 1, none⟩ = some (.slice A0_1 l0_1.length c0_1) := (blk_cell BK277.out 1).trans rfl; have hcz3_2 : w2.cell? ⟨gb277, 2, none⟩ = some (.slice A0_2 l0_2.length c0_2) := (blk_cell BK277.out 2).trans rfl; have hcz3_3 : w2.cell? ⟨gb277, 3, none⟩ = some (.int .i64 a0_3) := (blk_cell BK277.out 3).trans rfl; have hcz3_4 : w2.cell? ⟨gb277, 4, none⟩ = some (.int .i64 a0_4) := (blk_cell BK277.out 4).trans rfl; have hcz3_5 : w2.cell? ⟨gb277, 5, none⟩ = some (.slice A0_5 l0_5.length c0_5) := (blk_cell BK277.out 5).trans rfl; have hcz3_6 : w2.cell? ⟨gb277, 6, none⟩ = some (.slice A0_6 l0_6.length c0_6) := (blk_cell BK277.out 6).trans rfl; have hcz3_7 : w2.cell? ⟨gb277, 7, none⟩ = some (.slice A0_7 l0_7.length c0_7) := (blk_cell BK277.out 7).trans rfl; have hcz3_8 : w2.cell? ⟨gb277, 8, none⟩ = some (.int .i64 a0_8) := (blk_cell BK277.out 8).trans rfl; have hcz3_9 : w2.cell? ⟨gb277, 9, none⟩ = some (.int .i64 a0_9) := (blk_cell BK277.out 9).trans rfl; have hcz3_10 : w2.cell? ⟨gb277, 10, none⟩ = some (.int .i64 a0_10) := (blk_cell BK277.out 10).trans rfl; have hfz3_0 := blk_frozen BK277.out 0; have hfz3_1 := blk_frozen BK277.out 1; have hfz3_2 := blk_frozen BK277.out 2; have hfz3_3 := blk_frozen BK277.out 3; have hfz3_4 := blk_frozen BK277.out 4; have hfz3_5 := blk_frozen BK277.out 5; have hfz3_6 := blk_frozen BK277.out 6; have hfz3_7 := blk_frozen BK277.out 7; have hfz3_8 := blk_frozen BK277.out 8; have hfz3_9 := blk_frozen BK277.out 9; have hfz3_10 := blk_frozen BK277.out 10))
 go_loopg [3, 4, 13] k (fun kq v3 v4 v13 w' => ∃ (x3_1 : Int) (x4_1 : Int) (x13_1 : Int), v3 = .int .i64 x3_1 ∧ v4 = .int .i64 x4_1 ∧ v13 = .int .i64 x13_1 ∧ Aside0 (impl_chooseShovel.l0 kq x3_1 x4_1 (l0_0.length : Int) x13_1 l0_0 l0_1 l0_2 a0_3 a0_4 l0_5 l0_6 l0_7 a0_8 a0_9 a0_10 = some r) ∧ Aside0 (kq ≤ k) ∧ Aside0 (w'.heap[gb277]? = some (.cells #[(.slice A0_0 l0_0.length c0_0), (.slice A0_1 l0_1.length c0_1), (.slice A0_2 l0_2.length c0_2), .int .i64 a0_3, .int .i64 a0_4, (.slice A0_5 l0_5.length c0_5), (.slice A0_6 l0_6.length c0_6), (.slice A0_7 l0_7.length c0_7), .int .i64 a0_8, .int .i64 a0_9, .int .i64 a0_10] 44 (0, 0))) ∧ Aside0 (Below w.heap.size w w'))
 case atStart => exact ⟨(0), ((-1)), (0), zi', zi', zi', H', ⟨Nat.le_refl _⟩, ⟨zm1'⟩, ⟨zw'⟩⟩
 case round =>
  clear H'
  try clear p2
  try clear hcz3_0
  try clear hcz3_1
  try clear hcz3_10
  try clear hcz3_2
  try clear hcz3_3
  try clear hcz3_4
  try clear hcz3_5
  try clear hcz3_6
  try clear hcz3_7
  try clear hcz3_8
  try clear hcz3_9
  try clear hfz3_0
  try clear hfz3_1
  try clear hfz3_10
  try clear hfz3_2
  try clear hfz3_3
  try clear hfz3_4
  try clear hfz3_5
  try clear hfz3_6
  try clear hfz3_7
  try clear hfz3_8
  try clear hfz3_9
  obtain ⟨x3_1, x4_1, x13_1, rfl, rfl, rfl, HA, HK1, BK277, HB⟩ := hrel
  cases gk with
  | zero => exact absurd HA.out (by simp [impl_chooseShovel.l0])
  | succ k1 =>
   have H := HA.out; clear HA; simp only [impl_chooseShovel.l0] at H
   by_cases c4 : x13_1 < (l0_0.length : Int)
   ·rw [if_pos c4] at H
    have c4b0 : decide (x13_1 < (l0_0.length : Int)) = true := decide_eq_true c4; clear c4
    by_cases c5 : 0 ≤ x13_1
    ·rw [if_pos c5] at H
     have c5b0 : decide (0 ≤ x13_1) = true := decide_eq_true c5; clear c5
     by_cases c6 : x13_1 < (l0_2.length : Int)
     ·rw [if_pos c6] at H
      have c6b0 : decide (x13_1 < (l0_2.length : Int)) = true := decide_eq_true c6; clear c6; have H' := Aside0.mk H; clear H; have hcz7_0 : wr.cell? ⟨gb277, 0, none⟩ = some (.slice A0_0 l0_0.length c0_0) := (blk_cell BK277.out 0).trans rfl; have hcz7_1 : wr.cell? ⟨gb277, 1, none⟩ = some (.slice A0_1 l0_1.length c0_1) := (blk_cell BK277.out 1).trans rfl; have hcz7_2 : wr.cell? ⟨gb277, 2, none⟩ = some (.slice A0_2 l0_2.length c0_2) := (blk_cell BK277.out 2).trans rfl; have hcz7_3 : wr.cell? ⟨gb277, 3, none⟩ = some (.int .i64 a0_3) := (blk_cell BK277.out 3).trans rfl; have hcz7_4 : wr.cell? ⟨gb277, 4, none⟩ = some (.int .i64 a0_4) := (blk_cell BK277.out 4).trans rfl; have hcz7_5 : wr.cell? ⟨gb277, 5, none⟩ = some (.slice A0_5 l0_5.length c0_5) := (blk_cell BK277.out 5).trans rfl; have hcz7_6 : wr.cell? ⟨gb277, 6, none⟩ = some (.slice A0_6 l0_6.length c0_6) := (blk_cell BK277.out 6).trans rfl; have hcz7_7 : wr.cell? ⟨gb277, 7, none⟩ = some (.slice A0_7 l0_7.length c0_7) := (blk_cell BK277.out 7).trans rfl; have hcz7_8 : wr.cell? ⟨gb277, 8, none⟩ = some (.int .i64 a0_8) := (blk_cell BK277.out 8).trans rfl; have hcz7_9 : wr.cell? ⟨gb277, 9, none⟩ = some (.int .i64 a0_9) := (blk_cell BK277.out 9).trans rfl; have hcz7_10 : wr.cell? ⟨gb277, 10, none⟩ = some (.int .i64 a0_10) := (blk_cell BK277.out 10).trans rfl; have hfz7_0 := blk_frozen BK277.out 0; have hfz7_1 := blk_frozen BK277.out 1; have hfz7_2 := blk_frozen BK277.out 2; have hfz7_3 := blk_frozen BK277.out 3; have hfz7_4 := blk_frozen BK277.out 4
      have hfz7_5 := blk_frozen BK277.out 5; have hfz7_6 := blk_frozen BK277.out 6; have hfz7_7 := blk_frozen BK277.out 7; have hfz7_8 := blk_frozen BK277.out 8; have hfz7_9 := blk_frozen BK277.out 9; have hfz7_10 := blk_frozen BK277.out 10; have p278 : 0 ≤ (x13_1 : Int) := odt; have q278 : x13_1 < (l0_2.length : Int) := odt; obtain ⟨ad278, e278, hx278_0⟩ := Kd.at_int HR0_2.out x13_1 p278 q278; cases e278
      try replace hx278_0 := (HB.out.cell (World.block_lt_of_cell? w _ hx278_0)).trans hx278_0
      replace p278 := eq_true p278; replace q278 := eq_true q278
      go_wp2
      go_loopg [6, 25] k1 (fun kq v6 v25 w' => ∃ (x6_2 : Int) (x25_2 : Int), v6 = .int .i64 x6_2 ∧ v25 = .int .i64 x25_2 ∧ Aside0 (impl_chooseShovel.l1 kq x3_1 x4_1 x13_1 x6_2 (l0_0.length : Int) x13_1 l0_5 (l0_5.length : Int) x25_2 l0_0 l0_1 l0_2 a0_3 a0_4 l0_5 l0_6 l0_7 a0_8 a0_9 a0_10 = some r) ∧ Aside0 (kq ≤ k1) ∧ Aside0 (w'.heap[gb277]? = some (.cells #[(.slice A0_0 l0_0.length c0_0), (.slice A0_1 l0_1.length c0_1), (.slice (some ad278) l0_2.length c0_2), .int .i64 a0_3, .int .i64 a0_4, (.slice A0_5 l0_5.length c0_5), (.slice A0_6 l0_6.length c0_6), (.slice A0_7 l0_7.length c0_7), .int .i64 a0_8, .int .i64 a0_9, .int .i64 a0_10] 44 (0, 0))) ∧ Aside0 (Below w.heap.size w w'))
      case atStart => exact ⟨(rd l0_2 x13_1), (0), zi', zi', H', ⟨Nat.le_refl _⟩, ⟨zm1'⟩, ⟨zw'⟩⟩
      case round =>
       clear H'; (try clear p2); (try clear q2); (try clear hx2); (try clear c4); (try clear c4b0); (try clear c5); (try clear c5b0); (try clear c6); (try clear c6b0); (try clear hcz3_0); (try clear hcz3_1); (try clear hcz3_10); (try clear hcz3_2); (try clear hcz3_3); (try clear hcz3_4); (try clear hcz3_5); (try clear hcz3_6); (try clear hcz3_7); (try clear hcz3_8); (try clear hcz3_9); (try clear hcz7_0); (try clear hcz7_1); (try clear hcz7_10); (try clear hcz7_2); (try clear hcz7_3); (try clear hcz7_4); (try clear hcz7_5); (try clear hcz7_6); (try clear hcz7_7); (try clear hcz7_8); (try clear hcz7_9); (try clear hfz3_0); (try clear hfz3_1); (try clear hfz3_10); (try clear hfz3_2); (try clear hfz3_3); (try clear hfz3_4); (try clear hfz3_5); (try clear hfz3_6); (try clear hfz3_7); (try clear hfz3_8); (try clear hfz3_9); (try clear hfz7_0); (try clear hfz7_1); (try clear hfz7_10); (try clear hfz7_2); (try clear hfz7_3); (try clear hfz7_4); (try clear hfz7_5); (try clear hfz7_6); (try clear hfz7_7); (try clear hfz7_8); (try clear hfz7_9); (try clear hx278_0); (try clear p2); (try clear p278); (try clear q278); obtain ⟨x6_2, x25_2, rfl, rfl, HA, HK2, BK277, HB⟩ := hrel
       cases gk with
       | zero => exact absurd HA.out (by simp [impl_chooseShovel.l1])
       | succ k2 =>
        have H := HA.out; clear HA; simp only [impl_chooseShovel.l1] at H
        by_cases c8 : x25_2 < (l0_5.length : Int)
        ·rw [if_pos c8] at H
         have c8b0 : decide (x25_2 < (l0_5.length : Int)) = true := decide_eq_true c8; clear c8
         by_cases c9 : 0 ≤ x25_2
         ·rw [if_pos c9] at H
          have c9b0 : decide (0 ≤ x25_2) = true := decide_eq_true c9; clear c9
          by_cases c10 : x25_2 < (l0_5.length : Int)
          ·rw [if_pos c10] at H
           have c10b0 : decide (x25_2 < (l0_5.length : Int)) = true := decide_eq_true c10; clear c10
           by_cases c11 : ((rd_T80 l0_5 x25_2).f1) = x13_1
           ·rw [if_pos c11] at H
            have c11b0 : (((rd_T80 l0_5 x25_2).f1) == x13_1) = true := beq_iff_eq.mpr c11; have c11b1 : (((rd_T80 l0_5 x25_2).f1) != x13_1) = false := bne_eq_false_iff_eq.mpr c11; clear c11
            by_cases c12 : ((rd_T80 l0_5 x25_2).f0) = 0
            ·rw [if_pos c12] at H
             have c12b0 : (((rd_T80 l0_5 x25_2).f0) == 0) = true := beq_iff_eq.mpr c12; have c12b1 : (((rd_T80 l0_5 x25_2).f0) != 0) = false := bne_eq_false_iff_eq.mpr c12; clear c12
             by_cases c13 : 0 ≤ x13_1
             ·rw [if_pos c13] at H
              have c13b0 : decide (0 ≤ x13_1) = true := decide_eq_true c13; clear c13
              by_cases c14 : x13_1 < (l0_0.length : Int)
              ·rw [if_pos c14] at H
               have c14b0 : decide (x13_1 < (l0_0.length : Int)) = true := decide_eq_true c14; clear c14; have H' := Aside0.mk H; clear H; have p279 : 0 ≤ (x25_2 : Int) := odt; have q279 : x25_2 < (l0_5.length : Int) := odt; obtain ⟨ad279, e279, hx279_0, hx279_1, hx279_2⟩ := at_T80 HR0_5.out x25_2 p279 q279; cases e279
               try replace hx279_0 := (HB.out.cell (World.block_lt_of_cell? w _ hx279_0)).trans hx279_0
               try replace hx279_1 := (HB.out.cell (World.block_lt_of_cell? w _ hx279_1)).trans hx279_1
               try replace hx279_2 := (HB.out.cell (World.block_lt_of_cell? w _ hx279_2)).trans hx279_2
               replace p279 := eq_true p279; replace q279 := eq_true q279
               go_wp2_with (first | ((with_reducible refine gate_dst (N := 8) rfl ?_); refine box_event ?hg (N := 8) ?hd (cs := #[.int .i64 0, .int .i64 0, .int .i64 0]) (t := 80) ?hr ?_; (case hd => rfl); (case hg => rfl); (case hr => exact zm'); intro gb280 hg w15 hbox hb; have n0_ := am (blk_below (g := gb277) (o := o4') zm1' hb); have n1_ := am (below_step zw' hb); have n2_ := am (hbox); have n3_ := am ((by rw [hg]; exact (below_size zw') : w.heap.size ≤ gb280)); have n4_ := am ((by rw [hg]; exact (below_size zw') : w.heap.size ≤ gb280)); have n5_ := am ((by rw [hg]; exact Nat.ne_of_lt (blk_lt (g := gb277) (o := o4') zm1') : gb277 ≠ gb280)); have n6_ := am ((by rw [hg]; exact Nat.ne_of_gt (blk_lt (g := gb277) (o := o4') zm1') : gb280 ≠ gb277)); clear BK277; clear HB; have BK277 := n0_; have HB := n1_; have BK280 := n2_; have GW280 := n3_; have GE280 := n4_; have NB277_280 := n5_; have NB280_277 := n6_; clear n0_ n1_ n2_ n3_ n4_ n5_ n6_; clear hb hbox hg; have hnb16 := NB280_277.out; have hnc16 := NB277_280.out; have hcz17_0 : w15.cell? ⟨gb280, 0, none⟩ = some (.int .i64 0) := (blk_cell BK280.out 0).trans rfl; have hcz17_1 : w15.cell? ⟨gb280, 1, none⟩ = some (.int .i64 0) := (blk_cell BK280.out 1).trans rfl; have hcz17_2 : w15.cell? ⟨gb280, 2, none⟩ = some (.int .i64 0) := (blk_cell BK280.out 2).trans rfl; have hfz17_0 := blk_frozen BK280.out 0; have hfz17_1 := blk_frozen BK280.out 1; have hfz17_2 := blk_frozen BK280.out 2; have hcz18_0 : w15.cell? ⟨gb277, 0, none⟩ = some (.slice A0_0 l0_0.length c0_0) := (blk_cell BK277.out 0).trans rfl; have hcz18_1 : w15.cell? ⟨gb277, 1, none⟩ = some (.slice A0_1 l0_1.length c0_1) := (blk_cell BK277.out 1).trans rfl; have hcz18_2 : w15.cell? ⟨gb277, 2, none⟩ = some (.slice (some ad278) l0_2.length c0_2) := (blk_cell BK277.out 2).trans rfl; have hcz18_3 : w15.cell? ⟨gb277, 3, none⟩ = some (.int .i64 a0_3) := (blk_cell BK277.out 3).trans rfl; have hcz18_4 : w15.cell? ⟨gb277, 4, none⟩ = some (.int .i64 a0_4) := (blk_cell BK277.out 4).trans rfl; have hcz18_5 : w15.cell? ⟨gb277, 5, none⟩ = some (.slice (some ad279) l0_5.length c0_5) := (blk_cell BK277.out 5).trans rfl; have hcz18_6 : w15.cell? ⟨gb277, 6, none⟩ = some (.slice A0_6 l0_6.length c0_6) := (blk_cell BK277.out 6).trans rfl; have hcz18_7 : w15.cell? ⟨gb277, 7, none⟩ = some (.slice A0_7 l0_7.length c0_7) := (blk_cell BK277.out 7).trans rfl; have hcz18_8 : w15.cell? ⟨gb277, 8, none⟩ = some (.int .i64 a0_8) := (blk_cell BK277.out 8).trans rfl; have hcz18_9 : w15.cell? ⟨gb277, 9, none⟩ = some (.int .i64 a0_9) := (blk_cell BK277.out 9).trans rfl; have hcz18_10 : w15.cell? ⟨gb277, 10, none⟩ = some (.int .i64 a0_10) := (blk_cell BK277.out 10).trans rfl; have hfz18_0 := blk_frozen BK277.out 0; have hfz18_1 := blk_frozen BK277.out 1; have hfz18_2 := blk_frozen BK277.out 2; have hfz18_3 := blk_frozen BK277.out 3; have hfz18_4 := blk_frozen BK277.out 4; have hfz18_5 := blk_frozen BK277.out 5; have hfz18_6 := blk_frozen BK277.out 6; have hfz18_7 := blk_frozen BK277.out 7; have hfz18_8 := blk_frozen BK277.out 8; have hfz18_9 := blk_frozen BK277.out 9; have hfz18_10 := blk_frozen BK277.out 10; have p281 : 0 ≤ (x13_1 : Int) := odt; have q281 : x13_1 < (l0_0.length : Int) := odt; obtain ⟨ad281, e281, hx281_0⟩ := Kd.at_int HR0_0.out x13_1 p281 q281; cases e281; have hn281_0 : ad281.block ≠ gb280 := Nat.ne_of_lt (Nat.lt_of_lt_of_le zk6' GW280.out); have hn281_1 : ad281.block ≠ gb280 := Nat.ne_of_lt (Nat.lt_of_lt_of_le zk6' GW280.out); have hn281_2 : ad281.block ≠ gb280 := Nat.ne_of_lt (Nat.lt_of_lt_of_le zk6' GW280.out); replace hx281_0 := (HB.out.cell (World.block_lt_of_cell? w _ hx281_0)).trans hx281_0; replace hx281_0 := (cell_far (p := ⟨gb280, 0, none⟩) (by first | (rw [add_block]; exact hn281_0) | (show (Addr.add _ _).block ≠ _; rw [add_block]; exact hn281_0) | exact hn281_0) (.int .i64 ((rd_T80 l0_5 x25_2).f0))).trans hx281_0; replace hx281_0 := (cell_far (p := ⟨gb280, 1, none⟩) (by first | (rw [add_block]; exact hn281_1) | (show (Addr.add _ _).block ≠ _; rw [add_block]; exact hn281_1) | exact hn281_1) (.int .i64 ((rd_T80 l0_5 x25_2).f1))).trans hx281_0; replace hx281_0 := (cell_far (p := ⟨gb280, 2, none⟩) (by first | (rw [add_block]; exact hn281_2) | (show (Addr.add _ _).block ≠ _; rw [add_block]; exact hn281_2) | exact hn281_2) (.int .i64 ((rd_T80 l0_5 x25_2).f2))).trans hx281_0; clear hn281_0; clear hn281_1; clear hn281_2; replace p281 := eq_true p281; replace q281 := eq_true q281))
               go_roundg k2
               case measure => have := HK1.out; have := HK2.out; omega
               case rel => exact ⟨(wrap64 (x6_2 + (rd l0_0 x13_1))), (wrap64 (x25_2 + 1)), zi', zi', H', ⟨zt3'⟩, ⟨zl1'⟩, ⟨ze3'⟩⟩
              ·rw [if_neg c14] at H
               exact absurd H (by simp)
             ·rw [if_neg c13] at H
              exact absurd H (by simp)
            ·rw [if_neg c12] at H
             have c12b0 : (((rd_T80 l0_5 x25_2).f0) == 0) = false := beq_eq_false_iff_ne.mpr c12; have c12b1 : (((rd_T80 l0_5 x25_2).f0) != 0) = true := bne_iff_ne.mpr c12
             by_cases c19 : ((rd_T80 l0_5 x25_2).f0) = 1
             ·rw [if_pos c19] at H
              have c19b0 : (((rd_T80 l0_5 x25_2).f0) == 1) = true := beq_iff_eq.mpr c19; have c19b1 : (((rd_T80 l0_5 x25_2).f0) != 1) = false := bne_eq_false_iff_eq.mpr c19; clear c19
              by_cases c20 : 0 ≤ x13_1
              ·rw [if_pos c20] at H
               have c20b0 : decide (0 ≤ x13_1) = true := decide_eq_true c20; clear c20
               by_cases c21 : x13_1 < (l0_0.length : Int)
               ·rw [if_pos c21] at H
                have c21b0 : decide (x13_1 < (l0_0.length : Int)) = true := decide_eq_true c21; clear c21; have H' := Aside0.mk H; clear H; have p279 : 0 ≤ (x25_2 : Int) := odt; have q279 : x25_2 < (l0_5.length : Int) := odt; obtain ⟨ad279, e279, hx279_0, hx279_1, hx279_2⟩ := at_T80 HR0_5.out x25_2 p279 q279; cases e279
                try replace hx279_0 := (HB.out.cell (World.block_lt_of_cell? w _ hx279_0)).trans hx279_0
                try replace hx279_1 := (HB.out.cell (World.block_lt_of_cell? w _ hx279_1)).trans hx279_1
                try replace hx279_2 := (HB.out.cell (World.block_lt_of_cell? w _ hx279_2)).trans hx279_2
                replace p279 := eq_true p279; replace q279 := eq_true q279
                go_wp2_with (first | ((with_reducible refine gate_dst (N := 8) rfl ?_); refine box_event ?hg (N := 8) ?hd (cs := #[.int .i64 0, .int .i64 0, .int .i64 0]) (t := 80) ?hr ?_; (case hd => rfl); (case hg => rfl); (case hr => exact zm'); intro gb280 hg w22 hbox hb; have n0_ := am (blk_below (g := gb277) (o := o4') zm1' hb); have n1_ := am (below_step zw' hb); have n2_ := am (hbox); have n3_ := am ((by rw [hg]; exact (below_size zw') : w.heap.size ≤ gb280)); have n4_ := am ((by rw [hg]; exact (below_size zw') : w.heap.size ≤ gb280)); have n5_ := am ((by rw [hg]; exact Nat.ne_of_lt (blk_lt (g := gb277) (o := o4') zm1') : gb277 ≠ gb280)); have n6_ := am ((by rw [hg]; exact Nat.ne_of_gt (blk_lt (g := gb277) (o := o4') zm1') : gb280 ≠ gb277)); clear BK277; clear HB; have BK277 := n0_; have HB := n1_; have BK280 := n2_; have GW280 := n3_; have GE280 := n4_; have NB277_280 := n5_; have NB280_277 := n6_; clear n0_ n1_ n2_ n3_ n4_ n5_ n6_; clear hb hbox hg; have hnb23 := NB280_277.out; have hnc23 := NB277_280.out; have hcz24_0 : w22.cell? ⟨gb280, 0, none⟩ = some (.int .i64 0) := (blk_cell BK280.out 0).trans rfl; have hcz24_1 : w22.cell? ⟨gb280, 1, none⟩ = some (.int .i64 0) := (blk_cell BK280.out 1).trans rfl; have hcz24_2 : w22.cell? ⟨gb280, 2, none⟩ = some (.int .i64 0) := (blk_cell BK280.out 2).trans rfl; have hfz24_0 := blk_frozen BK280.out 0; have hfz24_1 := blk_frozen BK280.out 1; have hfz24_2 := blk_frozen BK280.out 2; have hcz25_0 : w22.cell? ⟨gb277, 0, none⟩ = some (.slice A0_0 l0_0.length c0_0) := (blk_cell BK277.out 0).trans rfl; have hcz25_1 : w22.cell? ⟨gb277, 1, none⟩ = some (.slice A0_1 l0_1.length c0_1) := (blk_cell BK277.out 1).trans rfl; have hcz25_2 : w22.cell? ⟨gb277, 2, none⟩ = some (.slice (some ad278) l0_2.length c0_2) := (blk_cell BK277.out 2).trans rfl; have hcz25_3 : w22.cell? ⟨gb277, 3, none⟩ = some (.int .i64 a0_3) := (blk_cell BK277.out 3).trans rfl; have hcz25_4 : w22.cell? ⟨gb277, 4, none⟩ = some (.int .i64 a0_4) := (blk_cell BK277.out 4).trans rfl; have hcz25_5 : w22.cell? ⟨gb277, 5, none⟩ = some (.slice (some ad279) l0_5.length c0_5) := (blk_cell BK277.out 5).trans rfl; have hcz25_6 : w22.cell? ⟨gb277, 6, none⟩ = some (.slice A0_6 l0_6.length c0_6) := (blk_cell BK277.out 6).trans rfl; have hcz25_7 : w22.cell? ⟨gb277, 7, none⟩ = some (.slice A0_7 l0_7.length c0_7) := (blk_cell BK277.out 7).trans rfl; have hcz25_8 : w22.cell? ⟨gb277, 8, none⟩ = some (.int .i64 a0_8) := (blk_cell BK277.out 8).trans rfl; have hcz25_9 : w22.cell? ⟨gb277, 9, none⟩ = some (.int .i64 a0_9) := (blk_cell BK277.out 9).trans rfl; have hcz25_10 : w22.cell? ⟨gb277, 10, none⟩ = some (.int .i64 a0_10) := (blk_cell BK277.out 10).trans rfl; have hfz25_0 := blk_frozen BK277.out 0; have hfz25_1 := blk_frozen BK277.out 1; have hfz25_2 := blk_frozen BK277.out 2; have hfz25_3 := blk_frozen BK277.out 3; have hfz25_4 := blk_frozen BK277.out 4; have hfz25_5 := blk_frozen BK277.out 5; have hfz25_6 := blk_frozen BK277.out 6; have hfz25_7 := blk_frozen BK277.out 7; have hfz25_8 := blk_frozen BK277.out 8; have hfz25_9 := blk_frozen BK277.out 9; have hfz25_10 := blk_frozen BK277.out 10; have p282 : 0 ≤ (x13_1 : Int) := odt; have q282 : x13_1 < (l0_0.length : Int) := odt; obtain ⟨ad282, e282, hx282_0⟩ := Kd.at_int HR0_0.out x13_1 p282 q282; cases e282; have hn282_0 : ad282.block ≠ gb280 := Nat.ne_of_lt (Nat.lt_of_lt_of_le zl6' GW280.out); have hn282_1 : ad282.block ≠ gb280 := Nat.ne_of_lt (Nat.lt_of_lt_of_le zl6' GW280.out); have hn282_2 : ad282.block ≠ gb280 := Nat.ne_of_lt (Nat.lt_of_lt_of_le zl6' GW280.out); replace hx282_0 := (HB.out.cell (World.block_lt_of_cell? w _ hx282_0)).trans hx282_0; replace hx282_0 := (cell_far (p := ⟨gb280, 0, none⟩) (by first | (rw [add_block]; exact hn282_0) | (show (Addr.add _ _).block ≠ _; rw [add_block]; exact hn282_0) | exact hn282_0) (.int .i64 ((rd_T80 l0_5 x25_2).f0))).trans hx282_0; replace hx282_0 := (cell_far (p := ⟨gb280, 1, none⟩) (by first | (rw [add_block]; exact hn282_1) | (show (Addr.add _ _).block ≠ _; rw [add_block]; exact hn282_1) | exact hn282_1) (.int .i64 ((rd_T80 l0_5 x25_2).f1))).trans hx282_0; replace hx282_0 := (cell_far (p := ⟨gb280, 2, none⟩) (by first | (rw [add_block]; exact hn282_2) | (show (Addr.add _ _).block ≠ _; rw [add_block]; exact hn282_2) | exact hn282_2) (.int .i64 ((rd_T80 l0_5 x25_2).f2))).trans hx282_0; clear hn282_0; clear hn282_1; clear hn282_2; replace p282 := eq_true p282; replace q282 := eq_true q282))
                go_roundg k2
                case measure => have := HK1.out; have := HK2.out; omega
                case rel => exact ⟨(wrap64 (x6_2 + (rd l0_0 x13_1))), (wrap64 (x25_2 + 1)), zi', zi', H', ⟨zt3'⟩, ⟨zl1'⟩, ⟨ze3'⟩⟩
               ·rw [if_neg c21] at H
                exact absurd H (by simp)
              ·rw [if_neg c20] at H
               exact absurd H (by simp)
             ·rw [if_neg c19] at H
              have c19b0 : (((rd_T80 l0_5 x25_2).f0) == 1) = false := beq_eq_false_iff_ne.mpr c19; have c19b1 : (((rd_T80 l0_5 x25_2).f0) != 1) = true := bne_iff_ne.mpr c19
              by_cases c26 : ((rd_T80 l0_5 x25_2).f0) = 5
              ·rw [if_pos c26] at H
               have c26b0 : (((rd_T80 l0_5 x25_2).f0) == 5) = true := beq_iff_eq.mpr c26; have c26b1 : (((rd_T80 l0_5 x25_2).f0) != 5) = false := bne_eq_false_iff_eq.mpr c26; clear c26
               by_cases c27 : 0 ≤ x13_1
               ·rw [if_pos c27] at H
                have c27b0 : decide (0 ≤ x13_1) = true := decide_eq_true c27; clear c27
                by_cases c28 : x13_1 < (l0_0.length : Int)
                ·rw [if_pos c28] at H
                 have c28b0 : decide (x13_1 < (l0_0.length : Int)) = true := decide_eq_true c28; clear c28; have H' := Aside0.mk H; clear H; have p279 : 0 ≤ (x25_2 : Int) := odt; have q279 : x25_2 < (l0_5.length : Int) := odt; obtain ⟨ad279, e279, hx279_0, hx279_1, hx279_2⟩ := at_T80 HR0_5.out x25_2 p279 q279; cases e279
                 try replace hx279_0 := (HB.out.cell (World.block_lt_of_cell? w _ hx279_0)).trans hx279_0
                 try replace hx279_1 := (HB.out.cell (World.block_lt_of_cell? w _ hx279_1)).trans hx279_1
                 try replace hx279_2 := (HB.out.cell (World.block_lt_of_cell? w _ hx279_2)).trans hx279_2
                 replace p279 := eq_true p279; replace q279 := eq_true q279
                 go_wp2_with (first | ((with_reducible refine gate_dst (N := 8) rfl ?_); refine box_event ?hg (N := 8) ?hd (cs := #[.int .i64 0, .int .i64 0, .int .i64 0]) (t := 80) ?hr ?_; (case hd => rfl); (case hg => rfl); (case hr => exact zm'); intro gb280 hg w29 hbox hb; have n0_ := am (blk_below (g := gb277) (o := o4') zm1' hb); have n1_ := am (below_step zw' hb); have n2_ := am (hbox); have n3_ := am ((by rw [hg]; exact (below_size zw') : w.heap.size ≤ gb280)); have n4_ := am ((by rw [hg]; exact (below_size zw') : w.heap.size ≤ gb280)); have n5_ := am ((by rw [hg]; exact Nat.ne_of_lt (blk_lt (g := gb277) (o := o4') zm1') : gb277 ≠ gb280)); have n6_ := am ((by rw [hg]; exact Nat.ne_of_gt (blk_lt (g := gb277) (o := o4') zm1') : gb280 ≠ gb277)); clear BK277; clear HB; have BK277 := n0_; have HB := n1_; have BK280 := n2_; have GW280 := n3_; have GE280 := n4_; have NB277_280 := n5_; have NB280_277 := n6_; clear n0_ n1_ n2_ n3_ n4_ n5_ n6_; clear hb hbox hg; have hnb30 := NB280_277.out; have hnc30 := NB277_280.out; have hcz31_0 : w29.cell? ⟨gb280, 0, none⟩ = some (.int .i64 0) := (blk_cell BK280.out 0).trans rfl; have hcz31_1 : w29.cell? ⟨gb280, 1, none⟩ = some (.int .i64 0) := (blk_cell BK280.out 1).trans rfl; have hcz31_2 : w29.cell? ⟨gb280, 2, none⟩ = some (.int .i64 0) := (blk_cell BK280.out 2).trans rfl; have hfz31_0 := blk_frozen BK280.out 0; have hfz31_1 := blk_frozen BK280.out 1; have hfz31_2 := blk_frozen BK280.out 2; have hcz32_0 : w29.cell? ⟨gb277, 0, none⟩ = some (.slice A0_0 l0_0.length c0_0) := (blk_cell BK277.out 0).trans rfl; have hcz32_1 : w29.cell? ⟨gb277, 1, none⟩ = some (.slice A0_1 l0_1.length c0_1) := (blk_cell BK277.out 1).trans rfl; have hcz32_2 : w29.cell? ⟨gb277, 2, none⟩ = some (.slice (some ad278) l0_2.length c0_2) := (blk_cell BK277.out 2).trans rfl; have hcz32_3 : w29.cell? ⟨gb277, 3, none⟩ = some (.int .i64 a0_3) := (blk_cell BK277.out 3).trans rfl; have hcz32_4 : w29.cell? ⟨gb277, 4, none⟩ = some (.int .i64 a0_4) := (blk_cell BK277.out 4).trans rfl; have hcz32_5 : w29.cell? ⟨gb277, 5, none⟩ = some (.slice (some ad279) l0_5.length c0_5) := (blk_cell BK277.out 5).trans rfl; have hcz32_6 : w29.cell? ⟨gb277, 6, none⟩ = some (.slice A0_6 l0_6.length c0_6) := (blk_cell BK277.out 6).trans rfl; have hcz32_7 : w29.cell? ⟨gb277, 7, none⟩ = some (.slice A0_7 l0_7.length c0_7) := (blk_cell BK277.out 7).trans rfl; have hcz32_8 : w29.cell? ⟨gb277, 8, none⟩ = some (.int .i64 a0_8) := (blk_cell BK277.out 8).trans rfl; have hcz32_9 : w29.cell? ⟨gb277, 9, none⟩ = some (.int .i64 a0_9) := (blk_cell BK277.out 9).trans rfl; have hcz32_10 : w29.cell? ⟨gb277, 10, none⟩ = some (.int .i64 a0_10) := (blk_cell BK277.out 10).trans rfl; have hfz32_0 := blk_frozen BK277.out 0; have hfz32_1 := blk_frozen BK277.out 1; have hfz32_2 := blk_frozen BK277.out 2; have hfz32_3 := blk_frozen BK277.out 3; have hfz32_4 := blk_frozen BK277.out 4; have hfz32_5 := blk_frozen BK277.out 5; have hfz32_6 := blk_frozen BK277.out 6; have hfz32_7 := blk_frozen BK277.out 7; have hfz32_8 := blk_frozen BK277.out 8; have hfz32_9 := blk_frozen BK277.out 9; have hfz32_10 := blk_frozen BK277.out 10; have p283 : 0 ≤ (x13_1 : Int) := odt; have q283 : x13_1 < (l0_0.length : Int) := odt; obtain ⟨ad283, e283, hx283_0⟩ := Kd.at_int HR0_0.out x13_1 p283 q283; cases e283; have hn283_0 : ad283.block ≠ gb280 := Nat.ne_of_lt (Nat.lt_of_lt_of_le zm6' GW280.out); have hn283_1 : ad283.block ≠ gb280 := Nat.ne_of_lt (Nat.lt_of_lt_of_le zm6' GW280.out); have hn283_2 : ad283.block ≠ gb280 := Nat.ne_of_lt (Nat.lt_of_lt_of_le zm6' GW280.out); replace hx283_0 := (HB.out.cell (World.block_lt_of_cell? w _ hx283_0)).trans hx283_0; replace hx283_0 := (cell_far (p := ⟨gb280, 0, none⟩) (by first | (rw [add_block]; exact hn283_0) | (show (Addr.add _ _).block ≠ _; rw [add_block]; exact hn283_0) | exact hn283_0) (.int .i64 ((rd_T80 l0_5 x25_2).f0))).trans hx283_0; replace hx283_0 := (cell_far (p := ⟨gb280, 1, none⟩) (by first | (rw [add_block]; exact hn283_1) | (show (Addr.add _ _).block ≠ _; rw [add_block]; exact hn283_1) | exact hn283_1) (.int .i64 ((rd_T80 l0_5 x25_2).f1))).trans hx283_0; replace hx283_0 := (cell_far (p := ⟨gb280, 2, none⟩) (by first | (rw [add_block]; exact hn283_2) | (show (Addr.add _ _).block ≠ _; rw [add_block]; exact hn283_2) | exact hn283_2) (.int .i64 ((rd_T80 l0_5 x25_2).f2))).trans hx283_0; clear hn283_0; clear hn283_1; clear hn283_2; replace p283 := eq_true p283; replace q283 := eq_true q283))
                 go_roundg k2
                 case measure => have := HK1.out; have := HK2.out; omega
                 case rel => exact ⟨(wrap64 (x6_2 + (rd l0_0 x13_1))), (wrap64 (x25_2 + 1)), zi', zi', H', ⟨zt3'⟩, ⟨zl1'⟩, ⟨ze3'⟩⟩
                ·rw [if_neg c28] at H
                 exact absurd H (by simp)
               ·rw [if_neg c27] at H
                exact absurd H (by simp)
              ·rw [if_neg c26] at H
               have c26b0 : (((rd_T80 l0_5 x25_2).f0) == 5) = false := beq_eq_false_iff_ne.mpr c26; have c26b1 : (((rd_T80 l0_5 x25_2).f0) != 5) = true := bne_iff_ne.mpr c26; have H' := Aside0.mk H; clear H; have p279 : 0 ≤ (x25_2 : Int) := odt; have q279 : x25_2 < (l0_5.length : Int) := odt; obtain ⟨ad279, e279, hx279_0, hx279_1, hx279_2⟩ := at_T80 HR0_5.out x25_2 p279 q279; cases e279
               try replace hx279_0 := (HB.out.cell (World.block_lt_of_cell? w _ hx279_0)).trans hx279_0
               try replace hx279_1 := (HB.out.cell (World.block_lt_of_cell? w _ hx279_1)).trans hx279_1
               try replace hx279_2 := (HB.out.cell (World.block_lt_of_cell? w _ hx279_2)).trans hx279_2
               replace p279 := eq_true p279; replace q279 := eq_true q279
               go_wp2_with (first | ((with_reducible refine gate_dst (N := 8) rfl ?_); refine box_event ?hg (N := 8) ?hd (cs := #[.int .i64 0, .int .i64 0, .int .i64 0]) (t := 80) ?hr ?_; (case hd => rfl); (case hg => rfl); (case hr => exact zm'); intro gb280 hg w33 hbox hb; have n0_ := am (blk_below (g := gb277) (o := o4') zm1' hb); have n1_ := am (below_step zw' hb); have n2_ := am (hbox); have n3_ := am ((by rw [hg]; exact (below_size zw') : w.heap.size ≤ gb280)); have n4_ := am ((by rw [hg]; exact (below_size zw') : w.heap.size ≤ gb280)); have n5_ := am ((by rw [hg]; exact Nat.ne_of_lt (blk_lt (g := gb277) (o := o4') zm1') : gb277 ≠ gb280)); have n6_ := am ((by rw [hg]; exact Nat.ne_of_gt (blk_lt (g := gb277) (o := o4') zm1') : gb280 ≠ gb277)); clear BK277; clear HB; have BK277 := n0_; have HB := n1_; have BK280 := n2_; have GW280 := n3_; have GE280 := n4_; have NB277_280 := n5_; have NB280_277 := n6_; clear n0_ n1_ n2_ n3_ n4_ n5_ n6_; clear hb hbox hg; have hnb34 := NB280_277.out; have hnc34 := NB277_280.out; have hcz35_0 : w33.cell? ⟨gb280, 0, none⟩ = some (.int .i64 0) := (blk_cell BK280.out 0).trans rfl; have hcz35_1 : w33.cell? ⟨gb280, 1, none⟩ = some (.int .i64 0) := (blk_cell BK280.out 1).trans rfl; have hcz35_2 : w33.cell? ⟨gb280, 2, none⟩ = some (.int .i64 0) := (blk_cell BK280.out 2).trans rfl; have hfz35_0 := blk_frozen BK280.out 0; have hfz35_1 := blk_frozen BK280.out 1; have hfz35_2 := blk_frozen BK280.out 2))
               go_roundg k2
               case measure => have := HK1.out; have := HK2.out; omega
               case rel => exact ⟨(x6_2), (wrap64 (x25_2 + 1)), zi', zi', H', ⟨zt3'⟩, ⟨zl1'⟩, ⟨ze3'⟩⟩
           ·rw [if_neg c11] at H
            have c11b0 : (((rd_T80 l0_5 x25_2).f1) == x13_1) = false := beq_eq_false_iff_ne.mpr c11; have c11b1 : (((rd_T80 l0_5 x25_2).f1) != x13_1) = true := bne_iff_ne.mpr c11; have H' := Aside0.mk H; clear H; have p279 : 0 ≤ (x25_2 : Int) := odt; have q279 : x25_2 < (l0_5.length : Int) := odt; obtain ⟨ad279, e279, hx279_0, hx279_1, hx279_2⟩ := at_T80 HR0_5.out x25_2 p279 q279; cases e279
            try replace hx279_0 := (HB.out.cell (World.block_lt_of_cell? w _ hx279_0)).trans hx279_0
            try replace hx279_1 := (HB.out.cell (World.block_lt_of_cell? w _ hx279_1)).trans hx279_1
            try replace hx279_2 := (HB.out.cell (World.block_lt_of_cell? w _ hx279_2)).trans hx279_2
            replace p279 := eq_true p279; replace q279 := eq_true q279
            go_wp2_with (first | ((with_reducible refine gate_dst (N := 8) rfl ?_); refine box_event ?hg (N := 8) ?hd (cs := #[.int .i64 0, .int .i64 0, .int .i64 0]) (t := 80) ?hr ?_; (case hd => rfl); (case hg => rfl); (case hr => exact zm'); intro gb280 hg w36 hbox hb; have n0_ := am (blk_below (g := gb277) (o := o4') zm1' hb); have n1_ := am (below_step zw' hb); have n2_ := am (hbox); have n3_ := am ((by rw [hg]; exact (below_size zw') : w.heap.size ≤ gb280)); have n4_ := am ((by rw [hg]; exact (below_size zw') : w.heap.size ≤ gb280)); have n5_ := am ((by rw [hg]; exact Nat.ne_of_lt (blk_lt (g := gb277) (o := o4') zm1') : gb277 ≠ gb280)); have n6_ := am ((by rw [hg]; exact Nat.ne_of_gt (blk_lt (g := gb277) (o := o4') zm1') : gb280 ≠ gb277)); clear BK277; clear HB; have BK277 := n0_; have HB := n1_; have BK280 := n2_; have GW280 := n3_; have GE280 := n4_; have NB277_280 := n5_; have NB280_277 := n6_; clear n0_ n1_ n2_ n3_ n4_ n5_ n6_; clear hb hbox hg; have hnb37 := NB280_277.out; have hnc37 := NB277_280.out; have hcz38_0 : w36.cell? ⟨gb280, 0, none⟩ = some (.int .i64 0) := (blk_cell BK280.out 0).trans rfl; have hcz38_1 : w36.cell? ⟨gb280, 1, none⟩ = some (.int .i64 0) := (blk_cell BK280.out 1).trans rfl; have hcz38_2 : w36.cell? ⟨gb280, 2, none⟩ = some (.int .i64 0) := (blk_cell BK280.out 2).trans rfl; have hfz38_0 := blk_frozen BK280.out 0; have hfz38_1 := blk_frozen BK280.out 1; have hfz38_2 := blk_frozen BK280.out 2))
            go_roundg k2
            case measure => have := HK1.out; have := HK2.out; omega
            case rel => exact ⟨(x6_2), (wrap64 (x25_2 + 1)), zi', zi', H', ⟨zt3'⟩, ⟨zl1'⟩, ⟨ze3'⟩⟩
          ·rw [if_neg c10] at H
           exact absurd H (by simp)
         ·rw [if_neg c9] at H
          exact absurd H (by simp)
        ·rw [if_neg c8] at H
         have c8b0 : decide (x25_2 < (l0_5.length : Int)) = false := decide_eq_false c8; clear c8
         by_cases c39 : x4_1 < 0
         ·rw [if_pos c39] at H
          have c39b0 : decide (x4_1 < 0) = true := decide_eq_true c39; clear c39; have H' := Aside0.mk H; clear H
          go_wp2
          go_roundg k2
          case measure => have := HK1.out; have := HK2.out; omega
          case rel => exact ⟨(x13_1), (x6_2), (wrap64 (x13_1 + 1)), zi', zi', zi', H', ⟨zt3'⟩, ⟨zm1'⟩, ⟨zw'⟩⟩
         ·rw [if_neg c39] at H
          have c39b0 : decide (x4_1 < 0) = false := decide_eq_false c39; clear c39
          by_cases c40 : x6_2 < x4_1
          ·rw [if_pos c40] at H
           have c40b0 : decide (x6_2 < x4_1) = true := decide_eq_true c40; clear c40; have H' := Aside0.mk H; clear H
           go_wp2
           go_roundg k2
           case measure => have := HK1.out; have := HK2.out; omega
           case rel => exact ⟨(x13_1), (x6_2), (wrap64 (x13_1 + 1)), zi', zi', zi', H', ⟨zt3'⟩, ⟨zm1'⟩, ⟨zw'⟩⟩
          ·rw [if_neg c40] at H
           have c40b0 : decide (x6_2 < x4_1) = false := decide_eq_false c40; clear c40; have H' := Aside0.mk H; clear H
           go_wp2
           go_roundg k2
           case measure => have := HK1.out; have := HK2.out; omega
           case rel => exact ⟨(x3_1), (x4_1), (wrap64 (x13_1 + 1)), zi', zi', zi', H', ⟨zt3'⟩, ⟨zm1'⟩, ⟨zw'⟩⟩
     ·rw [if_neg c6] at H
      exact absurd H (by simp)
    ·rw [if_neg c5] at H
     exact absurd H (by simp)
   ·rw [if_neg c4] at H
    have c4b0 : decide (x13_1 < (l0_0.length : Int)) = false := decide_eq_false c4; clear c4; obtain rfl := Option.some.inj H
    go_wp2
    go_ret
    exact ⟨by first | rfl | (simp [errW_none, errW_some] <;> rfl) | (simp [*, errW_none, errW_some] <;> rfl), by repeat (first | (with_reducible first | exact HB.out | apply ba | apply bn | apply below_drew1 | refine below_set ?_ GE277.out) | exact HB.out)⟩

/-! ### impl_ChooseShovel: function 39 -/
def impl_ChooseShovel.f (k : Nat) (l0_0 : List Int) (l0_1 : List Int) (l0_2 : List Int) (a0_3 : Int) (a0_4 : Int) (l0_5 : List (S80)) (l0_6 : List (List Int)) (l0_7 : List Int) (a0_8 : Int) (a0_9 : Int) (a0_10 : Int) : Option (Int × Bool) := (impl_IsYard.f k l0_0 l0_1 l0_2 a0_3 a0_4 l0_5 l0_6 l0_7 a0_8 a0_9 a0_10).bind fun t285 => (if t285 = true then ((impl_chooseShovel.f k l0_0 l0_1 l0_2 a0_3 a0_4 l0_5 l0_6 l0_7 a0_8 a0_9 a0_10).bind fun t286 => (some (t286, true))) else (some (0, false)))
set_option maxHeartbeats 8000000 in
set_option maxRecDepth 100000 in
theorem impl_ChooseShovel.calls (k : Nat) (A0_0 : Option Addr) (c0_0 : Nat) (l0_0 : List Int) (A0_1 : Option Addr) (c0_1 : Nat) (l0_1 : List Int) (A0_2 : Option Addr) (c0_2 : Nat) (l0_2 : List Int) (a0_3 : Int) (a0_4 : Int) (A0_5 : Option Addr) (c0_5 : Nat) (l0_5 : List (S80)) (A0_6 : Option Addr) (c0_6 : Nat) (l0_6 : List (List Int)) (A0_7 : Option Addr) (c0_7 : Nat) (l0_7 : List Int) (a0_8 : Int) (a0_9 : Int) (a0_10 : Int) (r1 : Int) (r2 : Bool) (w : World) (hr0_0 : Kd.C (Kd.int .i64) w A0_0 l0_0.length l0_0) (hc0_0 : l0_0.length ≤ c0_0) (hr0_1 : Kd.C (Kd.int .i64) w A0_1 l0_1.length l0_1) (hc0_1 : l0_1.length ≤ c0_1) (hr0_2 : Kd.C (Kd.int .i64) w A0_2 l0_2.length l0_2) (hc0_2 : l0_2.length ≤ c0_2) (hr0_5 : Kd.C k80 w A0_5 l0_5.length l0_5) (hc0_5 : l0_5.length ≤ c0_5) (hr0_6 : Kd.C (Kd.slice 3 (Kd.int .i64)) w A0_6 l0_6.length l0_6) (hc0_6 : l0_6.length ≤ c0_6) (hr0_7 : Kd.C (Kd.int .i64) w A0_7 l0_7.length l0_7) (hc0_7 : l0_7.length ≤ c0_7) (h : impl_ChooseShovel.f k l0_0 l0_1 l0_2 a0_3 a0_4 l0_5 l0_6 l0_7 a0_8 a0_9 a0_10 = some (r1, r2)) :
  Calls Try.prog 39 #[.agg #[.slice A0_0 l0_0.length c0_0, .slice A0_1 l0_1.length c0_1, .slice A0_2 l0_2.length c0_2, .int .i64 a0_3, .int .i64 a0_4, .slice A0_5 l0_5.length c0_5, .slice A0_6 l0_6.length c0_6, .slice A0_7 l0_7.length c0_7, .int .i64 a0_8, .int .i64 a0_9, .int .i64 a0_10]] w fun e w' => e = .returned (.tuple #[.int .i64 r1, .bool r2]) ∧ Below w.heap.size w w' := by
 have hu44 := Try.underlying44
 have HR0_0 := Aside0.mk hr0_0
 have HC0_0 := Aside0.mk hc0_0
 clear hr0_0 hc0_0
 have HR0_1 := Aside0.mk hr0_1
 have HC0_1 := Aside0.mk hc0_1
 clear hr0_1 hc0_1
 have HR0_2 := Aside0.mk hr0_2
 have HC0_2 := Aside0.mk hc0_2
 clear hr0_2 hc0_2
 have HR0_5 := Aside0.mk hr0_5
 have HC0_5 := Aside0.mk hc0_5
 clear hr0_5 hc0_5
 have HR0_6 := Aside0.mk hr0_6
 have HC0_6 := Aside0.mk hc0_6
 clear hr0_6 hc0_6
 have HR0_7 := Aside0.mk hr0_7
 have HC0_7 := Aside0.mk hc0_7
 clear hr0_7 hc0_7
 have HB := am (Below.refl w.heap.size w)
 have H : ((impl_IsYard.f k l0_0 l0_1 l0_2 a0_3 a0_4 l0_5 l0_6 l0_7 a0_8 a0_9 a0_10).bind fun t285 => (if t285 = true then ((impl_chooseShovel.f k l0_0 l0_1 l0_2 a0_3 a0_4 l0_5 l0_6 l0_7 a0_8 a0_9 a0_10).bind fun t286 => (some (t286, true))) else (some (0, false)))) = some (r1, r2) := h
 clear h
 replace H := Option.bind_eq_some_iff.mp H
 obtain ⟨t285, A20, H⟩ := H
 replace H : (if t285 = true then ((impl_chooseShovel.f k l0_0 l0_1 l0_2 a0_3 a0_4 l0_5 l0_6 l0_7 a0_8 a0_9 a0_10).bind fun t286 => (some (t286, true))) else (some (0, false))) = some (r1, r2) := H
 have A2 := Aside0.mk A20
 clear A20
 by_cases c3 : t285 = true
 ·subst c3
  have H1 : ((impl_chooseShovel.f k l0_0 l0_1 l0_2 a0_3 a0_4 l0_5 l0_6 l0_7 a0_8 a0_9 a0_10).bind fun t286 => (some (t286, true))) = some (r1, r2) := by rw [if_pos rfl] at H; exact H
  clear H
  have H := H1
  clear H1
  replace H := Option.bind_eq_some_iff.mp H
  obtain ⟨t286, A40, H⟩ := H
  replace H : (some (t286, true)) = some (r1, r2) := H
  have A4 := Aside0.mk A40
  clear A40
  simp only [Option.some.injEq, Prod.mk.injEq] at H
  obtain ⟨rfl, rfl⟩ := H
  go_enter Try.func39, Try.ntmps39
  go_wp2_with (first | ((with_reducible refine gate_dst (N := 1) rfl ?_); refine box_event ?hg (N := 1) ?hd (cs := #[.slice A0_0 l0_0.length c0_0, .slice A0_1 l0_1.length c0_1, .slice A0_2 l0_2.length c0_2, .int .i64 a0_3, .int .i64 a0_4, .slice A0_5 l0_5.length c0_5, .slice A0_6 l0_6.length c0_6, .slice A0_7 l0_7.length c0_7, .int .i64 a0_8, .int .i64 a0_9, .int .i64 a0_10]) (t := 44) ?hr ?_; (case hd => rfl); (case hg => rfl); (case hr => exact zm'); intro gb284 hg w5 hbox hb; have n0_ := am (below_step za' hb); have n1_ := am (hbox); have n2_ := am ((by rw [hg]; exact (below_size za') : w.heap.size ≤ gb284)); have n3_ := am ((by rw [hg]; exact (below_size za') : w.heap.size ≤ gb284)); clear HB; have HB := n0_; have BK284 := n1_; have GW284 := n2_; have GE284 := n3_; clear n0_ n1_ n2_ n3_; clear hb hbox hg; have hcz6_0 : w5.cell? ⟨gb284, 0, none⟩ = some (.slice A0_0 l0_0.length c0_0) := (blk_cell BK284.out 0).trans rfl; have hcz6_1 : w5.cell? ⟨gb284, 1, none⟩ = some (.slice A0_1 l0_1.length c0_1) := (blk_cell BK284.out 1).trans rfl; have hcz6_2 : w5.cell? ⟨gb284, 2, none⟩ = some (.slice A0_2 l0_2.length c0_2) := (blk_cell BK284.out 2).trans rfl; have hcz6_3 : w5.cell? ⟨gb284, 3, none⟩ = some (.int .i64 a0_3) := (blk_cell BK284.out 3).trans rfl; have hcz6_4 : w5.cell? ⟨gb284, 4, none⟩ = some (.int .i64 a0_4) := (blk_cell BK284.out 4).trans rfl; have hcz6_5 : w5.cell? ⟨gb284, 5, none⟩ = some (.slice A0_5 l0_5.length c0_5) := (blk_cell BK284.out 5).trans rfl; have hcz6_6 : w5.cell? ⟨gb284, 6, none⟩ = some (.slice A0_6 l0_6.length c0_6) := (blk_cell BK284.out 6).trans rfl; have hcz6_7 : w5.cell? ⟨gb284, 7, none⟩ = some (.slice A0_7 l0_7.length c0_7) := (blk_cell BK284.out 7).trans rfl; have hcz6_8 : w5.cell? ⟨gb284, 8, none⟩ = some (.int .i64 a0_8) := (blk_cell BK284.out 8).trans rfl; have hcz6_9 : w5.cell? ⟨gb284, 9, none⟩ = some (.int .i64 a0_9) := (blk_cell BK284.out 9).trans rfl; have hcz6_10 : w5.cell? ⟨gb284, 10, none⟩ = some (.int .i64 a0_10) := (blk_cell BK284.out 10).trans rfl; have hfz6_0 := blk_frozen BK284.out 0; have hfz6_1 := blk_frozen BK284.out 1; have hfz6_2 := blk_frozen BK284.out 2; have hfz6_3 := blk_frozen BK284.out 3; have hfz6_4 := blk_frozen BK284.out 4; have hfz6_5 := blk_frozen BK284.out 5; have hfz6_6 := blk_frozen BK284.out 6; have hfz6_7 := blk_frozen BK284.out 7; have hfz6_8 := blk_frozen BK284.out 8; have hfz6_9 := blk_frozen BK284.out 9; have hfz6_10 := blk_frozen BK284.out 10) | ((with_reducible refine gate_callee (f := 28) rfl ?_); refine goesL_ (some 5) rfl rfl Try.func28 (by kernel_rfl) rfl #[.agg #[.slice A0_0 l0_0.length c0_0, .slice A0_1 l0_1.length c0_1, .slice A0_2 l0_2.length c0_2, .int .i64 a0_3, .int .i64 a0_4, .slice A0_5 l0_5.length c0_5, .slice A0_6 l0_6.length c0_6, .slice A0_7 l0_7.length c0_7, .int .i64 a0_8, .int .i64 a0_9, .int .i64 a0_10]] rfl zb' ?_; (with_reducible refine (impl_IsYard.calls k _ _ l0_0 _ _ l0_1 _ _ l0_2 a0_3 a0_4 _ _ l0_5 _ _ l0_6 _ _ l0_7 a0_8 a0_9 a0_10 true _ ?side1 ?side2 ?side3 ?side4 ?side5 ?side6 ?side7 ?side8 ?side9 ?side10 ?side11 ?side12 A2.out).mono ?_); (case side1 => exact zc'); (case side2 => exact zv2'); (case side3 => exact zd'); (case side4 => exact zc3'); (case side5 => exact ze'); (case side6 => exact zk3'); (case side7 => exact zk'); (case side8 => exact zt4'); (case side9 => exact zo'); (case side10 => exact zz4'); (case side11 => exact zq'); (case side12 => exact zu4'); rintro e w7 ⟨rfl, hb⟩; refine ⟨_, rfl, ?_⟩; have n0_ := am (blk_below (g := gb284) (o := o0') zv6' hb); have n1_ := am (below_step zy4' hb); clear BK284; clear HB; have BK284 := n0_; have HB := n1_; clear n0_ n1_; (try clear hb); (try clear hb2); (try clear hk); (try clear hi); have hcz8_0 : w7.cell? ⟨gb284, 0, none⟩ = some (.slice A0_0 l0_0.length c0_0) := (blk_cell BK284.out 0).trans rfl; have hcz8_1 : w7.cell? ⟨gb284, 1, none⟩ = some (.slice A0_1 l0_1.length c0_1) := (blk_cell BK284.out 1).trans rfl; have hcz8_2 : w7.cell? ⟨gb284, 2, none⟩ = some (.slice A0_2 l0_2.length c0_2) := (blk_cell BK284.out 2).trans rfl; have hcz8_3 : w7.cell? ⟨gb284, 3, none⟩ = some (.int .i64 a0_3) := (blk_cell BK284.out 3).trans rfl; have hcz8_4 : w7.cell? ⟨gb284, 4, none⟩ = some (.int .i64 a0_4) := (blk_cell BK284.out 4).trans rfl; have hcz8_5 : w7.cell? ⟨gb284, 5, none⟩ = some (.slice A0_5 l0_5.length c0_5) := (blk_cell BK284.out 5).trans rfl; have hcz8_6 : w7.cell? ⟨gb284, 6, none⟩ = some (.slice A0_6 l0_6.length c0_6) := (blk_cell BK284.out 6).trans rfl; have hcz8_7 : w7.cell? ⟨gb284, 7, none⟩ = some (.slice A0_7 l0_7.length c0_7) := (blk_cell BK284.out 7).trans rfl; have hcz8_8 : w7.cell? ⟨gb284, 8, none⟩ = some (.int .i64 a0_8) := (blk_cell BK284.out 8).trans rfl; have hcz8_9 : w7.cell? ⟨gb284, 9, none⟩ = some (.int .i64 a0_9) := (blk_cell BK284.out 9).trans rfl; have hcz8_10 : w7.cell? ⟨gb284, 10, none⟩ = some (.int .i64 a0_10) := (blk_cell BK284.out 10).trans rfl; have hfz8_0 := blk_frozen BK284.out 0; have hfz8_1 := blk_frozen BK284.out 1; have hfz8_2 := blk_frozen BK284.out 2; have hfz8_3 := blk_frozen BK284.out 3; have hfz8_4 := blk_frozen BK284.out 4; have hfz8_5 := blk_frozen BK284.out 5; have hfz8_6 := blk_frozen BK284.out 6; have hfz8_7 := blk_frozen BK284.out 7; have hfz8_8 := blk_frozen BK284.out 8; have hfz8_9 := blk_frozen BK284.out 9; have hfz8_10 := blk_frozen BK284.out 10) | ((with_reducible refine gate_callee (f := 83) rfl ?_); refine goesL_ (some 8) rfl rfl Try.func83 (by kernel_rfl) rfl #[.agg #[.slice A0_0 l0_0.length c0_0, .slice A0_1 l0_1.length c0_1, .slice A0_2 l0_2.length c0_2, .int .i64 a0_3, .int .i64 a0_4, .slice A0_5 l0_5.length c0_5, .slice A0_6 l0_6.length c0_6, .slice A0_7 l0_7.length c0_7, .int .i64 a0_8, .int .i64 a0_9, .int .i64 a0_10]] rfl zb' ?_; (with_reducible refine (impl_chooseShovel.calls k _ _ l0_0 _ _ l0_1 _ _ l0_2 a0_3 a0_4 _ _ l0_5 _ _ l0_6 _ _ l0_7 a0_8 a0_9 a0_10 t286 _ ?side1 ?side2 ?side3 ?side4 ?side5 ?side6 ?side7 ?side8 ?side9 ?side10 ?side11 ?side12 A4.out).mono ?_); (case side1 => exact zc'); (case side2 => exact zv2'); (case side3 => exact zd'); (case side4 => exact zc3'); (case side5 => exact ze'); (case side6 => exact zk3'); (case side7 => exact zk'); (case side8 => exact zt4'); (case side9 => exact zo'); (case side10 => exact zz4'); (case side11 => exact zq'); (case side12 => exact zu4'); rintro e w9 ⟨rfl, hb⟩; refine ⟨_, rfl, ?_⟩; have n0_ := am (blk_below (g := gb284) (o := o0') zv6' hb); have n1_ := am (below_step zy4' hb); clear BK284; clear HB; have BK284 := n0_; have HB := n1_; clear n0_ n1_; (try clear hb); (try clear hb2); (try clear hk); (try clear hi)))
  go_ret2
  exact ⟨by first | rfl | (simp [errW_none, errW_some] <;> rfl) | (simp [*, errW_none, errW_some] <;> rfl), by repeat (first | (with_reducible first | exact HB.out | apply ba | apply bn | apply below_drew1 | refine below_set ?_ GE284.out) | exact HB.out)⟩
 ·replace c3 := Bool.eq_false_iff.mpr c3
  subst c3
  have H1 : (some (0, false)) = some (r1, r2) := by rw [if_neg (show ¬ (false = true) by decide)] at H; exact H
  clear H
  have H := H1
  clear H1
  simp only [Option.some.injEq, Prod.mk.injEq] at H
  obtain ⟨rfl, rfl⟩ := H
  go_enter Try.func39, Try.ntmps39
  go_wp2_with (first | ((with_reducible refine gate_dst (N := 1) rfl ?_); refine box_event ?hg (N := 1) ?hd (cs := #[.slice A0_0 l0_0.length c0_0, .slice A0_1 l0_1.length c0_1, .slice A0_2 l0_2.length c0_2, .int .i64 a0_3, .int .i64 a0_4, .slice A0_5 l0_5.length c0_5, .slice A0_6 l0_6.length c0_6, .slice A0_7 l0_7.length c0_7, .int .i64 a0_8, .int .i64 a0_9, .int .i64 a0_10]) (t := 44) ?hr ?_; (case hd => rfl); (case hg => rfl); (case hr => exact zm'); intro gb284 hg w10 hbox hb; have n0_ := am (below_step za' hb); have n1_ := am (hbox); have n2_ := am ((by rw [hg]; exact (below_size za') : w.heap.size ≤ gb284)); have n3_ := am ((by rw [hg]; exact (below_size za') : w.heap.size ≤ gb284)); clear HB; have HB := n0_; have BK284 := n1_; have GW284 := n2_; have GE284 := n3_; clear n0_ n1_ n2_ n3_; clear hb hbox hg; have hcz11_0 : w10.cell? ⟨gb284, 0, none⟩ = some (.slice A0_0 l0_0.length c0_0) := (blk_cell BK284.out 0).trans rfl; have hcz11_1 : w10.cell? ⟨gb284, 1, none⟩ = some (.slice A0_1 l0_1.length c0_1) := (blk_cell BK284.out 1).trans rfl; have hcz11_2 : w10.cell? ⟨gb284, 2, none⟩ = some (.slice A0_2 l0_2.length c0_2) := (blk_cell BK284.out 2).trans rfl; have hcz11_3 : w10.cell? ⟨gb284, 3, none⟩ = some (.int .i64 a0_3) := (blk_cell BK284.out 3).trans rfl; have hcz11_4 : w10.cell? ⟨gb284, 4, none⟩ = some (.int .i64 a0_4) := (blk_cell BK284.out 4).trans rfl; have hcz11_5 : w10.cell? ⟨gb284, 5, none⟩ = some (.slice A0_5 l0_5.length c0_5) := (blk_cell BK284.out 5).trans rfl; have hcz11_6 : w10.cell? ⟨gb284, 6, none⟩ = some (.slice A0_6 l0_6.length c0_6) := (blk_cell BK284.out 6).trans rfl; have hcz11_7 : w10.cell? ⟨gb284, 7, none⟩ = some (.slice A0_7 l0_7.length c0_7) := (blk_cell BK284.out 7).trans rfl; have hcz11_8 : w10.cell? ⟨gb284, 8, none⟩ = some (.int .i64 a0_8) := (blk_cell BK284.out 8).trans rfl; have hcz11_9 : w10.cell? ⟨gb284, 9, none⟩ = some (.int .i64 a0_9) := (blk_cell BK284.out 9).trans rfl; have hcz11_10 : w10.cell? ⟨gb284, 10, none⟩ = some (.int .i64 a0_10) := (blk_cell BK284.out 10).trans rfl; have hfz11_0 := blk_frozen BK284.out 0; have hfz11_1 := blk_frozen BK284.out 1; have hfz11_2 := blk_frozen BK284.out 2; have hfz11_3 := blk_frozen BK284.out 3; have hfz11_4 := blk_frozen BK284.out 4; have hfz11_5 := blk_frozen BK284.out 5; have hfz11_6 := blk_frozen BK284.out 6; have hfz11_7 := blk_frozen BK284.out 7; have hfz11_8 := blk_frozen BK284.out 8; have hfz11_9 := blk_frozen BK284.out 9; have hfz11_10 := blk_frozen BK284.out 10) | ((with_reducible refine gate_callee (f := 28) rfl ?_); refine goesL_ (some 5) rfl rfl Try.func28 (by kernel_rfl) rfl #[.agg #[.slice A0_0 l0_0.length c0_0, .slice A0_1 l0_1.length c0_1, .slice A0_2 l0_2.length c0_2, .int .i64 a0_3, .int .i64 a0_4, .slice A0_5 l0_5.length c0_5, .slice A0_6 l0_6.length c0_6, .slice A0_7 l0_7.length c0_7, .int .i64 a0_8, .int .i64 a0_9, .int .i64 a0_10]] rfl zb' ?_; (with_reducible refine (impl_IsYard.calls k _ _ l0_0 _ _ l0_1 _ _ l0_2 a0_3 a0_4 _ _ l0_5 _ _ l0_6 _ _ l0_7 a0_8 a0_9 a0_10 false _ ?side1 ?side2 ?side3 ?side4 ?side5 ?side6 ?side7 ?side8 ?side9 ?side10 ?side11 ?side12 A2.out).mono ?_); (case side1 => exact zc'); (case side2 => exact zv2'); (case side3 => exact zd'); (case side4 => exact zc3'); (case side5 => exact ze'); (case side6 => exact zk3'); (case side7 => exact zk'); (case side8 => exact zt4'); (case side9 => exact zo'); (case side10 => exact zz4'); (case side11 => exact zq'); (case side12 => exact zu4'); rintro e w12 ⟨rfl, hb⟩; refine ⟨_, rfl, ?_⟩; have n0_ := am (blk_below (g := gb284) (o := o0') zv6' hb); have n1_ := am (below_step zy4' hb); clear BK284; clear HB; have BK284 := n0_; have HB := n1_; clear n0_ n1_; (try clear hb); (try clear hb2); (try clear hk); (try clear hi)))
  go_ret2
  exact ⟨by first | rfl | (simp [errW_none, errW_some] <;> rfl) | (simp [*, errW_none, errW_some] <;> rfl), by repeat (first | (with_reducible first | exact HB.out | apply ba | apply bn | apply below_drew1 | refine below_set ?_ GE284.out) | exact HB.out)⟩

end Go.Proofs.Ytikbfnbfbpnmjaa.PFnExactChooseShovel
