/- Text written by a program for this claim: contracts of the functions of one law. -/
import Derived.Test.YtociipogjmidiaaPFnTrucksx0
import Derived.Test.YtociipogjmidiaaPFnTrucksx1
import Derived.Test.YtociipogjmidiaaPFnTrucksx3
namespace Go.Proofs.Ytociipogjmidiaa.PFnTrucks
open Go.RowKit Go.Proofs.YtociipogjmidiaaW.PrintWords Go.Proofs.YtociipogjmidiaaW.PrintLast Go.Proofs.YtociipogjmidiaaW.PrintMore
attribute [local go_sem] max2_int min2_int max_two min_two max_three min_three max_four min_four   -- for this text's walks alone
set_option linter.unusedVariables false
set_option linter.unusedSimpArgs false
open ShortPFnTrucks0

/-! ### impl_LoadsBy: function 31 -/
mutual
def impl_LoadsBy.j0 : Nat → Int → Int → Bool → Int → Int → Int → Int → Option (Int × Bool)
 | 0, _, _, _, _, _, _, _ => none
 | k + 1, x1, x2, x25, x172000, x172001, x172002, x172003 => if x25 = true then (some (0, false)) else ((impl_runCycle.f k x172000 x172001 x172002 x172003 x1 200).bind fun bt173 => (impl_LoadsBy.l0 k x2 0 bt173.1 (bt173.1.length : Int) 0))
def impl_LoadsBy.l0 : Nat → Int → Int → List Int → Int → Int → Option (Int × Bool)
 | 0, _, _, _, _, _ => none
 | k + 1, x2, x11, x33, x34, x35 => if x35 < x34 then (if 0 ≤ x35 then (if x35 < (x33.length : Int) then (if (rd x33 x35) ≤ x2 then (impl_LoadsBy.l0 k x2 (wrap64 (x11 + 1)) x33 x34 (wrap64 (x35 + 1))) else (impl_LoadsBy.l0 k x2 x11 x33 x34 (wrap64 (x35 + 1)))) else (none)) else (none)) else (some (x11, true))
end
def impl_LoadsBy.f (k : Nat) (a0_0 : Int) (a0_1 : Int) (a0_2 : Int) (a0_3 : Int) (a1 : Int) (a2 : Int) : Option (Int × Bool) := (impl_areTrucks.f k a0_0 a0_1 a0_2 a0_3 a1 0).bind fun t172 => (if t172 = true then (if a2 < 0 then (impl_LoadsBy.j0 k a1 a2 true a0_0 a0_1 a0_2 a0_3) else (impl_LoadsBy.j0 k a1 a2 (decide (a2 > 100000)) a0_0 a0_1 a0_2 a0_3)) else (impl_LoadsBy.j0 k a1 a2 true a0_0 a0_1 a0_2 a0_3))
set_option maxHeartbeats 8000000 in
set_option maxRecDepth 100000 in
theorem impl_LoadsBy.calls (k : Nat) (a0_0 : Int) (a0_1 : Int) (a0_2 : Int) (a0_3 : Int) (a1 : Int) (a2 : Int) (r1 : Int) (r2 : Bool) (w : World) (h : impl_LoadsBy.f k a0_0 a0_1 a0_2 a0_3 a1 a2 = some (r1, r2)) :
  Calls Try.prog 31 #[.agg #[.int .i64 a0_0, .int .i64 a0_1, .int .i64 a0_2, .int .i64 a0_3], .int .i64 a1, .int .i64 a2] w fun e w' => e = .returned (.tuple #[.int .i64 r1, .bool r2]) ∧ Below w.heap.size w w' := by
 have hu25 := Try.underlying25
 have HB := am (Below.refl w.heap.size w)
 have H : ((impl_areTrucks.f k a0_0 a0_1 a0_2 a0_3 a1 0).bind fun t172 => (if t172 = true then (if a2 < 0 then (impl_LoadsBy.j0 k a1 a2 true a0_0 a0_1 a0_2 a0_3) else (impl_LoadsBy.j0 k a1 a2 (decide (a2 > 100000)) a0_0 a0_1 a0_2 a0_3)) else (impl_LoadsBy.j0 k a1 a2 true a0_0 a0_1 a0_2 a0_3))) = some (r1, r2) := h
 clear h
 have HC4 := Aside0.mk H
 clear H
 go_enter Try.func31, Try.ntmps31
 go_upto_region 1 with (first | ((with_reducible refine gate_dst (N := 3) rfl ?_); refine box_event ?hg (N := 3) ?hd (cs := #[.int .i64 a0_0, .int .i64 a0_1, .int .i64 a0_2, .int .i64 a0_3]) (t := 25) ?hr ?_; (case hd => rfl); (case hg => rfl); (case hr => exact zr'); intro gb171 hg w5 hbox hb; have n0_ := am (below_step zb' hb); have n1_ := am (hbox); have n2_ := am ((by rw [hg]; exact (below_size zb') : w.heap.size ≤ gb171)); have n3_ := am ((by rw [hg]; exact (below_size zb') : w.heap.size ≤ gb171)); clear HB; have HB := n0_; have BK171 := n1_; have GW171 := n2_; have GE171 := n3_; clear n0_ n1_ n2_ n3_; clear hb hbox hg))
 (try simp only [Act.put, s1, s2, s3])
 go_cut [25] (fun v25 wc => ∃ (kq : Nat) (x25_3 : Bool), v25 = .bool x25_3 ∧ Aside0 (impl_LoadsBy.j0 kq a1 a2 x25_3 a0_0 a0_1 a0_2 a0_3 = some (r1, r2)) ∧ Aside0 (kq ≤ k) ∧ Aside0 (wc.heap[gb171]? = some (.cells #[.int .i64 a0_0, .int .i64 a0_1, .int .i64 a0_2, .int .i64 a0_3] 25 (0, 0))) ∧ Aside0 (Below w.heap.size w wc))
 case first =>
  have H := HC4.out
  clear HC4
  replace H := Option.bind_eq_some_iff.mp H
  obtain ⟨t172, A60, H⟩ := H
  replace H : (if t172 = true then (if a2 < 0 then (impl_LoadsBy.j0 k a1 a2 true a0_0 a0_1 a0_2 a0_3) else (impl_LoadsBy.j0 k a1 a2 (decide (a2 > 100000)) a0_0 a0_1 a0_2 a0_3)) else (impl_LoadsBy.j0 k a1 a2 true a0_0 a0_1 a0_2 a0_3)) = some (r1, r2) := H
  have A6 := Aside0.mk A60
  clear A60
  by_cases c7 : t172 = true
  ·subst c7
   have H1 : (if a2 < 0 then (impl_LoadsBy.j0 k a1 a2 true a0_0 a0_1 a0_2 a0_3) else (impl_LoadsBy.j0 k a1 a2 (decide (a2 > 100000)) a0_0 a0_1 a0_2 a0_3)) = some (r1, r2) := by rw [if_pos rfl] at H; exact H
   clear H; have H := H1; clear H1
   by_cases c8 : a2 < 0
   ·rw [if_pos c8] at H
    have c8b0 : decide (a2 < 0) = true := decide_eq_true c8; clear c8
    (first | rw [c8b0] | (simp only [i64_w, i32_w]; rw [c8b0]) | skip)
    have H' := Aside0.mk H; clear H; have hcz9_0 : w5.cell? ⟨gb171, 0, none⟩ = some (.int .i64 a0_0) := (blk_cell BK171.out 0).trans rfl; have hcz9_1 : w5.cell? ⟨gb171, 1, none⟩ = some (.int .i64 a0_1) := (blk_cell BK171.out 1).trans rfl; have hcz9_2 : w5.cell? ⟨gb171, 2, none⟩ = some (.int .i64 a0_2) := (blk_cell BK171.out 2).trans rfl; have hcz9_3 : w5.cell? ⟨gb171, 3, none⟩ = some (.int .i64 a0_3) := (blk_cell BK171.out 3).trans rfl; have hfz9_0 := blk_frozen BK171.out 0; have hfz9_1 := blk_frozen BK171.out 1; have hfz9_2 := blk_frozen BK171.out 2; have hfz9_3 := blk_frozen BK171.out 3
    go_wp2_with (first | ((with_reducible refine gate_callee (f := 52) rfl ?_); refine goesL_ (some 16) rfl rfl Try.func52 (by kernel_rfl) rfl #[.agg #[.int .i64 a0_0, .int .i64 a0_1, .int .i64 a0_2, .int .i64 a0_3], .int .i64 a1, .int .i64 0] rfl za' ?_; (with_reducible refine (impl_areTrucks.calls k a0_0 a0_1 a0_2 a0_3 a1 0 true _ A6.out).mono ?_); rintro e w10 ⟨rfl, hb⟩; refine ⟨_, rfl, ?_⟩; have n0_ := am (blk_below (g := gb171) (o := o0') zj1' hb); have n1_ := am (below_step zx' hb); clear BK171; clear HB; have BK171 := n0_; have HB := n1_; clear n0_ n1_; (try clear hb); (try clear hb2); (try clear hk); (try clear hi)))
    go_meet
    case rel => exact ⟨_, (true), zs', H', ⟨zh2'⟩, ⟨zj1'⟩, ⟨zx'⟩⟩
   ·rw [if_neg c8] at H
    have c8b0 : decide (a2 < 0) = false := decide_eq_false c8; clear c8
    (first | rw [c8b0] | (simp only [i64_w, i32_w]; rw [c8b0]) | skip)
    have H' := Aside0.mk H; clear H; have hcz11_0 : w5.cell? ⟨gb171, 0, none⟩ = some (.int .i64 a0_0) := (blk_cell BK171.out 0).trans rfl; have hcz11_1 : w5.cell? ⟨gb171, 1, none⟩ = some (.int .i64 a0_1) := (blk_cell BK171.out 1).trans rfl; have hcz11_2 : w5.cell? ⟨gb171, 2, none⟩ = some (.int .i64 a0_2) := (blk_cell BK171.out 2).trans rfl; have hcz11_3 : w5.cell? ⟨gb171, 3, none⟩ = some (.int .i64 a0_3) := (blk_cell BK171.out 3).trans rfl; have hfz11_0 := blk_frozen BK171.out 0; have hfz11_1 := blk_frozen BK171.out 1; have hfz11_2 := blk_frozen BK171.out 2; have hfz11_3 := blk_frozen BK171.out 3
    go_wp2_with (first | ((with_reducible refine gate_callee (f := 52) rfl ?_); refine goesL_ (some 16) rfl rfl Try.func52 (by kernel_rfl) rfl #[.agg #[.int .i64 a0_0, .int .i64 a0_1, .int .i64 a0_2, .int .i64 a0_3], .int .i64 a1, .int .i64 0] rfl za' ?_; (with_reducible refine (impl_areTrucks.calls k a0_0 a0_1 a0_2 a0_3 a1 0 true _ A6.out).mono ?_); rintro e w12 ⟨rfl, hb⟩; refine ⟨_, rfl, ?_⟩; have n0_ := am (blk_below (g := gb171) (o := o0') zj1' hb); have n1_ := am (below_step zx' hb); clear BK171; clear HB; have BK171 := n0_; have HB := n1_; clear n0_ n1_; (try clear hb); (try clear hb2); (try clear hk); (try clear hi)))
    go_meet
    case rel => exact ⟨_, (decide (a2 > 100000)), zs', H', ⟨zh2'⟩, ⟨zj1'⟩, ⟨zx'⟩⟩
  ·replace c7 := Bool.eq_false_iff.mpr c7
   subst c7
   have H1 : (impl_LoadsBy.j0 k a1 a2 true a0_0 a0_1 a0_2 a0_3) = some (r1, r2) := by rw [if_neg (show ¬ (false = true) by decide)] at H; exact H
   clear H; have H := H1; clear H1; have H' := Aside0.mk H; clear H; have hcz13_0 : w5.cell? ⟨gb171, 0, none⟩ = some (.int .i64 a0_0) := (blk_cell BK171.out 0).trans rfl; have hcz13_1 : w5.cell? ⟨gb171, 1, none⟩ = some (.int .i64 a0_1) := (blk_cell BK171.out 1).trans rfl; have hcz13_2 : w5.cell? ⟨gb171, 2, none⟩ = some (.int .i64 a0_2) := (blk_cell BK171.out 2).trans rfl; have hcz13_3 : w5.cell? ⟨gb171, 3, none⟩ = some (.int .i64 a0_3) := (blk_cell BK171.out 3).trans rfl; have hfz13_0 := blk_frozen BK171.out 0; have hfz13_1 := blk_frozen BK171.out 1; have hfz13_2 := blk_frozen BK171.out 2; have hfz13_3 := blk_frozen BK171.out 3
   go_wp2_with (first | ((with_reducible refine gate_callee (f := 52) rfl ?_); refine goesL_ (some 16) rfl rfl Try.func52 (by kernel_rfl) rfl #[.agg #[.int .i64 a0_0, .int .i64 a0_1, .int .i64 a0_2, .int .i64 a0_3], .int .i64 a1, .int .i64 0] rfl za' ?_; (with_reducible refine (impl_areTrucks.calls k a0_0 a0_1 a0_2 a0_3 a1 0 false _ A6.out).mono ?_); rintro e w14 ⟨rfl, hb⟩; refine ⟨_, rfl, ?_⟩; have n0_ := am (blk_below (g := gb171) (o := o0') zj1' hb); have n1_ := am (below_step zx' hb); clear BK171; clear HB; have BK171 := n0_; have HB := n1_; clear n0_ n1_; (try clear hb); (try clear hb2); (try clear hk); (try clear hi)))
   go_meet
   case rel => exact ⟨_, (true), zs', H', ⟨zh2'⟩, ⟨zj1'⟩, ⟨zx'⟩⟩
 case rest =>
  clear HC4
  try clear p2
  try clear c3
  try clear c5
  try clear c7
  try clear c8
  try clear c8b0
  try clear hcz11_0
  try clear hcz11_1
  try clear hcz11_2
  try clear hcz11_3
  try clear hcz13_0
  try clear hcz13_1
  try clear hcz13_2
  try clear hcz13_3
  try clear hcz9_0
  try clear hcz9_1
  try clear hcz9_2
  try clear hcz9_3
  try clear hfz11_0
  try clear hfz11_1
  try clear hfz11_2
  try clear hfz11_3
  try clear hfz13_0
  try clear hfz13_1
  try clear hfz13_2
  try clear hfz13_3
  try clear hfz9_0
  try clear hfz9_1
  try clear hfz9_2
  try clear hfz9_3
  obtain ⟨kq, x25_3, rfl, HA, HJ3, BK171, HB⟩ := hcut
  cases kq with
  | zero => exact absurd HA.out (by simp [impl_LoadsBy.j0])
  | succ kj3 =>
   have H := HA.out; clear HA; simp only [impl_LoadsBy.j0] at H
   by_cases c15 : x25_3 = true
   ·subst c15
    have H1 : (some (0, false)) = some (r1, r2) := by rw [if_pos rfl] at H; exact H
    clear H; have H := H1; clear H1; simp only [Option.some.injEq, Prod.mk.injEq] at H; obtain ⟨rfl, rfl⟩ := H
    go_wp2
    go_ret2
    exact ⟨by first | rfl | (simp [errW_none, errW_some] <;> rfl) | (simp [*, errW_none, errW_some] <;> rfl), by repeat (first | (with_reducible first | exact HB.out | apply ba | apply bn | apply below_drew1 | refine below_set ?_ GE171.out) | exact HB.out)⟩
   ·replace c15 := Bool.eq_false_iff.mpr c15
    subst c15
    have H1 : ((impl_runCycle.f kj3 a0_0 a0_1 a0_2 a0_3 a1 200).bind fun bt173 => (impl_LoadsBy.l0 kj3 a2 0 bt173.1 (bt173.1.length : Int) 0)) = some (r1, r2) := by rw [if_neg (show ¬ (false = true) by decide)] at H; exact H
    clear H; have H := H1; clear H1; replace H := Option.bind_eq_some_iff.mp H; obtain ⟨⟨t173, t176, t177⟩, A160, H⟩ := H; replace H : (impl_LoadsBy.l0 kj3 a2 0 t173 (t173.length : Int) 0) = some (r1, r2) := H; have A16 := Aside0.mk A160; clear A160; have H' := Aside0.mk H; clear H; have hcz17_0 : wc.cell? ⟨gb171, 0, none⟩ = some (.int .i64 a0_0) := (blk_cell BK171.out 0).trans rfl; have hcz17_1 : wc.cell? ⟨gb171, 1, none⟩ = some (.int .i64 a0_1) := (blk_cell BK171.out 1).trans rfl; have hcz17_2 : wc.cell? ⟨gb171, 2, none⟩ = some (.int .i64 a0_2) := (blk_cell BK171.out 2).trans rfl; have hcz17_3 : wc.cell? ⟨gb171, 3, none⟩ = some (.int .i64 a0_3) := (blk_cell BK171.out 3).trans rfl; have hfz17_0 := blk_frozen BK171.out 0; have hfz17_1 := blk_frozen BK171.out 1; have hfz17_2 := blk_frozen BK171.out 2; have hfz17_3 := blk_frozen BK171.out 3
    go_wp2_with (first | ((with_reducible refine gate_callee (f := 57) rfl ?_); refine goesL_ (some 29) rfl rfl Try.func57 (by kernel_rfl) rfl #[.agg #[.int .i64 a0_0, .int .i64 a0_1, .int .i64 a0_2, .int .i64 a0_3], .int .i64 a1, .int .i64 200] rfl za' ?_; (with_reducible refine (impl_runCycle.calls kj3 a0_0 a0_1 a0_2 a0_3 a1 200 t173 t176 t177 _ A16.out).mono ?_); rintro e w18 ⟨v174, rfl, ho0, hb⟩; refine ⟨_, rfl, ?_⟩; have n0_ := am (Kd.R_lower ho0 (below_size zx')); have n1_ := am (blk_below (g := gb171) (o := o0') zj1' hb); have n2_ := am (below_step zx' hb); clear BK171; clear HB; have HO175 := n0_; have BK171 := n1_; have HB := n2_; clear n0_ n1_ n2_; (try clear hb); (try clear hb2); (try clear hk); (try clear hi); (try clear ho0); obtain ⟨Ao19, co19, eo19⟩ := Kd.R_slice HO175.out; subst eo19))
    go_loopg [11, 35] kj3 (fun kq v11 v35 w' => ∃ (x11_2 : Int) (x35_2 : Int), v11 = .int .i64 x11_2 ∧ v35 = .int .i64 x35_2 ∧ Aside0 (impl_LoadsBy.l0 kq a2 x11_2 t173 (t173.length : Int) x35_2 = some (r1, r2)) ∧ Aside0 (kq ≤ kj3) ∧ Aside0 (Kd.R (Kd.int .i64) 3 w' w.heap.size (fun _ => True) (.slice Ao19 t173.length co19) t173) ∧ Aside0 (w'.heap[gb171]? = some (.cells #[.int .i64 a0_0, .int .i64 a0_1, .int .i64 a0_2, .int .i64 a0_3] 25 (0, 0))) ∧ Aside0 (Below w.heap.size w w'))
    case atStart => exact ⟨(0), (0), zs', zs', H', ⟨Nat.le_refl _⟩, ⟨by (with_reducible repeat (first | apply Kd.R_alloc | apply Kd.R_drewN | apply Kd.R_drew)); exact HO175.out⟩, ⟨zj1'⟩, ⟨zx'⟩⟩
    case round =>
     clear H'; (try clear c1); (try clear p2); (try clear c3); (try clear c5); (try clear c7); (try clear c8); (try clear c8b0); (try clear c15); (try clear hcz11_0); (try clear hcz11_1); (try clear hcz11_2); (try clear hcz11_3); (try clear hcz13_0); (try clear hcz13_1); (try clear hcz13_2); (try clear hcz13_3); (try clear hcz17_0); (try clear hcz17_1); (try clear hcz17_2); (try clear hcz17_3); (try clear hcz9_0); (try clear hcz9_1); (try clear hcz9_2); (try clear hcz9_3); (try clear hfz11_0); (try clear hfz11_1); (try clear hfz11_2); (try clear hfz11_3); (try clear hfz13_0); (try clear hfz13_1); (try clear hfz13_2); (try clear hfz13_3); (try clear hfz17_0); (try clear hfz17_1); (try clear hfz17_2); (try clear hfz17_3); (try clear hfz9_0); (try clear hfz9_1); (try clear hfz9_2); (try clear hfz9_3); (try clear p2); obtain ⟨x11_2, x35_2, rfl, rfl, HA, HK2, HO_33, BK171, HB⟩ := hrel
     cases gk with
     | zero => exact absurd HA.out (by simp [impl_LoadsBy.l0])
     | succ k2 =>
      have H := HA.out; clear HA; simp only [impl_LoadsBy.l0] at H
      by_cases c20 : x35_2 < (t173.length : Int)
      ·rw [if_pos c20] at H
       have c20b0 : decide (x35_2 < (t173.length : Int)) = true := decide_eq_true c20; clear c20
       by_cases c21 : 0 ≤ x35_2
       ·rw [if_pos c21] at H
        have c21b0 : decide (0 ≤ x35_2) = true := decide_eq_true c21; clear c21
        by_cases c22 : x35_2 < (t173.length : Int)
        ·rw [if_pos c22] at H
         have c22b0 : decide (x35_2 < (t173.length : Int)) = true := decide_eq_true c22; clear c22
         by_cases c23 : (rd t173 x35_2) ≤ a2
         ·rw [if_pos c23] at H
          have c23b0 : decide ((rd t173 x35_2) ≤ a2) = true := decide_eq_true c23; clear c23; have H' := Aside0.mk H; clear H; have p178 : 0 ≤ (x35_2 : Int) := odt; have q178 : x35_2 < (t173.length : Int) := odt; obtain ⟨ad178, e178, hx178_0⟩ := Kd.at_int (Kd.R_reads' HO_33.out).2.2 x35_2 p178 q178; cases e178; replace p178 := eq_true p178; replace q178 := eq_true q178
          go_wp2
          go_roundg k2
          case measure => have := HJ3.out; have := HK2.out; omega
          case rel => exact ⟨(wrap64 (x11_2 + 1)), (wrap64 (x35_2 + 1)), zs', zs', H', ⟨by have := HJ3.out; have := HK2.out; omega⟩, ⟨by (with_reducible repeat (first | apply Kd.R_alloc | apply Kd.R_drewN | apply Kd.R_drew)); exact HO_33.out⟩, ⟨zj1'⟩, ⟨zx'⟩⟩
         ·rw [if_neg c23] at H
          have c23b0 : decide ((rd t173 x35_2) ≤ a2) = false := decide_eq_false c23; clear c23; have H' := Aside0.mk H; clear H; have p178 : 0 ≤ (x35_2 : Int) := odt; have q178 : x35_2 < (t173.length : Int) := odt; obtain ⟨ad178, e178, hx178_0⟩ := Kd.at_int (Kd.R_reads' HO_33.out).2.2 x35_2 p178 q178; cases e178; replace p178 := eq_true p178; replace q178 := eq_true q178
          go_wp2
          go_roundg k2
          case measure => have := HJ3.out; have := HK2.out; omega
          case rel => exact ⟨(x11_2), (wrap64 (x35_2 + 1)), zs', zs', H', ⟨by have := HJ3.out; have := HK2.out; omega⟩, ⟨by (with_reducible repeat (first | apply Kd.R_alloc | apply Kd.R_drewN | apply Kd.R_drew)); exact HO_33.out⟩, ⟨zj1'⟩, ⟨zx'⟩⟩
        ·rw [if_neg c22] at H
         exact absurd H (by simp)
       ·rw [if_neg c21] at H
        exact absurd H (by simp)
      ·rw [if_neg c20] at H
       have c20b0 : decide (x35_2 < (t173.length : Int)) = false := decide_eq_false c20; clear c20; simp only [Option.some.injEq, Prod.mk.injEq] at H; obtain ⟨rfl, rfl⟩ := H
       go_wp2
       go_ret2
       exact ⟨by first | rfl | (simp [errW_none, errW_some] <;> rfl) | (simp [*, errW_none, errW_some] <;> rfl), by repeat (first | (with_reducible first | exact HB.out | apply ba | apply bn | apply below_drew1 | refine below_set ?_ GE171.out) | exact HB.out)⟩

/-! ### spec_cyClock: function 58 -/
def spec_cyClock.f (a0 : Int) : Option (Bool) := (spec_l1In.f a0 0 100000).bind fun t179 => (some t179)
set_option maxHeartbeats 8000000 in
set_option maxRecDepth 100000 in
theorem spec_cyClock.calls (a0 : Int) (r : Bool) (w : World) (h : spec_cyClock.f a0 = some r) :
  Calls Try.prog 58 #[.int .i64 a0] w fun e w' => e = .returned (.bool r) ∧ Drawn0 w w' := by
 have H : ((spec_l1In.f a0 0 100000).bind fun t179 => (some t179)) = some r := h
 clear h
 replace H := Option.bind_eq_some_iff.mp H
 obtain ⟨t179, A20, H⟩ := H
 replace H : (some t179) = some r := H
 have A2 := Aside0.mk A20
 clear A20
 obtain rfl := Option.some.inj H
 go_enter Try.func58, Try.ntmps58
 go_wp2_with (first | ((with_reducible refine gate_callee (f := 67) rfl ?_); refine goesL_ (some 4) rfl rfl Try.func67 (by kernel_rfl) rfl #[.int .i64 a0, .int .i64 0, .int .i64 100000] rfl za' ?_; (with_reducible refine (spec_l1In.calls a0 0 100000 t179 _ A2.out).mono ?_); rintro e w' ⟨rfl, ⟨nd, rfl⟩⟩; refine ⟨_, rfl, ?_⟩))
 go_ret
 exact ⟨by first | rfl | (simp; done) | (simp [*]; done), by repeat (first | exact Drawn0.refl _ | apply Drawn0.step)⟩

/-! ### spec_cyRun: function 56 -/
def spec_cyRun.l0 : Nat → Int → Int → List Int → List Int → Int → Int → Int → Int → Int → Int → Int → Int → Option (List Int × List Int × Int)
 | 0, _, _, _, _, _, _, _, _, _, _, _, _ => none
 | k + 1, x1, x2, x9, x10, x11, x12, x13, x14, x181000, x181001, x181002, x181003 => if x14 < x2 then (if x14 ≥ x1 then (if 0 ≤ (wrap64 (x14 - x1)) then (if (wrap64 (x14 - x1)) < (x10.length : Int) then ((spec_l1Most.f (wrap64 ((rd x10 (wrap64 (x14 - x1))) + x181003)) x12).bind fun t182 => ((spec_l1Most.f (wrap64 ((wrap64 (t182 + x181000)) + x181001)) x13).bind fun t183 => (if x9.length < 17592186044416 then (if x10.length < 17592186044416 then (spec_cyRun.l0 k x1 x2 (x9 ++ [t182]) (x10 ++ [wrap64 (t183 + x181002)]) (wrap64 (x11 + (wrap64 ((wrap64 ((wrap64 (t182 - (wrap64 ((rd x10 (wrap64 (x14 - x1))) + x181003)))) + t183)) - (wrap64 ((wrap64 (t182 + x181000)) + x181001)))))) (wrap64 (t182 + x181000)) (wrap64 (t183 + x181002)) (wrap64 (x14 + 1)) x181000 x181001 x181002 x181003) else (none)) else (none)))) else (none)) else (none)) else ((spec_l1Most.f 0 x12).bind fun t190 => ((spec_l1Most.f (wrap64 ((wrap64 (t190 + x181000)) + x181001)) x13).bind fun t191 => (if x9.length < 17592186044416 then (if x10.length < 17592186044416 then (spec_cyRun.l0 k x1 x2 (x9 ++ [t190]) (x10 ++ [wrap64 (t191 + x181002)]) (wrap64 (x11 + (wrap64 ((wrap64 ((wrap64 (t190 - 0)) + t191)) - (wrap64 ((wrap64 (t190 + x181000)) + x181001)))))) (wrap64 (t190 + x181000)) (wrap64 (t191 + x181002)) (wrap64 (x14 + 1)) x181000 x181001 x181002 x181003) else (none)) else (none))))) else (some (x9, x10, x11))
def spec_cyRun.f (k : Nat) (a0_0 : Int) (a0_1 : Int) (a0_2 : Int) (a0_3 : Int) (a1 : Int) (a2 : Int) : Option (List Int × List Int × Int) := spec_cyRun.l0 k a1 a2 ([] : List Int) ([] : List Int) 0 0 0 0 a0_0 a0_1 a0_2 a0_3
set_option maxHeartbeats 8000000 in
set_option maxRecDepth 100000 in
theorem spec_cyRun.calls (k : Nat) (a0_0 : Int) (a0_1 : Int) (a0_2 : Int) (a0_3 : Int) (a1 : Int) (a2 : Int) (r1 : List Int) (r2 : List Int) (r3 : Int) (w : World) (h : spec_cyRun.f k a0_0 a0_1 a0_2 a0_3 a1 a2 = some (r1, r2, r3)) :
  Calls Try.prog 56 #[.agg #[.int .i64 a0_0, .int .i64 a0_1, .int .i64 a0_2, .int .i64 a0_3], .int .i64 a1, .int .i64 a2] w fun e w' => ∃ v0_ v1_ : Value, e = .returned (.tuple #[v0_, v1_, .int .i64 r3]) ∧ Kd.R (Kd.int .i64) 3 w' w.heap.size (fun k_ => some k_ ≠ (v1_ : Value).ownBlock) v0_ r1 ∧ Kd.R (Kd.int .i64) 3 w' w.heap.size (fun k_ => some k_ ≠ (v0_ : Value).ownBlock) v1_ r2 ∧ Below w.heap.size w w' := by
 have hu25 := Try.underlying25
 have HB := am (Below.refl w.heap.size w)
 have H : (spec_cyRun.l0 k a1 a2 ([] : List Int) ([] : List Int) 0 0 0 0 a0_0 a0_1 a0_2 a0_3) = some (r1, r2, r3) := h
 clear h
 have H' := Aside0.mk H
 clear H
 go_enter Try.func56, Try.ntmps56
 go_wp2_with (first | ((with_reducible refine gate_dst (N := 3) rfl ?_); refine box_event ?hg (N := 3) ?hd (cs := #[.int .i64 a0_0, .int .i64 a0_1, .int .i64 a0_2, .int .i64 a0_3]) (t := 25) ?hr ?_; (case hd => rfl); (case hg => rfl); (case hr => exact zr'); intro gb180 hg w4 hbox hb; have n0_ := am (below_step zb' hb); have n1_ := am (hbox); have n2_ := am ((by rw [hg]; exact (below_size zb') : w.heap.size ≤ gb180)); have n3_ := am ((by rw [hg]; exact (below_size zb') : w.heap.size ≤ gb180)); clear HB; have HB := n0_; have BK180 := n1_; have GW180 := n2_; have GE180 := n3_; clear n0_ n1_ n2_ n3_; clear hb hbox hg))
 repeat (go_quiet (first | ((with_reducible refine gate_dst (N := 3) rfl ?_); refine box_event ?hg (N := 3) ?hd (cs := #[.int .i64 a0_0, .int .i64 a0_1, .int .i64 a0_2, .int .i64 a0_3]) (t := 25) ?hr ?_; (case hd => rfl); (case hg => rfl); (case hr => exact zr'); intro gb180 hg w4 hbox hb; have n0_ := am (below_step zb' hb); have n1_ := am (hbox); have n2_ := am ((by rw [hg]; exact (below_size zb') : w.heap.size ≤ gb180)); have n3_ := am ((by rw [hg]; exact (below_size zb') : w.heap.size ≤ gb180)); clear HB; have HB := n0_; have BK180 := n1_; have GW180 := n2_; have GE180 := n3_; clear n0_ n1_ n2_ n3_; clear hb hbox hg)); try go_wp2_with (first | ((with_reducible refine gate_dst (N := 3) rfl ?_); refine box_event ?hg (N := 3) ?hd (cs := #[.int .i64 a0_0, .int .i64 a0_1, .int .i64 a0_2, .int .i64 a0_3]) (t := 25) ?hr ?_; (case hd => rfl); (case hg => rfl); (case hr => exact zr'); intro gb180 hg w4 hbox hb; have n0_ := am (below_step zb' hb); have n1_ := am (hbox); have n2_ := am ((by rw [hg]; exact (below_size zb') : w.heap.size ≤ gb180)); have n3_ := am ((by rw [hg]; exact (below_size zb') : w.heap.size ≤ gb180)); clear HB; have HB := n0_; have BK180 := n1_; have GW180 := n2_; have GE180 := n3_; clear n0_ n1_ n2_ n3_; clear hb hbox hg)))
 go_loopg [9, 10, 11, 12, 13, 14] k (fun kq v9 v10 v11 v12 v13 v14 w' => ∃ (x9_1 : List Int) (x10_1 : List Int) (x11_1 : Int) (x12_1 : Int) (x13_1 : Int) (x14_1 : Int), v11 = .int .i64 x11_1 ∧ v12 = .int .i64 x12_1 ∧ v13 = .int .i64 x13_1 ∧ v14 = .int .i64 x14_1 ∧ Aside0 (spec_cyRun.l0 kq a1 a2 x9_1 x10_1 x11_1 x12_1 x13_1 x14_1 a0_0 a0_1 a0_2 a0_3 = some (r1, r2, r3)) ∧ Aside0 (kq ≤ k) ∧ Aside0 (Kd.R (Kd.int .i64) 3 w' w.heap.size (fun k_ => some k_ ≠ (v10 : Value).ownBlock) v9 x9_1) ∧ Aside0 (Kd.R (Kd.int .i64) 3 w' w.heap.size (fun k_ => some k_ ≠ (v9 : Value).ownBlock) v10 x10_1) ∧ Aside0 (w'.heap[gb180]? = some (.cells #[.int .i64 a0_0, .int .i64 a0_1, .int .i64 a0_2, .int .i64 a0_3] 25 (0, 0))) ∧ Aside0 (Below w.heap.size w w'))
 case atStart => exact ⟨(([] : List Int)), (([] : List Int)), (0), (0), (0), (0), zs', zs', zs', zs', H', ⟨Nat.le_refl _⟩, ⟨zv2'⟩, ⟨zv2'⟩, ⟨za1'⟩, ⟨zg'⟩⟩
 case round =>
  clear H'
  try clear p2
  obtain ⟨x9_1, x10_1, x11_1, x12_1, x13_1, x14_1, rfl, rfl, rfl, rfl, HA, HK1, HO_9, HO_10, BK180, HB⟩ := hrel
  cases gk with
  | zero => exact absurd HA.out (by simp [spec_cyRun.l0])
  | succ k1 =>
   have H := HA.out; clear HA; simp only [spec_cyRun.l0] at H
   by_cases c5 : x14_1 < a2
   ·rw [if_pos c5] at H
    have c5b0 : decide (x14_1 < a2) = true := decide_eq_true c5; clear c5
    by_cases c6 : x14_1 ≥ a1
    ·rw [if_pos c6] at H
     have c6b0 : decide (a1 ≤ x14_1) = true := decide_eq_true c6; clear c6
     obtain ⟨ji7, hji7⟩ : ∃ j_ : Int, (wrap64 (x14_1 - a1)) = j_ := ⟨_, rfl⟩
     replace H : (if 0 ≤ (ji7) then (if (ji7) < (x10_1.length : Int) then ((spec_l1Most.f (wrap64 ((rd x10_1 (ji7)) + a0_3)) x12_1).bind fun t182 => ((spec_l1Most.f (wrap64 ((wrap64 (t182 + a0_0)) + a0_1)) x13_1).bind fun t183 => (if x9_1.length < 17592186044416 then (if x10_1.length < 17592186044416 then (spec_cyRun.l0 k1 a1 a2 (x9_1 ++ [t182]) (x10_1 ++ [wrap64 (t183 + a0_2)]) (wrap64 (x11_1 + (wrap64 ((wrap64 ((wrap64 (t182 - (wrap64 ((rd x10_1 (ji7)) + a0_3)))) + t183)) - (wrap64 ((wrap64 (t182 + a0_0)) + a0_1)))))) (wrap64 (t182 + a0_0)) (wrap64 (t183 + a0_2)) (wrap64 (x14_1 + 1)) a0_0 a0_1 a0_2 a0_3) else (none)) else (none)))) else (none)) else (none)) = some (r1, r2, r3) := by first | (rw [hji7] at H; exact H) | (simp only [hji7] at H ⊢; exact H)
     have hji7w : (IntKind.i64.wrap (x14_1 - a1)) = ji7 := (i64_w _).trans hji7
     by_cases c8 : 0 ≤ (ji7)
     ·rw [if_pos c8] at H
      have c8b0 : decide (0 ≤ (ji7)) = true := decide_eq_true c8; clear c8
      by_cases c9 : (ji7) < (x10_1.length : Int)
      ·rw [if_pos c9] at H
       have c9b0 : decide ((ji7) < (x10_1.length : Int)) = true := decide_eq_true c9; clear c9; replace H := Option.bind_eq_some_iff.mp H; obtain ⟨t182, A100, H⟩ := H; replace H : ((spec_l1Most.f (wrap64 ((wrap64 (t182 + a0_0)) + a0_1)) x13_1).bind fun t183 => (if x9_1.length < 17592186044416 then (if x10_1.length < 17592186044416 then (spec_cyRun.l0 k1 a1 a2 (x9_1 ++ [t182]) (x10_1 ++ [wrap64 (t183 + a0_2)]) (wrap64 (x11_1 + (wrap64 ((wrap64 ((wrap64 (t182 - (wrap64 ((rd x10_1 (ji7)) + a0_3)))) + t183)) - (wrap64 ((wrap64 (t182 + a0_0)) + a0_1)))))) (wrap64 (t182 + a0_0)) (wrap64 (t183 + a0_2)) (wrap64 (x14_1 + 1)) a0_0 a0_1 a0_2 a0_3) else (none)) else (none))) = some (r1, r2, r3) := H; have A10 := Aside0.mk A100; clear A100; replace H := Option.bind_eq_some_iff.mp H; obtain ⟨t183, A110, H⟩ := H; replace H : (if x9_1.length < 17592186044416 then (if x10_1.length < 17592186044416 then (spec_cyRun.l0 k1 a1 a2 (x9_1 ++ [t182]) (x10_1 ++ [wrap64 (t183 + a0_2)]) (wrap64 (x11_1 + (wrap64 ((wrap64 ((wrap64 (t182 - (wrap64 ((rd x10_1 (ji7)) + a0_3)))) + t183)) - (wrap64 ((wrap64 (t182 + a0_0)) + a0_1)))))) (wrap64 (t182 + a0_0)) (wrap64 (t183 + a0_2)) (wrap64 (x14_1 + 1)) a0_0 a0_1 a0_2 a0_3) else (none)) else (none)) = some (r1, r2, r3) := H; have A11 := Aside0.mk A110; clear A110
       by_cases c12 : x9_1.length < 17592186044416
       ·rw [if_pos c12] at H
        have LMc12 := Aside0.mk c12; clear c12
        obtain ⟨y184, hy184⟩ : ∃ y_ : List Int, y_ = (x9_1 ++ [t182]) := ⟨_, rfl⟩
        replace H : (if x10_1.length < 17592186044416 then (spec_cyRun.l0 k1 a1 a2 y184 (x10_1 ++ [wrap64 (t183 + a0_2)]) (wrap64 (x11_1 + (wrap64 ((wrap64 ((wrap64 (t182 - (wrap64 ((rd x10_1 (ji7)) + a0_3)))) + t183)) - (wrap64 ((wrap64 (t182 + a0_0)) + a0_1)))))) (wrap64 (t182 + a0_0)) (wrap64 (t183 + a0_2)) (wrap64 (x14_1 + 1)) a0_0 a0_1 a0_2 a0_3) else (none)) = some (r1, r2, r3) := by first | (rw [hy184]; with_reducible exact H) | (have H2_ := (Option.bind_some _ _).symm.trans H; rw [hy184]; with_reducible exact H2_) | (have H2_ := (Option.bind_some _ _).symm.trans H; with_reducible exact H2_) | with_reducible exact H | (rw [hy184]; exact H) | exact H
        have Ny184 := Aside0.mk hy184; clear hy184
        by_cases c13 : x10_1.length < 17592186044416
        ·rw [if_pos c13] at H
         have LMc13 := Aside0.mk c13; clear c13
         obtain ⟨y187, hy187⟩ : ∃ y_ : List Int, y_ = (x10_1 ++ [wrap64 (t183 + a0_2)]) := ⟨_, rfl⟩
         replace H : (spec_cyRun.l0 k1 a1 a2 y184 y187 (wrap64 (x11_1 + (wrap64 ((wrap64 ((wrap64 (t182 - (wrap64 ((rd x10_1 (ji7)) + a0_3)))) + t183)) - (wrap64 ((wrap64 (t182 + a0_0)) + a0_1)))))) (wrap64 (t182 + a0_0)) (wrap64 (t183 + a0_2)) (wrap64 (x14_1 + 1)) a0_0 a0_1 a0_2 a0_3) = some (r1, r2, r3) := by first | (rw [hy187]; with_reducible exact H) | (have H2_ := (Option.bind_some _ _).symm.trans H; rw [hy187]; with_reducible exact H2_) | (have H2_ := (Option.bind_some _ _).symm.trans H; with_reducible exact H2_) | with_reducible exact H | (rw [hy187]; exact H) | exact H
         have Ny187 := Aside0.mk hy187; clear hy187; have H' := Aside0.mk H; clear H; obtain ⟨Ao14, co14, eo14⟩ := Kd.R_slice HO_10.out; subst eo14; have p181 : 0 ≤ ((ji7) : Int) := odt; have q181 : (ji7) < (x10_1.length : Int) := odt; obtain ⟨ad181, e181, hx181_0⟩ := Kd.at_int (Kd.R_reads' HO_10.out).2.2 (ji7) p181 q181; cases e181; replace p181 := eq_true p181; replace q181 := eq_true q181; have hcz15_0 : wr.cell? ⟨gb180, 0, none⟩ = some (.int .i64 a0_0) := (blk_cell BK180.out 0).trans rfl; have hcz15_1 : wr.cell? ⟨gb180, 1, none⟩ = some (.int .i64 a0_1) := (blk_cell BK180.out 1).trans rfl; have hcz15_2 : wr.cell? ⟨gb180, 2, none⟩ = some (.int .i64 a0_2) := (blk_cell BK180.out 2).trans rfl; have hcz15_3 : wr.cell? ⟨gb180, 3, none⟩ = some (.int .i64 a0_3) := (blk_cell BK180.out 3).trans rfl; have hfz15_0 := blk_frozen BK180.out 0; have hfz15_1 := blk_frozen BK180.out 1; have hfz15_2 := blk_frozen BK180.out 2; have hfz15_3 := blk_frozen BK180.out 3
         go_wp2_with (first | (go_at_call 50; (with_reducible refine (spec_l1Most.calls (wrap64 ((rd x10_1 (ji7)) + a0_3)) x12_1 t182 _ A10.out).mono ?_); rintro e w' ⟨rfl, ⟨nd, rfl⟩⟩; (try first | exact ⟨rfl, _, World.drewN_drewN _ _ _⟩ | exact ⟨rfl, _, Eq.trans (World.drewN_drewN _ _ _) (congrArg (World.drewN _) (Nat.add_assoc _ _ _))⟩)) | (go_at_call 50; (with_reducible refine (spec_l1Most.calls (wrap64 ((wrap64 (t182 + a0_0)) + a0_1)) x13_1 t183 _ A11.out).mono ?_); rintro e w' ⟨rfl, ⟨nd, rfl⟩⟩; (try first | exact ⟨rfl, _, World.drewN_drewN _ _ _⟩ | exact ⟨rfl, _, Eq.trans (World.drewN_drewN _ _ _) (congrArg (World.drewN _) (Nat.add_assoc _ _ _))⟩)) | ((with_reducible refine gate_builtin (b := .append) (xs := #[.tmp 63, .tmp 65]) rfl ?_); at_builtin; refine Kd.R_append (Kd.int .i64) (w0 := w) w.heap.size rfl (.tmp 63) (.tmp 65) 36 3 (.int .i64 0) 8 rfl Try.underlying36 info3 rfl (by decide) (by omega) u9 x9_1 t182 [.int .i64 t182] (fun k_ => some k_ ≠ (.slice (some ad181) x10_1.length co14 : Value).ownBlock) (fun _ => False) rfl rfl ?aP (fun _ hk => hk.elim) ?aF ?aO ?aB ?aS ?aL ?_; (case aP => exact rfl); (case aB => exact zg'); (case aF => exact zf1'); (case aO => exact zy'); (case aS => exact zm2'); (case aL => have := LMc12.out; omega); intro v185 w16 ho hb hg hat; rw [← Ny184.out] at ho; have n0_ := am (Kd.R_after (ok := (fun _ => True)) zg1' hg hat); have n1_ := am (blk_grown (g := gb180) (o := o0') za1' hg (Kd.R_ne HO_9.out BK180.out (by decide))); have n2_ := am (hb); have n3_ := am (ho); clear HO_10; clear BK180; clear HB; clear HO_9; have HO_10 := n0_; have BK180 := n1_; have HB := n2_; have HO186 := n3_; clear n0_ n1_ n2_ n3_; clear ho hb hg hat) | ((with_reducible refine gate_builtin (b := .append) (xs := #[.tmp 67, .tmp 69]) rfl ?_); at_builtin; refine Kd.R_append (Kd.int .i64) (w0 := w) w.heap.size rfl (.tmp 67) (.tmp 69) 36 3 (.int .i64 0) 8 rfl Try.underlying36 info3 rfl (by decide) (by omega) (.slice (some ad181) x10_1.length co14) x10_1 (wrap64 (t183 + a0_2)) [.int .i64 (wrap64 (t183 + a0_2))] (fun k_ => some k_ ≠ (v185 : Value).ownBlock) (fun _ => False) rfl rfl ?aP (fun _ hk => hk.elim) ?aF ?aO ?aB ?aS ?aL ?_; (case aP => exact rfl); (case aB => exact zg'); (case aF => exact zz1'); (case aO => exact zh1'); (case aS => exact zm2'); (case aL => have := LMc13.out; omega); intro v188 w17 ho hb hg hat; rw [← Ny187.out] at ho; have n0_ := am (blk_grown (g := gb180) (o := o0') za1' hg (Kd.R_ne HO_10.out BK180.out (by decide))); have n1_ := am (Kd.R_after (ok := (fun _ => True)) zb2' hg hat); have n2_ := am (hb); have n3_ := am (ho); clear BK180; clear HO186; clear HB; clear HO_10; have BK180 := n0_; have HO186 := n1_; have HB := n2_; have HO189 := n3_; clear n0_ n1_ n2_ n3_; clear ho hb hg hat))
         repeat (go_quiet (first | (go_at_call 50; (with_reducible refine (spec_l1Most.calls (wrap64 ((rd x10_1 (ji7)) + a0_3)) x12_1 t182 _ A10.out).mono ?_); rintro e w' ⟨rfl, ⟨nd, rfl⟩⟩; (try first | exact ⟨rfl, _, World.drewN_drewN _ _ _⟩ | exact ⟨rfl, _, Eq.trans (World.drewN_drewN _ _ _) (congrArg (World.drewN _) (Nat.add_assoc _ _ _))⟩)) | (go_at_call 50; (with_reducible refine (spec_l1Most.calls (wrap64 ((wrap64 (t182 + a0_0)) + a0_1)) x13_1 t183 _ A11.out).mono ?_); rintro e w' ⟨rfl, ⟨nd, rfl⟩⟩; (try first | exact ⟨rfl, _, World.drewN_drewN _ _ _⟩ | exact ⟨rfl, _, Eq.trans (World.drewN_drewN _ _ _) (congrArg (World.drewN _) (Nat.add_assoc _ _ _))⟩)) | ((with_reducible refine gate_builtin (b := .append) (xs := #[.tmp 63, .tmp 65]) rfl ?_); at_builtin; refine Kd.R_append (Kd.int .i64) (w0 := w) w.heap.size rfl (.tmp 63) (.tmp 65) 36 3 (.int .i64 0) 8 rfl Try.underlying36 info3 rfl (by decide) (by omega) u9 x9_1 t182 [.int .i64 t182] (fun k_ => some k_ ≠ (.slice (some ad181) x10_1.length co14 : Value).ownBlock) (fun _ => False) rfl rfl ?aP (fun _ hk => hk.elim) ?aF ?aO ?aB ?aS ?aL ?_; (case aP => exact rfl); (case aB => exact zg'); (case aF => exact zf1'); (case aO => exact zy'); (case aS => exact zm2'); (case aL => have := LMc12.out; omega); intro v185 w16 ho hb hg hat; rw [← Ny184.out] at ho; have n0_ := am (Kd.R_after (ok := (fun _ => True)) zg1' hg hat); have n1_ := am (blk_grown (g := gb180) (o := o0') za1' hg (Kd.R_ne HO_9.out BK180.out (by decide))); have n2_ := am (hb); have n3_ := am (ho); clear HO_10; clear BK180; clear HB; clear HO_9; have HO_10 := n0_; have BK180 := n1_; have HB := n2_; have HO186 := n3_; clear n0_ n1_ n2_ n3_; clear ho hb hg hat) | ((with_reducible refine gate_builtin (b := .append) (xs := #[.tmp 67, .tmp 69]) rfl ?_); at_builtin; refine Kd.R_append (Kd.int .i64) (w0 := w) w.heap.size rfl (.tmp 67) (.tmp 69) 36 3 (.int .i64 0) 8 rfl Try.underlying36 info3 rfl (by decide) (by omega) (.slice (some ad181) x10_1.length co14) x10_1 (wrap64 (t183 + a0_2)) [.int .i64 (wrap64 (t183 + a0_2))] (fun k_ => some k_ ≠ (v185 : Value).ownBlock) (fun _ => False) rfl rfl ?aP (fun _ hk => hk.elim) ?aF ?aO ?aB ?aS ?aL ?_; (case aP => exact rfl); (case aB => exact zg'); (case aF => exact zz1'); (case aO => exact zh1'); (case aS => exact zm2'); (case aL => have := LMc13.out; omega); intro v188 w17 ho hb hg hat; rw [← Ny187.out] at ho; have n0_ := am (blk_grown (g := gb180) (o := o0') za1' hg (Kd.R_ne HO_10.out BK180.out (by decide))); have n1_ := am (Kd.R_after (ok := (fun _ => True)) zb2' hg hat); have n2_ := am (hb); have n3_ := am (ho); clear BK180; clear HO186; clear HB; clear HO_10; have BK180 := n0_; have HO186 := n1_; have HB := n2_; have HO189 := n3_; clear n0_ n1_ n2_ n3_; clear ho hb hg hat)); try go_wp2_with (first | (go_at_call 50; (with_reducible refine (spec_l1Most.calls (wrap64 ((rd x10_1 (ji7)) + a0_3)) x12_1 t182 _ A10.out).mono ?_); rintro e w' ⟨rfl, ⟨nd, rfl⟩⟩; (try first | exact ⟨rfl, _, World.drewN_drewN _ _ _⟩ | exact ⟨rfl, _, Eq.trans (World.drewN_drewN _ _ _) (congrArg (World.drewN _) (Nat.add_assoc _ _ _))⟩)) | (go_at_call 50; (with_reducible refine (spec_l1Most.calls (wrap64 ((wrap64 (t182 + a0_0)) + a0_1)) x13_1 t183 _ A11.out).mono ?_); rintro e w' ⟨rfl, ⟨nd, rfl⟩⟩; (try first | exact ⟨rfl, _, World.drewN_drewN _ _ _⟩ | exact ⟨rfl, _, Eq.trans (World.drewN_drewN _ _ _) (congrArg (World.drewN _) (Nat.add_assoc _ _ _))⟩)) | ((with_reducible refine gate_builtin (b := .append) (xs := #[.tmp 63, .tmp 65]) rfl ?_); at_builtin; refine Kd.R_append (Kd.int .i64) (w0 := w) w.heap.size rfl (.tmp 63) (.tmp 65) 36 3 (.int .i64 0) 8 rfl Try.underlying36 info3 rfl (by decide) (by omega) u9 x9_1 t182 [.int .i64 t182] (fun k_ => some k_ ≠ (.slice (some ad181) x10_1.length co14 : Value).ownBlock) (fun _ => False) rfl rfl ?aP (fun _ hk => hk.elim) ?aF ?aO ?aB ?aS ?aL ?_; (case aP => exact rfl); (case aB => exact zg'); (case aF => exact zf1'); (case aO => exact zy'); (case aS => exact zm2'); (case aL => have := LMc12.out; omega); intro v185 w16 ho hb hg hat; rw [← Ny184.out] at ho; have n0_ := am (Kd.R_after (ok := (fun _ => True)) zg1' hg hat); have n1_ := am (blk_grown (g := gb180) (o := o0') za1' hg (Kd.R_ne HO_9.out BK180.out (by decide))); have n2_ := am (hb); have n3_ := am (ho); clear HO_10; clear BK180; clear HB; clear HO_9; have HO_10 := n0_; have BK180 := n1_; have HB := n2_; have HO186 := n3_; clear n0_ n1_ n2_ n3_; clear ho hb hg hat) | ((with_reducible refine gate_builtin (b := .append) (xs := #[.tmp 67, .tmp 69]) rfl ?_); at_builtin; refine Kd.R_append (Kd.int .i64) (w0 := w) w.heap.size rfl (.tmp 67) (.tmp 69) 36 3 (.int .i64 0) 8 rfl Try.underlying36 info3 rfl (by decide) (by omega) (.slice (some ad181) x10_1.length co14) x10_1 (wrap64 (t183 + a0_2)) [.int .i64 (wrap64 (t183 + a0_2))] (fun k_ => some k_ ≠ (v185 : Value).ownBlock) (fun _ => False) rfl rfl ?aP (fun _ hk => hk.elim) ?aF ?aO ?aB ?aS ?aL ?_; (case aP => exact rfl); (case aB => exact zg'); (case aF => exact zz1'); (case aO => exact zh1'); (case aS => exact zm2'); (case aL => have := LMc13.out; omega); intro v188 w17 ho hb hg hat; rw [← Ny187.out] at ho; have n0_ := am (blk_grown (g := gb180) (o := o0') za1' hg (Kd.R_ne HO_10.out BK180.out (by decide))); have n1_ := am (Kd.R_after (ok := (fun _ => True)) zb2' hg hat); have n2_ := am (hb); have n3_ := am (ho); clear BK180; clear HO186; clear HB; clear HO_10; have BK180 := n0_; have HO186 := n1_; have HB := n2_; have HO189 := n3_; clear n0_ n1_ n2_ n3_; clear ho hb hg hat)))
         go_roundg k1
         case measure => have := HK1.out; omega
         case rel => exact ⟨(y184), (y187), (wrap64 (x11_1 + (wrap64 ((wrap64 ((wrap64 (t182 - (wrap64 ((rd x10_1 (ji7)) + a0_3)))) + t183)) - (wrap64 ((wrap64 (t182 + a0_0)) + a0_1)))))), (wrap64 (t182 + a0_0)), (wrap64 (t183 + a0_2)), (wrap64 (x14_1 + 1)), (by first | rfl | (simp; done) | (simp only [← hji7] <;> (first | rfl | simp)) | (simp [*]; done)), zs', zs', zs', H', ⟨by have := HK1.out; omega⟩, ⟨by (with_reducible repeat (first | apply Kd.R_alloc | apply Kd.R_drewN | apply Kd.R_drew)); exact Kd.R_mono HO186.out (fun _ hk => hk.2)⟩, ⟨by (with_reducible repeat (first | apply Kd.R_alloc | apply Kd.R_drewN | apply Kd.R_drew)); exact HO189.out⟩, ⟨za1'⟩, ⟨zg'⟩⟩
        ·rw [if_neg c13] at H
         exact absurd H (by simp)
       ·rw [if_neg c12] at H
        exact absurd H (by simp)
      ·rw [if_neg c9] at H
       exact absurd H (by simp)
     ·rw [if_neg c8] at H
      exact absurd H (by simp)
    ·rw [if_neg c6] at H
     have c6b0 : decide (a1 ≤ x14_1) = false := decide_eq_false c6; clear c6; replace H := Option.bind_eq_some_iff.mp H; obtain ⟨t190, A180, H⟩ := H; replace H : ((spec_l1Most.f (wrap64 ((wrap64 (t190 + a0_0)) + a0_1)) x13_1).bind fun t191 => (if x9_1.length < 17592186044416 then (if x10_1.length < 17592186044416 then (spec_cyRun.l0 k1 a1 a2 (x9_1 ++ [t190]) (x10_1 ++ [wrap64 (t191 + a0_2)]) (wrap64 (x11_1 + (wrap64 ((wrap64 ((wrap64 (t190 - 0)) + t191)) - (wrap64 ((wrap64 (t190 + a0_0)) + a0_1)))))) (wrap64 (t190 + a0_0)) (wrap64 (t191 + a0_2)) (wrap64 (x14_1 + 1)) a0_0 a0_1 a0_2 a0_3) else (none)) else (none))) = some (r1, r2, r3) := H; have A18 := Aside0.mk A180; clear A180; replace H := Option.bind_eq_some_iff.mp H; obtain ⟨t191, A190, H⟩ := H; replace H : (if x9_1.length < 17592186044416 then (if x10_1.length < 17592186044416 then (spec_cyRun.l0 k1 a1 a2 (x9_1 ++ [t190]) (x10_1 ++ [wrap64 (t191 + a0_2)]) (wrap64 (x11_1 + (wrap64 ((wrap64 ((wrap64 (t190 - 0)) + t191)) - (wrap64 ((wrap64 (t190 + a0_0)) + a0_1)))))) (wrap64 (t190 + a0_0)) (wrap64 (t191 + a0_2)) (wrap64 (x14_1 + 1)) a0_0 a0_1 a0_2 a0_3) else (none)) else (none)) = some (r1, r2, r3) := H; have A19 := Aside0.mk A190; clear A190
     by_cases c20 : x9_1.length < 17592186044416
     ·rw [if_pos c20] at H
      have LMc20 := Aside0.mk c20; clear c20
      obtain ⟨y192, hy192⟩ : ∃ y_ : List Int, y_ = (x9_1 ++ [t190]) := ⟨_, rfl⟩
      replace H : (if x10_1.length < 17592186044416 then (spec_cyRun.l0 k1 a1 a2 y192 (x10_1 ++ [wrap64 (t191 + a0_2)]) (wrap64 (x11_1 + (wrap64 ((wrap64 ((wrap64 (t190 - 0)) + t191)) - (wrap64 ((wrap64 (t190 + a0_0)) + a0_1)))))) (wrap64 (t190 + a0_0)) (wrap64 (t191 + a0_2)) (wrap64 (x14_1 + 1)) a0_0 a0_1 a0_2 a0_3) else (none)) = some (r1, r2, r3) := by first | (rw [hy192]; with_reducible exact H) | (have H2_ := (Option.bind_some _ _).symm.trans H; rw [hy192]; with_reducible exact H2_) | (have H2_ := (Option.bind_some _ _).symm.trans H; with_reducible exact H2_) | with_reducible exact H | (rw [hy192]; exact H) | exact H
      have Ny192 := Aside0.mk hy192; clear hy192
      by_cases c21 : x10_1.length < 17592186044416
      ·rw [if_pos c21] at H
       have LMc21 := Aside0.mk c21; clear c21
       obtain ⟨y195, hy195⟩ : ∃ y_ : List Int, y_ = (x10_1 ++ [wrap64 (t191 + a0_2)]) := ⟨_, rfl⟩
       replace H : (spec_cyRun.l0 k1 a1 a2 y192 y195 (wrap64 (x11_1 + (wrap64 ((wrap64 ((wrap64 (t190 - 0)) + t191)) - (wrap64 ((wrap64 (t190 + a0_0)) + a0_1)))))) (wrap64 (t190 + a0_0)) (wrap64 (t191 + a0_2)) (wrap64 (x14_1 + 1)) a0_0 a0_1 a0_2 a0_3) = some (r1, r2, r3) := by first | (rw [hy195]; with_reducible exact H) | (have H2_ := (Option.bind_some _ _).symm.trans H; rw [hy195]; with_reducible exact H2_) | (have H2_ := (Option.bind_some _ _).symm.trans H; with_reducible exact H2_) | with_reducible exact H | (rw [hy195]; exact H) | exact H
       have Ny195 := Aside0.mk hy195; clear hy195; have H' := Aside0.mk H; clear H
       go_wp2_with (first | (go_at_call 50; (with_reducible refine (spec_l1Most.calls 0 x12_1 t190 _ A18.out).mono ?_); rintro e w' ⟨rfl, ⟨nd, rfl⟩⟩; (try first | exact ⟨rfl, _, World.drewN_drewN _ _ _⟩ | exact ⟨rfl, _, Eq.trans (World.drewN_drewN _ _ _) (congrArg (World.drewN _) (Nat.add_assoc _ _ _))⟩); have hcz22_0 : wr.cell? ⟨gb180, 0, none⟩ = some (.int .i64 a0_0) := (blk_cell BK180.out 0).trans rfl; have hcz22_1 : wr.cell? ⟨gb180, 1, none⟩ = some (.int .i64 a0_1) := (blk_cell BK180.out 1).trans rfl; have hcz22_2 : wr.cell? ⟨gb180, 2, none⟩ = some (.int .i64 a0_2) := (blk_cell BK180.out 2).trans rfl; have hcz22_3 : wr.cell? ⟨gb180, 3, none⟩ = some (.int .i64 a0_3) := (blk_cell BK180.out 3).trans rfl; have hfz22_0 := blk_frozen BK180.out 0; have hfz22_1 := blk_frozen BK180.out 1; have hfz22_2 := blk_frozen BK180.out 2; have hfz22_3 := blk_frozen BK180.out 3) | (go_at_call 50; (with_reducible refine (spec_l1Most.calls (wrap64 ((wrap64 (t190 + a0_0)) + a0_1)) x13_1 t191 _ A19.out).mono ?_); rintro e w' ⟨rfl, ⟨nd, rfl⟩⟩; (try first | exact ⟨rfl, _, World.drewN_drewN _ _ _⟩ | exact ⟨rfl, _, Eq.trans (World.drewN_drewN _ _ _) (congrArg (World.drewN _) (Nat.add_assoc _ _ _))⟩)) | ((with_reducible refine gate_builtin (b := .append) (xs := #[.tmp 63, .tmp 65]) rfl ?_); at_builtin; refine Kd.R_append (Kd.int .i64) (w0 := w) w.heap.size rfl (.tmp 63) (.tmp 65) 36 3 (.int .i64 0) 8 rfl Try.underlying36 info3 rfl (by decide) (by omega) u9 x9_1 t190 [.int .i64 t190] (fun k_ => some k_ ≠ (u10 : Value).ownBlock) (fun _ => False) rfl rfl ?aP (fun _ hk => hk.elim) ?aF ?aO ?aB ?aS ?aL ?_; (case aP => exact rfl); (case aB => exact zg'); (case aF => exact zf1'); (case aO => exact zy'); (case aS => exact zm2'); (case aL => have := LMc20.out; omega); intro v193 w23 ho hb hg hat; rw [← Ny192.out] at ho; have n0_ := am (Kd.R_after (ok := (fun _ => True)) zg1' hg hat); have n1_ := am (blk_grown (g := gb180) (o := o0') za1' hg (Kd.R_ne HO_9.out BK180.out (by decide))); have n2_ := am (hb); have n3_ := am (ho); clear HO_10; clear BK180; clear HB; clear HO_9; have HO_10 := n0_; have BK180 := n1_; have HB := n2_; have HO194 := n3_; clear n0_ n1_ n2_ n3_; clear ho hb hg hat) | ((with_reducible refine gate_builtin (b := .append) (xs := #[.tmp 67, .tmp 69]) rfl ?_); at_builtin; refine Kd.R_append (Kd.int .i64) (w0 := w) w.heap.size rfl (.tmp 67) (.tmp 69) 36 3 (.int .i64 0) 8 rfl Try.underlying36 info3 rfl (by decide) (by omega) u10 x10_1 (wrap64 (t191 + a0_2)) [.int .i64 (wrap64 (t191 + a0_2))] (fun k_ => some k_ ≠ (v193 : Value).ownBlock) (fun _ => False) rfl rfl ?aP (fun _ hk => hk.elim) ?aF ?aO ?aB ?aS ?aL ?_; (case aP => exact rfl); (case aB => exact zg'); (case aF => exact za2'); (case aO => exact zh1'); (case aS => exact zm2'); (case aL => have := LMc21.out; omega); intro v196 w24 ho hb hg hat; rw [← Ny195.out] at ho; have n0_ := am (blk_grown (g := gb180) (o := o0') za1' hg (Kd.R_ne HO_10.out BK180.out (by decide))); have n1_ := am (Kd.R_after (ok := (fun _ => True)) zc2' hg hat); have n2_ := am (hb); have n3_ := am (ho); clear BK180; clear HO194; clear HB; clear HO_10; have BK180 := n0_; have HO194 := n1_; have HB := n2_; have HO197 := n3_; clear n0_ n1_ n2_ n3_; clear ho hb hg hat))
       repeat (go_quiet (first | (go_at_call 50; (with_reducible refine (spec_l1Most.calls 0 x12_1 t190 _ A18.out).mono ?_); rintro e w' ⟨rfl, ⟨nd, rfl⟩⟩; (try first | exact ⟨rfl, _, World.drewN_drewN _ _ _⟩ | exact ⟨rfl, _, Eq.trans (World.drewN_drewN _ _ _) (congrArg (World.drewN _) (Nat.add_assoc _ _ _))⟩); have hcz22_0 : wr.cell? ⟨gb180, 0, none⟩ = some (.int .i64 a0_0) := (blk_cell BK180.out 0).trans rfl; have hcz22_1 : wr.cell? ⟨gb180, 1, none⟩ = some (.int .i64 a0_1) := (blk_cell BK180.out 1).trans rfl; have hcz22_2 : wr.cell? ⟨gb180, 2, none⟩ = some (.int .i64 a0_2) := (blk_cell BK180.out 2).trans rfl; have hcz22_3 : wr.cell? ⟨gb180, 3, none⟩ = some (.int .i64 a0_3) := (blk_cell BK180.out 3).trans rfl; have hfz22_0 := blk_frozen BK180.out 0; have hfz22_1 := blk_frozen BK180.out 1; have hfz22_2 := blk_frozen BK180.out 2; have hfz22_3 := blk_frozen BK180.out 3) | (go_at_call 50; (with_reducible refine (spec_l1Most.calls (wrap64 ((wrap64 (t190 + a0_0)) + a0_1)) x13_1 t191 _ A19.out).mono ?_); rintro e w' ⟨rfl, ⟨nd, rfl⟩⟩; (try first | exact ⟨rfl, _, World.drewN_drewN _ _ _⟩ | exact ⟨rfl, _, Eq.trans (World.drewN_drewN _ _ _) (congrArg (World.drewN _) (Nat.add_assoc _ _ _))⟩)) | ((with_reducible refine gate_builtin (b := .append) (xs := #[.tmp 63, .tmp 65]) rfl ?_); at_builtin; refine Kd.R_append (Kd.int .i64) (w0 := w) w.heap.size rfl (.tmp 63) (.tmp 65) 36 3 (.int .i64 0) 8 rfl Try.underlying36 info3 rfl (by decide) (by omega) u9 x9_1 t190 [.int .i64 t190] (fun k_ => some k_ ≠ (u10 : Value).ownBlock) (fun _ => False) rfl rfl ?aP (fun _ hk => hk.elim) ?aF ?aO ?aB ?aS ?aL ?_; (case aP => exact rfl); (case aB => exact zg'); (case aF => exact zf1'); (case aO => exact zy'); (case aS => exact zm2'); (case aL => have := LMc20.out; omega); intro v193 w23 ho hb hg hat; rw [← Ny192.out] at ho; have n0_ := am (Kd.R_after (ok := (fun _ => True)) zg1' hg hat); have n1_ := am (blk_grown (g := gb180) (o := o0') za1' hg (Kd.R_ne HO_9.out BK180.out (by decide))); have n2_ := am (hb); have n3_ := am (ho); clear HO_10; clear BK180; clear HB; clear HO_9; have HO_10 := n0_; have BK180 := n1_; have HB := n2_; have HO194 := n3_; clear n0_ n1_ n2_ n3_; clear ho hb hg hat) | ((with_reducible refine gate_builtin (b := .append) (xs := #[.tmp 67, .tmp 69]) rfl ?_); at_builtin; refine Kd.R_append (Kd.int .i64) (w0 := w) w.heap.size rfl (.tmp 67) (.tmp 69) 36 3 (.int .i64 0) 8 rfl Try.underlying36 info3 rfl (by decide) (by omega) u10 x10_1 (wrap64 (t191 + a0_2)) [.int .i64 (wrap64 (t191 + a0_2))] (fun k_ => some k_ ≠ (v193 : Value).ownBlock) (fun _ => False) rfl rfl ?aP (fun _ hk => hk.elim) ?aF ?aO ?aB ?aS ?aL ?_; (case aP => exact rfl); (case aB => exact zg'); (case aF => exact za2'); (case aO => exact zh1'); (case aS => exact zm2'); (case aL => have := LMc21.out; omega); intro v196 w24 ho hb hg hat; rw [← Ny195.out] at ho; have n0_ := am (blk_grown (g := gb180) (o := o0') za1' hg (Kd.R_ne HO_10.out BK180.out (by decide))); have n1_ := am (Kd.R_after (ok := (fun _ => True)) zc2' hg hat); have n2_ := am (hb); have n3_ := am (ho); clear BK180; clear HO194; clear HB; clear HO_10; have BK180 := n0_; have HO194 := n1_; have HB := n2_; have HO197 := n3_; clear n0_ n1_ n2_ n3_; clear ho hb hg hat)); try go_wp2_with (first | (go_at_call 50; (with_reducible refine (spec_l1Most.calls 0 x12_1 t190 _ A18.out).mono ?_); rintro e w' ⟨rfl, ⟨nd, rfl⟩⟩; (try first | exact ⟨rfl, _, World.drewN_drewN _ _ _⟩ | exact ⟨rfl, _, Eq.trans (World.drewN_drewN _ _ _) (congrArg (World.drewN _) (Nat.add_assoc _ _ _))⟩); have hcz22_0 : wr.cell? ⟨gb180, 0, none⟩ = some (.int .i64 a0_0) := (blk_cell BK180.out 0).trans rfl; have hcz22_1 : wr.cell? ⟨gb180, 1, none⟩ = some (.int .i64 a0_1) := (blk_cell BK180.out 1).trans rfl; have hcz22_2 : wr.cell? ⟨gb180, 2, none⟩ = some (.int .i64 a0_2) := (blk_cell BK180.out 2).trans rfl; have hcz22_3 : wr.cell? ⟨gb180, 3, none⟩ = some (.int .i64 a0_3) := (blk_cell BK180.out 3).trans rfl; have hfz22_0 := blk_frozen BK180.out 0; have hfz22_1 := blk_frozen BK180.out 1; have hfz22_2 := blk_frozen BK180.out 2; have hfz22_3 := blk_frozen BK180.out 3) | (go_at_call 50; (with_reducible refine (spec_l1Most.calls (wrap64 ((wrap64 (t190 + a0_0)) + a0_1)) x13_1 t191 _ A19.out).mono ?_); rintro e w' ⟨rfl, ⟨nd, rfl⟩⟩; (try first | exact ⟨rfl, _, World.drewN_drewN _ _ _⟩ | exact ⟨rfl, _, Eq.trans (World.drewN_drewN _ _ _) (congrArg (World.drewN _) (Nat.add_assoc _ _ _))⟩)) | ((with_reducible refine gate_builtin (b := .append) (xs := #[.tmp 63, .tmp 65]) rfl ?_); at_builtin; refine Kd.R_append (Kd.int .i64) (w0 := w) w.heap.size rfl (.tmp 63) (.tmp 65) 36 3 (.int .i64 0) 8 rfl Try.underlying36 info3 rfl (by decide) (by omega) u9 x9_1 t190 [.int .i64 t190] (fun k_ => some k_ ≠ (u10 : Value).ownBlock) (fun _ => False) rfl rfl ?aP (fun _ hk => hk.elim) ?aF ?aO ?aB ?aS ?aL ?_; (case aP => exact rfl); (case aB => exact zg'); (case aF => exact zf1'); (case aO => exact zy'); (case aS => exact zm2'); (case aL => have := LMc20.out; omega); intro v193 w23 ho hb hg hat; rw [← Ny192.out] at ho; have n0_ := am (Kd.R_after (ok := (fun _ => True)) zg1' hg hat); have n1_ := am (blk_grown (g := gb180) (o := o0') za1' hg (Kd.R_ne HO_9.out BK180.out (by decide))); have n2_ := am (hb); have n3_ := am (ho); clear HO_10; clear BK180; clear HB; clear HO_9; have HO_10 := n0_; have BK180 := n1_; have HB := n2_; have HO194 := n3_; clear n0_ n1_ n2_ n3_; clear ho hb hg hat) | ((with_reducible refine gate_builtin (b := .append) (xs := #[.tmp 67, .tmp 69]) rfl ?_); at_builtin; refine Kd.R_append (Kd.int .i64) (w0 := w) w.heap.size rfl (.tmp 67) (.tmp 69) 36 3 (.int .i64 0) 8 rfl Try.underlying36 info3 rfl (by decide) (by omega) u10 x10_1 (wrap64 (t191 + a0_2)) [.int .i64 (wrap64 (t191 + a0_2))] (fun k_ => some k_ ≠ (v193 : Value).ownBlock) (fun _ => False) rfl rfl ?aP (fun _ hk => hk.elim) ?aF ?aO ?aB ?aS ?aL ?_; (case aP => exact rfl); (case aB => exact zg'); (case aF => exact za2'); (case aO => exact zh1'); (case aS => exact zm2'); (case aL => have := LMc21.out; omega); intro v196 w24 ho hb hg hat; rw [← Ny195.out] at ho; have n0_ := am (blk_grown (g := gb180) (o := o0') za1' hg (Kd.R_ne HO_10.out BK180.out (by decide))); have n1_ := am (Kd.R_after (ok := (fun _ => True)) zc2' hg hat); have n2_ := am (hb); have n3_ := am (ho); clear BK180; clear HO194; clear HB; clear HO_10; have BK180 := n0_; have HO194 := n1_; have HB := n2_; have HO197 := n3_; clear n0_ n1_ n2_ n3_; clear ho hb hg hat)))
       go_roundg k1
       case measure => have := HK1.out; omega
       case rel => exact ⟨(y192), (y195), (wrap64 (x11_1 + (wrap64 ((wrap64 ((wrap64 (t190 - 0)) + t191)) - (wrap64 ((wrap64 (t190 + a0_0)) + a0_1)))))), (wrap64 (t190 + a0_0)), (wrap64 (t191 + a0_2)), (wrap64 (x14_1 + 1)), zs', zs', zs', zs', H', ⟨by have := HK1.out; omega⟩, ⟨by (with_reducible repeat (first | apply Kd.R_alloc | apply Kd.R_drewN | apply Kd.R_drew)); exact Kd.R_mono HO194.out (fun _ hk => hk.2)⟩, ⟨by (with_reducible repeat (first | apply Kd.R_alloc | apply Kd.R_drewN | apply Kd.R_drew)); exact HO197.out⟩, ⟨za1'⟩, ⟨zg'⟩⟩
      ·rw [if_neg c21] at H
       exact absurd H (by simp)
     ·rw [if_neg c20] at H
      exact absurd H (by simp)
   ·rw [if_neg c5] at H
    have c5b0 : decide (x14_1 < a2) = false := decide_eq_false c5; clear c5; simp only [Option.some.injEq, Prod.mk.injEq] at H; obtain ⟨rfl, rfl, rfl⟩ := H
    go_wp2
    repeat (go_quiet (fail); try go_wp2)
    go_ret3
    exact ⟨_, _, by first | rfl | (simp [errW_none, errW_some] <;> rfl) | (simp [*, errW_none, errW_some] <;> rfl), by (with_reducible repeat (first | apply Kd.R_alloc | apply Kd.R_drewN | apply Kd.R_drew)); exact HO_9.out, by (with_reducible repeat (first | apply Kd.R_alloc | apply Kd.R_drewN | apply Kd.R_drew)); exact HO_10.out, by repeat (first | (with_reducible first | exact HB.out | apply ba | apply bn | apply below_drew1 | refine below_set ?_ GE180.out) | exact HB.out)⟩

/-! ### spec_cyLoads: function 59 -/
def spec_cyLoads.l0 : Nat → Int → List Int → Int → Option (Int)
 | 0, _, _, _ => none
 | k + 1, x2, x8, x10 => if x10 < (x8.length : Int) then (if 0 ≤ x10 then (if (rd x8 x10) ≤ x2 then (spec_cyLoads.l0 k x2 x8 (wrap64 (x10 + 1))) else (some x10)) else (none)) else (some x10)
def spec_cyLoads.f (k : Nat) (a0_0 : Int) (a0_1 : Int) (a0_2 : Int) (a0_3 : Int) (a1 : Int) (a2 : Int) : Option (Int) := (spec_cyRun.f k a0_0 a0_1 a0_2 a0_3 a1 200).bind fun bt199 => (spec_cyLoads.l0 k a2 bt199.2.1 0)
set_option maxHeartbeats 8000000 in
set_option maxRecDepth 100000 in
theorem spec_cyLoads.calls (k : Nat) (a0_0 : Int) (a0_1 : Int) (a0_2 : Int) (a0_3 : Int) (a1 : Int) (a2 : Int) (r : Int) (w : World) (h : spec_cyLoads.f k a0_0 a0_1 a0_2 a0_3 a1 a2 = some r) :
  Calls Try.prog 59 #[.agg #[.int .i64 a0_0, .int .i64 a0_1, .int .i64 a0_2, .int .i64 a0_3], .int .i64 a1, .int .i64 a2] w fun e w' => e = .returned (.int .i64 r) ∧ Below w.heap.size w w' := by
 have hu25 := Try.underlying25
 have HB := am (Below.refl w.heap.size w)
 have H : ((spec_cyRun.f k a0_0 a0_1 a0_2 a0_3 a1 200).bind fun bt199 => (spec_cyLoads.l0 k a2 bt199.2.1 0)) = some r := h
 clear h
 replace H := Option.bind_eq_some_iff.mp H
 obtain ⟨⟨t199, t202, t205⟩, A40, H⟩ := H
 replace H : (spec_cyLoads.l0 k a2 t202 0) = some r := H
 have A4 := Aside0.mk A40
 clear A40
 have H' := Aside0.mk H
 clear H
 go_enter Try.func59, Try.ntmps59
 go_wp2_with (first | ((with_reducible refine gate_dst (N := 3) rfl ?_); refine box_event ?hg (N := 3) ?hd (cs := #[.int .i64 a0_0, .int .i64 a0_1, .int .i64 a0_2, .int .i64 a0_3]) (t := 25) ?hr ?_; (case hd => rfl); (case hg => rfl); (case hr => exact zr'); intro gb198 hg w5 hbox hb; have n0_ := am (below_step zb' hb); have n1_ := am (hbox); have n2_ := am ((by rw [hg]; exact (below_size zb') : w.heap.size ≤ gb198)); have n3_ := am ((by rw [hg]; exact (below_size zb') : w.heap.size ≤ gb198)); clear HB; have HB := n0_; have BK198 := n1_; have GW198 := n2_; have GE198 := n3_; clear n0_ n1_ n2_ n3_; clear hb hbox hg; have hcz6_0 : w5.cell? ⟨gb198, 0, none⟩ = some (.int .i64 a0_0) := (blk_cell BK198.out 0).trans rfl; have hcz6_1 : w5.cell? ⟨gb198, 1, none⟩ = some (.int .i64 a0_1) := (blk_cell BK198.out 1).trans rfl; have hcz6_2 : w5.cell? ⟨gb198, 2, none⟩ = some (.int .i64 a0_2) := (blk_cell BK198.out 2).trans rfl; have hcz6_3 : w5.cell? ⟨gb198, 3, none⟩ = some (.int .i64 a0_3) := (blk_cell BK198.out 3).trans rfl; have hfz6_0 := blk_frozen BK198.out 0; have hfz6_1 := blk_frozen BK198.out 1; have hfz6_2 := blk_frozen BK198.out 2; have hfz6_3 := blk_frozen BK198.out 3) | ((with_reducible refine gate_callee (f := 56) rfl ?_); refine goesL_ (some 14) rfl rfl Try.func56 (by kernel_rfl) rfl #[.agg #[.int .i64 a0_0, .int .i64 a0_1, .int .i64 a0_2, .int .i64 a0_3], .int .i64 a1, .int .i64 200] rfl za' ?_; (with_reducible refine (spec_cyRun.calls k a0_0 a0_1 a0_2 a0_3 a1 200 t199 t202 t205 _ A4.out).mono ?_); rintro e w7 ⟨v200, v203, rfl, ho0, ho1, hb⟩; refine ⟨_, rfl, ?_⟩; have n0_ := am (Kd.R_lower ho0 (below_size zo1')); have n1_ := am (Kd.R_lower ho1 (below_size zo1')); have n2_ := am (blk_below (g := gb198) (o := o0') zt2' hb); have n3_ := am (below_step zo1' hb); clear BK198; clear HB; have HO201 := n0_; have HO204 := n1_; have BK198 := n2_; have HB := n3_; clear n0_ n1_ n2_ n3_; (try clear hb); (try clear hb2); (try clear hk); (try clear hi); (try clear ho0); (try clear ho1)))
 go_loopg [10] k (fun kq v10 w' => ∃ (x10_1 : Int), v10 = .int .i64 x10_1 ∧ Aside0 (spec_cyLoads.l0 kq a2 t202 x10_1 = some r) ∧ Aside0 (kq ≤ k) ∧ Aside0 (Kd.R (Kd.int .i64) 3 w' w.heap.size (fun _ => True) v203 t202) ∧ Aside0 (w'.heap[gb198]? = some (.cells #[.int .i64 a0_0, .int .i64 a0_1, .int .i64 a0_2, .int .i64 a0_3] 25 (0, 0))) ∧ Aside0 (Below w.heap.size w w'))
 case atStart => exact ⟨(0), zs', H', ⟨Nat.le_refl _⟩, ⟨by (with_reducible repeat (first | apply Kd.R_alloc | apply Kd.R_drewN | apply Kd.R_drew)); exact Kd.R_mono HO204.out (fun _ hk => trivial)⟩, ⟨zt2'⟩, ⟨zo1'⟩⟩
 case round =>
  clear H'
  try clear p2
  try clear c5
  try clear hcz6_0
  try clear hcz6_1
  try clear hcz6_2
  try clear hcz6_3
  try clear hfz6_0
  try clear hfz6_1
  try clear hfz6_2
  try clear hfz6_3
  obtain ⟨x10_1, rfl, HA, HK1, HO_8, BK198, HB⟩ := hrel
  cases gk with
  | zero => exact absurd HA.out (by simp [spec_cyLoads.l0])
  | succ k1 =>
   have H := HA.out; clear HA; simp only [spec_cyLoads.l0] at H
   by_cases c8 : x10_1 < (t202.length : Int)
   ·rw [if_pos c8] at H
    have c8b0 : decide (x10_1 < (t202.length : Int)) = true := decide_eq_true c8; clear c8
    by_cases c9 : 0 ≤ x10_1
    ·rw [if_pos c9] at H
     have c9b0 : decide (0 ≤ x10_1) = true := decide_eq_true c9; clear c9
     by_cases c10 : (rd t202 x10_1) ≤ a2
     ·rw [if_pos c10] at H
      have c10b0 : decide ((rd t202 x10_1) ≤ a2) = true := decide_eq_true c10; clear c10; have H' := Aside0.mk H; clear H; obtain ⟨Ao11, co11, eo11⟩ := Kd.R_slice HO_8.out; subst eo11; have p206 : 0 ≤ (x10_1 : Int) := odt; have q206 : x10_1 < (t202.length : Int) := odt; obtain ⟨ad206, e206, hx206_0⟩ := Kd.at_int (Kd.R_reads' HO_8.out).2.2 x10_1 p206 q206; cases e206; replace p206 := eq_true p206; replace q206 := eq_true q206
      go_wp2
      go_roundg k1
      case measure => have := HK1.out; omega
      case rel => exact ⟨(wrap64 (x10_1 + 1)), zs', H', ⟨by have := HK1.out; omega⟩, ⟨by (with_reducible repeat (first | apply Kd.R_alloc | apply Kd.R_drewN | apply Kd.R_drew)); exact HO_8.out⟩, ⟨zt2'⟩, ⟨zo1'⟩⟩
     ·rw [if_neg c10] at H
      have c10b0 : decide ((rd t202 x10_1) ≤ a2) = false := decide_eq_false c10; clear c10; obtain rfl := Option.some.inj H; obtain ⟨Ao12, co12, eo12⟩ := Kd.R_slice HO_8.out; subst eo12; have p206 : 0 ≤ (x10_1 : Int) := odt; have q206 : x10_1 < (t202.length : Int) := odt; obtain ⟨ad206, e206, hx206_0⟩ := Kd.at_int (Kd.R_reads' HO_8.out).2.2 x10_1 p206 q206; cases e206; replace p206 := eq_true p206; replace q206 := eq_true q206
      go_wp2
      go_ret
      exact ⟨by first | rfl | (simp [errW_none, errW_some] <;> rfl) | (simp [*, errW_none, errW_some] <;> rfl), by repeat (first | (with_reducible first | exact HB.out | apply ba | apply bn | apply below_drew1 | refine below_set ?_ GE198.out) | exact HB.out)⟩
    ·rw [if_neg c9] at H
     exact absurd H (by simp)
   ·rw [if_neg c8] at H
    have c8b0 : decide (x10_1 < (t202.length : Int)) = false := decide_eq_false c8; clear c8; obtain rfl := Option.some.inj H; obtain ⟨Ao13, co13, eo13⟩ := Kd.R_slice HO_8.out; subst eo13
    go_wp2
    go_ret
    exact ⟨by first | rfl | (simp [errW_none, errW_some] <;> rfl) | (simp [*, errW_none, errW_some] <;> rfl), by repeat (first | (with_reducible first | exact HB.out | apply ba | apply bn | apply below_drew1 | refine below_set ?_ GE198.out) | exact HB.out)⟩

end Go.Proofs.Ytociipogjmidiaa.PFnTrucks
