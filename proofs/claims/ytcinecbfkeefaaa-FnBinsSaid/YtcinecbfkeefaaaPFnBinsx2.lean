/- Text written by a program for this claim: contracts of the functions of one law. -/
import Derived.Test.YtcinecbfkeefaaaPFnBinsx0
namespace Go.Proofs.Ytcinecbfkeefaaa.PFnBins
open Go.RowKit Go.Proofs.YtcinecbfkeefaaaW.PrintWords Go.Proofs.YtcinecbfkeefaaaW.PrintLast Go.Proofs.YtcinecbfkeefaaaW.PrintMore
attribute [local go_sem] max2_int min2_int max_two min_two max_three min_three max_four min_four   -- for this text's walks alone
set_option linter.unusedVariables false
set_option linter.unusedSimpArgs false
open ShortPFnBins0

/-! ### spec_l1In: function 70 -/
def spec_l1In.f (a0 : Int) (a1 : Int) (a2 : Int) : Option (Bool) := if a0 ≥ a1 then (some (decide (a0 ≤ a2))) else (some false)
set_option maxHeartbeats 8000000 in
set_option maxRecDepth 100000 in
theorem spec_l1In.calls (a0 : Int) (a1 : Int) (a2 : Int) (r : Bool) (w : World) (h : spec_l1In.f a0 a1 a2 = some r) :
  Calls Try.prog 70 #[.int .i64 a0, .int .i64 a1, .int .i64 a2] w fun e w' => e = .returned (.bool r) ∧ Drawn0 w w' := by
 have H : (if a0 ≥ a1 then (some (decide (a0 ≤ a2))) else (some false)) = some r := h
 clear h
 by_cases c4 : a0 ≥ a1
 ·rw [if_pos c4] at H
  have c4b0 : decide (a1 ≤ a0) = true := decide_eq_true c4
  clear c4
  obtain rfl := Option.some.inj H
  go_enter Try.func70, Try.ntmps70
  go_wp2
  go_ret
  exact ⟨by first | rfl | (simp; done) | (simp [*]; done), by repeat (first | exact Drawn0.refl _ | apply Drawn0.step)⟩
 ·rw [if_neg c4] at H
  have c4b0 : decide (a1 ≤ a0) = false := decide_eq_false c4
  clear c4
  obtain rfl := Option.some.inj H
  go_enter Try.func70, Try.ntmps70
  go_wp2
  go_ret
  exact ⟨by first | rfl | (simp; done) | (simp [*]; done), by repeat (first | exact Drawn0.refl _ | apply Drawn0.step)⟩

/-! ### spec_l1All: function 83 -/
def spec_l1All.l0 : Nat → Int → Int → List Int → Int → Int → Option (Bool)
 | 0, _, _, _, _, _ => none
 | k + 1, x1, x2, x9, x10, x11 => if x11 < x10 then (if 0 ≤ x11 then (if x11 < (x9.length : Int) then ((spec_l1In.f (rd x9 x11) x1 x2).bind fun t102 => (if t102 = true then (spec_l1All.l0 k x1 x2 x9 x10 (wrap64 (x11 + 1))) else (some false))) else (none)) else (none)) else (some true)
def spec_l1All.f (k : Nat) (l0 : List Int) (a1 : Int) (a2 : Int) : Option (Bool) := spec_l1All.l0 k a1 a2 l0 (l0.length : Int) 0
set_option maxHeartbeats 8000000 in
set_option maxRecDepth 100000 in
theorem spec_l1All.calls (k : Nat) (A0 : Option Addr) (c0 : Nat) (l0 : List Int) (a1 : Int) (a2 : Int) (r : Bool) (w : World) (hr0 : Kd.C (Kd.int .i64) w A0 l0.length l0) (hc0 : l0.length ≤ c0) (h : spec_l1All.f k l0 a1 a2 = some r) :
  Calls Try.prog 83 #[.slice A0 l0.length c0, .int .i64 a1, .int .i64 a2] w fun e w' => e = .returned (.bool r) ∧ Drawn0 w w' := by
 have HR0 := Aside0.mk hr0
 have HC0 := Aside0.mk hc0
 clear hr0 hc0
 have H : (spec_l1All.l0 k a1 a2 l0 (l0.length : Int) 0) = some r := h
 clear h
 have H' := Aside0.mk H
 clear H
 go_enter Try.func83, Try.ntmps83
 go_wp2
 go_loopg [11] k (fun kq v11 w' => ∃ (x11_1 : Int), v11 = .int .i64 x11_1 ∧ Aside0 (spec_l1All.l0 kq a1 a2 l0 (l0.length : Int) x11_1 = some r) ∧ Aside0 (kq ≤ k) ∧ Drawn0 w w')
 case atStart => exact ⟨(0), zh', H', ⟨Nat.le_refl _⟩, by repeat (first | exact Drawn0.refl _ | apply Drawn0.step)⟩
 case round =>
  clear H'
  try clear p2
  obtain ⟨x11_1, rfl, HA, HK1, ⟨m1, rfl⟩⟩ := hrel
  cases gk with
  | zero => exact absurd HA.out (by simp [spec_l1All.l0])
  | succ k1 =>
   have H := HA.out; clear HA; simp only [spec_l1All.l0] at H
   by_cases c4 : x11_1 < (l0.length : Int)
   ·rw [if_pos c4] at H
    have c4b0 : decide (x11_1 < (l0.length : Int)) = true := decide_eq_true c4; clear c4
    by_cases c5 : 0 ≤ x11_1
    ·rw [if_pos c5] at H
     have c5b0 : decide (0 ≤ x11_1) = true := decide_eq_true c5; clear c5
     by_cases c6 : x11_1 < (l0.length : Int)
     ·rw [if_pos c6] at H
      have c6b0 : decide (x11_1 < (l0.length : Int)) = true := decide_eq_true c6; clear c6; replace H := Option.bind_eq_some_iff.mp H; obtain ⟨t102, A70, H⟩ := H; replace H : (if t102 = true then (spec_l1All.l0 k1 a1 a2 l0 (l0.length : Int) (wrap64 (x11_1 + 1))) else (some false)) = some r := H; have A7 := Aside0.mk A70; clear A70
      by_cases c8 : t102 = true
      ·subst c8
       have H1 : (spec_l1All.l0 k1 a1 a2 l0 (l0.length : Int) (wrap64 (x11_1 + 1))) = some r := by rw [if_pos rfl] at H; exact H
       clear H; have H := H1; clear H1; have H' := Aside0.mk H; clear H; have p101 : 0 ≤ (x11_1 : Int) := odt; have q101 : x11_1 < (l0.length : Int) := odt; obtain ⟨ad101, e101, hx101_0⟩ := Kd.at_int HR0.out x11_1 p101 q101; cases e101; replace p101 := eq_true p101; replace q101 := eq_true q101
       go_wp2_with (first | ((with_reducible refine gate_callee (f := 70) rfl ?_); refine goesL_ (some 18) rfl rfl Try.func70 (by kernel_rfl) rfl #[.int .i64 (rd l0 x11_1), .int .i64 a1, .int .i64 a2] rfl zd' ?_; (with_reducible refine (spec_l1In.calls (rd l0 x11_1) a1 a2 true _ A7.out).mono ?_); rintro e w' ⟨rfl, ⟨nd, rfl⟩⟩; refine ⟨_, rfl, ?_⟩))
       go_roundg k1
       case measure => have := HK1.out; omega
       case rel => exact ⟨(wrap64 (x11_1 + 1)), zh', H', ⟨by have := HK1.out; omega⟩, by repeat (first | exact Drawn0.refl _ | apply Drawn0.step)⟩
      ·replace c8 := Bool.eq_false_iff.mpr c8
       subst c8
       have H1 : (some false) = some r := by rw [if_neg (show ¬ (false = true) by decide)] at H; exact H
       clear H; have H := H1; clear H1; obtain rfl := Option.some.inj H; have p101 : 0 ≤ (x11_1 : Int) := odt; have q101 : x11_1 < (l0.length : Int) := odt; obtain ⟨ad101, e101, hx101_0⟩ := Kd.at_int HR0.out x11_1 p101 q101; cases e101; replace p101 := eq_true p101; replace q101 := eq_true q101
       go_wp2_with (first | ((with_reducible refine gate_callee (f := 70) rfl ?_); refine goesL_ (some 18) rfl rfl Try.func70 (by kernel_rfl) rfl #[.int .i64 (rd l0 x11_1), .int .i64 a1, .int .i64 a2] rfl zd' ?_; (with_reducible refine (spec_l1In.calls (rd l0 x11_1) a1 a2 false _ A7.out).mono ?_); rintro e w' ⟨rfl, ⟨nd, rfl⟩⟩; refine ⟨_, rfl, ?_⟩))
       go_ret
       exact ⟨by first | rfl | (simp; done) | (simp [*]; done), by repeat (first | exact Drawn0.refl _ | apply Drawn0.step)⟩
     ·rw [if_neg c6] at H
      exact absurd H (by simp)
    ·rw [if_neg c5] at H
     exact absurd H (by simp)
   ·rw [if_neg c4] at H
    have c4b0 : decide (x11_1 < (l0.length : Int)) = false := decide_eq_false c4; clear c4; obtain rfl := Option.some.inj H
    go_wp2
    go_ret
    exact ⟨by first | rfl | (simp; done) | (simp [*]; done), by repeat (first | exact Drawn0.refl _ | apply Drawn0.step)⟩

/-! ### spec_blBins: function 69 -/
def spec_blBins.l0 : Nat → List (S63) → List (S63) → Int → Int → Option (Bool)
 | 0, _, _, _, _ => none
 | k + 1, x0, x5, x6, x7 => if x7 < x6 then (if 0 ≤ x7 then (if x7 < (x5.length : Int) then ((spec_l1In.f ((rd_T63 x5 x7).f0) 0 12).bind fun t106 => (if t106 = true then ((spec_l1All.f k (([(rd_T63 x5 x7).f1, (rd_T63 x5 x7).f2, (rd_T63 x5 x7).f3] : List Int)) 0 1000).bind fun t110 => (if t110 = true then (spec_blBins.l0 k x0 x5 x6 (wrap64 (x7 + 1))) else (some false))) else (some false))) else (none)) else (none)) else ((spec_l1In.f (x0.length : Int) 1 6).bind fun t103 => (some t103))
def spec_blBins.f (k : Nat) (l0 : List (S63)) : Option (Bool) := spec_blBins.l0 k l0 l0 (l0.length : Int) 0
set_option maxHeartbeats 8000000 in
set_option maxRecDepth 100000 in
theorem spec_blBins.calls (k : Nat) (A0 : Option Addr) (c0 : Nat) (l0 : List (S63)) (r : Bool) (w : World) (hr0 : Kd.C k63 w A0 l0.length l0) (hc0 : l0.length ≤ c0) (h : spec_blBins.f k l0 = some r) :
  Calls Try.prog 69 #[.slice A0 l0.length c0] w fun e w' => e = .returned (.bool r) ∧ Below w.heap.size w w' := by
 have hu63 := Try.underlying63
 have HR0 := Aside0.mk hr0
 have HC0 := Aside0.mk hc0
 clear hr0 hc0
 have HB := am (Below.refl w.heap.size w)
 have H : (spec_blBins.l0 k l0 l0 (l0.length : Int) 0) = some r := h
 clear h
 have H' := Aside0.mk H
 clear H
 go_enter Try.func69, Try.ntmps69
 go_wp2
 go_loopg [7] k (fun kq v7 w' => ∃ (x7_1 : Int), v7 = .int .i64 x7_1 ∧ Aside0 (spec_blBins.l0 kq l0 l0 (l0.length : Int) x7_1 = some r) ∧ Aside0 (kq ≤ k) ∧ Aside0 (Below w.heap.size w w'))
 case atStart => exact ⟨(0), zh', H', ⟨Nat.le_refl _⟩, ⟨za'⟩⟩
 case round =>
  clear H'
  obtain ⟨x7_1, rfl, HA, HK1, HB⟩ := hrel
  cases gk with
  | zero => exact absurd HA.out (by simp [spec_blBins.l0])
  | succ k1 =>
   have H := HA.out; clear HA; simp only [spec_blBins.l0] at H
   by_cases c2 : x7_1 < (l0.length : Int)
   ·rw [if_pos c2] at H
    have c2b0 : decide (x7_1 < (l0.length : Int)) = true := decide_eq_true c2; clear c2
    by_cases c3 : 0 ≤ x7_1
    ·rw [if_pos c3] at H
     have c3b0 : decide (0 ≤ x7_1) = true := decide_eq_true c3; clear c3
     by_cases c4 : x7_1 < (l0.length : Int)
     ·rw [if_pos c4] at H
      have c4b0 : decide (x7_1 < (l0.length : Int)) = true := decide_eq_true c4; clear c4; replace H := Option.bind_eq_some_iff.mp H; obtain ⟨t106, A50, H⟩ := H; replace H : (if t106 = true then ((spec_l1All.f k1 (([(rd_T63 l0 x7_1).f1, (rd_T63 l0 x7_1).f2, (rd_T63 l0 x7_1).f3] : List Int)) 0 1000).bind fun t110 => (if t110 = true then (spec_blBins.l0 k1 l0 l0 (l0.length : Int) (wrap64 (x7_1 + 1))) else (some false))) else (some false)) = some r := H; have A5 := Aside0.mk A50; clear A50
      by_cases c6 : t106 = true
      ·subst c6
       have H1 : ((spec_l1All.f k1 (([(rd_T63 l0 x7_1).f1, (rd_T63 l0 x7_1).f2, (rd_T63 l0 x7_1).f3] : List Int)) 0 1000).bind fun t110 => (if t110 = true then (spec_blBins.l0 k1 l0 l0 (l0.length : Int) (wrap64 (x7_1 + 1))) else (some false))) = some r := by rw [if_pos rfl] at H; exact H
       clear H; have H := H1; clear H1
       obtain ⟨y107, hy107⟩ : ∃ y_ : List Int, y_ = (([(rd_T63 l0 x7_1).f1, (rd_T63 l0 x7_1).f2, (rd_T63 l0 x7_1).f3] : List Int)) := ⟨_, rfl⟩
       replace H : ((spec_l1All.f k1 y107 0 1000).bind fun t110 => (if t110 = true then (spec_blBins.l0 k1 l0 l0 (l0.length : Int) (wrap64 (x7_1 + 1))) else (some false))) = some r := by first | (rw [hy107]; with_reducible exact H) | (have H2_ := (Option.bind_some _ _).symm.trans H; rw [hy107]; with_reducible exact H2_) | (have H2_ := (Option.bind_some _ _).symm.trans H; with_reducible exact H2_) | with_reducible exact H | (rw [hy107]; exact H) | exact H
       have Ny107 := Aside0.mk hy107; clear hy107; replace H := Option.bind_eq_some_iff.mp H; obtain ⟨t110, A70, H⟩ := H; replace H : (if t110 = true then (spec_blBins.l0 k1 l0 l0 (l0.length : Int) (wrap64 (x7_1 + 1))) else (some false)) = some r := H; have A7 := Aside0.mk A70; clear A70
       by_cases c8 : t110 = true
       ·subst c8
        have H1 : (spec_blBins.l0 k1 l0 l0 (l0.length : Int) (wrap64 (x7_1 + 1))) = some r := by rw [if_pos rfl] at H; exact H
        clear H; have H := H1; clear H1; have H' := Aside0.mk H; clear H; have p104 : 0 ≤ (x7_1 : Int) := odt; have q104 : x7_1 < (l0.length : Int) := odt; obtain ⟨ad104, e104, hx104_0, hx104_1, hx104_2, hx104_3⟩ := at_T63 HR0.out x7_1 p104 q104; cases e104
        try replace hx104_0 := (HB.out.cell (World.block_lt_of_cell? w _ hx104_0)).trans hx104_0
        try replace hx104_1 := (HB.out.cell (World.block_lt_of_cell? w _ hx104_1)).trans hx104_1
        try replace hx104_2 := (HB.out.cell (World.block_lt_of_cell? w _ hx104_2)).trans hx104_2
        try replace hx104_3 := (HB.out.cell (World.block_lt_of_cell? w _ hx104_3)).trans hx104_3
        replace p104 := eq_true p104; replace q104 := eq_true q104
        go_wp2_with (first | ((with_reducible refine gate_dst (N := 4) rfl ?_); (try (refine gate_guard (by rfl) ?_; dsimp only)); refine box_event ?hg (N := 4) ?hd (cs := #[.int .i64 0, .int .i64 0, .int .i64 0, .int .i64 0]) (t := 63) ?hr ?_; (case hd => rfl); (case hg => rfl); (case hr => exact zv'); intro gb105 hg w9 hbox hb; have n0_ := am (below_step za' hb); have n1_ := am (hbox); have n2_ := am ((by rw [hg]; exact (below_size za') : w.heap.size ≤ gb105)); have n3_ := am ((by rw [hg]; exact (below_size za') : w.heap.size ≤ gb105)); clear HB; have HB := n0_; have BK105 := n1_; have GW105 := n2_; have GE105 := n3_; clear n0_ n1_ n2_ n3_; clear hb hbox hg; have hcz10_0 : w9.cell? ⟨gb105, 0, none⟩ = some (.int .i64 0) := (blk_cell BK105.out 0).trans rfl; have hcz10_1 : w9.cell? ⟨gb105, 1, none⟩ = some (.int .i64 0) := (blk_cell BK105.out 1).trans rfl; have hcz10_2 : w9.cell? ⟨gb105, 2, none⟩ = some (.int .i64 0) := (blk_cell BK105.out 2).trans rfl; have hcz10_3 : w9.cell? ⟨gb105, 3, none⟩ = some (.int .i64 0) := (blk_cell BK105.out 3).trans rfl; have hfz10_0 := blk_frozen BK105.out 0; have hfz10_1 := blk_frozen BK105.out 1; have hfz10_2 := blk_frozen BK105.out 2; have hfz10_3 := blk_frozen BK105.out 3) | ((with_reducible refine gate_callee (f := 70) rfl ?_); refine goesL_ (some 13) rfl rfl Try.func70 (by kernel_rfl) rfl #[.int .i64 ((rd_T63 l0 x7_1).f0), .int .i64 0, .int .i64 12] rfl zd' ?_; (with_reducible refine (spec_l1In.calls ((rd_T63 l0 x7_1).f0) 0 12 true _ A5.out).mono ?_); rintro e w' ⟨rfl, ⟨nd, rfl⟩⟩; refine ⟨_, rfl, ?_⟩) | ((with_reducible refine gate_dst (N := 22) rfl ?_); (try (refine gate_guard (by rfl) ?_; dsimp only)); refine Kd.R_lit (Kd.int .i64) _ 3 ?hg (N := 22) ?hd (xs := ([(rd_T63 l0 x7_1).f1, (rd_T63 l0 x7_1).f2, (rd_T63 l0 x7_1).f3] : List Int)) (inner := [.int .i64 ((rd_T63 l0 x7_1).f1), .int .i64 ((rd_T63 l0 x7_1).f2), .int .i64 ((rd_T63 l0 x7_1).f3)]) (ok := fun _ => True) (okp := fun _ => True) ?hr ?hp (fun _ hk => hk) trivial (Below.refl _ _) (Nat.le_refl _) (by simp) ?_; (case hd => rfl); (case hg => rfl); (case hr => exact zv'); (case hp => exact zg2'); intro v108 w11 ho12 hb hg_ hnew_; clear hg_ hnew_; (first | rw [← Ny107.out] at ho12 | (simp only [Int.reduceToNat] at ho12; rw [← Ny107.out] at ho12)); have n0_ := am (Kd.R_lower ho12 (below_size zv1')); have n1_ := am (blk_below (g := gb105) (o := o2') zm1' hb); have n2_ := am (below_step zv1' hb); clear BK105; clear HB; have HO109 := n0_; have BK105 := n1_; have HB := n2_; clear n0_ n1_ n2_; clear hb ho12; obtain ⟨Ao13, co13, eo13⟩ := Kd.R_slice HO109.out; subst eo13) | (go_at_call 83; (with_reducible refine (spec_l1All.calls k1 _ _ y107 0 1000 true _ ?side1 ?side2 A7.out).mono ?_); (case side1 => exact zb3'); (case side2 => exact (Kd.R_reads' HO109.out).2.1); rintro e w' ⟨rfl, ⟨nd, rfl⟩⟩))
        go_roundg k1
        case measure => have := HK1.out; omega
        case rel => exact ⟨(wrap64 (x7_1 + 1)), zh', H', ⟨by have := HK1.out; omega⟩, ⟨zv1'⟩⟩
       ·replace c8 := Bool.eq_false_iff.mpr c8
        subst c8
        have H1 : (some false) = some r := by rw [if_neg (show ¬ (false = true) by decide)] at H; exact H
        clear H; have H := H1; clear H1; obtain rfl := Option.some.inj H; have p104 : 0 ≤ (x7_1 : Int) := odt; have q104 : x7_1 < (l0.length : Int) := odt; obtain ⟨ad104, e104, hx104_0, hx104_1, hx104_2, hx104_3⟩ := at_T63 HR0.out x7_1 p104 q104; cases e104
        try replace hx104_0 := (HB.out.cell (World.block_lt_of_cell? w _ hx104_0)).trans hx104_0
        try replace hx104_1 := (HB.out.cell (World.block_lt_of_cell? w _ hx104_1)).trans hx104_1
        try replace hx104_2 := (HB.out.cell (World.block_lt_of_cell? w _ hx104_2)).trans hx104_2
        try replace hx104_3 := (HB.out.cell (World.block_lt_of_cell? w _ hx104_3)).trans hx104_3
        replace p104 := eq_true p104; replace q104 := eq_true q104
        go_wp2_with (first | ((with_reducible refine gate_dst (N := 4) rfl ?_); (try (refine gate_guard (by rfl) ?_; dsimp only)); refine box_event ?hg (N := 4) ?hd (cs := #[.int .i64 0, .int .i64 0, .int .i64 0, .int .i64 0]) (t := 63) ?hr ?_; (case hd => rfl); (case hg => rfl); (case hr => exact zv'); intro gb105 hg w14 hbox hb; have n0_ := am (below_step za' hb); have n1_ := am (hbox); have n2_ := am ((by rw [hg]; exact (below_size za') : w.heap.size ≤ gb105)); have n3_ := am ((by rw [hg]; exact (below_size za') : w.heap.size ≤ gb105)); clear HB; have HB := n0_; have BK105 := n1_; have GW105 := n2_; have GE105 := n3_; clear n0_ n1_ n2_ n3_; clear hb hbox hg; have hcz15_0 : w14.cell? ⟨gb105, 0, none⟩ = some (.int .i64 0) := (blk_cell BK105.out 0).trans rfl; have hcz15_1 : w14.cell? ⟨gb105, 1, none⟩ = some (.int .i64 0) := (blk_cell BK105.out 1).trans rfl; have hcz15_2 : w14.cell? ⟨gb105, 2, none⟩ = some (.int .i64 0) := (blk_cell BK105.out 2).trans rfl; have hcz15_3 : w14.cell? ⟨gb105, 3, none⟩ = some (.int .i64 0) := (blk_cell BK105.out 3).trans rfl; have hfz15_0 := blk_frozen BK105.out 0; have hfz15_1 := blk_frozen BK105.out 1; have hfz15_2 := blk_frozen BK105.out 2; have hfz15_3 := blk_frozen BK105.out 3) | ((with_reducible refine gate_callee (f := 70) rfl ?_); refine goesL_ (some 13) rfl rfl Try.func70 (by kernel_rfl) rfl #[.int .i64 ((rd_T63 l0 x7_1).f0), .int .i64 0, .int .i64 12] rfl zd' ?_; (with_reducible refine (spec_l1In.calls ((rd_T63 l0 x7_1).f0) 0 12 true _ A5.out).mono ?_); rintro e w' ⟨rfl, ⟨nd, rfl⟩⟩; refine ⟨_, rfl, ?_⟩) | ((with_reducible refine gate_dst (N := 22) rfl ?_); (try (refine gate_guard (by rfl) ?_; dsimp only)); refine Kd.R_lit (Kd.int .i64) _ 3 ?hg (N := 22) ?hd (xs := ([(rd_T63 l0 x7_1).f1, (rd_T63 l0 x7_1).f2, (rd_T63 l0 x7_1).f3] : List Int)) (inner := [.int .i64 ((rd_T63 l0 x7_1).f1), .int .i64 ((rd_T63 l0 x7_1).f2), .int .i64 ((rd_T63 l0 x7_1).f3)]) (ok := fun _ => True) (okp := fun _ => True) ?hr ?hp (fun _ hk => hk) trivial (Below.refl _ _) (Nat.le_refl _) (by simp) ?_; (case hd => rfl); (case hg => rfl); (case hr => exact zv'); (case hp => exact zg2'); intro v108 w16 ho17 hb hg_ hnew_; clear hg_ hnew_; (first | rw [← Ny107.out] at ho17 | (simp only [Int.reduceToNat] at ho17; rw [← Ny107.out] at ho17)); have n0_ := am (Kd.R_lower ho17 (below_size zv1')); have n1_ := am (blk_below (g := gb105) (o := o2') zm1' hb); have n2_ := am (below_step zv1' hb); clear BK105; clear HB; have HO109 := n0_; have BK105 := n1_; have HB := n2_; clear n0_ n1_ n2_; clear hb ho17; obtain ⟨Ao18, co18, eo18⟩ := Kd.R_slice HO109.out; subst eo18) | (go_at_call 83; (with_reducible refine (spec_l1All.calls k1 _ _ y107 0 1000 false _ ?side1 ?side2 A7.out).mono ?_); (case side1 => exact zb3'); (case side2 => exact (Kd.R_reads' HO109.out).2.1); rintro e w' ⟨rfl, ⟨nd, rfl⟩⟩))
        go_ret
        exact ⟨by first | rfl | (simp [errW_none, errW_some] <;> rfl) | (simp [*, errW_none, errW_some] <;> rfl), by repeat (first | (with_reducible first | exact HB.out | apply ba | apply bn | apply below_drew1 | refine below_set ?_ GE105.out) | exact HB.out)⟩
      ·replace c6 := Bool.eq_false_iff.mpr c6
       subst c6
       have H1 : (some false) = some r := by rw [if_neg (show ¬ (false = true) by decide)] at H; exact H
       clear H; have H := H1; clear H1; obtain rfl := Option.some.inj H; have p104 : 0 ≤ (x7_1 : Int) := odt; have q104 : x7_1 < (l0.length : Int) := odt; obtain ⟨ad104, e104, hx104_0, hx104_1, hx104_2, hx104_3⟩ := at_T63 HR0.out x7_1 p104 q104; cases e104
       try replace hx104_0 := (HB.out.cell (World.block_lt_of_cell? w _ hx104_0)).trans hx104_0
       try replace hx104_1 := (HB.out.cell (World.block_lt_of_cell? w _ hx104_1)).trans hx104_1
       try replace hx104_2 := (HB.out.cell (World.block_lt_of_cell? w _ hx104_2)).trans hx104_2
       try replace hx104_3 := (HB.out.cell (World.block_lt_of_cell? w _ hx104_3)).trans hx104_3
       replace p104 := eq_true p104; replace q104 := eq_true q104
       go_wp2_with (first | ((with_reducible refine gate_dst (N := 4) rfl ?_); (try (refine gate_guard (by rfl) ?_; dsimp only)); refine box_event ?hg (N := 4) ?hd (cs := #[.int .i64 0, .int .i64 0, .int .i64 0, .int .i64 0]) (t := 63) ?hr ?_; (case hd => rfl); (case hg => rfl); (case hr => exact zv'); intro gb105 hg w19 hbox hb; have n0_ := am (below_step za' hb); have n1_ := am (hbox); have n2_ := am ((by rw [hg]; exact (below_size za') : w.heap.size ≤ gb105)); have n3_ := am ((by rw [hg]; exact (below_size za') : w.heap.size ≤ gb105)); clear HB; have HB := n0_; have BK105 := n1_; have GW105 := n2_; have GE105 := n3_; clear n0_ n1_ n2_ n3_; clear hb hbox hg; have hcz20_0 : w19.cell? ⟨gb105, 0, none⟩ = some (.int .i64 0) := (blk_cell BK105.out 0).trans rfl; have hcz20_1 : w19.cell? ⟨gb105, 1, none⟩ = some (.int .i64 0) := (blk_cell BK105.out 1).trans rfl; have hcz20_2 : w19.cell? ⟨gb105, 2, none⟩ = some (.int .i64 0) := (blk_cell BK105.out 2).trans rfl; have hcz20_3 : w19.cell? ⟨gb105, 3, none⟩ = some (.int .i64 0) := (blk_cell BK105.out 3).trans rfl; have hfz20_0 := blk_frozen BK105.out 0; have hfz20_1 := blk_frozen BK105.out 1; have hfz20_2 := blk_frozen BK105.out 2; have hfz20_3 := blk_frozen BK105.out 3) | ((with_reducible refine gate_callee (f := 70) rfl ?_); refine goesL_ (some 13) rfl rfl Try.func70 (by kernel_rfl) rfl #[.int .i64 ((rd_T63 l0 x7_1).f0), .int .i64 0, .int .i64 12] rfl zd' ?_; (with_reducible refine (spec_l1In.calls ((rd_T63 l0 x7_1).f0) 0 12 false _ A5.out).mono ?_); rintro e w' ⟨rfl, ⟨nd, rfl⟩⟩; refine ⟨_, rfl, ?_⟩))
       go_ret
       exact ⟨by first | rfl | (simp [errW_none, errW_some] <;> rfl) | (simp [*, errW_none, errW_some] <;> rfl), by repeat (first | (with_reducible first | exact HB.out | apply ba | apply bn | apply below_drew1 | refine below_set ?_ GE105.out) | exact HB.out)⟩
     ·rw [if_neg c4] at H
      exact absurd H (by simp)
    ·rw [if_neg c3] at H
     exact absurd H (by simp)
   ·rw [if_neg c2] at H
    have c2b0 : decide (x7_1 < (l0.length : Int)) = false := decide_eq_false c2; clear c2; replace H := Option.bind_eq_some_iff.mp H; obtain ⟨t103, A210, H⟩ := H; replace H : (some t103) = some r := H; have A21 := Aside0.mk A210; clear A210; obtain rfl := Option.some.inj H
    go_wp2_with (first | ((with_reducible refine gate_callee (f := 70) rfl ?_); refine goesL_ (some 29) rfl rfl Try.func70 (by kernel_rfl) rfl #[.int .i64 (l0.length : Int), .int .i64 1, .int .i64 6] rfl zd' ?_; (with_reducible refine (spec_l1In.calls (l0.length : Int) 1 6 t103 _ A21.out).mono ?_); rintro e w' ⟨rfl, ⟨nd, rfl⟩⟩; refine ⟨_, rfl, ?_⟩))
    go_ret
    exact ⟨by first | rfl | (simp [errW_none, errW_some] <;> rfl) | (simp [*, errW_none, errW_some] <;> rfl), by repeat (first | (with_reducible first | exact HB.out | apply ba | apply bn | apply below_drew1) | exact HB.out)⟩

/-! ### spec_blParts: function 50 -/
mutual
def spec_blParts.j0 : Nat → List (S63) → List Int → Bool → Option (Bool)
 | 0, _, _, _ => none
 | k + 1, x0, x1, x16 => if x16 = true then (some false) else (spec_blParts.l0 k x1 x0 (x0.length : Int) 0)
def spec_blParts.l0 : Nat → List Int → List (S63) → Int → Int → Option (Bool)
 | 0, _, _, _, _ => none
 | k + 1, x1, x17, x18, x19 => if x19 < x18 then (if 0 ≤ x19 then (if x19 < (x17.length : Int) then (if x19 < (x1.length : Int) then ((spec_l1In.f (rd x1 x19) 0 ((rd_T63 x17 x19).f0)).bind fun t115 => (if t115 = true then (spec_blParts.l0 k x1 x17 x18 (wrap64 (x19 + 1))) else (some false))) else (none)) else (none)) else (none)) else (some true)
end
def spec_blParts.f (k : Nat) (l0 : List (S63)) (l1 : List Int) : Option (Bool) := (spec_blBins.f k l0).bind fun t111 => (if t111 = true then (spec_blParts.j0 k l0 l1 ((l1.length : Int) != (l0.length : Int))) else (spec_blParts.j0 k l0 l1 true))
set_option maxHeartbeats 8000000 in
set_option maxRecDepth 100000 in
theorem spec_blParts.calls (k : Nat) (A0 : Option Addr) (c0 : Nat) (l0 : List (S63)) (A1 : Option Addr) (c1 : Nat) (l1 : List Int) (r : Bool) (w : World) (hr0 : Kd.C k63 w A0 l0.length l0) (hc0 : l0.length ≤ c0) (hr1 : Kd.C (Kd.int .i64) w A1 l1.length l1) (hc1 : l1.length ≤ c1) (h : spec_blParts.f k l0 l1 = some r) :
  Calls Try.prog 50 #[.slice A0 l0.length c0, .slice A1 l1.length c1] w fun e w' => e = .returned (.bool r) ∧ Below w.heap.size w w' := by
 have hu63 := Try.underlying63
 have HR0 := Aside0.mk hr0
 have HC0 := Aside0.mk hc0
 clear hr0 hc0
 have HR1 := Aside0.mk hr1
 have HC1 := Aside0.mk hc1
 clear hr1 hc1
 have HB := am (Below.refl w.heap.size w)
 have H : ((spec_blBins.f k l0).bind fun t111 => (if t111 = true then (spec_blParts.j0 k l0 l1 ((l1.length : Int) != (l0.length : Int))) else (spec_blParts.j0 k l0 l1 true))) = some r := h
 clear h
 have HC3 := Aside0.mk H
 clear H
 go_enter Try.func50, Try.ntmps50
 go_upto_region 1 with (fail)
 repeat (go_quiet (fail); go_upto_region 1 with (fail))
 go_cut [16] (fun v16 wc => ∃ (kq : Nat) (x16_2 : Bool), v16 = .bool x16_2 ∧ Aside0 (spec_blParts.j0 kq l0 l1 x16_2 = some r) ∧ Aside0 (kq ≤ k) ∧ Aside0 (Below w.heap.size w wc))
 case first =>
  have H := HC3.out
  clear HC3
  replace H := Option.bind_eq_some_iff.mp H
  obtain ⟨t111, A40, H⟩ := H
  replace H : (if t111 = true then (spec_blParts.j0 k l0 l1 ((l1.length : Int) != (l0.length : Int))) else (spec_blParts.j0 k l0 l1 true)) = some r := H
  have A4 := Aside0.mk A40
  clear A40
  by_cases c5 : t111 = true
  ·subst c5
   have H1 : (spec_blParts.j0 k l0 l1 ((l1.length : Int) != (l0.length : Int))) = some r := by rw [if_pos rfl] at H; exact H
   clear H; have H := H1; clear H1; have H' := Aside0.mk H; clear H
   go_wp2_with (first | (go_at_call 69; (with_reducible refine (spec_blBins.calls k _ _ l0 true _ ?side1 ?side2 A4.out).mono ?_); (case side1 => exact zn'); (case side2 => exact zl2'); rintro e w6 ⟨rfl, hb⟩; have n0_ := am (below_step za' hb); clear HB; have HB := n0_; clear n0_; (try clear hb); (try clear hb2); (try clear hk); (try clear hi)))
   repeat (go_quiet (first | (go_at_call 69; (with_reducible refine (spec_blBins.calls k _ _ l0 true _ ?side1 ?side2 A4.out).mono ?_); (case side1 => exact zn'); (case side2 => exact zl2'); rintro e w6 ⟨rfl, hb⟩; have n0_ := am (below_step za' hb); clear HB; have HB := n0_; clear n0_; (try clear hb); (try clear hb2); (try clear hk); (try clear hi))); try go_wp2_with (first | (go_at_call 69; (with_reducible refine (spec_blBins.calls k _ _ l0 true _ ?side1 ?side2 A4.out).mono ?_); (case side1 => exact zn'); (case side2 => exact zl2'); rintro e w6 ⟨rfl, hb⟩; have n0_ := am (below_step za' hb); clear HB; have HB := n0_; clear n0_; (try clear hb); (try clear hb2); (try clear hk); (try clear hi))))
   go_meet
   case rel => exact ⟨_, (((l1.length : Int) != (l0.length : Int))), zh', H', ⟨zm2'⟩, ⟨za'⟩⟩
  ·replace c5 := Bool.eq_false_iff.mpr c5
   subst c5
   have H1 : (spec_blParts.j0 k l0 l1 true) = some r := by rw [if_neg (show ¬ (false = true) by decide)] at H; exact H
   clear H; have H := H1; clear H1; have H' := Aside0.mk H; clear H
   go_wp2_with (first | (go_at_call 69; (with_reducible refine (spec_blBins.calls k _ _ l0 false _ ?side1 ?side2 A4.out).mono ?_); (case side1 => exact zn'); (case side2 => exact zl2'); rintro e w7 ⟨rfl, hb⟩; have n0_ := am (below_step za' hb); clear HB; have HB := n0_; clear n0_; (try clear hb); (try clear hb2); (try clear hk); (try clear hi)))
   repeat (go_quiet (first | (go_at_call 69; (with_reducible refine (spec_blBins.calls k _ _ l0 false _ ?side1 ?side2 A4.out).mono ?_); (case side1 => exact zn'); (case side2 => exact zl2'); rintro e w7 ⟨rfl, hb⟩; have n0_ := am (below_step za' hb); clear HB; have HB := n0_; clear n0_; (try clear hb); (try clear hb2); (try clear hk); (try clear hi))); try go_wp2_with (first | (go_at_call 69; (with_reducible refine (spec_blBins.calls k _ _ l0 false _ ?side1 ?side2 A4.out).mono ?_); (case side1 => exact zn'); (case side2 => exact zl2'); rintro e w7 ⟨rfl, hb⟩; have n0_ := am (below_step za' hb); clear HB; have HB := n0_; clear n0_; (try clear hb); (try clear hb2); (try clear hk); (try clear hi))))
   go_meet
   case rel => exact ⟨_, (true), zh', H', ⟨zm2'⟩, ⟨za'⟩⟩
 case rest =>
  clear HC3
  try clear c1
  try clear p2
  try clear c5
  obtain ⟨kq, x16_2, rfl, HA, HJ2, HB⟩ := hcut
  cases kq with
  | zero => exact absurd HA.out (by simp [spec_blParts.j0])
  | succ kj2 =>
   have H := HA.out; clear HA; simp only [spec_blParts.j0] at H
   by_cases c8 : x16_2 = true
   ·subst c8
    have H1 : (some false) = some r := by rw [if_pos rfl] at H; exact H
    clear H; have H := H1; clear H1; obtain rfl := Option.some.inj H
    go_wp2
    repeat (go_quiet (fail); try go_wp2)
    go_ret
    exact ⟨by first | rfl | (simp [errW_none, errW_some] <;> rfl) | (simp [*, errW_none, errW_some] <;> rfl), by repeat (first | (with_reducible first | exact HB.out | apply ba | apply bn | apply below_drew1) | exact HB.out)⟩
   ·replace c8 := Bool.eq_false_iff.mpr c8
    subst c8
    have H1 : (spec_blParts.l0 kj2 l1 l0 (l0.length : Int) 0) = some r := by rw [if_neg (show ¬ (false = true) by decide)] at H; exact H
    clear H; have H := H1; clear H1; have H' := Aside0.mk H; clear H
    go_wp2
    repeat (go_quiet (fail); try go_wp2)
    go_loopg [19] kj2 (fun kq v19 w' => ∃ (x19_2 : Int), v19 = .int .i64 x19_2 ∧ Aside0 (spec_blParts.l0 kq l1 l0 (l0.length : Int) x19_2 = some r) ∧ Aside0 (kq ≤ kj2) ∧ Aside0 (Below w.heap.size w w'))
    case atStart => exact ⟨(0), zh', H', ⟨Nat.le_refl _⟩, ⟨za'⟩⟩
    case round =>
     clear H'; (try clear c1); (try clear p2); (try clear c5); (try clear c8); (try clear p2); obtain ⟨x19_2, rfl, HA, HK2, HB⟩ := hrel
     cases gk with
     | zero => exact absurd HA.out (by simp [spec_blParts.l0])
     | succ k2 =>
      have H := HA.out; clear HA; simp only [spec_blParts.l0] at H
      by_cases c9 : x19_2 < (l0.length : Int)
      ·rw [if_pos c9] at H
       have c9b0 : decide (x19_2 < (l0.length : Int)) = true := decide_eq_true c9; clear c9
       by_cases c10 : 0 ≤ x19_2
       ·rw [if_pos c10] at H
        have c10b0 : decide (0 ≤ x19_2) = true := decide_eq_true c10; clear c10
        by_cases c11 : x19_2 < (l0.length : Int)
        ·rw [if_pos c11] at H
         have c11b0 : decide (x19_2 < (l0.length : Int)) = true := decide_eq_true c11; clear c11
         by_cases c12 : x19_2 < (l1.length : Int)
         ·rw [if_pos c12] at H
          have c12b0 : decide (x19_2 < (l1.length : Int)) = true := decide_eq_true c12; clear c12; replace H := Option.bind_eq_some_iff.mp H; obtain ⟨t115, A130, H⟩ := H; replace H : (if t115 = true then (spec_blParts.l0 k2 l1 l0 (l0.length : Int) (wrap64 (x19_2 + 1))) else (some false)) = some r := H; have A13 := Aside0.mk A130; clear A130
          by_cases c14 : t115 = true
          ·subst c14
           have H1 : (spec_blParts.l0 k2 l1 l0 (l0.length : Int) (wrap64 (x19_2 + 1))) = some r := by rw [if_pos rfl] at H; exact H
           clear H; have H := H1; clear H1; have H' := Aside0.mk H; clear H; have p112 : 0 ≤ (x19_2 : Int) := odt; have q112 : x19_2 < (l0.length : Int) := odt; obtain ⟨ad112, e112, hx112_0, hx112_1, hx112_2, hx112_3⟩ := at_T63 HR0.out x19_2 p112 q112; cases e112
           try replace hx112_0 := (HB.out.cell (World.block_lt_of_cell? w _ hx112_0)).trans hx112_0
           try replace hx112_1 := (HB.out.cell (World.block_lt_of_cell? w _ hx112_1)).trans hx112_1
           try replace hx112_2 := (HB.out.cell (World.block_lt_of_cell? w _ hx112_2)).trans hx112_2
           try replace hx112_3 := (HB.out.cell (World.block_lt_of_cell? w _ hx112_3)).trans hx112_3
           replace p112 := eq_true p112; replace q112 := eq_true q112
           go_wp2_with (first | ((with_reducible refine gate_dst (N := 6) rfl ?_); (try (refine gate_guard (by rfl) ?_; dsimp only)); refine box_event ?hg (N := 6) ?hd (cs := #[.int .i64 0, .int .i64 0, .int .i64 0, .int .i64 0]) (t := 63) ?hr ?_; (case hd => rfl); (case hg => rfl); (case hr => exact zv'); intro gb113 hg w15 hbox hb; have n0_ := am (below_step za' hb); have n1_ := am (hbox); have n2_ := am ((by rw [hg]; exact (below_size za') : w.heap.size ≤ gb113)); have n3_ := am ((by rw [hg]; exact (below_size za') : w.heap.size ≤ gb113)); clear HB; have HB := n0_; have BK113 := n1_; have GW113 := n2_; have GE113 := n3_; clear n0_ n1_ n2_ n3_; clear hb hbox hg; have hcz16_0 : w15.cell? ⟨gb113, 0, none⟩ = some (.int .i64 0) := (blk_cell BK113.out 0).trans rfl; have hcz16_1 : w15.cell? ⟨gb113, 1, none⟩ = some (.int .i64 0) := (blk_cell BK113.out 1).trans rfl; have hcz16_2 : w15.cell? ⟨gb113, 2, none⟩ = some (.int .i64 0) := (blk_cell BK113.out 2).trans rfl; have hcz16_3 : w15.cell? ⟨gb113, 3, none⟩ = some (.int .i64 0) := (blk_cell BK113.out 3).trans rfl; have hfz16_0 := blk_frozen BK113.out 0; have hfz16_1 := blk_frozen BK113.out 1; have hfz16_2 := blk_frozen BK113.out 2; have hfz16_3 := blk_frozen BK113.out 3; have p114 : 0 ≤ (x19_2 : Int) := odt; have q114 : x19_2 < (l1.length : Int) := odt; obtain ⟨ad114, e114, hx114_0⟩ := Kd.at_int HR1.out x19_2 p114 q114; cases e114; have hn114_0 : ad114.block ≠ gb113 := Nat.ne_of_lt (Nat.lt_of_lt_of_le zr' GW113.out); have hn114_1 : ad114.block ≠ gb113 := Nat.ne_of_lt (Nat.lt_of_lt_of_le zr' GW113.out); have hn114_2 : ad114.block ≠ gb113 := Nat.ne_of_lt (Nat.lt_of_lt_of_le zr' GW113.out); have hn114_3 : ad114.block ≠ gb113 := Nat.ne_of_lt (Nat.lt_of_lt_of_le zr' GW113.out); replace hx114_0 := (HB.out.cell (World.block_lt_of_cell? w _ hx114_0)).trans hx114_0; replace hx114_0 := (cell_far (p := ⟨gb113, 0, none⟩) zq1' (.int .i64 ((rd_T63 l0 x19_2).f0))).trans hx114_0; replace hx114_0 := (cell_far (p := ⟨gb113, 1, none⟩) zr1' (.int .i64 ((rd_T63 l0 x19_2).f1))).trans hx114_0; replace hx114_0 := (cell_far (p := ⟨gb113, 2, none⟩) zs1' (.int .i64 ((rd_T63 l0 x19_2).f2))).trans hx114_0; replace hx114_0 := (cell_far (p := ⟨gb113, 3, none⟩) zt1' (.int .i64 ((rd_T63 l0 x19_2).f3))).trans hx114_0; (try have hy114_0 := fun (n_ : Nat) => (show ((((((w15.drewN n_).setCell ⟨gb113, 0, none⟩ (.int .i64 ((rd_T63 l0 x19_2).f0))).setCell ⟨gb113, 1, none⟩ (.int .i64 ((rd_T63 l0 x19_2).f1))).setCell ⟨gb113, 2, none⟩ (.int .i64 ((rd_T63 l0 x19_2).f2))).setCell ⟨gb113, 3, none⟩ (.int .i64 ((rd_T63 l0 x19_2).f3)))).cell? _ = some _ from hx114_0)); clear hn114_0; clear hn114_1; clear hn114_2; clear hn114_3; replace p114 := eq_true p114; replace q114 := eq_true q114) | (go_at_call 70; (with_reducible refine (spec_l1In.calls (rd l1 x19_2) 0 ((rd_T63 l0 x19_2).f0) true _ A13.out).mono ?_); rintro e w' ⟨rfl, ⟨nd, rfl⟩⟩; (try first | exact ⟨rfl, _, World.drewN_drewN _ _ _⟩ | exact ⟨rfl, _, Eq.trans (World.drewN_drewN _ _ _) (congrArg (World.drewN _) (Nat.add_assoc _ _ _))⟩)))
           repeat (go_quiet (first | ((with_reducible refine gate_dst (N := 6) rfl ?_); (try (refine gate_guard (by rfl) ?_; dsimp only)); refine box_event ?hg (N := 6) ?hd (cs := #[.int .i64 0, .int .i64 0, .int .i64 0, .int .i64 0]) (t := 63) ?hr ?_; (case hd => rfl); (case hg => rfl); (case hr => exact zv'); intro gb113 hg w15 hbox hb; have n0_ := am (below_step za' hb); have n1_ := am (hbox); have n2_ := am ((by rw [hg]; exact (below_size za') : w.heap.size ≤ gb113)); have n3_ := am ((by rw [hg]; exact (below_size za') : w.heap.size ≤ gb113)); clear HB; have HB := n0_; have BK113 := n1_; have GW113 := n2_; have GE113 := n3_; clear n0_ n1_ n2_ n3_; clear hb hbox hg; have hcz16_0 : w15.cell? ⟨gb113, 0, none⟩ = some (.int .i64 0) := (blk_cell BK113.out 0).trans rfl; have hcz16_1 : w15.cell? ⟨gb113, 1, none⟩ = some (.int .i64 0) := (blk_cell BK113.out 1).trans rfl; have hcz16_2 : w15.cell? ⟨gb113, 2, none⟩ = some (.int .i64 0) := (blk_cell BK113.out 2).trans rfl; have hcz16_3 : w15.cell? ⟨gb113, 3, none⟩ = some (.int .i64 0) := (blk_cell BK113.out 3).trans rfl; have hfz16_0 := blk_frozen BK113.out 0; have hfz16_1 := blk_frozen BK113.out 1; have hfz16_2 := blk_frozen BK113.out 2; have hfz16_3 := blk_frozen BK113.out 3; have p114 : 0 ≤ (x19_2 : Int) := odt; have q114 : x19_2 < (l1.length : Int) := odt; obtain ⟨ad114, e114, hx114_0⟩ := Kd.at_int HR1.out x19_2 p114 q114; cases e114; have hn114_0 : ad114.block ≠ gb113 := Nat.ne_of_lt (Nat.lt_of_lt_of_le zr' GW113.out); have hn114_1 : ad114.block ≠ gb113 := Nat.ne_of_lt (Nat.lt_of_lt_of_le zr' GW113.out); have hn114_2 : ad114.block ≠ gb113 := Nat.ne_of_lt (Nat.lt_of_lt_of_le zr' GW113.out); have hn114_3 : ad114.block ≠ gb113 := Nat.ne_of_lt (Nat.lt_of_lt_of_le zr' GW113.out); replace hx114_0 := (HB.out.cell (World.block_lt_of_cell? w _ hx114_0)).trans hx114_0; replace hx114_0 := (cell_far (p := ⟨gb113, 0, none⟩) zq1' (.int .i64 ((rd_T63 l0 x19_2).f0))).trans hx114_0; replace hx114_0 := (cell_far (p := ⟨gb113, 1, none⟩) zr1' (.int .i64 ((rd_T63 l0 x19_2).f1))).trans hx114_0; replace hx114_0 := (cell_far (p := ⟨gb113, 2, none⟩) zs1' (.int .i64 ((rd_T63 l0 x19_2).f2))).trans hx114_0; replace hx114_0 := (cell_far (p := ⟨gb113, 3, none⟩) zt1' (.int .i64 ((rd_T63 l0 x19_2).f3))).trans hx114_0; (try have hy114_0 := fun (n_ : Nat) => (show ((((((w15.drewN n_).setCell ⟨gb113, 0, none⟩ (.int .i64 ((rd_T63 l0 x19_2).f0))).setCell ⟨gb113, 1, none⟩ (.int .i64 ((rd_T63 l0 x19_2).f1))).setCell ⟨gb113, 2, none⟩ (.int .i64 ((rd_T63 l0 x19_2).f2))).setCell ⟨gb113, 3, none⟩ (.int .i64 ((rd_T63 l0 x19_2).f3)))).cell? _ = some _ from hx114_0)); clear hn114_0; clear hn114_1; clear hn114_2; clear hn114_3; replace p114 := eq_true p114; replace q114 := eq_true q114) | (go_at_call 70; (with_reducible refine (spec_l1In.calls (rd l1 x19_2) 0 ((rd_T63 l0 x19_2).f0) true _ A13.out).mono ?_); rintro e w' ⟨rfl, ⟨nd, rfl⟩⟩; (try first | exact ⟨rfl, _, World.drewN_drewN _ _ _⟩ | exact ⟨rfl, _, Eq.trans (World.drewN_drewN _ _ _) (congrArg (World.drewN _) (Nat.add_assoc _ _ _))⟩))); try go_wp2_with (first | ((with_reducible refine gate_dst (N := 6) rfl ?_); (try (refine gate_guard (by rfl) ?_; dsimp only)); refine box_event ?hg (N := 6) ?hd (cs := #[.int .i64 0, .int .i64 0, .int .i64 0, .int .i64 0]) (t := 63) ?hr ?_; (case hd => rfl); (case hg => rfl); (case hr => exact zv'); intro gb113 hg w15 hbox hb; have n0_ := am (below_step za' hb); have n1_ := am (hbox); have n2_ := am ((by rw [hg]; exact (below_size za') : w.heap.size ≤ gb113)); have n3_ := am ((by rw [hg]; exact (below_size za') : w.heap.size ≤ gb113)); clear HB; have HB := n0_; have BK113 := n1_; have GW113 := n2_; have GE113 := n3_; clear n0_ n1_ n2_ n3_; clear hb hbox hg; have hcz16_0 : w15.cell? ⟨gb113, 0, none⟩ = some (.int .i64 0) := (blk_cell BK113.out 0).trans rfl; have hcz16_1 : w15.cell? ⟨gb113, 1, none⟩ = some (.int .i64 0) := (blk_cell BK113.out 1).trans rfl; have hcz16_2 : w15.cell? ⟨gb113, 2, none⟩ = some (.int .i64 0) := (blk_cell BK113.out 2).trans rfl; have hcz16_3 : w15.cell? ⟨gb113, 3, none⟩ = some (.int .i64 0) := (blk_cell BK113.out 3).trans rfl; have hfz16_0 := blk_frozen BK113.out 0; have hfz16_1 := blk_frozen BK113.out 1; have hfz16_2 := blk_frozen BK113.out 2; have hfz16_3 := blk_frozen BK113.out 3; have p114 : 0 ≤ (x19_2 : Int) := odt; have q114 : x19_2 < (l1.length : Int) := odt; obtain ⟨ad114, e114, hx114_0⟩ := Kd.at_int HR1.out x19_2 p114 q114; cases e114; have hn114_0 : ad114.block ≠ gb113 := Nat.ne_of_lt (Nat.lt_of_lt_of_le zr' GW113.out); have hn114_1 : ad114.block ≠ gb113 := Nat.ne_of_lt (Nat.lt_of_lt_of_le zr' GW113.out); have hn114_2 : ad114.block ≠ gb113 := Nat.ne_of_lt (Nat.lt_of_lt_of_le zr' GW113.out); have hn114_3 : ad114.block ≠ gb113 := Nat.ne_of_lt (Nat.lt_of_lt_of_le zr' GW113.out); replace hx114_0 := (HB.out.cell (World.block_lt_of_cell? w _ hx114_0)).trans hx114_0; replace hx114_0 := (cell_far (p := ⟨gb113, 0, none⟩) zq1' (.int .i64 ((rd_T63 l0 x19_2).f0))).trans hx114_0; replace hx114_0 := (cell_far (p := ⟨gb113, 1, none⟩) zr1' (.int .i64 ((rd_T63 l0 x19_2).f1))).trans hx114_0; replace hx114_0 := (cell_far (p := ⟨gb113, 2, none⟩) zs1' (.int .i64 ((rd_T63 l0 x19_2).f2))).trans hx114_0; replace hx114_0 := (cell_far (p := ⟨gb113, 3, none⟩) zt1' (.int .i64 ((rd_T63 l0 x19_2).f3))).trans hx114_0; (try have hy114_0 := fun (n_ : Nat) => (show ((((((w15.drewN n_).setCell ⟨gb113, 0, none⟩ (.int .i64 ((rd_T63 l0 x19_2).f0))).setCell ⟨gb113, 1, none⟩ (.int .i64 ((rd_T63 l0 x19_2).f1))).setCell ⟨gb113, 2, none⟩ (.int .i64 ((rd_T63 l0 x19_2).f2))).setCell ⟨gb113, 3, none⟩ (.int .i64 ((rd_T63 l0 x19_2).f3)))).cell? _ = some _ from hx114_0)); clear hn114_0; clear hn114_1; clear hn114_2; clear hn114_3; replace p114 := eq_true p114; replace q114 := eq_true q114) | (go_at_call 70; (with_reducible refine (spec_l1In.calls (rd l1 x19_2) 0 ((rd_T63 l0 x19_2).f0) true _ A13.out).mono ?_); rintro e w' ⟨rfl, ⟨nd, rfl⟩⟩; (try first | exact ⟨rfl, _, World.drewN_drewN _ _ _⟩ | exact ⟨rfl, _, Eq.trans (World.drewN_drewN _ _ _) (congrArg (World.drewN _) (Nat.add_assoc _ _ _))⟩))))
           go_roundg k2
           case measure => have := HJ2.out; have := HK2.out; omega
           case rel => exact ⟨(wrap64 (x19_2 + 1)), zh', H', ⟨by have := HJ2.out; have := HK2.out; omega⟩, ⟨by repeat (first | (with_reducible first | exact HB.out | apply ba | apply bn | apply below_drew1 | refine below_set ?_ GE113.out) | exact HB.out)⟩⟩
          ·replace c14 := Bool.eq_false_iff.mpr c14
           subst c14
           have H1 : (some false) = some r := by rw [if_neg (show ¬ (false = true) by decide)] at H; exact H
           clear H; have H := H1; clear H1; obtain rfl := Option.some.inj H; have p112 : 0 ≤ (x19_2 : Int) := odt; have q112 : x19_2 < (l0.length : Int) := odt; obtain ⟨ad112, e112, hx112_0, hx112_1, hx112_2, hx112_3⟩ := at_T63 HR0.out x19_2 p112 q112; cases e112
           try replace hx112_0 := (HB.out.cell (World.block_lt_of_cell? w _ hx112_0)).trans hx112_0
           try replace hx112_1 := (HB.out.cell (World.block_lt_of_cell? w _ hx112_1)).trans hx112_1
           try replace hx112_2 := (HB.out.cell (World.block_lt_of_cell? w _ hx112_2)).trans hx112_2
           try replace hx112_3 := (HB.out.cell (World.block_lt_of_cell? w _ hx112_3)).trans hx112_3
           replace p112 := eq_true p112; replace q112 := eq_true q112
           go_wp2_with (first | ((with_reducible refine gate_dst (N := 6) rfl ?_); (try (refine gate_guard (by rfl) ?_; dsimp only)); refine box_event ?hg (N := 6) ?hd (cs := #[.int .i64 0, .int .i64 0, .int .i64 0, .int .i64 0]) (t := 63) ?hr ?_; (case hd => rfl); (case hg => rfl); (case hr => exact zv'); intro gb113 hg w17 hbox hb; have n0_ := am (below_step za' hb); have n1_ := am (hbox); have n2_ := am ((by rw [hg]; exact (below_size za') : w.heap.size ≤ gb113)); have n3_ := am ((by rw [hg]; exact (below_size za') : w.heap.size ≤ gb113)); clear HB; have HB := n0_; have BK113 := n1_; have GW113 := n2_; have GE113 := n3_; clear n0_ n1_ n2_ n3_; clear hb hbox hg; have hcz18_0 : w17.cell? ⟨gb113, 0, none⟩ = some (.int .i64 0) := (blk_cell BK113.out 0).trans rfl; have hcz18_1 : w17.cell? ⟨gb113, 1, none⟩ = some (.int .i64 0) := (blk_cell BK113.out 1).trans rfl; have hcz18_2 : w17.cell? ⟨gb113, 2, none⟩ = some (.int .i64 0) := (blk_cell BK113.out 2).trans rfl; have hcz18_3 : w17.cell? ⟨gb113, 3, none⟩ = some (.int .i64 0) := (blk_cell BK113.out 3).trans rfl; have hfz18_0 := blk_frozen BK113.out 0; have hfz18_1 := blk_frozen BK113.out 1; have hfz18_2 := blk_frozen BK113.out 2; have hfz18_3 := blk_frozen BK113.out 3; have p114 : 0 ≤ (x19_2 : Int) := odt; have q114 : x19_2 < (l1.length : Int) := odt; obtain ⟨ad114, e114, hx114_0⟩ := Kd.at_int HR1.out x19_2 p114 q114; cases e114; have hn114_0 : ad114.block ≠ gb113 := Nat.ne_of_lt (Nat.lt_of_lt_of_le zr' GW113.out); have hn114_1 : ad114.block ≠ gb113 := Nat.ne_of_lt (Nat.lt_of_lt_of_le zr' GW113.out); have hn114_2 : ad114.block ≠ gb113 := Nat.ne_of_lt (Nat.lt_of_lt_of_le zr' GW113.out); have hn114_3 : ad114.block ≠ gb113 := Nat.ne_of_lt (Nat.lt_of_lt_of_le zr' GW113.out); replace hx114_0 := (HB.out.cell (World.block_lt_of_cell? w _ hx114_0)).trans hx114_0; replace hx114_0 := (cell_far (p := ⟨gb113, 0, none⟩) zq1' (.int .i64 ((rd_T63 l0 x19_2).f0))).trans hx114_0; replace hx114_0 := (cell_far (p := ⟨gb113, 1, none⟩) zr1' (.int .i64 ((rd_T63 l0 x19_2).f1))).trans hx114_0; replace hx114_0 := (cell_far (p := ⟨gb113, 2, none⟩) zs1' (.int .i64 ((rd_T63 l0 x19_2).f2))).trans hx114_0; replace hx114_0 := (cell_far (p := ⟨gb113, 3, none⟩) zt1' (.int .i64 ((rd_T63 l0 x19_2).f3))).trans hx114_0; (try have hy114_0 := fun (n_ : Nat) => (show ((((((w17.drewN n_).setCell ⟨gb113, 0, none⟩ (.int .i64 ((rd_T63 l0 x19_2).f0))).setCell ⟨gb113, 1, none⟩ (.int .i64 ((rd_T63 l0 x19_2).f1))).setCell ⟨gb113, 2, none⟩ (.int .i64 ((rd_T63 l0 x19_2).f2))).setCell ⟨gb113, 3, none⟩ (.int .i64 ((rd_T63 l0 x19_2).f3)))).cell? _ = some _ from hx114_0)); clear hn114_0; clear hn114_1; clear hn114_2; clear hn114_3; replace p114 := eq_true p114; replace q114 := eq_true q114) | (go_at_call 70; (with_reducible refine (spec_l1In.calls (rd l1 x19_2) 0 ((rd_T63 l0 x19_2).f0) false _ A13.out).mono ?_); rintro e w' ⟨rfl, ⟨nd, rfl⟩⟩; (try first | exact ⟨rfl, _, World.drewN_drewN _ _ _⟩ | exact ⟨rfl, _, Eq.trans (World.drewN_drewN _ _ _) (congrArg (World.drewN _) (Nat.add_assoc _ _ _))⟩)))
           repeat (go_quiet (first | ((with_reducible refine gate_dst (N := 6) rfl ?_); (try (refine gate_guard (by rfl) ?_; dsimp only)); refine box_event ?hg (N := 6) ?hd (cs := #[.int .i64 0, .int .i64 0, .int .i64 0, .int .i64 0]) (t := 63) ?hr ?_; (case hd => rfl); (case hg => rfl); (case hr => exact zv'); intro gb113 hg w17 hbox hb; have n0_ := am (below_step za' hb); have n1_ := am (hbox); have n2_ := am ((by rw [hg]; exact (below_size za') : w.heap.size ≤ gb113)); have n3_ := am ((by rw [hg]; exact (below_size za') : w.heap.size ≤ gb113)); clear HB; have HB := n0_; have BK113 := n1_; have GW113 := n2_; have GE113 := n3_; clear n0_ n1_ n2_ n3_; clear hb hbox hg; have hcz18_0 : w17.cell? ⟨gb113, 0, none⟩ = some (.int .i64 0) := (blk_cell BK113.out 0).trans rfl; have hcz18_1 : w17.cell? ⟨gb113, 1, none⟩ = some (.int .i64 0) := (blk_cell BK113.out 1).trans rfl; have hcz18_2 : w17.cell? ⟨gb113, 2, none⟩ = some (.int .i64 0) := (blk_cell BK113.out 2).trans rfl; have hcz18_3 : w17.cell? ⟨gb113, 3, none⟩ = some (.int .i64 0) := (blk_cell BK113.out 3).trans rfl; have hfz18_0 := blk_frozen BK113.out 0; have hfz18_1 := blk_frozen BK113.out 1; have hfz18_2 := blk_frozen BK113.out 2; have hfz18_3 := blk_frozen BK113.out 3; have p114 : 0 ≤ (x19_2 : Int) := odt; have q114 : x19_2 < (l1.length : Int) := odt; obtain ⟨ad114, e114, hx114_0⟩ := Kd.at_int HR1.out x19_2 p114 q114; cases e114; have hn114_0 : ad114.block ≠ gb113 := Nat.ne_of_lt (Nat.lt_of_lt_of_le zr' GW113.out); have hn114_1 : ad114.block ≠ gb113 := Nat.ne_of_lt (Nat.lt_of_lt_of_le zr' GW113.out); have hn114_2 : ad114.block ≠ gb113 := Nat.ne_of_lt (Nat.lt_of_lt_of_le zr' GW113.out); have hn114_3 : ad114.block ≠ gb113 := Nat.ne_of_lt (Nat.lt_of_lt_of_le zr' GW113.out); replace hx114_0 := (HB.out.cell (World.block_lt_of_cell? w _ hx114_0)).trans hx114_0; replace hx114_0 := (cell_far (p := ⟨gb113, 0, none⟩) zq1' (.int .i64 ((rd_T63 l0 x19_2).f0))).trans hx114_0; replace hx114_0 := (cell_far (p := ⟨gb113, 1, none⟩) zr1' (.int .i64 ((rd_T63 l0 x19_2).f1))).trans hx114_0; replace hx114_0 := (cell_far (p := ⟨gb113, 2, none⟩) zs1' (.int .i64 ((rd_T63 l0 x19_2).f2))).trans hx114_0; replace hx114_0 := (cell_far (p := ⟨gb113, 3, none⟩) zt1' (.int .i64 ((rd_T63 l0 x19_2).f3))).trans hx114_0; (try have hy114_0 := fun (n_ : Nat) => (show ((((((w17.drewN n_).setCell ⟨gb113, 0, none⟩ (.int .i64 ((rd_T63 l0 x19_2).f0))).setCell ⟨gb113, 1, none⟩ (.int .i64 ((rd_T63 l0 x19_2).f1))).setCell ⟨gb113, 2, none⟩ (.int .i64 ((rd_T63 l0 x19_2).f2))).setCell ⟨gb113, 3, none⟩ (.int .i64 ((rd_T63 l0 x19_2).f3)))).cell? _ = some _ from hx114_0)); clear hn114_0; clear hn114_1; clear hn114_2; clear hn114_3; replace p114 := eq_true p114; replace q114 := eq_true q114) | (go_at_call 70; (with_reducible refine (spec_l1In.calls (rd l1 x19_2) 0 ((rd_T63 l0 x19_2).f0) false _ A13.out).mono ?_); rintro e w' ⟨rfl, ⟨nd, rfl⟩⟩; (try first | exact ⟨rfl, _, World.drewN_drewN _ _ _⟩ | exact ⟨rfl, _, Eq.trans (World.drewN_drewN _ _ _) (congrArg (World.drewN _) (Nat.add_assoc _ _ _))⟩))); try go_wp2_with (first | ((with_reducible refine gate_dst (N := 6) rfl ?_); (try (refine gate_guard (by rfl) ?_; dsimp only)); refine box_event ?hg (N := 6) ?hd (cs := #[.int .i64 0, .int .i64 0, .int .i64 0, .int .i64 0]) (t := 63) ?hr ?_; (case hd => rfl); (case hg => rfl); (case hr => exact zv'); intro gb113 hg w17 hbox hb; have n0_ := am (below_step za' hb); have n1_ := am (hbox); have n2_ := am ((by rw [hg]; exact (below_size za') : w.heap.size ≤ gb113)); have n3_ := am ((by rw [hg]; exact (below_size za') : w.heap.size ≤ gb113)); clear HB; have HB := n0_; have BK113 := n1_; have GW113 := n2_; have GE113 := n3_; clear n0_ n1_ n2_ n3_; clear hb hbox hg; have hcz18_0 : w17.cell? ⟨gb113, 0, none⟩ = some (.int .i64 0) := (blk_cell BK113.out 0).trans rfl; have hcz18_1 : w17.cell? ⟨gb113, 1, none⟩ = some (.int .i64 0) := (blk_cell BK113.out 1).trans rfl; have hcz18_2 : w17.cell? ⟨gb113, 2, none⟩ = some (.int .i64 0) := (blk_cell BK113.out 2).trans rfl; have hcz18_3 : w17.cell? ⟨gb113, 3, none⟩ = some (.int .i64 0) := (blk_cell BK113.out 3).trans rfl; have hfz18_0 := blk_frozen BK113.out 0; have hfz18_1 := blk_frozen BK113.out 1; have hfz18_2 := blk_frozen BK113.out 2; have hfz18_3 := blk_frozen BK113.out 3; have p114 : 0 ≤ (x19_2 : Int) := odt; have q114 : x19_2 < (l1.length : Int) := odt; obtain ⟨ad114, e114, hx114_0⟩ := Kd.at_int HR1.out x19_2 p114 q114; cases e114; have hn114_0 : ad114.block ≠ gb113 := Nat.ne_of_lt (Nat.lt_of_lt_of_le zr' GW113.out); have hn114_1 : ad114.block ≠ gb113 := Nat.ne_of_lt (Nat.lt_of_lt_of_le zr' GW113.out); have hn114_2 : ad114.block ≠ gb113 := Nat.ne_of_lt (Nat.lt_of_lt_of_le zr' GW113.out); have hn114_3 : ad114.block ≠ gb113 := Nat.ne_of_lt (Nat.lt_of_lt_of_le zr' GW113.out); replace hx114_0 := (HB.out.cell (World.block_lt_of_cell? w _ hx114_0)).trans hx114_0; replace hx114_0 := (cell_far (p := ⟨gb113, 0, none⟩) zq1' (.int .i64 ((rd_T63 l0 x19_2).f0))).trans hx114_0; replace hx114_0 := (cell_far (p := ⟨gb113, 1, none⟩) zr1' (.int .i64 ((rd_T63 l0 x19_2).f1))).trans hx114_0; replace hx114_0 := (cell_far (p := ⟨gb113, 2, none⟩) zs1' (.int .i64 ((rd_T63 l0 x19_2).f2))).trans hx114_0; replace hx114_0 := (cell_far (p := ⟨gb113, 3, none⟩) zt1' (.int .i64 ((rd_T63 l0 x19_2).f3))).trans hx114_0; (try have hy114_0 := fun (n_ : Nat) => (show ((((((w17.drewN n_).setCell ⟨gb113, 0, none⟩ (.int .i64 ((rd_T63 l0 x19_2).f0))).setCell ⟨gb113, 1, none⟩ (.int .i64 ((rd_T63 l0 x19_2).f1))).setCell ⟨gb113, 2, none⟩ (.int .i64 ((rd_T63 l0 x19_2).f2))).setCell ⟨gb113, 3, none⟩ (.int .i64 ((rd_T63 l0 x19_2).f3)))).cell? _ = some _ from hx114_0)); clear hn114_0; clear hn114_1; clear hn114_2; clear hn114_3; replace p114 := eq_true p114; replace q114 := eq_true q114) | (go_at_call 70; (with_reducible refine (spec_l1In.calls (rd l1 x19_2) 0 ((rd_T63 l0 x19_2).f0) false _ A13.out).mono ?_); rintro e w' ⟨rfl, ⟨nd, rfl⟩⟩; (try first | exact ⟨rfl, _, World.drewN_drewN _ _ _⟩ | exact ⟨rfl, _, Eq.trans (World.drewN_drewN _ _ _) (congrArg (World.drewN _) (Nat.add_assoc _ _ _))⟩))))
           go_ret
           exact ⟨by first | rfl | (simp [errW_none, errW_some] <;> rfl) | (simp [*, errW_none, errW_some] <;> rfl), by repeat (first | (with_reducible first | exact HB.out | apply ba | apply bn | apply below_drew1 | refine below_set ?_ GE113.out) | exact HB.out)⟩
         ·rw [if_neg c12] at H
          exact absurd H (by simp)
        ·rw [if_neg c11] at H
         exact absurd H (by simp)
       ·rw [if_neg c10] at H
        exact absurd H (by simp)
      ·rw [if_neg c9] at H
       have c9b0 : decide (x19_2 < (l0.length : Int)) = false := decide_eq_false c9; clear c9; obtain rfl := Option.some.inj H
       go_wp2
       repeat (go_quiet (fail); try go_wp2)
       go_ret
       exact ⟨by first | rfl | (simp [errW_none, errW_some] <;> rfl) | (simp [*, errW_none, errW_some] <;> rfl), by repeat (first | (with_reducible first | exact HB.out | apply ba | apply bn | apply below_drew1) | exact HB.out)⟩

/-! ### spec_TakeBlend: function 14 -/
def spec_TakeBlend.l0 : Nat → List Int → List (S63) → List (S63) → Int → Int → Option ((List (S63)) × Bool)
 | 0, _, _, _, _, _ => none
 | k + 1, x1, x6, x13, x14, x15 => if x15 < x14 then (if 0 ≤ x15 then (if x15 < (x13.length : Int) then (if x15 < (x1.length : Int) then (if x6.length < 4398046511104 then (spec_TakeBlend.l0 k x1 (x6 ++ [(⟨wrap64 (((rd_T63 x13 x15).f0) - (rd x1 x15)), (rd_T63 x13 x15).f1, (rd_T63 x13 x15).f2, (rd_T63 x13 x15).f3⟩ : S63)]) x13 x14 (wrap64 (x15 + 1))) else (none)) else (none)) else (none)) else (none)) else (some (x6, true))
def spec_TakeBlend.f (k : Nat) (l0 : List (S63)) (l1 : List Int) : Option ((List (S63)) × Bool) := (spec_blParts.f k l0 l1).bind fun t116 => (if t116 = true then (spec_TakeBlend.l0 k l1 ([] : List (S63)) l0 (l0.length : Int) 0) else (some (([] : List (S63)), false)))
def spec_TakeBlend.T7 : Bool × List (List Nat × List Nat) := (true, [([], []), ([0], [0]), ([], []), ([], []), ([2, 3], [2, 3]), ([4], [4]), ([1, 5], [1, 5]), ([0, 1, 2, 3, 4, 5, 6], []), ([7, 6, 0, 1, 2, 3, 4, 5, 6], [6, 7])])
def spec_TakeBlend.B7 : List Nat := [0, 1, 0, 0, 12, 28, 63, 127, 255]
theorem spec_TakeBlend.tab7 : rtab .any (opsOf Try.f14 7) = spec_TakeBlend.T7 := by kernel_rfl
theorem spec_TakeBlend.bits7 : waitsOk spec_TakeBlend.T7.2 spec_TakeBlend.B7 = true := by kernel_rfl
set_option maxHeartbeats 8000000 in
set_option maxRecDepth 100000 in
theorem spec_TakeBlend.calls (k : Nat) (A0 : Option Addr) (c0 : Nat) (l0 : List (S63)) (A1 : Option Addr) (c1 : Nat) (l1 : List Int) (r1 : List (S63)) (r2 : Bool) (w : World) (hr0 : Kd.C k63 w A0 l0.length l0) (hc0 : l0.length ≤ c0) (hr1 : Kd.C (Kd.int .i64) w A1 l1.length l1) (hc1 : l1.length ≤ c1) (h : spec_TakeBlend.f k l0 l1 = some (r1, r2)) :
  Calls Try.prog 14 #[.slice A0 l0.length c0, .slice A1 l1.length c1] w fun e w' => ∃ v0_ : Value, e = .returned (.tuple #[v0_, .bool r2]) ∧ Kd.R k63 63 w' w.heap.size (fun _ => True) v0_ r1 ∧ Below w.heap.size w w' := by
 have hu63 := Try.underlying63
 have HR0 := Aside0.mk hr0
 have HC0 := Aside0.mk hc0
 clear hr0 hc0
 have HR1 := Aside0.mk hr1
 have HC1 := Aside0.mk hc1
 clear hr1 hc1
 have HB := am (Below.refl w.heap.size w)
 have H : ((spec_blParts.f k l0 l1).bind fun t116 => (if t116 = true then (spec_TakeBlend.l0 k l1 ([] : List (S63)) l0 (l0.length : Int) 0) else (some (([] : List (S63)), false)))) = some (r1, r2) := h
 clear h
 replace H := Option.bind_eq_some_iff.mp H
 obtain ⟨t116, A30, H⟩ := H
 replace H : (if t116 = true then (spec_TakeBlend.l0 k l1 ([] : List (S63)) l0 (l0.length : Int) 0) else (some (([] : List (S63)), false))) = some (r1, r2) := H
 have A3 := Aside0.mk A30
 clear A30
 by_cases c4 : t116 = true
 ·subst c4
  have H1 : (spec_TakeBlend.l0 k l1 ([] : List (S63)) l0 (l0.length : Int) 0) = some (r1, r2) := by rw [if_pos rfl] at H; exact H
  clear H
  have H := H1
  clear H1
  have H' := Aside0.mk H
  clear H
  go_enter Try.func14, Try.ntmps14
  go_wp2_with (first | ((with_reducible refine gate_callee (f := 50) rfl ?_); refine goesL_ (some 11) rfl rfl Try.func50 (by kernel_rfl) rfl #[.slice A0 l0.length c0, .slice A1 l1.length c1] rfl zd' ?_; (with_reducible refine (spec_blParts.calls k _ _ l0 _ _ l1 true _ ?side1 ?side2 ?side3 ?side4 A3.out).mono ?_); (case side1 => exact zj'); (case side2 => exact zl2'); (case side3 => exact zh1'); (case side4 => exact zl3'); rintro e w5 ⟨rfl, hb⟩; refine ⟨_, rfl, ?_⟩; have n0_ := am (below_step za' hb); clear HB; have HB := n0_; clear n0_; (try clear hb); (try clear hb2); (try clear hk); (try clear hi)))
  go_loopg [6, 15] k (fun kq v6 v15 w' => ∃ (x6_1 : List (S63)) (x15_1 : Int), v15 = .int .i64 x15_1 ∧ Aside0 (spec_TakeBlend.l0 kq l1 x6_1 l0 (l0.length : Int) x15_1 = some (r1, r2)) ∧ Aside0 (kq ≤ k) ∧ Aside0 (Kd.R k63 63 w' w.heap.size (fun _ => True) v6 x6_1) ∧ Aside0 (Below w.heap.size w w'))
  case atStart => exact ⟨(([] : List (S63))), (0), zh', H', ⟨Nat.le_refl _⟩, ⟨zb2'⟩, ⟨za'⟩⟩
  case round =>
   clear H'; (try clear c1); (try clear p2); (try clear c4); (try clear c5); obtain ⟨x6_1, x15_1, rfl, HA, HK1, HO_6, HB⟩ := hrel
   cases gk with
   | zero => exact absurd HA.out (by simp [spec_TakeBlend.l0])
   | succ k1 =>
    have H := HA.out; clear HA; simp only [spec_TakeBlend.l0] at H
    by_cases c6 : x15_1 < (l0.length : Int)
    ·rw [if_pos c6] at H
     have c6b0 : decide (x15_1 < (l0.length : Int)) = true := decide_eq_true c6; clear c6
     by_cases c7 : 0 ≤ x15_1
     ·rw [if_pos c7] at H
      have c7b0 : decide (0 ≤ x15_1) = true := decide_eq_true c7; clear c7
      by_cases c8 : x15_1 < (l0.length : Int)
      ·rw [if_pos c8] at H
       have c8b0 : decide (x15_1 < (l0.length : Int)) = true := decide_eq_true c8; clear c8
       by_cases c9 : x15_1 < (l1.length : Int)
       ·rw [if_pos c9] at H
        have c9b0 : decide (x15_1 < (l1.length : Int)) = true := decide_eq_true c9; clear c9
        by_cases c10 : x6_1.length < 4398046511104
        ·rw [if_pos c10] at H
         have LMc10 := Aside0.mk c10; clear c10
         obtain ⟨y120, hy120⟩ : ∃ y_ : List (S63), y_ = (x6_1 ++ [(⟨wrap64 (((rd_T63 l0 x15_1).f0) - (rd l1 x15_1)), (rd_T63 l0 x15_1).f1, (rd_T63 l0 x15_1).f2, (rd_T63 l0 x15_1).f3⟩ : S63)]) := ⟨_, rfl⟩
         replace H : (spec_TakeBlend.l0 k1 l1 y120 l0 (l0.length : Int) (wrap64 (x15_1 + 1))) = some (r1, r2) := by first | (rw [hy120]; with_reducible exact H) | (have H2_ := (Option.bind_some _ _).symm.trans H; rw [hy120]; with_reducible exact H2_) | (have H2_ := (Option.bind_some _ _).symm.trans H; with_reducible exact H2_) | with_reducible exact H | (rw [hy120]; exact H) | exact H
         have Ny120 := Aside0.mk hy120; clear hy120; have H' := Aside0.mk H; clear H; have p117 : 0 ≤ (x15_1 : Int) := odt; have q117 : x15_1 < (l0.length : Int) := odt; obtain ⟨ad117, e117, hx117_0, hx117_1, hx117_2, hx117_3⟩ := at_T63 HR0.out x15_1 p117 q117; cases e117
         try replace hx117_0 := (HB.out.cell (World.block_lt_of_cell? w _ hx117_0)).trans hx117_0
         try replace hx117_1 := (HB.out.cell (World.block_lt_of_cell? w _ hx117_1)).trans hx117_1
         try replace hx117_2 := (HB.out.cell (World.block_lt_of_cell? w _ hx117_2)).trans hx117_2
         try replace hx117_3 := (HB.out.cell (World.block_lt_of_cell? w _ hx117_3)).trans hx117_3
         replace p117 := eq_true p117; replace q117 := eq_true q117
         try go_wp2_with (first | ((with_reducible refine gate_dst (N := 8) rfl ?_); refine box_event ?hg (N := 8) ?hd (cs := #[.int .i64 0, .int .i64 0, .int .i64 0, .int .i64 0]) (t := 63) ?hr ?_; (case hd => rfl); (case hg => rfl); (case hr => exact zv'); intro gb118 hg w11 hbox hb; have n0_ := am (Kd.R_below (Kd.R_elderB zg1' gb118 (Nat.le_of_eq hg.symm)) hb); have n1_ := am (below_step za' hb); have n2_ := am (hbox); have n3_ := am ((by rw [hg]; exact (below_size za') : w.heap.size ≤ gb118)); have n4_ := am ((by rw [hg]; exact (below_size za') : w.heap.size ≤ gb118)); clear HO_6; clear HB; have HO_6 := n0_; have HB := n1_; have BK118 := n2_; have GW118 := n3_; have GE118 := n4_; clear n0_ n1_ n2_ n3_ n4_; clear hb hbox hg; have hcz12_0 : w11.cell? ⟨gb118, 0, none⟩ = some (.int .i64 0) := (blk_cell BK118.out 0).trans rfl; have hcz12_1 : w11.cell? ⟨gb118, 1, none⟩ = some (.int .i64 0) := (blk_cell BK118.out 1).trans rfl; have hcz12_2 : w11.cell? ⟨gb118, 2, none⟩ = some (.int .i64 0) := (blk_cell BK118.out 2).trans rfl; have hcz12_3 : w11.cell? ⟨gb118, 3, none⟩ = some (.int .i64 0) := (blk_cell BK118.out 3).trans rfl; have hfz12_0 := blk_frozen BK118.out 0; have hfz12_1 := blk_frozen BK118.out 1; have hfz12_2 := blk_frozen BK118.out 2; have hfz12_3 := blk_frozen BK118.out 3))
         have n0_ : Aside0 (Kd.R k63 63 ((((w11.setCell ⟨gb118, 0, none⟩ (.int .i64 ((rd_T63 l0 x15_1).f0))).setCell ⟨gb118, 1, none⟩ (.int .i64 ((rd_T63 l0 x15_1).f1))).setCell ⟨gb118, 2, none⟩ (.int .i64 ((rd_T63 l0 x15_1).f2))).setCell ⟨gb118, 3, none⟩ (.int .i64 ((rd_T63 l0 x15_1).f3))) w.heap.size (fun k_ => k_ ≠ gb118) u6 x6_1) := ⟨by (with_reducible repeat (first | apply Kd.R_alloc | apply Kd.R_drewN | apply Kd.R_drew)); exact Kd.R_mono (Kd.R_far (p := ⟨gb118, 3, none⟩) (Kd.R_far (p := ⟨gb118, 2, none⟩) (Kd.R_far (p := ⟨gb118, 1, none⟩) (Kd.R_far (p := ⟨gb118, 0, none⟩) (Kd.R_mono HO_6.out (fun k_ hk => (⟨hk, hk.2⟩ : _ ∧ k_ ≠ gb118))) (fun _ hk => hk.2) (.int .i64 ((rd_T63 l0 x15_1).f0))) (fun _ hk => hk.2) (.int .i64 ((rd_T63 l0 x15_1).f1))) (fun _ hk => hk.2) (.int .i64 ((rd_T63 l0 x15_1).f2))) (fun _ hk => hk.2) (.int .i64 ((rd_T63 l0 x15_1).f3))) (fun _ hk => hk.1.2)⟩; have n1_ : Aside0 (((((w11.setCell ⟨gb118, 0, none⟩ (.int .i64 ((rd_T63 l0 x15_1).f0))).setCell ⟨gb118, 1, none⟩ (.int .i64 ((rd_T63 l0 x15_1).f1))).setCell ⟨gb118, 2, none⟩ (.int .i64 ((rd_T63 l0 x15_1).f2))).setCell ⟨gb118, 3, none⟩ (.int .i64 ((rd_T63 l0 x15_1).f3))).heap[gb118]? = some (.cells #[.int .i64 ((rd_T63 l0 x15_1).f0), .int .i64 ((rd_T63 l0 x15_1).f1), .int .i64 ((rd_T63 l0 x15_1).f2), .int .i64 ((rd_T63 l0 x15_1).f3)] 63 (0, 0))) := ⟨by (with_reducible repeat (first | apply kn | apply kd | apply ka)); refine blk_put (cs := #[.int .i64 ((rd_T63 l0 x15_1).f0), .int .i64 ((rd_T63 l0 x15_1).f1), .int .i64 ((rd_T63 l0 x15_1).f2), .int .i64 0]) ?_ 3 _ rfl; (with_reducible repeat (first | apply kn | apply kd | apply ka)); refine blk_put (cs := #[.int .i64 ((rd_T63 l0 x15_1).f0), .int .i64 ((rd_T63 l0 x15_1).f1), .int .i64 0, .int .i64 0]) ?_ 2 _ rfl; (with_reducible repeat (first | apply kn | apply kd | apply ka)); refine blk_put (cs := #[.int .i64 ((rd_T63 l0 x15_1).f0), .int .i64 0, .int .i64 0, .int .i64 0]) ?_ 1 _ rfl; (with_reducible repeat (first | apply kn | apply kd | apply ka)); refine blk_put (cs := #[.int .i64 0, .int .i64 0, .int .i64 0, .int .i64 0]) ?_ 0 _ rfl; (with_reducible repeat (first | apply kn | apply kd | apply ka)); exact BK118.out⟩
         have n2_ : Aside0 (Below w.heap.size w ((((w11.setCell ⟨gb118, 0, none⟩ (.int .i64 ((rd_T63 l0 x15_1).f0))).setCell ⟨gb118, 1, none⟩ (.int .i64 ((rd_T63 l0 x15_1).f1))).setCell ⟨gb118, 2, none⟩ (.int .i64 ((rd_T63 l0 x15_1).f2))).setCell ⟨gb118, 3, none⟩ (.int .i64 ((rd_T63 l0 x15_1).f3)))) := ⟨zz1'⟩; (try clear HO_6); (try clear BK118); (try clear HB); generalize ((((w11.setCell ⟨gb118, 0, none⟩ (.int .i64 ((rd_T63 l0 x15_1).f0))).setCell ⟨gb118, 1, none⟩ (.int .i64 ((rd_T63 l0 x15_1).f1))).setCell ⟨gb118, 2, none⟩ (.int .i64 ((rd_T63 l0 x15_1).f2))).setCell ⟨gb118, 3, none⟩ (.int .i64 ((rd_T63 l0 x15_1).f3))) = w13 at n0_ n1_ n2_ ⊢; have HO_6 := n0_; have BK118 := n1_; have HB := n2_; clear n0_ n1_ n2_; have n0_ := am (Kd.R_drew HO_6.out); have n1_ := am (blk_drew BK118.out); have n2_ := am (below_drew1 HB.out); clear HO_6; clear BK118; clear HB; have HO_6 := n0_; have BK118 := n1_; have HB := n2_; clear n0_ n1_ n2_; have p119 : 0 ≤ (x15_1 : Int) := odt; have q119 : x15_1 < (l1.length : Int) := odt; obtain ⟨ad119, e119, hx119_0⟩ := Kd.at_int HR1.out x15_1 p119 q119; have hw119_0 := hx119_0; cases e119
         try replace hx119_0 := (HB.out.cell (World.block_lt_of_cell? w _ hx119_0)).trans hx119_0
         replace p119 := eq_true p119; replace q119 := eq_true q119
         refine start_ (n := 9) (S := fun w' => w'.cell? ⟨gb118, 0, none⟩ = some (.int .i64 ((rd_T63 l0 x15_1).f0)) ∧ w'.cell? ⟨gb118, 1, none⟩ = some (.int .i64 ((rd_T63 l0 x15_1).f1)) ∧ w'.cell? ⟨gb118, 2, none⟩ = some (.int .i64 ((rd_T63 l0 x15_1).f2)) ∧ w'.cell? ⟨gb118, 3, none⟩ = some (.int .i64 ((rd_T63 l0 x15_1).f3)) ∧ w'.cell? (ad119.add (x15_1).toNat) = some (.int .i64 (rd l1 x15_1))) (ds := [8]) #[Z,Z,Z,Z,Z,Z,Z,Z,Z] (by kernel_rfl) rfl rfl ⟨(blk_cell BK118.out 0).trans rfl, (blk_cell BK118.out 1).trans rfl, (blk_cell BK118.out 2).trans rfl, (blk_cell BK118.out 3).trans rfl, ((HB.out.cell (World.block_lt_of_cell? w _ hw119_0)).trans hw119_0)⟩ (fun hHeld => ?_); refine with_tabW spec_TakeBlend.tab7 spec_TakeBlend.bits7 (fun HT_ HW_ => ?_)
         generalize w13.drew = w14 at HO_6 BK118 HB hx119_0 hHeld ⊢
         refine pure_ (i := 0) (N := some 20) (v := ?_) (a' := ?_) #[Y,Z,Z,Z,Z,Z,Z,Z,Z] rfl rfl (any_of HT_.out (by kernel_rfl)) (fun _ _ _ h => h) (Or.inl ⟨by rfl, ?_⟩) ?_ ?_
         rotate_left
         ·intro w'
          go_simp
          with_reducible rfl
         rotate_left
         ·simp only [Act.put, s1, s2, s3, i64_w, i32_w]
          rfl
         refine pure_ (i := 2) (N := some 22) (v := ?_) (a' := ?_) #[Y,Z,Y,Z,Z,Z,Z,Z,Z] rfl rfl (any_of HT_.out (by kernel_rfl)) (fun _ _ _ h => h) (Or.inl ⟨by rfl, ?_⟩) ?_ ?_
         rotate_left
         ·intro w'
          go_simp
          with_reducible rfl
         rotate_left
         ·simp only [Act.put, s1, s2, s3, i64_w, i32_w]
          rfl
         refine pure_ (i := 3) (N := some 23) (v := ?_) (a' := ?_) #[Y,Z,Y,Y,Z,Z,Z,Z,Z] rfl rfl (any_of HT_.out (by kernel_rfl)) (fun _ _ _ h => h) (Or.inl ⟨by rfl, ?_⟩) ?_ ?_
         rotate_left
         ·intro w'
          go_simp
          with_reducible rfl
         rotate_left
         ·simp only [Act.put, s1, s2, s3, i64_w, i32_w]
          rfl
         refine pure_ (i := 4) (N := some 24) (v := ?_) (a' := ?_) #[Y,Z,Y,Y,Y,Z,Z,Z,Z] rfl rfl (any_of HT_.out (by kernel_rfl)) (fun _ _ _ h => h) (Or.inl ⟨by rfl, ?_⟩) ?_ ?_
         rotate_left
         ·intro w'
          go_simp
          with_reducible rfl
         rotate_left
         ·simp only [Act.put, s1, s2, s3, i64_w, i32_w]
          rfl
         refine take_ (i := 1) (N := some 21) (v := ?_) (a' := ?_) #[Y,Y,Y,Y,Y,Z,Z,Z,Z] rfl rfl (take_ofW HT_.out HW_.out (by kernel_rfl)) (fun _ _ _ h => h) (Or.inl ⟨by rfl, ?_⟩) hHeld ?_ ?_
         rotate_left
         ·rintro w' ⟨s0, s1, s2, s3, s4⟩
          go_simp
          with_reducible rfl
         rotate_left
         ·simp only [Act.put, s1, s2, s3, i64_w, i32_w]
          rfl
         refine take_ (i := 5) (N := some 25) (v := ?_) (a' := ?_) #[Y,Y,Y,Y,Y,Y,Z,Z,Z] rfl rfl (take_ofW HT_.out HW_.out (by kernel_rfl)) (fun _ _ _ h => h) (Or.inl ⟨by rfl, ?_⟩) hHeld ?_ ?_
         rotate_left
         ·rintro w' ⟨s0, s1, s2, s3, s4⟩
          go_simp
          with_reducible rfl
         rotate_left
         ·simp only [Act.put, s1, s2, s3, i64_w, i32_w]
          rfl
         refine pure_ (i := 6) (N := some 26) (v := ?_) (a' := ?_) #[Y,Y,Y,Y,Y,Y,Y,Z,Z] rfl rfl (any_of HT_.out (by kernel_rfl)) (fun _ _ _ h => h) (Or.inl ⟨by rfl, ?_⟩) ?_ ?_
         rotate_left
         ·intro w'
          go_simp
          with_reducible rfl
         rotate_left
         ·simp only [Act.put, s1, s2, s3, i64_w, i32_w]
          rfl
         refine pure_ (i := 7) (N := some 27) (v := ?_) (a' := ?_) #[Y,Y,Y,Y,Y,Y,Y,Y,Z] rfl rfl (any_of HT_.out (by kernel_rfl)) (fun _ _ _ h => h) (Or.inl ⟨by rfl, ?_⟩) ?_ ?_
         rotate_left
         ·intro w'
          go_simp
          with_reducible rfl
         rotate_left
         ·simp only [Act.put, s1, s2, s3, i64_w, i32_w]
          rfl
         refine last_ (i := 8) (N := none) #[Y,Y,Y,Y,Y,Y,Y,Y,Y] rfl rfl (one_of HT_.out (by kernel_rfl)) (by decide) (fun K hK => ?_)
         have hs15 : w14.cell? ⟨gb118, 0, none⟩ = some (.int .i64 ((rd_T63 l0 x15_1).f0)) := (blk_cell BK118.out 0).trans rfl; have hfs15 := blk_frozen BK118.out 0
         refine skip_ (w1 := ?_) (by rfl) rfl ?_ ?_
         rotate_left
         ·go_simp
          rfl
         refine hK.out _ _ ?_
         clear hK K
         refine done_ (done_of HT_.out (by kernel_rfl)) ?_
         have hcz16_0 : w14.cell? ⟨gb118, 0, none⟩ = some (.int .i64 ((rd_T63 l0 x15_1).f0)) := (blk_cell BK118.out 0).trans rfl; have hcz16_1 : w14.cell? ⟨gb118, 1, none⟩ = some (.int .i64 ((rd_T63 l0 x15_1).f1)) := (blk_cell BK118.out 1).trans rfl; have hcz16_2 : w14.cell? ⟨gb118, 2, none⟩ = some (.int .i64 ((rd_T63 l0 x15_1).f2)) := (blk_cell BK118.out 2).trans rfl; have hcz16_3 : w14.cell? ⟨gb118, 3, none⟩ = some (.int .i64 ((rd_T63 l0 x15_1).f3)) := (blk_cell BK118.out 3).trans rfl; have hfz16_0 := blk_frozen BK118.out 0; have hfz16_1 := blk_frozen BK118.out 1; have hfz16_2 := blk_frozen BK118.out 2; have hfz16_3 := blk_frozen BK118.out 3
         try go_wp2_with (first | ((with_reducible refine gate_builtin (b := .append) (xs := #[.tmp 28, .tmp 30]) rfl ?_); at_builtin; refine Kd.R_append k63 (w0 := w) w.heap.size rfl (.tmp 28) (.tmp 30) 31 63 (.agg #[(.int .i64 0), (.int .i64 0), (.int .i64 0), (.int .i64 0)]) 32 rfl Try.underlying31 info63 rfl (by decide) (by omega) u6 x6_1 (⟨wrap64 (((rd_T63 l0 x15_1).f0) - (rd l1 x15_1)), (rd_T63 l0 x15_1).f1, (rd_T63 l0 x15_1).f2, (rd_T63 l0 x15_1).f3⟩ : S63) [.int .i64 (wrap64 (((rd_T63 l0 x15_1).f0) - (rd l1 x15_1))), .int .i64 ((rd_T63 l0 x15_1).f1), .int .i64 ((rd_T63 l0 x15_1).f2), .int .i64 ((rd_T63 l0 x15_1).f3)] (fun k_ => k_ ≠ gb118) (fun _ => False) rfl zv' ?aP (fun _ hk => hk.elim) ?aF ?aO ?aB ?aS ?aL ?_; (case aP => exact k63_mkM _ _ _ (⟨wrap64 (((rd_T63 l0 x15_1).f0) - (rd l1 x15_1)), (rd_T63 l0 x15_1).f1, (rd_T63 l0 x15_1).f2, (rd_T63 l0 x15_1).f3⟩ : S63)); (case aB => exact zz1'); (case aF => exact (fun k_ hk => Kd.freshB (g := gb118) (o := o0') zi2' k_ hk)); (case aO => exact (by (with_reducible repeat (first | apply Kd.R_alloc | apply Kd.R_drewN | apply Kd.R_drew)); exact Kd.R_mono (Kd.R_far (p := ⟨gb118, 0, none⟩) (Kd.R_mono HO_6.out (fun k_ hk => (⟨hk, hk⟩ : _ ∧ k_ ≠ gb118))) (fun _ hk => hk.2) (.int .i64 (wrap64 (((rd_T63 l0 x15_1).f0) - (rd l1 x15_1))))) (fun _ hk => hk.1))); (case aS => exact (below_size zz1')); (case aL => have := LMc10.out; omega); intro v121 w17 ho hb hg hat; rw [← Ny120.out] at ho; have n0_ := am (blk_grown (g := gb118) (o := o0') zi2' hg (Kd.R_away HO_6.out (fun _ hk => hk))); have n1_ := am (hb); have n2_ := am (ho); clear BK118; clear HB; clear HO_6; have BK118 := n0_; have HB := n1_; have HO122 := n2_; clear n0_ n1_ n2_; clear ho hb hg hat))
         go_roundg k1
         case measure => have := HK1.out; omega
         case rel => exact ⟨(y120), (wrap64 (x15_1 + 1)), zh', H', ⟨by have := HK1.out; omega⟩, ⟨by (with_reducible repeat (first | apply Kd.R_alloc | apply Kd.R_drewN | apply Kd.R_drew)); exact Kd.R_mono HO122.out (fun _ hk => trivial)⟩, ⟨zz1'⟩⟩
        ·rw [if_neg c10] at H
         exact absurd H (by simp)
       ·rw [if_neg c9] at H
        exact absurd H (by simp)
      ·rw [if_neg c8] at H
       exact absurd H (by simp)
     ·rw [if_neg c7] at H
      exact absurd H (by simp)
    ·rw [if_neg c6] at H
     have c6b0 : decide (x15_1 < (l0.length : Int)) = false := decide_eq_false c6; clear c6; simp only [Option.some.injEq, Prod.mk.injEq] at H; obtain ⟨rfl, rfl⟩ := H
     go_wp2
     go_ret2
     exact ⟨_, by first | rfl | (simp [errW_none, errW_some] <;> rfl) | (simp [*, errW_none, errW_some] <;> rfl), by (with_reducible repeat (first | apply Kd.R_alloc | apply Kd.R_drewN | apply Kd.R_drew)); exact HO_6.out, by repeat (first | (with_reducible first | exact HB.out | apply ba | apply bn | apply below_drew1) | exact HB.out)⟩
 ·replace c4 := Bool.eq_false_iff.mpr c4
  subst c4
  have H1 : (some (([] : List (S63)), false)) = some (r1, r2) := by rw [if_neg (show ¬ (false = true) by decide)] at H; exact H
  clear H
  have H := H1
  clear H1
  simp only [Option.some.injEq, Prod.mk.injEq] at H
  obtain ⟨rfl, rfl⟩ := H
  go_enter Try.func14, Try.ntmps14
  go_wp2_with (first | ((with_reducible refine gate_callee (f := 50) rfl ?_); refine goesL_ (some 11) rfl rfl Try.func50 (by kernel_rfl) rfl #[.slice A0 l0.length c0, .slice A1 l1.length c1] rfl zd' ?_; (with_reducible refine (spec_blParts.calls k _ _ l0 _ _ l1 false _ ?side1 ?side2 ?side3 ?side4 A3.out).mono ?_); (case side1 => exact zj'); (case side2 => exact zl2'); (case side3 => exact zh1'); (case side4 => exact zl3'); rintro e w18 ⟨rfl, hb⟩; refine ⟨_, rfl, ?_⟩; have n0_ := am (below_step za' hb); clear HB; have HB := n0_; clear n0_; (try clear hb); (try clear hb2); (try clear hk); (try clear hi)))
  go_ret2
  exact ⟨_, by first | rfl | (simp [errW_none, errW_some] <;> rfl) | (simp [*, errW_none, errW_some] <;> rfl), by first | exact Kd.R_nil _ _ _ _ _ | exact Kd.N_nil _ _ _ _ _ | exact Kd.V_nil _ _ _ _ _ | exact Kd.Q_nil _ _ _ _ _ | exact Kd.S_nil _ _ _ _ _, by repeat (first | (with_reducible first | exact HB.out | apply ba | apply bn | apply below_drew1) | exact HB.out)⟩

end Go.Proofs.Ytcinecbfkeefaaa.PFnBins
