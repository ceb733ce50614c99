/- Text written by a program for this claim: contracts of the functions of one law. -/
import Derived.Test.YtikbfnbfbpnmjaaPFnExactCountStatesx0
import Derived.Test.YtikbfnbfbpnmjaaPFnExactCountStatesx3
import Derived.Test.YtikbfnbfbpnmjaaPFnExactCountStatesx5
import Derived.Test.YtikbfnbfbpnmjaaPFnExactCountStatesx6
namespace Go.Proofs.Ytikbfnbfbpnmjaa.PFnExactCountStates
open Go.RowKit Go.Proofs.YtikbfnbfbpnmjaaW.PrintWords Go.Proofs.YtikbfnbfbpnmjaaW.PrintLast Go.Proofs.YtikbfnbfbpnmjaaW.PrintMore
attribute [local go_sem] max2_int min2_int max_two min_two max_three min_three max_four min_four   -- for this text's walks alone
set_option linter.unusedVariables false
set_option linter.unusedSimpArgs false
open ShortPFnExactCountStates0

/-! ### spec_flGood: function 72 -/
mutual
def spec_flGood.j0 : Nat → Bool → List Int → List Int → List Int → Int → Int → List (S80) → List (List Int) → List Int → Int → Int → Int → Option (Bool)
 | 0, _, _, _, _, _, _, _, _, _, _, _, _ => none
 | k + 1, x23, x242000, x242001, x242002, x242003, x242004, x242005, x242006, x242007, x242008, x242009, x242010 => if x23 = true then (some false) else (spec_flGood.l0 k x242006 (x242006.length : Int) 0 x242000 x242001 x242002 x242003 x242004 x242005 x242006 x242007 x242008 x242009 x242010)
def spec_flGood.l0 : Nat → List (List Int) → Int → Int → List Int → List Int → List Int → Int → Int → List (S80) → List (List Int) → List Int → Int → Int → Int → Option (Bool)
 | 0, _, _, _, _, _, _, _, _, _, _, _, _, _, _ => none
 | k + 1, x25, x26, x27, x242000, x242001, x242002, x242003, x242004, x242005, x242006, x242007, x242008, x242009, x242010 => if x27 < x26 then (if 0 ≤ x27 then (if x27 < (x25.length : Int) then ((spec_flList.f k x242000 x242001 x242002 x242003 x242004 x242005 x242006 x242007 x242008 x242009 x242010 (rd_L2 x25 x27) 0 x27).bind fun t245 => (if t245 = true then (spec_flGood.l0 k x25 x26 (wrap64 (x27 + 1)) x242000 x242001 x242002 x242003 x242004 x242005 x242006 x242007 x242008 x242009 x242010) else (some false))) else (none)) else (none)) else ((spec_flList.f k x242000 x242001 x242002 x242003 x242004 x242005 x242006 x242007 x242008 x242009 x242010 x242007 3 (-1)).bind fun t246 => (if t246 = true then ((spec_l1In.f x242008 0 100000).bind fun t247 => (if t247 = true then ((spec_l1In.f x242009 0 100000).bind fun t248 => (if t248 = true then ((spec_l1In.f x242010 0 x242008).bind fun t249 => (some t249)) else (some false))) else (some false))) else (some false)))
end
def spec_flGood.f (k : Nat) (l0_0 : List Int) (l0_1 : List Int) (l0_2 : List Int) (a0_3 : Int) (a0_4 : Int) (l0_5 : List (S80)) (l0_6 : List (List Int)) (l0_7 : List Int) (a0_8 : Int) (a0_9 : Int) (a0_10 : Int) : Option (Bool) := (spec_flFleet.f k l0_0 l0_1 l0_2 a0_3 a0_4).bind fun t242 => (if t242 = true then ((spec_flTrucks.f k l0_0 l0_1 l0_2 a0_3 a0_4 l0_5 l0_6 l0_7 a0_8 a0_9 a0_10).bind fun t243 => (if t243 = true then (spec_flGood.j0 k ((l0_6.length : Int) != (l0_0.length : Int)) l0_0 l0_1 l0_2 a0_3 a0_4 l0_5 l0_6 l0_7 a0_8 a0_9 a0_10) else (spec_flGood.j0 k true l0_0 l0_1 l0_2 a0_3 a0_4 l0_5 l0_6 l0_7 a0_8 a0_9 a0_10))) else (spec_flGood.j0 k true l0_0 l0_1 l0_2 a0_3 a0_4 l0_5 l0_6 l0_7 a0_8 a0_9 a0_10))
set_option maxHeartbeats 8000000 in
set_option maxRecDepth 100000 in
theorem spec_flGood.calls (k : Nat) (A0_0 : Option Addr) (c0_0 : Nat) (l0_0 : List Int) (A0_1 : Option Addr) (c0_1 : Nat) (l0_1 : List Int) (A0_2 : Option Addr) (c0_2 : Nat) (l0_2 : List Int) (a0_3 : Int) (a0_4 : Int) (A0_5 : Option Addr) (c0_5 : Nat) (l0_5 : List (S80)) (A0_6 : Option Addr) (c0_6 : Nat) (l0_6 : List (List Int)) (A0_7 : Option Addr) (c0_7 : Nat) (l0_7 : List Int) (a0_8 : Int) (a0_9 : Int) (a0_10 : Int) (r : Bool) (w : World) (hr0_0 : Kd.C (Kd.int .i64) w A0_0 l0_0.length l0_0) (hc0_0 : l0_0.length ≤ c0_0) (hr0_1 : Kd.C (Kd.int .i64) w A0_1 l0_1.length l0_1) (hc0_1 : l0_1.length ≤ c0_1) (hr0_2 : Kd.C (Kd.int .i64) w A0_2 l0_2.length l0_2) (hc0_2 : l0_2.length ≤ c0_2) (hr0_5 : Kd.C k80 w A0_5 l0_5.length l0_5) (hc0_5 : l0_5.length ≤ c0_5) (hr0_6 : Kd.C (Kd.slice 3 (Kd.int .i64)) w A0_6 l0_6.length l0_6) (hc0_6 : l0_6.length ≤ c0_6) (hr0_7 : Kd.C (Kd.int .i64) w A0_7 l0_7.length l0_7) (hc0_7 : l0_7.length ≤ c0_7) (h : spec_flGood.f k l0_0 l0_1 l0_2 a0_3 a0_4 l0_5 l0_6 l0_7 a0_8 a0_9 a0_10 = some r) :
  Calls Try.prog 72 #[.agg #[.slice A0_0 l0_0.length c0_0, .slice A0_1 l0_1.length c0_1, .slice A0_2 l0_2.length c0_2, .int .i64 a0_3, .int .i64 a0_4, .slice A0_5 l0_5.length c0_5, .slice A0_6 l0_6.length c0_6, .slice A0_7 l0_7.length c0_7, .int .i64 a0_8, .int .i64 a0_9, .int .i64 a0_10]] w fun e w' => e = .returned (.bool r) ∧ Below w.heap.size w w' := by
 have hu44 := Try.underlying44
 have hu27 := Try.underlying27
 have HR0_0 := Aside0.mk hr0_0
 have HC0_0 := Aside0.mk hc0_0
 clear hr0_0 hc0_0
 have HR0_1 := Aside0.mk hr0_1
 have HC0_1 := Aside0.mk hc0_1
 clear hr0_1 hc0_1
 have HR0_2 := Aside0.mk hr0_2
 have HC0_2 := Aside0.mk hc0_2
 clear hr0_2 hc0_2
 have HR0_5 := Aside0.mk hr0_5
 have HC0_5 := Aside0.mk hc0_5
 clear hr0_5 hc0_5
 have HR0_6 := Aside0.mk hr0_6
 have HC0_6 := Aside0.mk hc0_6
 clear hr0_6 hc0_6
 have HR0_7 := Aside0.mk hr0_7
 have HC0_7 := Aside0.mk hc0_7
 clear hr0_7 hc0_7
 have HB := am (Below.refl w.heap.size w)
 have H : ((spec_flFleet.f k l0_0 l0_1 l0_2 a0_3 a0_4).bind fun t242 => (if t242 = true then ((spec_flTrucks.f k l0_0 l0_1 l0_2 a0_3 a0_4 l0_5 l0_6 l0_7 a0_8 a0_9 a0_10).bind fun t243 => (if t243 = true then (spec_flGood.j0 k ((l0_6.length : Int) != (l0_0.length : Int)) l0_0 l0_1 l0_2 a0_3 a0_4 l0_5 l0_6 l0_7 a0_8 a0_9 a0_10) else (spec_flGood.j0 k true l0_0 l0_1 l0_2 a0_3 a0_4 l0_5 l0_6 l0_7 a0_8 a0_9 a0_10))) else (spec_flGood.j0 k true l0_0 l0_1 l0_2 a0_3 a0_4 l0_5 l0_6 l0_7 a0_8 a0_9 a0_10))) = some r := h
 clear h
 have HC2 := Aside0.mk H
 clear H
 go_enter Try.func72, Try.ntmps72
 go_upto_region 1 with (first | ((with_reducible refine gate_dst (N := 1) rfl ?_); (try (refine gate_guard (by rfl) ?_; dsimp only)); refine box_event ?hg (N := 1) ?hd (cs := #[.slice A0_0 l0_0.length c0_0, .slice A0_1 l0_1.length c0_1, .slice A0_2 l0_2.length c0_2, .int .i64 a0_3, .int .i64 a0_4, .slice A0_5 l0_5.length c0_5, .slice A0_6 l0_6.length c0_6, .slice A0_7 l0_7.length c0_7, .int .i64 a0_8, .int .i64 a0_9, .int .i64 a0_10]) (t := 44) ?hr ?_; (case hd => rfl); (case hg => rfl); (case hr => exact zl'); intro gb241 hg w3 hbox hb; have n0_ := am (below_step za' hb); have n1_ := am (hbox); have n2_ := am ((by rw [hg]; exact (below_size za') : w.heap.size ≤ gb241)); have n3_ := am ((by rw [hg]; exact (below_size za') : w.heap.size ≤ gb241)); clear HB; have HB := n0_; have BK241 := n1_; have GW241 := n2_; have GE241 := n3_; clear n0_ n1_ n2_ n3_; clear hb hbox hg))
 (try simp only [Act.put, s1, s2, s3])
 go_cut [23] (fun v23 wc => ∃ (kq : Nat) (x23_1 : Bool), v23 = .bool x23_1 ∧ Aside0 (spec_flGood.j0 kq x23_1 l0_0 l0_1 l0_2 a0_3 a0_4 l0_5 l0_6 l0_7 a0_8 a0_9 a0_10 = some r) ∧ Aside0 (kq ≤ k) ∧ Aside0 (wc.heap[gb241]? = some (.cells #[(.slice A0_0 l0_0.length c0_0), (.slice A0_1 l0_1.length c0_1), (.slice A0_2 l0_2.length c0_2), .int .i64 a0_3, .int .i64 a0_4, (.slice A0_5 l0_5.length c0_5), (.slice A0_6 l0_6.length c0_6), (.slice A0_7 l0_7.length c0_7), .int .i64 a0_8, .int .i64 a0_9, .int .i64 a0_10] 44 (0, 0))) ∧ Aside0 (Below w.heap.size w wc))
 case first =>
  have H := HC2.out
  clear HC2
  replace H := Option.bind_eq_some_iff.mp H
  obtain ⟨t242, A40, H⟩ := H
  replace H : (if t242 = true then ((spec_flTrucks.f k l0_0 l0_1 l0_2 a0_3 a0_4 l0_5 l0_6 l0_7 a0_8 a0_9 a0_10).bind fun t243 => (if t243 = true then (spec_flGood.j0 k ((l0_6.length : Int) != (l0_0.length : Int)) l0_0 l0_1 l0_2 a0_3 a0_4 l0_5 l0_6 l0_7 a0_8 a0_9 a0_10) else (spec_flGood.j0 k true l0_0 l0_1 l0_2 a0_3 a0_4 l0_5 l0_6 l0_7 a0_8 a0_9 a0_10))) else (spec_flGood.j0 k true l0_0 l0_1 l0_2 a0_3 a0_4 l0_5 l0_6 l0_7 a0_8 a0_9 a0_10)) = some r := H
  have A4 := Aside0.mk A40
  clear A40
  by_cases c5 : t242 = true
  ·subst c5
   have H1 : ((spec_flTrucks.f k l0_0 l0_1 l0_2 a0_3 a0_4 l0_5 l0_6 l0_7 a0_8 a0_9 a0_10).bind fun t243 => (if t243 = true then (spec_flGood.j0 k ((l0_6.length : Int) != (l0_0.length : Int)) l0_0 l0_1 l0_2 a0_3 a0_4 l0_5 l0_6 l0_7 a0_8 a0_9 a0_10) else (spec_flGood.j0 k true l0_0 l0_1 l0_2 a0_3 a0_4 l0_5 l0_6 l0_7 a0_8 a0_9 a0_10))) = some r := by rw [if_pos rfl] at H; exact H
   clear H; have H := H1; clear H1; replace H := Option.bind_eq_some_iff.mp H; obtain ⟨t243, A60, H⟩ := H; replace H : (if t243 = true then (spec_flGood.j0 k ((l0_6.length : Int) != (l0_0.length : Int)) l0_0 l0_1 l0_2 a0_3 a0_4 l0_5 l0_6 l0_7 a0_8 a0_9 a0_10) else (spec_flGood.j0 k true l0_0 l0_1 l0_2 a0_3 a0_4 l0_5 l0_6 l0_7 a0_8 a0_9 a0_10)) = some r := H; have A6 := Aside0.mk A60; clear A60
   by_cases c7 : t243 = true
   ·subst c7
    have H1 : (spec_flGood.j0 k ((l0_6.length : Int) != (l0_0.length : Int)) l0_0 l0_1 l0_2 a0_3 a0_4 l0_5 l0_6 l0_7 a0_8 a0_9 a0_10) = some r := by rw [if_pos rfl] at H; exact H
    clear H; have H := H1; clear H1; have H' := Aside0.mk H; clear H; have hcz8_0 : w3.cell? ⟨gb241, 0, none⟩ = some (.slice A0_0 l0_0.length c0_0) := (blk_cell BK241.out 0).trans rfl; have hcz8_1 : w3.cell? ⟨gb241, 1, none⟩ = some (.slice A0_1 l0_1.length c0_1) := (blk_cell BK241.out 1).trans rfl; have hcz8_2 : w3.cell? ⟨gb241, 2, none⟩ = some (.slice A0_2 l0_2.length c0_2) := (blk_cell BK241.out 2).trans rfl; have hcz8_3 : w3.cell? ⟨gb241, 3, none⟩ = some (.int .i64 a0_3) := (blk_cell BK241.out 3).trans rfl; have hcz8_4 : w3.cell? ⟨gb241, 4, none⟩ = some (.int .i64 a0_4) := (blk_cell BK241.out 4).trans rfl; have hcz8_5 : w3.cell? ⟨gb241, 5, none⟩ = some (.slice A0_5 l0_5.length c0_5) := (blk_cell BK241.out 5).trans rfl; have hcz8_6 : w3.cell? ⟨gb241, 6, none⟩ = some (.slice A0_6 l0_6.length c0_6) := (blk_cell BK241.out 6).trans rfl; have hcz8_7 : w3.cell? ⟨gb241, 7, none⟩ = some (.slice A0_7 l0_7.length c0_7) := (blk_cell BK241.out 7).trans rfl; have hcz8_8 : w3.cell? ⟨gb241, 8, none⟩ = some (.int .i64 a0_8) := (blk_cell BK241.out 8).trans rfl; have hcz8_9 : w3.cell? ⟨gb241, 9, none⟩ = some (.int .i64 a0_9) := (blk_cell BK241.out 9).trans rfl; have hcz8_10 : w3.cell? ⟨gb241, 10, none⟩ = some (.int .i64 a0_10) := (blk_cell BK241.out 10).trans rfl; have hfz8_0 := blk_frozen BK241.out 0; have hfz8_1 := blk_frozen BK241.out 1; have hfz8_2 := blk_frozen BK241.out 2; have hfz8_3 := blk_frozen BK241.out 3; have hfz8_4 := blk_frozen BK241.out 4; have hfz8_5 := blk_frozen BK241.out 5; have hfz8_6 := blk_frozen BK241.out 6
    have hfz8_7 := blk_frozen BK241.out 7; have hfz8_8 := blk_frozen BK241.out 8; have hfz8_9 := blk_frozen BK241.out 9; have hfz8_10 := blk_frozen BK241.out 10
    go_wp2_with (first | ((with_reducible refine gate_callee (f := 63) rfl ?_); refine goesL_ (some 7) rfl rfl Try.func63 (by kernel_rfl) rfl #[.agg #[.slice A0_0 l0_0.length c0_0, .slice A0_1 l0_1.length c0_1, .slice A0_2 l0_2.length c0_2, .int .i64 a0_3, .int .i64 a0_4]] rfl zb' ?_; (with_reducible refine (spec_flFleet.calls k _ _ l0_0 _ _ l0_1 _ _ l0_2 a0_3 a0_4 true _ ?side1 ?side2 ?side3 ?side4 ?side5 ?side6 A4.out).mono ?_); (case side1 => exact zc'); (case side2 => exact zg2'); (case side3 => exact ze'); (case side4 => exact zo2'); (case side5 => exact zf'); (case side6 => exact zq2'); rintro e w9 ⟨rfl, hb⟩; refine ⟨_, rfl, ?_⟩; have n0_ := am (blk_below (g := gb241) (o := o0') zn1' hb); have n1_ := am (below_step zy' hb); clear BK241; clear HB; have BK241 := n0_; have HB := n1_; clear n0_ n1_; (try clear hb); (try clear hb2); (try clear hk); (try clear hi); have hcz10_0 : w9.cell? ⟨gb241, 0, none⟩ = some (.slice A0_0 l0_0.length c0_0) := (blk_cell BK241.out 0).trans rfl; have hcz10_1 : w9.cell? ⟨gb241, 1, none⟩ = some (.slice A0_1 l0_1.length c0_1) := (blk_cell BK241.out 1).trans rfl; have hcz10_2 : w9.cell? ⟨gb241, 2, none⟩ = some (.slice A0_2 l0_2.length c0_2) := (blk_cell BK241.out 2).trans rfl; have hcz10_3 : w9.cell? ⟨gb241, 3, none⟩ = some (.int .i64 a0_3) := (blk_cell BK241.out 3).trans rfl; have hcz10_4 : w9.cell? ⟨gb241, 4, none⟩ = some (.int .i64 a0_4) := (blk_cell BK241.out 4).trans rfl; have hcz10_5 : w9.cell? ⟨gb241, 5, none⟩ = some (.slice A0_5 l0_5.length c0_5) := (blk_cell BK241.out 5).trans rfl; have hcz10_6 : w9.cell? ⟨gb241, 6, none⟩ = some (.slice A0_6 l0_6.length c0_6) := (blk_cell BK241.out 6).trans rfl; have hcz10_7 : w9.cell? ⟨gb241, 7, none⟩ = some (.slice A0_7 l0_7.length c0_7) := (blk_cell BK241.out 7).trans rfl; have hcz10_8 : w9.cell? ⟨gb241, 8, none⟩ = some (.int .i64 a0_8) := (blk_cell BK241.out 8).trans rfl; have hcz10_9 : w9.cell? ⟨gb241, 9, none⟩ = some (.int .i64 a0_9) := (blk_cell BK241.out 9).trans rfl; have hcz10_10 : w9.cell? ⟨gb241, 10, none⟩ = some (.int .i64 a0_10) := (blk_cell BK241.out 10).trans rfl; have hfz10_0 := blk_frozen BK241.out 0; have hfz10_1 := blk_frozen BK241.out 1; have hfz10_2 := blk_frozen BK241.out 2; have hfz10_3 := blk_frozen BK241.out 3; have hfz10_4 := blk_frozen BK241.out 4; have hfz10_5 := blk_frozen BK241.out 5; have hfz10_6 := blk_frozen BK241.out 6; have hfz10_7 := blk_frozen BK241.out 7; have hfz10_8 := blk_frozen BK241.out 8; have hfz10_9 := blk_frozen BK241.out 9; have hfz10_10 := blk_frozen BK241.out 10) | (go_at_call 101; (with_reducible refine (spec_flTrucks.calls k _ _ l0_0 _ _ l0_1 _ _ l0_2 a0_3 a0_4 _ _ l0_5 _ _ l0_6 _ _ l0_7 a0_8 a0_9 a0_10 true _ ?side1 ?side2 ?side3 ?side4 ?side5 ?side6 ?side7 ?side8 ?side9 ?side10 ?side11 ?side12 A6.out).mono ?_); (case side1 => exact zc'); (case side2 => exact zg2'); (case side3 => exact ze'); (case side4 => exact zo2'); (case side5 => exact zf'); (case side6 => exact zq2'); (case side7 => exact zk'); (case side8 => exact zh4'); (case side9 => exact zp'); (case side10 => exact zn4'); (case side11 => exact zs'); (case side12 => exact zi4'); rintro e w11 ⟨rfl, hb⟩; have n0_ := am (blk_below (g := gb241) (o := o0') zn1' hb); have n1_ := am (below_step zy' hb); clear BK241; clear HB; have BK241 := n0_; have HB := n1_; clear n0_ n1_; (try clear hb); (try clear hb2); (try clear hk); (try clear hi); have hcz12_0 : w11.cell? ⟨gb241, 0, none⟩ = some (.slice A0_0 l0_0.length c0_0) := (blk_cell BK241.out 0).trans rfl; have hcz12_1 : w11.cell? ⟨gb241, 1, none⟩ = some (.slice A0_1 l0_1.length c0_1) := (blk_cell BK241.out 1).trans rfl; have hcz12_2 : w11.cell? ⟨gb241, 2, none⟩ = some (.slice A0_2 l0_2.length c0_2) := (blk_cell BK241.out 2).trans rfl; have hcz12_3 : w11.cell? ⟨gb241, 3, none⟩ = some (.int .i64 a0_3) := (blk_cell BK241.out 3).trans rfl; have hcz12_4 : w11.cell? ⟨gb241, 4, none⟩ = some (.int .i64 a0_4) := (blk_cell BK241.out 4).trans rfl; have hcz12_5 : w11.cell? ⟨gb241, 5, none⟩ = some (.slice A0_5 l0_5.length c0_5) := (blk_cell BK241.out 5).trans rfl; have hcz12_6 : w11.cell? ⟨gb241, 6, none⟩ = some (.slice A0_6 l0_6.length c0_6) := (blk_cell BK241.out 6).trans rfl; have hcz12_7 : w11.cell? ⟨gb241, 7, none⟩ = some (.slice A0_7 l0_7.length c0_7) := (blk_cell BK241.out 7).trans rfl; have hcz12_8 : w11.cell? ⟨gb241, 8, none⟩ = some (.int .i64 a0_8) := (blk_cell BK241.out 8).trans rfl; have hcz12_9 : w11.cell? ⟨gb241, 9, none⟩ = some (.int .i64 a0_9) := (blk_cell BK241.out 9).trans rfl; have hcz12_10 : w11.cell? ⟨gb241, 10, none⟩ = some (.int .i64 a0_10) := (blk_cell BK241.out 10).trans rfl; have hfz12_0 := blk_frozen BK241.out 0; have hfz12_1 := blk_frozen BK241.out 1; have hfz12_2 := blk_frozen BK241.out 2; have hfz12_3 := blk_frozen BK241.out 3; have hfz12_4 := blk_frozen BK241.out 4; have hfz12_5 := blk_frozen BK241.out 5; have hfz12_6 := blk_frozen BK241.out 6; have hfz12_7 := blk_frozen BK241.out 7; have hfz12_8 := blk_frozen BK241.out 8; have hfz12_9 := blk_frozen BK241.out 9; have hfz12_10 := blk_frozen BK241.out 10))
    go_meet
    case rel => exact ⟨_, (((l0_6.length : Int) != (l0_0.length : Int))), zj', H', ⟨zt2'⟩, ⟨zn1'⟩, ⟨zy'⟩⟩
   ·replace c7 := Bool.eq_false_iff.mpr c7
    subst c7
    have H1 : (spec_flGood.j0 k true l0_0 l0_1 l0_2 a0_3 a0_4 l0_5 l0_6 l0_7 a0_8 a0_9 a0_10) = some r := by rw [if_neg (show ¬ (false = true) by decide)] at H; exact H
    clear H; have H := H1; clear H1; have H' := Aside0.mk H; clear H; have hcz13_0 : w3.cell? ⟨gb241, 0, none⟩ = some (.slice A0_0 l0_0.length c0_0) := (blk_cell BK241.out 0).trans rfl; have hcz13_1 : w3.cell? ⟨gb241, 1, none⟩ = some (.slice A0_1 l0_1.length c0_1) := (blk_cell BK241.out 1).trans rfl; have hcz13_2 : w3.cell? ⟨gb241, 2, none⟩ = some (.slice A0_2 l0_2.length c0_2) := (blk_cell BK241.out 2).trans rfl; have hcz13_3 : w3.cell? ⟨gb241, 3, none⟩ = some (.int .i64 a0_3) := (blk_cell BK241.out 3).trans rfl; have hcz13_4 : w3.cell? ⟨gb241, 4, none⟩ = some (.int .i64 a0_4) := (blk_cell BK241.out 4).trans rfl; have hcz13_5 : w3.cell? ⟨gb241, 5, none⟩ = some (.slice A0_5 l0_5.length c0_5) := (blk_cell BK241.out 5).trans rfl; have hcz13_6 : w3.cell? ⟨gb241, 6, none⟩ = some (.slice A0_6 l0_6.length c0_6) := (blk_cell BK241.out 6).trans rfl; have hcz13_7 : w3.cell? ⟨gb241, 7, none⟩ = some (.slice A0_7 l0_7.length c0_7) := (blk_cell BK241.out 7).trans rfl; have hcz13_8 : w3.cell? ⟨gb241, 8, none⟩ = some (.int .i64 a0_8) := (blk_cell BK241.out 8).trans rfl; have hcz13_9 : w3.cell? ⟨gb241, 9, none⟩ = some (.int .i64 a0_9) := (blk_cell BK241.out 9).trans rfl; have hcz13_10 : w3.cell? ⟨gb241, 10, none⟩ = some (.int .i64 a0_10) := (blk_cell BK241.out 10).trans rfl; have hfz13_0 := blk_frozen BK241.out 0; have hfz13_1 := blk_frozen BK241.out 1; have hfz13_2 := blk_frozen BK241.out 2; have hfz13_3 := blk_frozen BK241.out 3; have hfz13_4 := blk_frozen BK241.out 4; have hfz13_5 := blk_frozen BK241.out 5
    have hfz13_6 := blk_frozen BK241.out 6; have hfz13_7 := blk_frozen BK241.out 7; have hfz13_8 := blk_frozen BK241.out 8; have hfz13_9 := blk_frozen BK241.out 9; have hfz13_10 := blk_frozen BK241.out 10
    go_wp2_with (first | ((with_reducible refine gate_callee (f := 63) rfl ?_); refine goesL_ (some 7) rfl rfl Try.func63 (by kernel_rfl) rfl #[.agg #[.slice A0_0 l0_0.length c0_0, .slice A0_1 l0_1.length c0_1, .slice A0_2 l0_2.length c0_2, .int .i64 a0_3, .int .i64 a0_4]] rfl zb' ?_; (with_reducible refine (spec_flFleet.calls k _ _ l0_0 _ _ l0_1 _ _ l0_2 a0_3 a0_4 true _ ?side1 ?side2 ?side3 ?side4 ?side5 ?side6 A4.out).mono ?_); (case side1 => exact zc'); (case side2 => exact zg2'); (case side3 => exact ze'); (case side4 => exact zo2'); (case side5 => exact zf'); (case side6 => exact zq2'); rintro e w14 ⟨rfl, hb⟩; refine ⟨_, rfl, ?_⟩; have n0_ := am (blk_below (g := gb241) (o := o0') zn1' hb); have n1_ := am (below_step zy' hb); clear BK241; clear HB; have BK241 := n0_; have HB := n1_; clear n0_ n1_; (try clear hb); (try clear hb2); (try clear hk); (try clear hi); have hcz15_0 : w14.cell? ⟨gb241, 0, none⟩ = some (.slice A0_0 l0_0.length c0_0) := (blk_cell BK241.out 0).trans rfl; have hcz15_1 : w14.cell? ⟨gb241, 1, none⟩ = some (.slice A0_1 l0_1.length c0_1) := (blk_cell BK241.out 1).trans rfl; have hcz15_2 : w14.cell? ⟨gb241, 2, none⟩ = some (.slice A0_2 l0_2.length c0_2) := (blk_cell BK241.out 2).trans rfl; have hcz15_3 : w14.cell? ⟨gb241, 3, none⟩ = some (.int .i64 a0_3) := (blk_cell BK241.out 3).trans rfl; have hcz15_4 : w14.cell? ⟨gb241, 4, none⟩ = some (.int .i64 a0_4) := (blk_cell BK241.out 4).trans rfl; have hcz15_5 : w14.cell? ⟨gb241, 5, none⟩ = some (.slice A0_5 l0_5.length c0_5) := (blk_cell BK241.out 5).trans rfl; have hcz15_6 : w14.cell? ⟨gb241, 6, none⟩ = some (.slice A0_6 l0_6.length c0_6) := (blk_cell BK241.out 6).trans rfl; have hcz15_7 : w14.cell? ⟨gb241, 7, none⟩ = some (.slice A0_7 l0_7.length c0_7) := (blk_cell BK241.out 7).trans rfl; have hcz15_8 : w14.cell? ⟨gb241, 8, none⟩ = some (.int .i64 a0_8) := (blk_cell BK241.out 8).trans rfl; have hcz15_9 : w14.cell? ⟨gb241, 9, none⟩ = some (.int .i64 a0_9) := (blk_cell BK241.out 9).trans rfl; have hcz15_10 : w14.cell? ⟨gb241, 10, none⟩ = some (.int .i64 a0_10) := (blk_cell BK241.out 10).trans rfl; have hfz15_0 := blk_frozen BK241.out 0; have hfz15_1 := blk_frozen BK241.out 1; have hfz15_2 := blk_frozen BK241.out 2; have hfz15_3 := blk_frozen BK241.out 3; have hfz15_4 := blk_frozen BK241.out 4; have hfz15_5 := blk_frozen BK241.out 5; have hfz15_6 := blk_frozen BK241.out 6; have hfz15_7 := blk_frozen BK241.out 7; have hfz15_8 := blk_frozen BK241.out 8; have hfz15_9 := blk_frozen BK241.out 9; have hfz15_10 := blk_frozen BK241.out 10) | (go_at_call 101; (with_reducible refine (spec_flTrucks.calls k _ _ l0_0 _ _ l0_1 _ _ l0_2 a0_3 a0_4 _ _ l0_5 _ _ l0_6 _ _ l0_7 a0_8 a0_9 a0_10 false _ ?side1 ?side2 ?side3 ?side4 ?side5 ?side6 ?side7 ?side8 ?side9 ?side10 ?side11 ?side12 A6.out).mono ?_); (case side1 => exact zc'); (case side2 => exact zg2'); (case side3 => exact ze'); (case side4 => exact zo2'); (case side5 => exact zf'); (case side6 => exact zq2'); (case side7 => exact zk'); (case side8 => exact zh4'); (case side9 => exact zp'); (case side10 => exact zn4'); (case side11 => exact zs'); (case side12 => exact zi4'); rintro e w16 ⟨rfl, hb⟩; have n0_ := am (blk_below (g := gb241) (o := o0') zn1' hb); have n1_ := am (below_step zy' hb); clear BK241; clear HB; have BK241 := n0_; have HB := n1_; clear n0_ n1_; (try clear hb); (try clear hb2); (try clear hk); (try clear hi)))
    go_meet
    case rel => exact ⟨_, (true), zj', H', ⟨zt2'⟩, ⟨zn1'⟩, ⟨zy'⟩⟩
  ·replace c5 := Bool.eq_false_iff.mpr c5
   subst c5
   have H1 : (spec_flGood.j0 k true l0_0 l0_1 l0_2 a0_3 a0_4 l0_5 l0_6 l0_7 a0_8 a0_9 a0_10) = some r := by rw [if_neg (show ¬ (false = true) by decide)] at H; exact H
   clear H; have H := H1; clear H1; have H' := Aside0.mk H; clear H; have hcz17_0 : w3.cell? ⟨gb241, 0, none⟩ = some (.slice A0_0 l0_0.length c0_0) := (blk_cell BK241.out 0).trans rfl; have hcz17_1 : w3.cell? ⟨gb241, 1, none⟩ = some (.slice A0_1 l0_1.length c0_1) := (blk_cell BK241.out 1).trans rfl; have hcz17_2 : w3.cell? ⟨gb241, 2, none⟩ = some (.slice A0_2 l0_2.length c0_2) := (blk_cell BK241.out 2).trans rfl; have hcz17_3 : w3.cell? ⟨gb241, 3, none⟩ = some (.int .i64 a0_3) := (blk_cell BK241.out 3).trans rfl; have hcz17_4 : w3.cell? ⟨gb241, 4, none⟩ = some (.int .i64 a0_4) := (blk_cell BK241.out 4).trans rfl; have hcz17_5 : w3.cell? ⟨gb241, 5, none⟩ = some (.slice A0_5 l0_5.length c0_5) := (blk_cell BK241.out 5).trans rfl; have hcz17_6 : w3.cell? ⟨gb241, 6, none⟩ = some (.slice A0_6 l0_6.length c0_6) := (blk_cell BK241.out 6).trans rfl; have hcz17_7 : w3.cell? ⟨gb241, 7, none⟩ = some (.slice A0_7 l0_7.length c0_7) := (blk_cell BK241.out 7).trans rfl; have hcz17_8 : w3.cell? ⟨gb241, 8, none⟩ = some (.int .i64 a0_8) := (blk_cell BK241.out 8).trans rfl; have hcz17_9 : w3.cell? ⟨gb241, 9, none⟩ = some (.int .i64 a0_9) := (blk_cell BK241.out 9).trans rfl; have hcz17_10 : w3.cell? ⟨gb241, 10, none⟩ = some (.int .i64 a0_10) := (blk_cell BK241.out 10).trans rfl; have hfz17_0 := blk_frozen BK241.out 0; have hfz17_1 := blk_frozen BK241.out 1; have hfz17_2 := blk_frozen BK241.out 2; have hfz17_3 := blk_frozen BK241.out 3; have hfz17_4 := blk_frozen BK241.out 4; have hfz17_5 := blk_frozen BK241.out 5
   have hfz17_6 := blk_frozen BK241.out 6; have hfz17_7 := blk_frozen BK241.out 7; have hfz17_8 := blk_frozen BK241.out 8; have hfz17_9 := blk_frozen BK241.out 9; have hfz17_10 := blk_frozen BK241.out 10
   go_wp2_with (first | ((with_reducible refine gate_callee (f := 63) rfl ?_); refine goesL_ (some 7) rfl rfl Try.func63 (by kernel_rfl) rfl #[.agg #[.slice A0_0 l0_0.length c0_0, .slice A0_1 l0_1.length c0_1, .slice A0_2 l0_2.length c0_2, .int .i64 a0_3, .int .i64 a0_4]] rfl zb' ?_; (with_reducible refine (spec_flFleet.calls k _ _ l0_0 _ _ l0_1 _ _ l0_2 a0_3 a0_4 false _ ?side1 ?side2 ?side3 ?side4 ?side5 ?side6 A4.out).mono ?_); (case side1 => exact zc'); (case side2 => exact zg2'); (case side3 => exact ze'); (case side4 => exact zo2'); (case side5 => exact zf'); (case side6 => exact zq2'); rintro e w18 ⟨rfl, hb⟩; refine ⟨_, rfl, ?_⟩; have n0_ := am (blk_below (g := gb241) (o := o0') zn1' hb); have n1_ := am (below_step zy' hb); clear BK241; clear HB; have BK241 := n0_; have HB := n1_; clear n0_ n1_; (try clear hb); (try clear hb2); (try clear hk); (try clear hi)))
   go_meet
   case rel => exact ⟨_, (true), zj', H', ⟨zt2'⟩, ⟨zn1'⟩, ⟨zy'⟩⟩
 case rest =>
  clear HC2
  try clear p2
  try clear c5
  try clear c6
  try clear c7
  try clear hcz10_0
  try clear hcz10_1
  try clear hcz10_10
  try clear hcz10_2
  try clear hcz10_3
  try clear hcz10_4
  try clear hcz10_5
  try clear hcz10_6
  try clear hcz10_7
  try clear hcz10_8
  try clear hcz10_9
  try clear hcz12_0
  try clear hcz12_1
  try clear hcz12_10
  try clear hcz12_2
  try clear hcz12_3
  try clear hcz12_4
  try clear hcz12_5
  try clear hcz12_6
  try clear hcz12_7
  try clear hcz12_8
  try clear hcz12_9
  try clear hcz13_0
  try clear hcz13_1
  try clear hcz13_10
  try clear hcz13_2
  try clear hcz13_3
  try clear hcz13_4
  try clear hcz13_5
  try clear hcz13_6
  try clear hcz13_7
  try clear hcz13_8
  try clear hcz13_9
  try clear hcz15_0
  try clear hcz15_1
  try clear hcz15_10
  try clear hcz15_2
  try clear hcz15_3
  try clear hcz15_4
  try clear hcz15_5
  try clear hcz15_6
  try clear hcz15_7
  try clear hcz15_8
  try clear hcz15_9
  try clear hcz17_0
  try clear hcz17_1
  try clear hcz17_10
  try clear hcz17_2
  try clear hcz17_3
  try clear hcz17_4
  try clear hcz17_5
  try clear hcz17_6
  try clear hcz17_7
  try clear hcz17_8
  try clear hcz17_9
  try clear hcz8_0
  try clear hcz8_1
  try clear hcz8_10
  try clear hcz8_2
  try clear hcz8_3
  try clear hcz8_4
  try clear hcz8_5
  try clear hcz8_6
  try clear hcz8_7
  try clear hcz8_8
  try clear hcz8_9
  try clear hfz10_0
  try clear hfz10_1
  try clear hfz10_10
  try clear hfz10_2
  try clear hfz10_3
  try clear hfz10_4
  try clear hfz10_5
  try clear hfz10_6
  try clear hfz10_7
  try clear hfz10_8
  try clear hfz10_9
  try clear hfz12_0
  try clear hfz12_1
  try clear hfz12_10
  try clear hfz12_2
  try clear hfz12_3
  try clear hfz12_4
  try clear hfz12_5
  try clear hfz12_6
  try clear hfz12_7
  try clear hfz12_8
  try clear hfz12_9
  try clear hfz13_0
  try clear hfz13_1
  try clear hfz13_10
  try clear hfz13_2
  try clear hfz13_3
  try clear hfz13_4
  try clear hfz13_5
  try clear hfz13_6
  try clear hfz13_7
  try clear hfz13_8
  try clear hfz13_9
  try clear hfz15_0
  try clear hfz15_1
  try clear hfz15_10
  try clear hfz15_2
  try clear hfz15_3
  try clear hfz15_4
  try clear hfz15_5
  try clear hfz15_6
  try clear hfz15_7
  try clear hfz15_8
  try clear hfz15_9
  try clear hfz17_0
  try clear hfz17_1
  try clear hfz17_10
  try clear hfz17_2
  try clear hfz17_3
  try clear hfz17_4
  try clear hfz17_5
  try clear hfz17_6
  try clear hfz17_7
  try clear hfz17_8
  try clear hfz17_9
  try clear hfz8_0
  try clear hfz8_1
  try clear hfz8_10
  try clear hfz8_2
  try clear hfz8_3
  try clear hfz8_4
  try clear hfz8_5
  try clear hfz8_6
  try clear hfz8_7
  try clear hfz8_8
  try clear hfz8_9
  obtain ⟨kq, x23_1, rfl, HA, HJ1, BK241, HB⟩ := hcut
  cases kq with
  | zero => exact absurd HA.out (by simp [spec_flGood.j0])
  | succ kj1 =>
   have H := HA.out; clear HA; simp only [spec_flGood.j0] at H
   by_cases c19 : x23_1 = true
   ·subst c19
    have H1 : (some false) = some r := by rw [if_pos rfl] at H; exact H
    clear H; have H := H1; clear H1; obtain rfl := Option.some.inj H
    go_wp2
    go_ret
    exact ⟨by first | rfl | (simp [errW_none, errW_some] <;> rfl) | (simp [*, errW_none, errW_some] <;> rfl), by repeat (first | (with_reducible first | exact HB.out | apply ba | apply bn | apply below_drew1 | refine below_set ?_ GE241.out) | exact HB.out)⟩
   ·replace c19 := Bool.eq_false_iff.mpr c19
    subst c19
    have H1 : (spec_flGood.l0 kj1 l0_6 (l0_6.length : Int) 0 l0_0 l0_1 l0_2 a0_3 a0_4 l0_5 l0_6 l0_7 a0_8 a0_9 a0_10) = some r := by rw [if_neg (show ¬ (false = true) by decide)] at H; exact H
    clear H; have H := H1; clear H1; have H' := Aside0.mk H; clear H; have hcz20_0 : wc.cell? ⟨gb241, 0, none⟩ = some (.slice A0_0 l0_0.length c0_0) := (blk_cell BK241.out 0).trans rfl; have hcz20_1 : wc.cell? ⟨gb241, 1, none⟩ = some (.slice A0_1 l0_1.length c0_1) := (blk_cell BK241.out 1).trans rfl; have hcz20_2 : wc.cell? ⟨gb241, 2, none⟩ = some (.slice A0_2 l0_2.length c0_2) := (blk_cell BK241.out 2).trans rfl; have hcz20_3 : wc.cell? ⟨gb241, 3, none⟩ = some (.int .i64 a0_3) := (blk_cell BK241.out 3).trans rfl; have hcz20_4 : wc.cell? ⟨gb241, 4, none⟩ = some (.int .i64 a0_4) := (blk_cell BK241.out 4).trans rfl; have hcz20_5 : wc.cell? ⟨gb241, 5, none⟩ = some (.slice A0_5 l0_5.length c0_5) := (blk_cell BK241.out 5).trans rfl; have hcz20_6 : wc.cell? ⟨gb241, 6, none⟩ = some (.slice A0_6 l0_6.length c0_6) := (blk_cell BK241.out 6).trans rfl; have hcz20_7 : wc.cell? ⟨gb241, 7, none⟩ = some (.slice A0_7 l0_7.length c0_7) := (blk_cell BK241.out 7).trans rfl; have hcz20_8 : wc.cell? ⟨gb241, 8, none⟩ = some (.int .i64 a0_8) := (blk_cell BK241.out 8).trans rfl; have hcz20_9 : wc.cell? ⟨gb241, 9, none⟩ = some (.int .i64 a0_9) := (blk_cell BK241.out 9).trans rfl; have hcz20_10 : wc.cell? ⟨gb241, 10, none⟩ = some (.int .i64 a0_10) := (blk_cell BK241.out 10).trans rfl; have hfz20_0 := blk_frozen BK241.out 0; have hfz20_1 := blk_frozen BK241.out 1; have hfz20_2 := blk_frozen BK241.out 2; have hfz20_3 := blk_frozen BK241.out 3; have hfz20_4 := blk_frozen BK241.out 4; have hfz20_5 := blk_frozen BK241.out 5
    have hfz20_6 := blk_frozen BK241.out 6; have hfz20_7 := blk_frozen BK241.out 7; have hfz20_8 := blk_frozen BK241.out 8; have hfz20_9 := blk_frozen BK241.out 9; have hfz20_10 := blk_frozen BK241.out 10
    go_wp2
    go_loopg [27] kj1 (fun kq v27 w' => ∃ (x27_2 : Int), v27 = .int .i64 x27_2 ∧ Aside0 (spec_flGood.l0 kq l0_6 (l0_6.length : Int) x27_2 l0_0 l0_1 l0_2 a0_3 a0_4 l0_5 l0_6 l0_7 a0_8 a0_9 a0_10 = some r) ∧ Aside0 (kq ≤ kj1) ∧ Aside0 (w'.heap[gb241]? = some (.cells #[(.slice A0_0 l0_0.length c0_0), (.slice A0_1 l0_1.length c0_1), (.slice A0_2 l0_2.length c0_2), .int .i64 a0_3, .int .i64 a0_4, (.slice A0_5 l0_5.length c0_5), (.slice A0_6 l0_6.length c0_6), (.slice A0_7 l0_7.length c0_7), .int .i64 a0_8, .int .i64 a0_9, .int .i64 a0_10] 44 (0, 0))) ∧ Aside0 (Below w.heap.size w w'))
    case atStart => exact ⟨(0), zj', H', ⟨Nat.le_refl _⟩, ⟨zn1'⟩, ⟨zy'⟩⟩
    case round =>
     clear H'; (try clear c1); (try clear p2); (try clear c5); (try clear c6); (try clear c7); (try clear c19); (try clear hcz10_0); (try clear hcz10_1); (try clear hcz10_10); (try clear hcz10_2); (try clear hcz10_3); (try clear hcz10_4); (try clear hcz10_5); (try clear hcz10_6); (try clear hcz10_7); (try clear hcz10_8); (try clear hcz10_9); (try clear hcz12_0); (try clear hcz12_1); (try clear hcz12_10); (try clear hcz12_2); (try clear hcz12_3); (try clear hcz12_4); (try clear hcz12_5); (try clear hcz12_6); (try clear hcz12_7); (try clear hcz12_8); (try clear hcz12_9); (try clear hcz13_0); (try clear hcz13_1); (try clear hcz13_10); (try clear hcz13_2); (try clear hcz13_3); (try clear hcz13_4); (try clear hcz13_5); (try clear hcz13_6); (try clear hcz13_7); (try clear hcz13_8); (try clear hcz13_9); (try clear hcz15_0); (try clear hcz15_1); (try clear hcz15_10); (try clear hcz15_2); (try clear hcz15_3); (try clear hcz15_4); (try clear hcz15_5); (try clear hcz15_6); (try clear hcz15_7); (try clear hcz15_8); (try clear hcz15_9); (try clear hcz17_0); (try clear hcz17_1); (try clear hcz17_10); (try clear hcz17_2); (try clear hcz17_3); (try clear hcz17_4); (try clear hcz17_5); (try clear hcz17_6); (try clear hcz17_7); (try clear hcz17_8); (try clear hcz17_9); (try clear hcz20_0); (try clear hcz20_1); (try clear hcz20_10); (try clear hcz20_2); (try clear hcz20_3); (try clear hcz20_4); (try clear hcz20_5); (try clear hcz20_6); (try clear hcz20_7); (try clear hcz20_8); (try clear hcz20_9); (try clear hcz8_0)
     (try clear hcz8_1); (try clear hcz8_10); (try clear hcz8_2); (try clear hcz8_3); (try clear hcz8_4); (try clear hcz8_5); (try clear hcz8_6); (try clear hcz8_7); (try clear hcz8_8); (try clear hcz8_9); (try clear hfz10_0); (try clear hfz10_1); (try clear hfz10_10); (try clear hfz10_2); (try clear hfz10_3); (try clear hfz10_4); (try clear hfz10_5); (try clear hfz10_6); (try clear hfz10_7); (try clear hfz10_8); (try clear hfz10_9); (try clear hfz12_0); (try clear hfz12_1); (try clear hfz12_10); (try clear hfz12_2); (try clear hfz12_3); (try clear hfz12_4); (try clear hfz12_5); (try clear hfz12_6); (try clear hfz12_7); (try clear hfz12_8); (try clear hfz12_9); (try clear hfz13_0); (try clear hfz13_1); (try clear hfz13_10); (try clear hfz13_2); (try clear hfz13_3); (try clear hfz13_4); (try clear hfz13_5); (try clear hfz13_6); (try clear hfz13_7); (try clear hfz13_8); (try clear hfz13_9); (try clear hfz15_0); (try clear hfz15_1); (try clear hfz15_10); (try clear hfz15_2); (try clear hfz15_3); (try clear hfz15_4); (try clear hfz15_5); (try clear hfz15_6); (try clear hfz15_7); (try clear hfz15_8); (try clear hfz15_9); (try clear hfz17_0); (try clear hfz17_1); (try clear hfz17_10); (try clear hfz17_2); (try clear hfz17_3); (try clear hfz17_4); (try clear hfz17_5); (try clear hfz17_6); (try clear hfz17_7); (try clear hfz17_8); (try clear hfz17_9); (try clear hfz20_0); (try clear hfz20_1); (try clear hfz20_10); (try clear hfz20_2); (try clear hfz20_3); (try clear hfz20_4); (try clear hfz20_5)
     (try clear hfz20_6); (try clear hfz20_7); (try clear hfz20_8); (try clear hfz20_9); (try clear hfz8_0); (try clear hfz8_1); (try clear hfz8_10); (try clear hfz8_2); (try clear hfz8_3); (try clear hfz8_4); (try clear hfz8_5); (try clear hfz8_6); (try clear hfz8_7); (try clear hfz8_8); (try clear hfz8_9); (try clear p2); obtain ⟨x27_2, rfl, HA, HK2, BK241, HB⟩ := hrel
     cases gk with
     | zero => exact absurd HA.out (by simp [spec_flGood.l0])
     | succ k2 =>
      have H := HA.out; clear HA; simp only [spec_flGood.l0] at H
      by_cases c21 : x27_2 < (l0_6.length : Int)
      ·rw [if_pos c21] at H
       have c21b0 : decide (x27_2 < (l0_6.length : Int)) = true := decide_eq_true c21; clear c21
       by_cases c22 : 0 ≤ x27_2
       ·rw [if_pos c22] at H
        have c22b0 : decide (0 ≤ x27_2) = true := decide_eq_true c22; clear c22
        by_cases c23 : x27_2 < (l0_6.length : Int)
        ·rw [if_pos c23] at H
         have c23b0 : decide (x27_2 < (l0_6.length : Int)) = true := decide_eq_true c23; clear c23; replace H := Option.bind_eq_some_iff.mp H; obtain ⟨t245, A240, H⟩ := H; replace H : (if t245 = true then (spec_flGood.l0 k2 l0_6 (l0_6.length : Int) (wrap64 (x27_2 + 1)) l0_0 l0_1 l0_2 a0_3 a0_4 l0_5 l0_6 l0_7 a0_8 a0_9 a0_10) else (some false)) = some r := H; have A24 := Aside0.mk A240; clear A240
         by_cases c25 : t245 = true
         ·subst c25
          have H1 : (spec_flGood.l0 k2 l0_6 (l0_6.length : Int) (wrap64 (x27_2 + 1)) l0_0 l0_1 l0_2 a0_3 a0_4 l0_5 l0_6 l0_7 a0_8 a0_9 a0_10) = some r := by rw [if_pos rfl] at H; exact H
          clear H; have H := H1; clear H1; have H' := Aside0.mk H; clear H; have p244 : 0 ≤ (x27_2 : Int) := odt; have q244 : x27_2 < (l0_6.length : Int) := odt; obtain ⟨ad244, A244_0, c244_0, e244, hx244_0, hl244_0, hi244_0⟩ := at_L2 HR0_6.out x27_2 p244 q244; cases e244
          try replace hx244_0 := (HB.out.cell (World.block_lt_of_cell? w _ hx244_0)).trans hx244_0
          have HR244_0 := Aside0.mk hi244_0; have HC244_0 := Aside0.mk hl244_0; clear hi244_0 hl244_0; replace p244 := eq_true p244; replace q244 := eq_true q244; have hcz26_0 : wr.cell? ⟨gb241, 0, none⟩ = some (.slice A0_0 l0_0.length c0_0) := (blk_cell BK241.out 0).trans rfl; have hcz26_1 : wr.cell? ⟨gb241, 1, none⟩ = some (.slice A0_1 l0_1.length c0_1) := (blk_cell BK241.out 1).trans rfl; have hcz26_2 : wr.cell? ⟨gb241, 2, none⟩ = some (.slice A0_2 l0_2.length c0_2) := (blk_cell BK241.out 2).trans rfl; have hcz26_3 : wr.cell? ⟨gb241, 3, none⟩ = some (.int .i64 a0_3) := (blk_cell BK241.out 3).trans rfl; have hcz26_4 : wr.cell? ⟨gb241, 4, none⟩ = some (.int .i64 a0_4) := (blk_cell BK241.out 4).trans rfl; have hcz26_5 : wr.cell? ⟨gb241, 5, none⟩ = some (.slice A0_5 l0_5.length c0_5) := (blk_cell BK241.out 5).trans rfl; have hcz26_6 : wr.cell? ⟨gb241, 6, none⟩ = some (.slice (some ad244) l0_6.length c0_6) := (blk_cell BK241.out 6).trans rfl; have hcz26_7 : wr.cell? ⟨gb241, 7, none⟩ = some (.slice A0_7 l0_7.length c0_7) := (blk_cell BK241.out 7).trans rfl; have hcz26_8 : wr.cell? ⟨gb241, 8, none⟩ = some (.int .i64 a0_8) := (blk_cell BK241.out 8).trans rfl; have hcz26_9 : wr.cell? ⟨gb241, 9, none⟩ = some (.int .i64 a0_9) := (blk_cell BK241.out 9).trans rfl; have hcz26_10 : wr.cell? ⟨gb241, 10, none⟩ = some (.int .i64 a0_10) := (blk_cell BK241.out 10).trans rfl; have hfz26_0 := blk_frozen BK241.out 0; have hfz26_1 := blk_frozen BK241.out 1; have hfz26_2 := blk_frozen BK241.out 2; have hfz26_3 := blk_frozen BK241.out 3
          have hfz26_4 := blk_frozen BK241.out 4; have hfz26_5 := blk_frozen BK241.out 5; have hfz26_6 := blk_frozen BK241.out 6; have hfz26_7 := blk_frozen BK241.out 7; have hfz26_8 := blk_frozen BK241.out 8; have hfz26_9 := blk_frozen BK241.out 9; have hfz26_10 := blk_frozen BK241.out 10
          go_wp2_with (first | ((with_reducible refine gate_callee (f := 102) rfl ?_); refine goesL_ (some 35) rfl rfl Try.func102 (by kernel_rfl) rfl #[.agg #[.slice A0_0 l0_0.length c0_0, .slice A0_1 l0_1.length c0_1, .slice A0_2 l0_2.length c0_2, .int .i64 a0_3, .int .i64 a0_4, .slice A0_5 l0_5.length c0_5, .slice (some ad244) l0_6.length c0_6, .slice A0_7 l0_7.length c0_7, .int .i64 a0_8, .int .i64 a0_9, .int .i64 a0_10], .slice A244_0 (rd_L2 l0_6 x27_2).length c244_0, .int .i64 0, .int .i64 x27_2] rfl zb' ?_; (with_reducible refine (spec_flList.calls k2 _ _ l0_0 _ _ l0_1 _ _ l0_2 a0_3 a0_4 _ _ l0_5 _ _ l0_6 _ _ l0_7 a0_8 a0_9 a0_10 _ _ (rd_L2 l0_6 x27_2) 0 x27_2 true _ ?side1 ?side2 ?side3 ?side4 ?side5 ?side6 ?side7 ?side8 ?side9 ?side10 ?side11 ?side12 ?side13 ?side14 A24.out).mono ?_); (case side1 => exact zc'); (case side2 => exact zg2'); (case side3 => exact ze'); (case side4 => exact zo2'); (case side5 => exact zf'); (case side6 => exact zq2'); (case side7 => exact zk'); (case side8 => exact zh4'); (case side9 => exact zp'); (case side10 => exact zn4'); (case side11 => exact zs'); (case side12 => exact zi4'); (case side13 => exact zy4'); (case side14 => exact HC244_0.out); rintro e w27 ⟨rfl, hb⟩; refine ⟨_, rfl, ?_⟩; have n0_ := am (blk_below (g := gb241) (o := o14') zn1' hb); have n1_ := am (below_step zy' hb); clear BK241; clear HB; have BK241 := n0_; have HB := n1_; clear n0_ n1_; (try clear hb); (try clear hb2); (try clear hk); (try clear hi)))
          go_roundg k2
          case measure => have := HJ1.out; have := HK2.out; omega
          case rel => exact ⟨(wrap64 (x27_2 + 1)), zj', H', ⟨by have := HJ1.out; have := HK2.out; omega⟩, ⟨zn1'⟩, ⟨zy'⟩⟩
         ·replace c25 := Bool.eq_false_iff.mpr c25
          subst c25
          have H1 : (some false) = some r := by rw [if_neg (show ¬ (false = true) by decide)] at H; exact H
          clear H; have H := H1; clear H1; obtain rfl := Option.some.inj H; have p244 : 0 ≤ (x27_2 : Int) := odt; have q244 : x27_2 < (l0_6.length : Int) := odt; obtain ⟨ad244, A244_0, c244_0, e244, hx244_0, hl244_0, hi244_0⟩ := at_L2 HR0_6.out x27_2 p244 q244; cases e244
          try replace hx244_0 := (HB.out.cell (World.block_lt_of_cell? w _ hx244_0)).trans hx244_0
          have HR244_0 := Aside0.mk hi244_0; have HC244_0 := Aside0.mk hl244_0; clear hi244_0 hl244_0; replace p244 := eq_true p244; replace q244 := eq_true q244; have hcz28_0 : wr.cell? ⟨gb241, 0, none⟩ = some (.slice A0_0 l0_0.length c0_0) := (blk_cell BK241.out 0).trans rfl; have hcz28_1 : wr.cell? ⟨gb241, 1, none⟩ = some (.slice A0_1 l0_1.length c0_1) := (blk_cell BK241.out 1).trans rfl; have hcz28_2 : wr.cell? ⟨gb241, 2, none⟩ = some (.slice A0_2 l0_2.length c0_2) := (blk_cell BK241.out 2).trans rfl; have hcz28_3 : wr.cell? ⟨gb241, 3, none⟩ = some (.int .i64 a0_3) := (blk_cell BK241.out 3).trans rfl; have hcz28_4 : wr.cell? ⟨gb241, 4, none⟩ = some (.int .i64 a0_4) := (blk_cell BK241.out 4).trans rfl; have hcz28_5 : wr.cell? ⟨gb241, 5, none⟩ = some (.slice A0_5 l0_5.length c0_5) := (blk_cell BK241.out 5).trans rfl; have hcz28_6 : wr.cell? ⟨gb241, 6, none⟩ = some (.slice (some ad244) l0_6.length c0_6) := (blk_cell BK241.out 6).trans rfl; have hcz28_7 : wr.cell? ⟨gb241, 7, none⟩ = some (.slice A0_7 l0_7.length c0_7) := (blk_cell BK241.out 7).trans rfl; have hcz28_8 : wr.cell? ⟨gb241, 8, none⟩ = some (.int .i64 a0_8) := (blk_cell BK241.out 8).trans rfl; have hcz28_9 : wr.cell? ⟨gb241, 9, none⟩ = some (.int .i64 a0_9) := (blk_cell BK241.out 9).trans rfl; have hcz28_10 : wr.cell? ⟨gb241, 10, none⟩ = some (.int .i64 a0_10) := (blk_cell BK241.out 10).trans rfl; have hfz28_0 := blk_frozen BK241.out 0; have hfz28_1 := blk_frozen BK241.out 1; have hfz28_2 := blk_frozen BK241.out 2; have hfz28_3 := blk_frozen BK241.out 3
          have hfz28_4 := blk_frozen BK241.out 4; have hfz28_5 := blk_frozen BK241.out 5; have hfz28_6 := blk_frozen BK241.out 6; have hfz28_7 := blk_frozen BK241.out 7; have hfz28_8 := blk_frozen BK241.out 8; have hfz28_9 := blk_frozen BK241.out 9; have hfz28_10 := blk_frozen BK241.out 10
          go_wp2_with (first | ((with_reducible refine gate_callee (f := 102) rfl ?_); refine goesL_ (some 35) rfl rfl Try.func102 (by kernel_rfl) rfl #[.agg #[.slice A0_0 l0_0.length c0_0, .slice A0_1 l0_1.length c0_1, .slice A0_2 l0_2.length c0_2, .int .i64 a0_3, .int .i64 a0_4, .slice A0_5 l0_5.length c0_5, .slice (some ad244) l0_6.length c0_6, .slice A0_7 l0_7.length c0_7, .int .i64 a0_8, .int .i64 a0_9, .int .i64 a0_10], .slice A244_0 (rd_L2 l0_6 x27_2).length c244_0, .int .i64 0, .int .i64 x27_2] rfl zb' ?_; (with_reducible refine (spec_flList.calls k2 _ _ l0_0 _ _ l0_1 _ _ l0_2 a0_3 a0_4 _ _ l0_5 _ _ l0_6 _ _ l0_7 a0_8 a0_9 a0_10 _ _ (rd_L2 l0_6 x27_2) 0 x27_2 false _ ?side1 ?side2 ?side3 ?side4 ?side5 ?side6 ?side7 ?side8 ?side9 ?side10 ?side11 ?side12 ?side13 ?side14 A24.out).mono ?_); (case side1 => exact zc'); (case side2 => exact zg2'); (case side3 => exact ze'); (case side4 => exact zo2'); (case side5 => exact zf'); (case side6 => exact zq2'); (case side7 => exact zk'); (case side8 => exact zh4'); (case side9 => exact zp'); (case side10 => exact zn4'); (case side11 => exact zs'); (case side12 => exact zi4'); (case side13 => exact zy4'); (case side14 => exact HC244_0.out); rintro e w29 ⟨rfl, hb⟩; refine ⟨_, rfl, ?_⟩; have n0_ := am (blk_below (g := gb241) (o := o14') zn1' hb); have n1_ := am (below_step zy' hb); clear BK241; clear HB; have BK241 := n0_; have HB := n1_; clear n0_ n1_; (try clear hb); (try clear hb2); (try clear hk); (try clear hi)))
          go_ret
          exact ⟨by first | rfl | (simp [errW_none, errW_some] <;> rfl) | (simp [*, errW_none, errW_some] <;> rfl), by repeat (first | (with_reducible first | exact HB.out | apply ba | apply bn | apply below_drew1 | refine below_set ?_ GE241.out) | exact HB.out)⟩
        ·rw [if_neg c23] at H
         exact absurd H (by simp)
       ·rw [if_neg c22] at H
        exact absurd H (by simp)
      ·rw [if_neg c21] at H
       have c21b0 : decide (x27_2 < (l0_6.length : Int)) = false := decide_eq_false c21; clear c21; replace H := Option.bind_eq_some_iff.mp H; obtain ⟨t246, A300, H⟩ := H; replace H : (if t246 = true then ((spec_l1In.f a0_8 0 100000).bind fun t247 => (if t247 = true then ((spec_l1In.f a0_9 0 100000).bind fun t248 => (if t248 = true then ((spec_l1In.f a0_10 0 a0_8).bind fun t249 => (some t249)) else (some false))) else (some false))) else (some false)) = some r := H; have A30 := Aside0.mk A300; clear A300
       by_cases c31 : t246 = true
       ·subst c31
        have H1 : ((spec_l1In.f a0_8 0 100000).bind fun t247 => (if t247 = true then ((spec_l1In.f a0_9 0 100000).bind fun t248 => (if t248 = true then ((spec_l1In.f a0_10 0 a0_8).bind fun t249 => (some t249)) else (some false))) else (some false))) = some r := by rw [if_pos rfl] at H; exact H
        clear H; have H := H1; clear H1; replace H := Option.bind_eq_some_iff.mp H; obtain ⟨t247, A320, H⟩ := H; replace H : (if t247 = true then ((spec_l1In.f a0_9 0 100000).bind fun t248 => (if t248 = true then ((spec_l1In.f a0_10 0 a0_8).bind fun t249 => (some t249)) else (some false))) else (some false)) = some r := H; have A32 := Aside0.mk A320; clear A320
        by_cases c33 : t247 = true
        ·subst c33
         have H1 : ((spec_l1In.f a0_9 0 100000).bind fun t248 => (if t248 = true then ((spec_l1In.f a0_10 0 a0_8).bind fun t249 => (some t249)) else (some false))) = some r := by rw [if_pos rfl] at H; exact H
         clear H; have H := H1; clear H1; replace H := Option.bind_eq_some_iff.mp H; obtain ⟨t248, A340, H⟩ := H; replace H : (if t248 = true then ((spec_l1In.f a0_10 0 a0_8).bind fun t249 => (some t249)) else (some false)) = some r := H; have A34 := Aside0.mk A340; clear A340
         by_cases c35 : t248 = true
         ·subst c35
          have H1 : ((spec_l1In.f a0_10 0 a0_8).bind fun t249 => (some t249)) = some r := by rw [if_pos rfl] at H; exact H
          clear H; have H := H1; clear H1; replace H := Option.bind_eq_some_iff.mp H; obtain ⟨t249, A360, H⟩ := H; replace H : (some t249) = some r := H; have A36 := Aside0.mk A360; clear A360; obtain rfl := Option.some.inj H; have hcz37_0 : wr.cell? ⟨gb241, 0, none⟩ = some (.slice A0_0 l0_0.length c0_0) := (blk_cell BK241.out 0).trans rfl; have hcz37_1 : wr.cell? ⟨gb241, 1, none⟩ = some (.slice A0_1 l0_1.length c0_1) := (blk_cell BK241.out 1).trans rfl; have hcz37_2 : wr.cell? ⟨gb241, 2, none⟩ = some (.slice A0_2 l0_2.length c0_2) := (blk_cell BK241.out 2).trans rfl; have hcz37_3 : wr.cell? ⟨gb241, 3, none⟩ = some (.int .i64 a0_3) := (blk_cell BK241.out 3).trans rfl; have hcz37_4 : wr.cell? ⟨gb241, 4, none⟩ = some (.int .i64 a0_4) := (blk_cell BK241.out 4).trans rfl; have hcz37_5 : wr.cell? ⟨gb241, 5, none⟩ = some (.slice A0_5 l0_5.length c0_5) := (blk_cell BK241.out 5).trans rfl; have hcz37_6 : wr.cell? ⟨gb241, 6, none⟩ = some (.slice A0_6 l0_6.length c0_6) := (blk_cell BK241.out 6).trans rfl; have hcz37_7 : wr.cell? ⟨gb241, 7, none⟩ = some (.slice A0_7 l0_7.length c0_7) := (blk_cell BK241.out 7).trans rfl; have hcz37_8 : wr.cell? ⟨gb241, 8, none⟩ = some (.int .i64 a0_8) := (blk_cell BK241.out 8).trans rfl; have hcz37_9 : wr.cell? ⟨gb241, 9, none⟩ = some (.int .i64 a0_9) := (blk_cell BK241.out 9).trans rfl; have hcz37_10 : wr.cell? ⟨gb241, 10, none⟩ = some (.int .i64 a0_10) := (blk_cell BK241.out 10).trans rfl; have hfz37_0 := blk_frozen BK241.out 0; have hfz37_1 := blk_frozen BK241.out 1
          have hfz37_2 := blk_frozen BK241.out 2; have hfz37_3 := blk_frozen BK241.out 3; have hfz37_4 := blk_frozen BK241.out 4; have hfz37_5 := blk_frozen BK241.out 5; have hfz37_6 := blk_frozen BK241.out 6; have hfz37_7 := blk_frozen BK241.out 7; have hfz37_8 := blk_frozen BK241.out 8; have hfz37_9 := blk_frozen BK241.out 9; have hfz37_10 := blk_frozen BK241.out 10
          go_wp2_with (first | ((with_reducible refine gate_callee (f := 102) rfl ?_); refine goesL_ (some 41) rfl rfl Try.func102 (by kernel_rfl) rfl #[.agg #[.slice A0_0 l0_0.length c0_0, .slice A0_1 l0_1.length c0_1, .slice A0_2 l0_2.length c0_2, .int .i64 a0_3, .int .i64 a0_4, .slice A0_5 l0_5.length c0_5, .slice A0_6 l0_6.length c0_6, .slice A0_7 l0_7.length c0_7, .int .i64 a0_8, .int .i64 a0_9, .int .i64 a0_10], .slice A0_7 l0_7.length c0_7, .int .i64 3, .int .i64 (-1)] rfl zb' ?_; (with_reducible refine (spec_flList.calls k2 _ _ l0_0 _ _ l0_1 _ _ l0_2 a0_3 a0_4 _ _ l0_5 _ _ l0_6 _ _ l0_7 a0_8 a0_9 a0_10 _ _ l0_7 3 (-1) true _ ?side1 ?side2 ?side3 ?side4 ?side5 ?side6 ?side7 ?side8 ?side9 ?side10 ?side11 ?side12 ?side13 ?side14 A30.out).mono ?_); (case side1 => exact zc'); (case side2 => exact zg2'); (case side3 => exact ze'); (case side4 => exact zo2'); (case side5 => exact zf'); (case side6 => exact zq2'); (case side7 => exact zk'); (case side8 => exact zh4'); (case side9 => exact zp'); (case side10 => exact zn4'); (case side11 => exact zs'); (case side12 => exact zi4'); (case side13 => exact zs'); (case side14 => exact zi4'); rintro e w38 ⟨rfl, hb⟩; refine ⟨_, rfl, ?_⟩; have n0_ := am (blk_below (g := gb241) (o := o0') zn1' hb); have n1_ := am (below_step zy' hb); clear BK241; clear HB; have BK241 := n0_; have HB := n1_; clear n0_ n1_; (try clear hb); (try clear hb2); (try clear hk); (try clear hi); have hcz39_0 : w38.cell? ⟨gb241, 0, none⟩ = some (.slice A0_0 l0_0.length c0_0) := (blk_cell BK241.out 0).trans rfl; have hcz39_1 : w38.cell? ⟨gb241, 1, none⟩ = some (.slice A0_1 l0_1.length c0_1) := (blk_cell BK241.out 1).trans rfl; have hcz39_2 : w38.cell? ⟨gb241, 2, none⟩ = some (.slice A0_2 l0_2.length c0_2) := (blk_cell BK241.out 2).trans rfl; have hcz39_3 : w38.cell? ⟨gb241, 3, none⟩ = some (.int .i64 a0_3) := (blk_cell BK241.out 3).trans rfl; have hcz39_4 : w38.cell? ⟨gb241, 4, none⟩ = some (.int .i64 a0_4) := (blk_cell BK241.out 4).trans rfl; have hcz39_5 : w38.cell? ⟨gb241, 5, none⟩ = some (.slice A0_5 l0_5.length c0_5) := (blk_cell BK241.out 5).trans rfl; have hcz39_6 : w38.cell? ⟨gb241, 6, none⟩ = some (.slice A0_6 l0_6.length c0_6) := (blk_cell BK241.out 6).trans rfl; have hcz39_7 : w38.cell? ⟨gb241, 7, none⟩ = some (.slice A0_7 l0_7.length c0_7) := (blk_cell BK241.out 7).trans rfl; have hcz39_8 : w38.cell? ⟨gb241, 8, none⟩ = some (.int .i64 a0_8) := (blk_cell BK241.out 8).trans rfl; have hcz39_9 : w38.cell? ⟨gb241, 9, none⟩ = some (.int .i64 a0_9) := (blk_cell BK241.out 9).trans rfl; have hcz39_10 : w38.cell? ⟨gb241, 10, none⟩ = some (.int .i64 a0_10) := (blk_cell BK241.out 10).trans rfl; have hfz39_0 := blk_frozen BK241.out 0; have hfz39_1 := blk_frozen BK241.out 1; have hfz39_2 := blk_frozen BK241.out 2; have hfz39_3 := blk_frozen BK241.out 3; have hfz39_4 := blk_frozen BK241.out 4; have hfz39_5 := blk_frozen BK241.out 5; have hfz39_6 := blk_frozen BK241.out 6; have hfz39_7 := blk_frozen BK241.out 7; have hfz39_8 := blk_frozen BK241.out 8; have hfz39_9 := blk_frozen BK241.out 9; have hfz39_10 := blk_frozen BK241.out 10) | (go_at_call 65; (with_reducible refine (spec_l1In.calls a0_8 0 100000 true _ A32.out).mono ?_); rintro e w' ⟨rfl, ⟨nd, rfl⟩⟩) | (go_at_call 65; (with_reducible refine (spec_l1In.calls a0_9 0 100000 true _ A34.out).mono ?_); rintro e w' ⟨rfl, ⟨nd, rfl⟩⟩) | (go_at_call 65; (with_reducible refine (spec_l1In.calls a0_10 0 a0_8 t249 _ A36.out).mono ?_); rintro e w' ⟨rfl, ⟨nd, rfl⟩⟩))
          go_ret
          exact ⟨by first | rfl | (simp [errW_none, errW_some] <;> rfl) | (simp [*, errW_none, errW_some] <;> rfl), by repeat (first | (with_reducible first | exact HB.out | apply ba | apply bn | apply below_drew1 | refine below_set ?_ GE241.out) | exact HB.out)⟩
         ·replace c35 := Bool.eq_false_iff.mpr c35
          subst c35
          have H1 : (some false) = some r := by rw [if_neg (show ¬ (false = true) by decide)] at H; exact H
          clear H; have H := H1; clear H1; obtain rfl := Option.some.inj H; have hcz40_0 : wr.cell? ⟨gb241, 0, none⟩ = some (.slice A0_0 l0_0.length c0_0) := (blk_cell BK241.out 0).trans rfl; have hcz40_1 : wr.cell? ⟨gb241, 1, none⟩ = some (.slice A0_1 l0_1.length c0_1) := (blk_cell BK241.out 1).trans rfl; have hcz40_2 : wr.cell? ⟨gb241, 2, none⟩ = some (.slice A0_2 l0_2.length c0_2) := (blk_cell BK241.out 2).trans rfl; have hcz40_3 : wr.cell? ⟨gb241, 3, none⟩ = some (.int .i64 a0_3) := (blk_cell BK241.out 3).trans rfl; have hcz40_4 : wr.cell? ⟨gb241, 4, none⟩ = some (.int .i64 a0_4) := (blk_cell BK241.out 4).trans rfl; have hcz40_5 : wr.cell? ⟨gb241, 5, none⟩ = some (.slice A0_5 l0_5.length c0_5) := (blk_cell BK241.out 5).trans rfl; have hcz40_6 : wr.cell? ⟨gb241, 6, none⟩ = some (.slice A0_6 l0_6.length c0_6) := (blk_cell BK241.out 6).trans rfl; have hcz40_7 : wr.cell? ⟨gb241, 7, none⟩ = some (.slice A0_7 l0_7.length c0_7) := (blk_cell BK241.out 7).trans rfl; have hcz40_8 : wr.cell? ⟨gb241, 8, none⟩ = some (.int .i64 a0_8) := (blk_cell BK241.out 8).trans rfl; have hcz40_9 : wr.cell? ⟨gb241, 9, none⟩ = some (.int .i64 a0_9) := (blk_cell BK241.out 9).trans rfl; have hcz40_10 : wr.cell? ⟨gb241, 10, none⟩ = some (.int .i64 a0_10) := (blk_cell BK241.out 10).trans rfl; have hfz40_0 := blk_frozen BK241.out 0; have hfz40_1 := blk_frozen BK241.out 1; have hfz40_2 := blk_frozen BK241.out 2; have hfz40_3 := blk_frozen BK241.out 3; have hfz40_4 := blk_frozen BK241.out 4; have hfz40_5 := blk_frozen BK241.out 5
          have hfz40_6 := blk_frozen BK241.out 6; have hfz40_7 := blk_frozen BK241.out 7; have hfz40_8 := blk_frozen BK241.out 8; have hfz40_9 := blk_frozen BK241.out 9; have hfz40_10 := blk_frozen BK241.out 10
          go_wp2_with (first | ((with_reducible refine gate_callee (f := 102) rfl ?_); refine goesL_ (some 41) rfl rfl Try.func102 (by kernel_rfl) rfl #[.agg #[.slice A0_0 l0_0.length c0_0, .slice A0_1 l0_1.length c0_1, .slice A0_2 l0_2.length c0_2, .int .i64 a0_3, .int .i64 a0_4, .slice A0_5 l0_5.length c0_5, .slice A0_6 l0_6.length c0_6, .slice A0_7 l0_7.length c0_7, .int .i64 a0_8, .int .i64 a0_9, .int .i64 a0_10], .slice A0_7 l0_7.length c0_7, .int .i64 3, .int .i64 (-1)] rfl zb' ?_; (with_reducible refine (spec_flList.calls k2 _ _ l0_0 _ _ l0_1 _ _ l0_2 a0_3 a0_4 _ _ l0_5 _ _ l0_6 _ _ l0_7 a0_8 a0_9 a0_10 _ _ l0_7 3 (-1) true _ ?side1 ?side2 ?side3 ?side4 ?side5 ?side6 ?side7 ?side8 ?side9 ?side10 ?side11 ?side12 ?side13 ?side14 A30.out).mono ?_); (case side1 => exact zc'); (case side2 => exact zg2'); (case side3 => exact ze'); (case side4 => exact zo2'); (case side5 => exact zf'); (case side6 => exact zq2'); (case side7 => exact zk'); (case side8 => exact zh4'); (case side9 => exact zp'); (case side10 => exact zn4'); (case side11 => exact zs'); (case side12 => exact zi4'); (case side13 => exact zs'); (case side14 => exact zi4'); rintro e w41 ⟨rfl, hb⟩; refine ⟨_, rfl, ?_⟩; have n0_ := am (blk_below (g := gb241) (o := o0') zn1' hb); have n1_ := am (below_step zy' hb); clear BK241; clear HB; have BK241 := n0_; have HB := n1_; clear n0_ n1_; (try clear hb); (try clear hb2); (try clear hk); (try clear hi); have hcz42_0 : w41.cell? ⟨gb241, 0, none⟩ = some (.slice A0_0 l0_0.length c0_0) := (blk_cell BK241.out 0).trans rfl; have hcz42_1 : w41.cell? ⟨gb241, 1, none⟩ = some (.slice A0_1 l0_1.length c0_1) := (blk_cell BK241.out 1).trans rfl; have hcz42_2 : w41.cell? ⟨gb241, 2, none⟩ = some (.slice A0_2 l0_2.length c0_2) := (blk_cell BK241.out 2).trans rfl; have hcz42_3 : w41.cell? ⟨gb241, 3, none⟩ = some (.int .i64 a0_3) := (blk_cell BK241.out 3).trans rfl; have hcz42_4 : w41.cell? ⟨gb241, 4, none⟩ = some (.int .i64 a0_4) := (blk_cell BK241.out 4).trans rfl; have hcz42_5 : w41.cell? ⟨gb241, 5, none⟩ = some (.slice A0_5 l0_5.length c0_5) := (blk_cell BK241.out 5).trans rfl; have hcz42_6 : w41.cell? ⟨gb241, 6, none⟩ = some (.slice A0_6 l0_6.length c0_6) := (blk_cell BK241.out 6).trans rfl; have hcz42_7 : w41.cell? ⟨gb241, 7, none⟩ = some (.slice A0_7 l0_7.length c0_7) := (blk_cell BK241.out 7).trans rfl; have hcz42_8 : w41.cell? ⟨gb241, 8, none⟩ = some (.int .i64 a0_8) := (blk_cell BK241.out 8).trans rfl; have hcz42_9 : w41.cell? ⟨gb241, 9, none⟩ = some (.int .i64 a0_9) := (blk_cell BK241.out 9).trans rfl; have hcz42_10 : w41.cell? ⟨gb241, 10, none⟩ = some (.int .i64 a0_10) := (blk_cell BK241.out 10).trans rfl; have hfz42_0 := blk_frozen BK241.out 0; have hfz42_1 := blk_frozen BK241.out 1; have hfz42_2 := blk_frozen BK241.out 2; have hfz42_3 := blk_frozen BK241.out 3; have hfz42_4 := blk_frozen BK241.out 4; have hfz42_5 := blk_frozen BK241.out 5; have hfz42_6 := blk_frozen BK241.out 6; have hfz42_7 := blk_frozen BK241.out 7; have hfz42_8 := blk_frozen BK241.out 8; have hfz42_9 := blk_frozen BK241.out 9; have hfz42_10 := blk_frozen BK241.out 10) | (go_at_call 65; (with_reducible refine (spec_l1In.calls a0_8 0 100000 true _ A32.out).mono ?_); rintro e w' ⟨rfl, ⟨nd, rfl⟩⟩) | (go_at_call 65; (with_reducible refine (spec_l1In.calls a0_9 0 100000 false _ A34.out).mono ?_); rintro e w' ⟨rfl, ⟨nd, rfl⟩⟩))
          go_ret
          exact ⟨by first | rfl | (simp [errW_none, errW_some] <;> rfl) | (simp [*, errW_none, errW_some] <;> rfl), by repeat (first | (with_reducible first | exact HB.out | apply ba | apply bn | apply below_drew1 | refine below_set ?_ GE241.out) | exact HB.out)⟩
        ·replace c33 := Bool.eq_false_iff.mpr c33
         subst c33
         have H1 : (some false) = some r := by rw [if_neg (show ¬ (false = true) by decide)] at H; exact H
         clear H; have H := H1; clear H1; obtain rfl := Option.some.inj H; have hcz43_0 : wr.cell? ⟨gb241, 0, none⟩ = some (.slice A0_0 l0_0.length c0_0) := (blk_cell BK241.out 0).trans rfl; have hcz43_1 : wr.cell? ⟨gb241, 1, none⟩ = some (.slice A0_1 l0_1.length c0_1) := (blk_cell BK241.out 1).trans rfl; have hcz43_2 : wr.cell? ⟨gb241, 2, none⟩ = some (.slice A0_2 l0_2.length c0_2) := (blk_cell BK241.out 2).trans rfl; have hcz43_3 : wr.cell? ⟨gb241, 3, none⟩ = some (.int .i64 a0_3) := (blk_cell BK241.out 3).trans rfl; have hcz43_4 : wr.cell? ⟨gb241, 4, none⟩ = some (.int .i64 a0_4) := (blk_cell BK241.out 4).trans rfl; have hcz43_5 : wr.cell? ⟨gb241, 5, none⟩ = some (.slice A0_5 l0_5.length c0_5) := (blk_cell BK241.out 5).trans rfl; have hcz43_6 : wr.cell? ⟨gb241, 6, none⟩ = some (.slice A0_6 l0_6.length c0_6) := (blk_cell BK241.out 6).trans rfl; have hcz43_7 : wr.cell? ⟨gb241, 7, none⟩ = some (.slice A0_7 l0_7.length c0_7) := (blk_cell BK241.out 7).trans rfl; have hcz43_8 : wr.cell? ⟨gb241, 8, none⟩ = some (.int .i64 a0_8) := (blk_cell BK241.out 8).trans rfl; have hcz43_9 : wr.cell? ⟨gb241, 9, none⟩ = some (.int .i64 a0_9) := (blk_cell BK241.out 9).trans rfl; have hcz43_10 : wr.cell? ⟨gb241, 10, none⟩ = some (.int .i64 a0_10) := (blk_cell BK241.out 10).trans rfl; have hfz43_0 := blk_frozen BK241.out 0; have hfz43_1 := blk_frozen BK241.out 1; have hfz43_2 := blk_frozen BK241.out 2; have hfz43_3 := blk_frozen BK241.out 3; have hfz43_4 := blk_frozen BK241.out 4; have hfz43_5 := blk_frozen BK241.out 5
         have hfz43_6 := blk_frozen BK241.out 6; have hfz43_7 := blk_frozen BK241.out 7; have hfz43_8 := blk_frozen BK241.out 8; have hfz43_9 := blk_frozen BK241.out 9; have hfz43_10 := blk_frozen BK241.out 10
         go_wp2_with (first | ((with_reducible refine gate_callee (f := 102) rfl ?_); refine goesL_ (some 41) rfl rfl Try.func102 (by kernel_rfl) rfl #[.agg #[.slice A0_0 l0_0.length c0_0, .slice A0_1 l0_1.length c0_1, .slice A0_2 l0_2.length c0_2, .int .i64 a0_3, .int .i64 a0_4, .slice A0_5 l0_5.length c0_5, .slice A0_6 l0_6.length c0_6, .slice A0_7 l0_7.length c0_7, .int .i64 a0_8, .int .i64 a0_9, .int .i64 a0_10], .slice A0_7 l0_7.length c0_7, .int .i64 3, .int .i64 (-1)] rfl zb' ?_; (with_reducible refine (spec_flList.calls k2 _ _ l0_0 _ _ l0_1 _ _ l0_2 a0_3 a0_4 _ _ l0_5 _ _ l0_6 _ _ l0_7 a0_8 a0_9 a0_10 _ _ l0_7 3 (-1) true _ ?side1 ?side2 ?side3 ?side4 ?side5 ?side6 ?side7 ?side8 ?side9 ?side10 ?side11 ?side12 ?side13 ?side14 A30.out).mono ?_); (case side1 => exact zc'); (case side2 => exact zg2'); (case side3 => exact ze'); (case side4 => exact zo2'); (case side5 => exact zf'); (case side6 => exact zq2'); (case side7 => exact zk'); (case side8 => exact zh4'); (case side9 => exact zp'); (case side10 => exact zn4'); (case side11 => exact zs'); (case side12 => exact zi4'); (case side13 => exact zs'); (case side14 => exact zi4'); rintro e w44 ⟨rfl, hb⟩; refine ⟨_, rfl, ?_⟩; have n0_ := am (blk_below (g := gb241) (o := o0') zn1' hb); have n1_ := am (below_step zy' hb); clear BK241; clear HB; have BK241 := n0_; have HB := n1_; clear n0_ n1_; (try clear hb); (try clear hb2); (try clear hk); (try clear hi); have hcz45_0 : w44.cell? ⟨gb241, 0, none⟩ = some (.slice A0_0 l0_0.length c0_0) := (blk_cell BK241.out 0).trans rfl; have hcz45_1 : w44.cell? ⟨gb241, 1, none⟩ = some (.slice A0_1 l0_1.length c0_1) := (blk_cell BK241.out 1).trans rfl; have hcz45_2 : w44.cell? ⟨gb241, 2, none⟩ = some (.slice A0_2 l0_2.length c0_2) := (blk_cell BK241.out 2).trans rfl; have hcz45_3 : w44.cell? ⟨gb241, 3, none⟩ = some (.int .i64 a0_3) := (blk_cell BK241.out 3).trans rfl; have hcz45_4 : w44.cell? ⟨gb241, 4, none⟩ = some (.int .i64 a0_4) := (blk_cell BK241.out 4).trans rfl; have hcz45_5 : w44.cell? ⟨gb241, 5, none⟩ = some (.slice A0_5 l0_5.length c0_5) := (blk_cell BK241.out 5).trans rfl; have hcz45_6 : w44.cell? ⟨gb241, 6, none⟩ = some (.slice A0_6 l0_6.length c0_6) := (blk_cell BK241.out 6).trans rfl; have hcz45_7 : w44.cell? ⟨gb241, 7, none⟩ = some (.slice A0_7 l0_7.length c0_7) := (blk_cell BK241.out 7).trans rfl; have hcz45_8 : w44.cell? ⟨gb241, 8, none⟩ = some (.int .i64 a0_8) := (blk_cell BK241.out 8).trans rfl; have hcz45_9 : w44.cell? ⟨gb241, 9, none⟩ = some (.int .i64 a0_9) := (blk_cell BK241.out 9).trans rfl; have hcz45_10 : w44.cell? ⟨gb241, 10, none⟩ = some (.int .i64 a0_10) := (blk_cell BK241.out 10).trans rfl; have hfz45_0 := blk_frozen BK241.out 0; have hfz45_1 := blk_frozen BK241.out 1; have hfz45_2 := blk_frozen BK241.out 2; have hfz45_3 := blk_frozen BK241.out 3; have hfz45_4 := blk_frozen BK241.out 4; have hfz45_5 := blk_frozen BK241.out 5; have hfz45_6 := blk_frozen BK241.out 6; have hfz45_7 := blk_frozen BK241.out 7; have hfz45_8 := blk_frozen BK241.out 8; have hfz45_9 := blk_frozen BK241.out 9; have hfz45_10 := blk_frozen BK241.out 10) | (go_at_call 65; (with_reducible refine (spec_l1In.calls a0_8 0 100000 false _ A32.out).mono ?_); rintro e w' ⟨rfl, ⟨nd, rfl⟩⟩))
         go_ret
         exact ⟨by first | rfl | (simp [errW_none, errW_some] <;> rfl) | (simp [*, errW_none, errW_some] <;> rfl), by repeat (first | (with_reducible first | exact HB.out | apply ba | apply bn | apply below_drew1 | refine below_set ?_ GE241.out) | exact HB.out)⟩
       ·replace c31 := Bool.eq_false_iff.mpr c31
        subst c31
        have H1 : (some false) = some r := by rw [if_neg (show ¬ (false = true) by decide)] at H; exact H
        clear H; have H := H1; clear H1; obtain rfl := Option.some.inj H; have hcz46_0 : wr.cell? ⟨gb241, 0, none⟩ = some (.slice A0_0 l0_0.length c0_0) := (blk_cell BK241.out 0).trans rfl; have hcz46_1 : wr.cell? ⟨gb241, 1, none⟩ = some (.slice A0_1 l0_1.length c0_1) := (blk_cell BK241.out 1).trans rfl; have hcz46_2 : wr.cell? ⟨gb241, 2, none⟩ = some (.slice A0_2 l0_2.length c0_2) := (blk_cell BK241.out 2).trans rfl; have hcz46_3 : wr.cell? ⟨gb241, 3, none⟩ = some (.int .i64 a0_3) := (blk_cell BK241.out 3).trans rfl; have hcz46_4 : wr.cell? ⟨gb241, 4, none⟩ = some (.int .i64 a0_4) := (blk_cell BK241.out 4).trans rfl; have hcz46_5 : wr.cell? ⟨gb241, 5, none⟩ = some (.slice A0_5 l0_5.length c0_5) := (blk_cell BK241.out 5).trans rfl; have hcz46_6 : wr.cell? ⟨gb241, 6, none⟩ = some (.slice A0_6 l0_6.length c0_6) := (blk_cell BK241.out 6).trans rfl; have hcz46_7 : wr.cell? ⟨gb241, 7, none⟩ = some (.slice A0_7 l0_7.length c0_7) := (blk_cell BK241.out 7).trans rfl; have hcz46_8 : wr.cell? ⟨gb241, 8, none⟩ = some (.int .i64 a0_8) := (blk_cell BK241.out 8).trans rfl; have hcz46_9 : wr.cell? ⟨gb241, 9, none⟩ = some (.int .i64 a0_9) := (blk_cell BK241.out 9).trans rfl; have hcz46_10 : wr.cell? ⟨gb241, 10, none⟩ = some (.int .i64 a0_10) := (blk_cell BK241.out 10).trans rfl; have hfz46_0 := blk_frozen BK241.out 0; have hfz46_1 := blk_frozen BK241.out 1; have hfz46_2 := blk_frozen BK241.out 2; have hfz46_3 := blk_frozen BK241.out 3; have hfz46_4 := blk_frozen BK241.out 4; have hfz46_5 := blk_frozen BK241.out 5
        have hfz46_6 := blk_frozen BK241.out 6; have hfz46_7 := blk_frozen BK241.out 7; have hfz46_8 := blk_frozen BK241.out 8; have hfz46_9 := blk_frozen BK241.out 9; have hfz46_10 := blk_frozen BK241.out 10
        go_wp2_with (first | ((with_reducible refine gate_callee (f := 102) rfl ?_); refine goesL_ (some 41) rfl rfl Try.func102 (by kernel_rfl) rfl #[.agg #[.slice A0_0 l0_0.length c0_0, .slice A0_1 l0_1.length c0_1, .slice A0_2 l0_2.length c0_2, .int .i64 a0_3, .int .i64 a0_4, .slice A0_5 l0_5.length c0_5, .slice A0_6 l0_6.length c0_6, .slice A0_7 l0_7.length c0_7, .int .i64 a0_8, .int .i64 a0_9, .int .i64 a0_10], .slice A0_7 l0_7.length c0_7, .int .i64 3, .int .i64 (-1)] rfl zb' ?_; (with_reducible refine (spec_flList.calls k2 _ _ l0_0 _ _ l0_1 _ _ l0_2 a0_3 a0_4 _ _ l0_5 _ _ l0_6 _ _ l0_7 a0_8 a0_9 a0_10 _ _ l0_7 3 (-1) false _ ?side1 ?side2 ?side3 ?side4 ?side5 ?side6 ?side7 ?side8 ?side9 ?side10 ?side11 ?side12 ?side13 ?side14 A30.out).mono ?_); (case side1 => exact zc'); (case side2 => exact zg2'); (case side3 => exact ze'); (case side4 => exact zo2'); (case side5 => exact zf'); (case side6 => exact zq2'); (case side7 => exact zk'); (case side8 => exact zh4'); (case side9 => exact zp'); (case side10 => exact zn4'); (case side11 => exact zs'); (case side12 => exact zi4'); (case side13 => exact zs'); (case side14 => exact zi4'); rintro e w47 ⟨rfl, hb⟩; refine ⟨_, rfl, ?_⟩; have n0_ := am (blk_below (g := gb241) (o := o0') zn1' hb); have n1_ := am (below_step zy' hb); clear BK241; clear HB; have BK241 := n0_; have HB := n1_; clear n0_ n1_; (try clear hb); (try clear hb2); (try clear hk); (try clear hi)))
        go_ret
        exact ⟨by first | rfl | (simp [errW_none, errW_some] <;> rfl) | (simp [*, errW_none, errW_some] <;> rfl), by repeat (first | (with_reducible first | exact HB.out | apply ba | apply bn | apply below_drew1 | refine below_set ?_ GE241.out) | exact HB.out)⟩

end Go.Proofs.Ytikbfnbfbpnmjaa.PFnExactCountStates
