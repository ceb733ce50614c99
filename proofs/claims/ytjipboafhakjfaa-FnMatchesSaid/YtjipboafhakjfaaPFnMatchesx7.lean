/- Text written by a program for this claim: contracts of the functions of one law. -/
import Derived.Test.YtjipboafhakjfaaPFnMatchesx0
import Derived.Test.YtjipboafhakjfaaPFnMatchesx6
namespace Go.Proofs.Ytjipboafhakjfaa.PFnMatches
open Go.RowKit Go.Proofs.YtjipboafhakjfaaW.PrintWords Go.Proofs.YtjipboafhakjfaaW.PrintLast Go.Proofs.YtjipboafhakjfaaW.PrintMore
attribute [local go_sem] max2_int min2_int max_two min_two max_three min_three max_four min_four   -- for this text's walks alone
set_option linter.unusedVariables false
set_option linter.unusedSimpArgs false
open ShortPFnMatches0

/-! ### spec_l1Cur_costs: function 74 -/
mutual
def spec_l1Cur_costs.l0 : Nat → List (List Int) → Int → List Int → Int → Int → Option ((List (List Int)) × Int × Int)
 | 0, _, _, _, _, _ => none
 | k + 1, x3, x4, x1000, x1001, x1002 => if (x3.length : Int) < x4 then (spec_l1Cur_costs.l1 k x3 x4 ([] : List Int) x1000 x1001 x1002) else ((spec_l1Cur_pick.f x1000 x1001 x1002 (x3.length : Int)).bind fun bt320 => ((spec_l1Cur_pick.f x1000 bt320.2.1 bt320.2.2 24).bind fun bt323 => (if bt323.1 = 0 then (if 0 ≤ bt320.1 then (if bt320.1 < (x3.length : Int) then ((spec_l1Cur_among.f x1000 bt323.2.1 bt323.2.2 (([(-1), 10000, 10001] : List Int))).bind fun bt330 => (if 0 < ((rd_L1 x3 bt320.1).length : Int) then (some ((x3.set (bt320.1 : Int).toNat ((rd_L1 x3 bt320.1).set (0 : Int).toNat bt330.1)), bt330.2.1, bt330.2.2)) else (none))) else (none)) else (none)) else (if bt323.1 = 1 then (if 0 ≤ bt320.1 then (if bt320.1 < (x3.length : Int) then (if (rd_L1 x3 bt320.1).length < 17592186044416 then (some ((x3.set (bt320.1 : Int).toNat ((rd_L1 x3 bt320.1) ++ [1])), bt323.2.1, bt323.2.2)) else (none)) else (none)) else (none)) else (if bt323.1 = 2 then (some (([] : List (List Int)), bt323.2.1, bt323.2.2)) else (some (x3, bt323.2.1, bt323.2.2)))))))
def spec_l1Cur_costs.l1 : Nat → List (List Int) → Int → List Int → List Int → Int → Int → Option ((List (List Int)) × Int × Int)
 | 0, _, _, _, _, _, _ => none
 | k + 1, x3, x4, x5, x1000, x1001, x1002 => if (x5.length : Int) < x4 then ((spec_l1Cur_pick.f x1000 x1001 x1002 900).bind fun bt305 => ((spec_l1Cur_among.f x1000 bt305.2.1 bt305.2.2 (([0, 1, 2, 3, 5, 9, bt305.1] : List Int))).bind fun bt311 => (if x5.length < 17592186044416 then (spec_l1Cur_costs.l1 k x3 x4 (x5 ++ [bt311.1]) x1000 bt311.2.1 bt311.2.2) else (none)))) else (if x3.length < 5864062014805 then (spec_l1Cur_costs.l0 k (x3 ++ [x5]) x4 x1000 x1001 x1002) else (none))
end
def spec_l1Cur_costs.f (k : Nat) (s0_0 : List Int) (s0_1 : Int) (s0_2 : Int) : Option ((List (List Int)) × Int × Int) := (spec_l1Cur_side.f s0_0 s0_1 s0_2).bind fun bt302 => (spec_l1Cur_costs.l0 k ([] : List (List Int)) bt302.1 s0_0 bt302.2.1 bt302.2.2)
def spec_l1Cur_costs.T11 : Bool × List (List Nat × List Nat) := (true, [([], []), ([], []), ([0, 1], [0, 1]), ([2], [2]), ([], []), ([], []), ([4, 5], [4, 5]), ([3, 0, 1, 2, 3, 4, 5, 6], [3]), ([7, 6, 6, 0, 1, 2, 3, 4, 5, 6], [6, 7])])
def spec_l1Cur_costs.B11 : List Nat := [0, 0, 3, 7, 0, 0, 48, 127, 255]
theorem spec_l1Cur_costs.tab11 : rtab .any (opsOf Try.f74 11) = spec_l1Cur_costs.T11 := by kernel_rfl
theorem spec_l1Cur_costs.bits11 : waitsOk spec_l1Cur_costs.T11.2 spec_l1Cur_costs.B11 = true := by kernel_rfl
set_option maxHeartbeats 8000000 in
set_option maxRecDepth 100000 in
theorem spec_l1Cur_costs.calls (k : Nat) (g : Nat) (s0_0 : List Int) (s0_1 : Int) (s0_2 : Int) (r1 : List (List Int)) (r2 : Int) (r3 : Int) (w0 w : World) (hI : IsS69 w0 w g s0_0 s0_1 s0_2) (hB : Below w0.heap.size w0 w) (h : spec_l1Cur_costs.f k s0_0 s0_1 s0_2 = some (r1, r2, r3)) :
  Calls Try.prog 74 #[.pointer (some ⟨g, 0, none⟩)] w fun e w' => ∃ v0_ : Value, e = .returned (v0_) ∧ Kd.S (Kd.slice 3 (Kd.int .i64)) 27 w' w.heap.size (fun _ => True) v0_ r1 ∧ IsS69 w0 w' g s0_0 r2 r3 ∧ Below w0.heap.size w0 w' ∧ KeepBut w w' g none := by
 have HI0 := Aside0.mk hI
 have HK := am (KeepBut.refl w g none)
 have HL := Aside0.mk hB.size
 clear hI
 have HW0 := Aside0.mk hB.size
 have HB := Aside0.mk hB
 clear hB
 have H : ((spec_l1Cur_side.f s0_0 s0_1 s0_2).bind fun bt302 => (spec_l1Cur_costs.l0 k ([] : List (List Int)) bt302.1 s0_0 bt302.2.1 bt302.2.2)) = some (r1, r2, r3) := h
 clear h
 replace H := Option.bind_eq_some_iff.mp H
 obtain ⟨⟨t302, t303, t304⟩, A20, H⟩ := H
 replace H : (spec_l1Cur_costs.l0 k ([] : List (List Int)) t302 s0_0 t303 t304) = some (r1, r2, r3) := H
 have A2 := Aside0.mk A20
 clear A20
 have H' := Aside0.mk H
 clear H
 go_enter Try.func74, Try.ntmps74
 go_wp2_with (first | ((with_reducible refine gate_callee (f := 77) rfl ?_); refine goesL_ (some 8) rfl rfl Try.func77 (by kernel_rfl) rfl #[.pointer (some ⟨g, 0, none⟩)] rfl zb' ?_; (with_reducible refine (spec_l1Cur_side.calls g s0_0 s0_1 s0_2 t302 t303 t304 w0 _ ?side1 ?side2 A2.out).mono ?_); (case side1 => exact zd'); (case side2 => exact ze'); rintro e w3 ⟨rfl, hi, hb, hk⟩; refine ⟨_, rfl, ?_⟩; have n0_ := am (KeepBut.trans zc' hk (.inl rfl)); have n1_ := am (hb); have n2_ := am (hi); clear HK; clear HB; clear HI0; have HK := n0_; have HB := n1_; have HI0 := n2_; clear n0_ n1_ n2_; (try clear hb); (try clear hb2); (try clear hk); (try clear hi)))
 go_loopg [3] k (fun kq v3 w' => ∃ (x3_1 : List (List Int)) (x1001_1 : Int) (x1002_1 : Int), Aside0 (spec_l1Cur_costs.l0 kq x3_1 t302 s0_0 x1001_1 x1002_1 = some (r1, r2, r3)) ∧ Aside0 (kq ≤ k) ∧ Aside0 (Kd.S (Kd.slice 3 (Kd.int .i64)) 27 w' w.heap.size (fun _ => True) v3 x3_1) ∧ Aside0 (IsS69 w0 w' g s0_0 x1001_1 x1002_1) ∧ Aside0 (KeepBut w w' g none) ∧ Aside0 (Below w0.heap.size w0 w'))
 case atStart => exact ⟨(([] : List (List Int))), (t303), (t304), H', ⟨Nat.le_refl _⟩, ⟨zd2'⟩, ⟨zd'⟩, ⟨zc'⟩, ⟨ze'⟩⟩
 case round =>
  clear H'
  try clear p2
  obtain ⟨x3_1, x1001_1, x1002_1, HA, HK1, HO_3, HI0, HK, HB⟩ := hrel
  cases gk with
  | zero => exact absurd HA.out (by simp [spec_l1Cur_costs.l0])
  | succ k1 =>
   have H := HA.out; clear HA; simp only [spec_l1Cur_costs.l0] at H
   by_cases c4 : (x3_1.length : Int) < t302
   ·rw [if_pos c4] at H
    have c4b0 : decide ((x3_1.length : Int) < t302) = true := decide_eq_true c4; clear c4; have H' := Aside0.mk H; clear H; obtain ⟨Ao5, co5, eo5⟩ := Kd.S_slice HO_3.out; subst eo5
    go_wp2
    go_loopg [5] k1 (fun kq v5 w' => ∃ (x5_2 : List Int) (x1001_2 : Int) (x1002_2 : Int), Aside0 (spec_l1Cur_costs.l1 kq x3_1 t302 x5_2 s0_0 x1001_2 x1002_2 = some (r1, r2, r3)) ∧ Aside0 (kq ≤ k1) ∧ Aside0 (Kd.S (Kd.slice 3 (Kd.int .i64)) 27 w' w.heap.size (fun k_ => some k_ ≠ (v5 : Value).ownBlock) (.slice Ao5 x3_1.length co5) x3_1) ∧ Aside0 (Kd.R (Kd.int .i64) 3 w' w.heap.size (fun _ => True) v5 x5_2) ∧ Aside0 (IsS69 w0 w' g s0_0 x1001_2 x1002_2) ∧ Aside0 (KeepBut w w' g none) ∧ Aside0 (Below w0.heap.size w0 w'))
    case atStart => exact ⟨(([] : List Int)), (x1001_1), (x1002_1), H', ⟨Nat.le_refl _⟩, ⟨by (with_reducible repeat (first | apply Kd.S_alloc | apply Kd.S_drewN | apply Kd.S_drew)); exact Kd.S_mono HO_3.out (fun _ hk => (by simp [Value.ownBlock]))⟩, ⟨zm1'⟩, ⟨zd'⟩, ⟨zc'⟩, ⟨ze'⟩⟩
    case round =>
     clear H'; (try clear p2); (try clear c4); (try clear c4b0); (try clear p2); obtain ⟨x5_2, x1001_2, x1002_2, HA, HK2, HO_3, HO_5, HI0, HK, HB⟩ := hrel
     cases gk with
     | zero => exact absurd HA.out (by simp [spec_l1Cur_costs.l1])
     | succ k2 =>
      have H := HA.out; clear HA; simp only [spec_l1Cur_costs.l1] at H
      by_cases c6 : (x5_2.length : Int) < t302
      ·rw [if_pos c6] at H
       have c6b0 : decide ((x5_2.length : Int) < t302) = true := decide_eq_true c6; clear c6; replace H := Option.bind_eq_some_iff.mp H; obtain ⟨⟨t305, t306, t307⟩, A70, H⟩ := H; replace H : ((spec_l1Cur_among.f s0_0 t306 t307 (([0, 1, 2, 3, 5, 9, t305] : List Int))).bind fun bt311 => (if x5_2.length < 17592186044416 then (spec_l1Cur_costs.l1 k2 x3_1 t302 (x5_2 ++ [bt311.1]) s0_0 bt311.2.1 bt311.2.2) else (none))) = some (r1, r2, r3) := H; have A7 := Aside0.mk A70; clear A70
       obtain ⟨y308, hy308⟩ : ∃ y_ : List Int, y_ = (([0, 1, 2, 3, 5, 9, t305] : List Int)) := ⟨_, rfl⟩
       replace H : ((spec_l1Cur_among.f s0_0 t306 t307 y308).bind fun bt311 => (if x5_2.length < 17592186044416 then (spec_l1Cur_costs.l1 k2 x3_1 t302 (x5_2 ++ [bt311.1]) s0_0 bt311.2.1 bt311.2.2) else (none))) = some (r1, r2, r3) := by first | (rw [hy308]; with_reducible exact H) | (have H2_ := (Option.bind_some _ _).symm.trans H; rw [hy308]; with_reducible exact H2_) | (have H2_ := (Option.bind_some _ _).symm.trans H; with_reducible exact H2_) | with_reducible exact H | (rw [hy308]; exact H) | exact H
       have Ny308 := Aside0.mk hy308; clear hy308; replace H := Option.bind_eq_some_iff.mp H; obtain ⟨⟨t311, t312, t313⟩, A80, H⟩ := H; replace H : (if x5_2.length < 17592186044416 then (spec_l1Cur_costs.l1 k2 x3_1 t302 (x5_2 ++ [t311]) s0_0 t312 t313) else (none)) = some (r1, r2, r3) := H; have A8 := Aside0.mk A80; clear A80
       by_cases c9 : x5_2.length < 17592186044416
       ·rw [if_pos c9] at H
        have LMc9 := Aside0.mk c9; clear c9
        obtain ⟨y314, hy314⟩ : ∃ y_ : List Int, y_ = (x5_2 ++ [t311]) := ⟨_, rfl⟩
        replace H : (spec_l1Cur_costs.l1 k2 x3_1 t302 y314 s0_0 t312 t313) = some (r1, r2, r3) := by first | (rw [hy314]; with_reducible exact H) | (have H2_ := (Option.bind_some _ _).symm.trans H; rw [hy314]; with_reducible exact H2_) | (have H2_ := (Option.bind_some _ _).symm.trans H; with_reducible exact H2_) | with_reducible exact H | (rw [hy314]; exact H) | exact H
        have Ny314 := Aside0.mk hy314; clear hy314; have H' := Aside0.mk H; clear H; obtain ⟨Ao10, co10, eo10⟩ := Kd.R_slice HO_5.out; subst eo10
        go_wp2_with (first | ((with_reducible refine gate_callee (f := 79) rfl ?_); refine goesL_ (some 20) rfl rfl Try.func79 (by kernel_rfl) rfl #[.pointer (some ⟨g, 0, none⟩), .int .i64 900] rfl zb' ?_; (with_reducible refine (spec_l1Cur_pick.calls g s0_0 x1001_2 x1002_2 900 t305 t306 t307 w0 _ ?side1 ?side2 A7.out).mono ?_); (case side1 => exact zd'); (case side2 => exact ze'); rintro e w11 ⟨rfl, hi, hb, hk⟩; refine ⟨_, rfl, ?_⟩; have n0_ := am (Kd.S_mono (Kd.S_keep (IsS69.apartS (show IsS69 w0 _ g s0_0 x1001_2 x1002_2 from by repeat (first | (with_reducible first | exact HI0.out | apply IsS69.alloc | apply IsS69.drewN | apply IsS69.drew | apply IsS69.set_1 | apply IsS69.set_2) | exact HI0.out)) zp' (by decide)) hk (fun _ h => h.2)) (fun _ h => h.1)); have n1_ := am (Kd.R_mono (Kd.R_keep (IsS69.apart (show IsS69 w0 _ g s0_0 x1001_2 x1002_2 from by repeat (first | (with_reducible first | exact HI0.out | apply IsS69.alloc | apply IsS69.drewN | apply IsS69.drew | apply IsS69.set_1 | apply IsS69.set_2) | exact HI0.out)) zf1' (by decide)) hk (fun _ h => h.2)) (fun _ h => h.1)); have n2_ := am (KeepBut.trans zc' hk (.inl rfl)); have n3_ := am (hb); have n4_ := am (hi); clear HO_3; clear HO_5; clear HK; clear HB; clear HI0; have HO_3 := n0_; have HO_5 := n1_; have HK := n2_; have HB := n3_; have HI0 := n4_; clear n0_ n1_ n2_ n3_ n4_; (try clear hb); (try clear hb2); (try clear hk); (try clear hi)) | ((with_reducible refine gate_dst (N := 21) rfl ?_); refine Kd.R_lit (Kd.int .i64) _ 3 ?hg (N := 21) ?hd (xs := ([0, 1, 2, 3, 5, 9, t305] : List Int)) (inner := [.int .i64 0, .int .i64 1, .int .i64 2, .int .i64 3, .int .i64 5, .int .i64 9, .int .i64 t305]) (ok := fun _ => True) (okp := fun _ => True) ?hr ?hp (fun _ hk => hk) trivial (Below.refl _ _) (Nat.le_refl _) (by simp) ?_; (case hd => rfl); (case hg => rfl); (case hr => exact zw'); (case hp => exact (Reps.one (show Kd.M (Kd.int .i64) _ _ _ 0 [.int .i64 0] from rfl) (Reps.one (show Kd.M (Kd.int .i64) _ _ _ 1 [.int .i64 1] from rfl) (Reps.one (show Kd.M (Kd.int .i64) _ _ _ 2 [.int .i64 2] from rfl) (Reps.one (show Kd.M (Kd.int .i64) _ _ _ 3 [.int .i64 3] from rfl) (Reps.one (show Kd.M (Kd.int .i64) _ _ _ 5 [.int .i64 5] from rfl) (Reps.one (show Kd.M (Kd.int .i64) _ _ _ 9 [.int .i64 9] from rfl) (Reps.one (show Kd.M (Kd.int .i64) _ _ _ t305 [.int .i64 t305] from rfl) (Reps.none _ _))))))))); intro v309 w12 ho13 hb hg_ hnew_; clear hg_ hnew_; (first | rw [← Ny308.out] at ho13 | (simp only [Int.reduceToNat] at ho13; rw [← Ny308.out] at ho13)); have n0_ := am (Kd.S_elder' zp' (Kd.R_base ho13) hb); have n1_ := am (Kd.R_elder' zf1' (Kd.R_base ho13) hb); have n2_ := am (Kd.R_lower (Kd.R_new' ho13 (Kd.R_lt zf1')) (keep_size (w := w) (g := g) (row := none) zc')); have n3_ := am (IsS69.below zd' hb); have n4_ := am (KeepBut.trans zc' (KeepBut.of_below hb g none) (.inl rfl)); have n5_ := am (below_step ze' hb); clear HO_3; clear HO_5; clear HI0; clear HK; clear HB; have HO_3 := n0_; have HO_5 := n1_; have HO310 := n2_; have HI0 := n3_; have HK := n4_; have HB := n5_; clear n0_ n1_ n2_ n3_ n4_ n5_; clear hb ho13; obtain ⟨Ao14, co14, eo14⟩ := Kd.R_slice HO310.out; subst eo14) | ((with_reducible refine gate_callee (f := 76) rfl ?_); refine goesL_ (some 22) rfl rfl Try.func76 (by kernel_rfl) rfl #[.pointer (some ⟨g, 0, none⟩), .slice Ao14 y308.length co14] rfl zb' ?_; (with_reducible refine (spec_l1Cur_among.calls g s0_0 t306 t307 _ _ y308 t311 t312 t313 w0 _ ?side1 ?side2 ?side3 ?side4 ?side5 A8.out).mono ?_); (case side1 => exact zd'); (case side2 => exact ze'); (case side3 => repeat (first | exact (Kd.R_reads' HO310.out).2.2 | (with_reducible refine Kd.C_alloc ?_ _) | (with_reducible refine Kd.C_drewN ?_ _) | (with_reducible refine Kd.C_drew ?_))); (case side4 => exact (Kd.R_reads' HO310.out).2.1); (case side5 => exact far_slice (IsS69.own_ne HI0.out HO310.out (by decide))); rintro e w15 ⟨rfl, hi, hb, hk⟩; refine ⟨_, rfl, ?_⟩; have n0_ := am (Kd.S_mono (Kd.S_keep (IsS69.apartS (show IsS69 w0 _ g s0_0 t306 t307 from by repeat (first | (with_reducible first | exact HI0.out | apply IsS69.alloc | apply IsS69.drewN | apply IsS69.drew | apply IsS69.set_1 | apply IsS69.set_2) | exact HI0.out)) zp' (by decide)) hk (fun _ h => h.2)) (fun _ h => h.1)); have n1_ := am (Kd.R_mono (Kd.R_keep (IsS69.apart (show IsS69 w0 _ g s0_0 t306 t307 from by repeat (first | (with_reducible first | exact HI0.out | apply IsS69.alloc | apply IsS69.drewN | apply IsS69.drew | apply IsS69.set_1 | apply IsS69.set_2) | exact HI0.out)) zf1' (by decide)) hk (fun _ h => h.2)) (fun _ h => h.1)); have n2_ := am (Kd.R_mono (Kd.R_keep (IsS69.apart (show IsS69 w0 _ g s0_0 t306 t307 from by repeat (first | (with_reducible first | exact HI0.out | apply IsS69.alloc | apply IsS69.drewN | apply IsS69.drew | apply IsS69.set_1 | apply IsS69.set_2) | exact HI0.out)) zo1' (by decide)) hk (fun _ h => h.2)) (fun _ h => h.1)); have n3_ := am (KeepBut.trans zc' hk (.inl rfl)); have n4_ := am (hb); have n5_ := am (hi); clear HO_3; clear HO_5; clear HO310; clear HK; clear HB; clear HI0; have HO_3 := n0_; have HO_5 := n1_; have HO310 := n2_; have HK := n3_; have HB := n4_; have HI0 := n5_; clear n0_ n1_ n2_ n3_ n4_ n5_; (try clear hb); (try clear hb2); (try clear hk); (try clear hi)) | ((with_reducible refine gate_builtin (b := .append) (xs := #[.tmp 17, .tmp 23]) rfl ?_); at_builtin; refine Kd.R_append (Kd.int .i64) w.heap.size rfl (.tmp 17) (.tmp 23) 27 3 (.int .i64 0) 8 rfl Try.underlying27 info3 rfl (by decide) (by omega) (.slice Ao10 x5_2.length co10) x5_2 t311 [.int .i64 t311] (fun k_ => some k_ ≠ (.slice Ao14 y308.length co14 : Value).ownBlock) (fun _ => False) rfl rfl ?aP (fun _ hk => hk.elim) ?aF ?aO (Below.refl _ _) ?aS ?aL ?_; (case aP => exact rfl); (case aF => exact (fun k_ hk => Kd.fresh' (Kd.R_lt zo1') k_ hk)); (case aO => exact (by (with_reducible repeat (first | apply Kd.R_alloc | apply Kd.R_drewN | apply Kd.R_drew)); exact Kd.R_mono HO_5.out (fun _ hk => hk.2))); (case aS => exact zc2'); (case aL => have := LMc9.out; omega); intro v315 w16 ho hb hg hat; rw [← Ny314.out] at ho; have n0_ := am (Kd.S_after (ok := (fun k_ => some k_ ≠ (.slice Ao14 y308.length co14 : Value).ownBlock)) (by (with_reducible repeat (first | apply Kd.S_alloc | apply Kd.S_drewN | apply Kd.S_drew)); exact Kd.S_mono HO_3.out (fun _ hk => ⟨hk.2, hk.1⟩)) hg hat); have n1_ := am (IsS69.grown zd' hg (IsS69.own_ne HI0.out HO_5.out (by decide))); have n2_ := am (Kd.R_after (ok := (fun _ => True)) zo1' hg hat); have n3_ := am (below_weaken ze' HL.out hb); have n4_ := am (KeepBut.trans zc' (KeepBut.of_grown hg g) (Kd.R_base2 HO_5.out)); have n5_ := am (ho); clear HO_3; clear HI0; clear HO310; clear HB; clear HK; clear HO_5; have HO_3 := n0_; have HI0 := n1_; have HO310 := n2_; have HB := n3_; have HK := n4_; have HO316 := n5_; clear n0_ n1_ n2_ n3_ n4_ n5_; clear ho hb hg hat))
        go_roundg k2
        case measure => have := HK1.out; have := HK2.out; omega
        case rel => exact ⟨(y314), (t312), (t313), H', ⟨zg1'⟩, ⟨by (with_reducible repeat (first | apply Kd.S_alloc | apply Kd.S_drewN | apply Kd.S_drew)); exact Kd.S_mono HO_3.out (fun _ hk => hk.2)⟩, ⟨by (with_reducible repeat (first | apply Kd.R_alloc | apply Kd.R_drewN | apply Kd.R_drew)); exact Kd.R_mono HO316.out (fun _ hk => trivial)⟩, ⟨zd'⟩, ⟨zc'⟩, ⟨ze'⟩⟩
       ·rw [if_neg c9] at H
        exact absurd H (by simp)
      ·rw [if_neg c6] at H
       have c6b0 : decide ((x5_2.length : Int) < t302) = false := decide_eq_false c6; clear c6
       by_cases c17 : x3_1.length < 5864062014805
       ·rw [if_pos c17] at H
        have LMc17 := Aside0.mk c17; clear c17
        obtain ⟨y317, hy317⟩ : ∃ y_ : List (List Int), y_ = (x3_1 ++ [x5_2]) := ⟨_, rfl⟩
        replace H : (spec_l1Cur_costs.l0 k2 y317 t302 s0_0 x1001_2 x1002_2) = some (r1, r2, r3) := by first | (rw [hy317]; with_reducible exact H) | (have H2_ := (Option.bind_some _ _).symm.trans H; rw [hy317]; with_reducible exact H2_) | (have H2_ := (Option.bind_some _ _).symm.trans H; with_reducible exact H2_) | with_reducible exact H | (rw [hy317]; exact H) | exact H
        have Ny317 := Aside0.mk hy317; clear hy317; have H' := Aside0.mk H; clear H; obtain ⟨Ao18, co18, eo18⟩ := Kd.R_slice HO_5.out; subst eo18
        go_wp2_with (first | ((with_reducible refine gate_builtin (b := .append) (xs := #[.tmp 25, .tmp 27]) rfl ?_); at_builtin; refine Kd.S_append (Kd.slice 3 (Kd.int .i64)) w.heap.size rfl (.tmp 25) (.tmp 27) 22 27 (.slice none 0 0) 24 rfl Try.underlying22 info27 rfl (by decide) (by omega) (.slice Ao5 x3_1.length co5) x3_1 x5_2 [.slice Ao18 x5_2.length co18] (fun _ => True) (fun k_ => some k_ = (.slice Ao18 x5_2.length co18 : Value).ownBlock) rfl rfl ?aP (fun k_ hk_ => ((Kd.R_mono (ok' := fun k_ => ((fun _ => True)) k_ ∧ some k_ ≠ (.slice Ao5 x3_1.length co5 : Value).ownBlock) (Kd.R_apart' (HO_5.out) (Kd.S_typed HO_3.out) (by decide)) (fun k_ hk => ⟨trivial, hk.2⟩))).1 k_ hk_.symm) ?aF ?aO (Below.refl _ _) ?aS ?aL ?_; (case aP => exact Kd.M_row (Kd.R_mono (Kd.R_tight rfl (Kd.R_mono (ok' := fun k_ => ((fun _ => True)) k_ ∧ some k_ ≠ (.slice Ao5 x3_1.length co5 : Value).ownBlock) (Kd.R_apart' (HO_5.out) (Kd.S_typed HO_3.out) (by decide)) (fun k_ hk => ⟨trivial, hk.2⟩))) (fun _ h_ => h_))); (case aF => exact zg2'); (case aO => exact (by (with_reducible repeat (first | apply Kd.S_alloc | apply Kd.S_drewN | apply Kd.S_drew)); exact Kd.S_mono HO_3.out (fun k_ hk => ⟨trivial, fun e_ => hk e_⟩))); (case aS => exact zc2'); (case aL => have := LMc17.out; omega); intro v318 w19 ho hb hg hat; rw [← Ny317.out] at ho; have n0_ := am (IsS69.grown zd' hg (IsS69.own_neS HI0.out HO_3.out (by decide))); have n1_ := am (below_weaken ze' HL.out hb); have n2_ := am (KeepBut.trans zc' (KeepBut.of_grown hg g) (Kd.S_base2 HO_3.out)); have n3_ := am (ho); clear HI0; clear HB; clear HK; clear HO_3; clear HO_5; have HI0 := n0_; have HB := n1_; have HK := n2_; have HO319 := n3_; clear n0_ n1_ n2_ n3_; clear ho hb hg hat))
        go_roundg k2
        case measure => have := HK1.out; have := HK2.out; omega
        case rel => exact ⟨(y317), (x1001_2), (x1002_2), H', ⟨zg1'⟩, ⟨by (with_reducible repeat (first | apply Kd.S_alloc | apply Kd.S_drewN | apply Kd.S_drew)); exact HO319.out⟩, ⟨zd'⟩, ⟨zc'⟩, ⟨ze'⟩⟩
       ·rw [if_neg c17] at H
        exact absurd H (by simp)
   ·rw [if_neg c4] at H
    have c4b0 : decide ((x3_1.length : Int) < t302) = false := decide_eq_false c4; clear c4; replace H := Option.bind_eq_some_iff.mp H; obtain ⟨⟨t320, t321, t322⟩, A200, H⟩ := H; replace H : ((spec_l1Cur_pick.f s0_0 t321 t322 24).bind fun bt323 => (if bt323.1 = 0 then (if 0 ≤ t320 then (if t320 < (x3_1.length : Int) then ((spec_l1Cur_among.f s0_0 bt323.2.1 bt323.2.2 (([(-1), 10000, 10001] : List Int))).bind fun bt330 => (if 0 < ((rd_L1 x3_1 t320).length : Int) then (some ((x3_1.set (t320 : Int).toNat ((rd_L1 x3_1 t320).set (0 : Int).toNat bt330.1)), bt330.2.1, bt330.2.2)) else (none))) else (none)) else (none)) else (if bt323.1 = 1 then (if 0 ≤ t320 then (if t320 < (x3_1.length : Int) then (if (rd_L1 x3_1 t320).length < 17592186044416 then (some ((x3_1.set (t320 : Int).toNat ((rd_L1 x3_1 t320) ++ [1])), bt323.2.1, bt323.2.2)) else (none)) else (none)) else (none)) else (if bt323.1 = 2 then (some (([] : List (List Int)), bt323.2.1, bt323.2.2)) else (some (x3_1, bt323.2.1, bt323.2.2)))))) = some (r1, r2, r3) := H; have A20 := Aside0.mk A200; clear A200; replace H := Option.bind_eq_some_iff.mp H; obtain ⟨⟨t323, t324, t325⟩, A210, H⟩ := H; replace H : (if t323 = 0 then (if 0 ≤ t320 then (if t320 < (x3_1.length : Int) then ((spec_l1Cur_among.f s0_0 t324 t325 (([(-1), 10000, 10001] : List Int))).bind fun bt330 => (if 0 < ((rd_L1 x3_1 t320).length : Int) then (some ((x3_1.set (t320 : Int).toNat ((rd_L1 x3_1 t320).set (0 : Int).toNat bt330.1)), bt330.2.1, bt330.2.2)) else (none))) else (none)) else (none)) else (if t323 = 1 then (if 0 ≤ t320 then (if t320 < (x3_1.length : Int) then (if (rd_L1 x3_1 t320).length < 17592186044416 then (some ((x3_1.set (t320 : Int).toNat ((rd_L1 x3_1 t320) ++ [1])), t324, t325)) else (none)) else (none)) else (none)) else (if t323 = 2 then (some (([] : List (List Int)), t324, t325)) else (some (x3_1, t324, t325))))) = some (r1, r2, r3) := H
    have A21 := Aside0.mk A210; clear A210
    by_cases c22 : t323 = 0
    ·rw [if_pos c22] at H
     have c22b0 : (t323 == 0) = true := beq_iff_eq.mpr c22; have c22b1 : (t323 != 0) = false := bne_eq_false_iff_eq.mpr c22; clear c22
     by_cases c23 : 0 ≤ t320
     ·rw [if_pos c23] at H
      have c23b0 : decide (0 ≤ t320) = true := decide_eq_true c23; clear c23
      by_cases c24 : t320 < (x3_1.length : Int)
      ·rw [if_pos c24] at H
       have c24b0 : decide (t320 < (x3_1.length : Int)) = true := decide_eq_true c24; clear c24
       obtain ⟨y327, hy327⟩ : ∃ y_ : List Int, y_ = (([(-1), 10000, 10001] : List Int)) := ⟨_, rfl⟩
       replace H : ((spec_l1Cur_among.f s0_0 t324 t325 y327).bind fun bt330 => (if 0 < ((rd_L1 x3_1 t320).length : Int) then (some ((x3_1.set (t320 : Int).toNat ((rd_L1 x3_1 t320).set (0 : Int).toNat bt330.1)), bt330.2.1, bt330.2.2)) else (none))) = some (r1, r2, r3) := by first | (rw [hy327]; with_reducible exact H) | (have H2_ := (Option.bind_some _ _).symm.trans H; rw [hy327]; with_reducible exact H2_) | (have H2_ := (Option.bind_some _ _).symm.trans H; with_reducible exact H2_) | with_reducible exact H | (rw [hy327]; exact H) | exact H
       have Ny327 := Aside0.mk hy327; clear hy327; replace H := Option.bind_eq_some_iff.mp H; obtain ⟨⟨t330, t331, t332⟩, A250, H⟩ := H; replace H : (if 0 < ((rd_L1 x3_1 t320).length : Int) then (some ((x3_1.set (t320 : Int).toNat ((rd_L1 x3_1 t320).set (0 : Int).toNat t330)), t331, t332)) else (none)) = some (r1, r2, r3) := H; have A25 := Aside0.mk A250; clear A250
       by_cases c26 : 0 < ((rd_L1 x3_1 t320).length : Int)
       ·rw [if_pos c26] at H
        have c26b0 : decide (0 < ((rd_L1 x3_1 t320).length : Int)) = true := decide_eq_true c26; have c26b1 : decide (0 < (rd_L1 x3_1 t320).length) = true := decide_eq_true (by omega); clear c26
        obtain ⟨y333, hy333⟩ : ∃ y_ : List Int, y_ = ((rd_L1 x3_1 t320).set (0 : Int).toNat t330) := ⟨_, rfl⟩
        replace H : (some ((x3_1.set (t320 : Int).toNat y333), t331, t332)) = some (r1, r2, r3) := by first | (rw [hy333]; with_reducible exact H) | (have H2_ := (Option.bind_some _ _).symm.trans H; rw [hy333]; with_reducible exact H2_) | (have H2_ := (Option.bind_some _ _).symm.trans H; with_reducible exact H2_) | with_reducible exact H | (rw [hy333]; exact H) | exact H
        have Ny333 := Aside0.mk hy333; clear hy333
        obtain ⟨y335, hy335⟩ : ∃ y_ : List (List Int), y_ = (x3_1.set (t320 : Int).toNat y333) := ⟨_, rfl⟩
        replace H : (some (y335, t331, t332)) = some (r1, r2, r3) := by first | (rw [hy335]; with_reducible exact H) | (have H2_ := (Option.bind_some _ _).symm.trans H; rw [hy335]; with_reducible exact H2_) | (have H2_ := (Option.bind_some _ _).symm.trans H; with_reducible exact H2_) | with_reducible exact H | (rw [hy335]; exact H) | exact H
        have Ny335 := Aside0.mk hy335; clear hy335; simp only [Option.some.injEq, Prod.mk.injEq] at H; obtain ⟨rfl, rfl, rfl⟩ := H; obtain ⟨Ao28, co28, eo28⟩ := Kd.S_slice HO_3.out; subst eo28
        try go_wp2_with (first | ((with_reducible refine gate_callee (f := 79) rfl ?_); refine goesL_ (some 32) rfl rfl Try.func79 (by kernel_rfl) rfl #[.pointer (some ⟨g, 0, none⟩), .int .i64 (x3_1.length : Int)] rfl zb' ?_; (with_reducible refine (spec_l1Cur_pick.calls g s0_0 x1001_1 x1002_1 (x3_1.length : Int) t320 t321 t322 w0 _ ?side1 ?side2 A20.out).mono ?_); (case side1 => exact zd'); (case side2 => exact ze'); rintro e w29 ⟨rfl, hi, hb, hk⟩; refine ⟨_, rfl, ?_⟩; have n0_ := am (Kd.S_mono (Kd.S_keep (IsS69.apartS (show IsS69 w0 _ g s0_0 x1001_1 x1002_1 from by repeat (first | (with_reducible first | exact HI0.out | apply IsS69.alloc | apply IsS69.drewN | apply IsS69.drew | apply IsS69.set_1 | apply IsS69.set_2) | exact HI0.out)) zp' (by decide)) hk (fun _ h => h.2)) (fun _ h => h.1)); have n1_ := am (KeepBut.trans zc' hk (.inl rfl)); have n2_ := am (hb); have n3_ := am (hi); clear HO_3; clear HK; clear HB; clear HI0; have HO_3 := n0_; have HK := n1_; have HB := n2_; have HI0 := n3_; clear n0_ n1_ n2_ n3_; (try clear hb); (try clear hb2); (try clear hk); (try clear hi)) | ((with_reducible refine gate_callee (f := 79) rfl ?_); refine goesL_ (some 34) rfl rfl Try.func79 (by kernel_rfl) rfl #[.pointer (some ⟨g, 0, none⟩), .int .i64 24] rfl zb' ?_; (with_reducible refine (spec_l1Cur_pick.calls g s0_0 t321 t322 24 t323 t324 t325 w0 _ ?side1 ?side2 A21.out).mono ?_); (case side1 => exact zd'); (case side2 => exact ze'); rintro e w30 ⟨rfl, hi, hb, hk⟩; refine ⟨_, rfl, ?_⟩; have n0_ := am (Kd.S_mono (Kd.S_keep (IsS69.apartS (show IsS69 w0 _ g s0_0 t321 t322 from by repeat (first | (with_reducible first | exact HI0.out | apply IsS69.alloc | apply IsS69.drewN | apply IsS69.drew | apply IsS69.set_1 | apply IsS69.set_2) | exact HI0.out)) zp' (by decide)) hk (fun _ h => h.2)) (fun _ h => h.1)); have n1_ := am (KeepBut.trans zc' hk (.inl rfl)); have n2_ := am (hb); have n3_ := am (hi); clear HO_3; clear HK; clear HB; clear HI0; have HO_3 := n0_; have HK := n1_; have HB := n2_; have HI0 := n3_; clear n0_ n1_ n2_ n3_; (try clear hb); (try clear hb2); (try clear hk); (try clear hi)))
        have n0_ := am (Kd.S_drew HO_3.out); have n1_ := am (IsS69.drew HI0.out); have n2_ := am (keep_drew HK.out); have n3_ := am (below_drew1 HB.out); clear HO_3; clear HI0; clear HK; clear HB; have HO_3 := n0_; have HI0 := n1_; have HK := n2_; have HB := n3_; clear n0_ n1_ n2_ n3_; have p326 : 0 ≤ (t320 : Int) := odt; have q326 : t320 < (x3_1.length : Int) := odt; obtain ⟨ad326, A326_0, c326_0, e326, hx326_0, hl326_0, hi326_0⟩ := at_L1 (Kd.S_reads' HO_3.out).2.2 t320 p326 q326; cases e326; obtain ⟨ce326, hce326, hMe326, hcc326⟩ := Kd.S_get HO_3.out [] t320 p326 (by first | exact q326 | exact odt | (have e_ := (Kd.S_reads' HO_3.out).1; omega)); obtain ⟨ve326_0, rfl, ge326_0⟩ := hMe326; have hv326_0 := hcc326 0 _ rfl; rw [Nat.add_zero, show ((Kd.slice 3 (Kd.int .i64))).sz = 1 from rfl, Nat.mul_one] at hv326_0; replace hv326_0 := Option.some.inj (hv326_0.symm.trans hx326_0); rw [hv326_0] at ge326_0; have HL326_0 := am (show Kd.R (Kd.int .i64) 3 _ _ _ _ (rd_L1 x3_1 t320) from ge326_0); clear hv326_0 ge326_0; have HX326_0 := Aside0.mk hx326_0; clear hcc326 hce326; have HR326_0 := Aside0.mk hi326_0; have HC326_0 := Aside0.mk hl326_0; clear hi326_0 hl326_0; replace p326 := eq_true p326; replace q326 := eq_true q326
        refine start_ (n := 9) (S := fun w' => w'.cell? (ad326.add (t320).toNat) = some (.slice A326_0 (rd_L1 x3_1 t320).length c326_0)) (ds := [8]) #[Z,Z,Z,Z,Z,Z,Z,Z,Z] (by kernel_rfl) rfl rfl (hx326_0) (fun hHeld => ?_); refine with_tabW spec_l1Cur_costs.tab11 spec_l1Cur_costs.bits11 (fun HT_ HW_ => ?_)
        generalize w30.drew = w31 at HO_3 HI0 HK HB HL326_0 HR326_0 HX326_0 hx326_0 hHeld ⊢
        refine pure_ (i := 0) (N := some 37) (v := ?_) (a' := ?_) #[Y,Z,Z,Z,Z,Z,Z,Z,Z] rfl rfl (any_of HT_.out (by kernel_rfl)) (fun _ _ _ h => h) (Or.inl ⟨by rfl, ?_⟩) ?_ ?_
        rotate_left
        ·intro w'
         go_simp
         with_reducible rfl
        rotate_left
        ·simp only [Act.put, s1, s2, s3, i64_w, i32_w]
         rfl
        refine pure_ (i := 1) (N := some 38) (v := ?_) (a' := ?_) #[Y,Y,Z,Z,Z,Z,Z,Z,Z] rfl rfl (any_of HT_.out (by kernel_rfl)) (fun _ _ _ h => h) (Or.inl ⟨by rfl, ?_⟩) ?_ ?_
        rotate_left
        ·intro w'
         go_simp
         with_reducible rfl
        rotate_left
        ·simp only [Act.put, s1, s2, s3, i64_w, i32_w]
         rfl
        refine pure_ (i := 2) (N := some 39) (v := ?_) (a' := ?_) #[Y,Y,Y,Z,Z,Z,Z,Z,Z] rfl rfl (any_of HT_.out (by kernel_rfl)) (fun _ _ _ h => h) (Or.inl ⟨by rfl, ?_⟩) ?_ ?_
        rotate_left
        ·intro w'
         go_simp
         with_reducible rfl
        rotate_left
        ·simp only [Act.put, s1, s2, s3, i64_w, i32_w]
         rfl
        refine pure_ (i := 4) (N := some 41) (v := ?_) (a' := ?_) #[Y,Y,Y,Z,Y,Z,Z,Z,Z] rfl rfl (any_of HT_.out (by kernel_rfl)) (fun _ _ _ h => h) (Or.inl ⟨by rfl, ?_⟩) ?_ ?_
        rotate_left
        ·intro w'
         go_simp
         with_reducible rfl
        rotate_left
        ·simp only [Act.put, s1, s2, s3, i64_w, i32_w]
         rfl
        refine take_ (i := 3) (N := some 40) (v := ?_) (a' := ?_) #[Y,Y,Y,Y,Y,Z,Z,Z,Z] rfl rfl (take_ofW HT_.out HW_.out (by kernel_rfl)) (fun _ _ _ h => h) (Or.inl ⟨by rfl, ?_⟩) hHeld ?_ ?_
        rotate_left
        ·intro w' s0
         go_simp
         with_reducible rfl
        rotate_left
        ·simp only [Act.put, s1, s2, s3, i64_w, i32_w]
         rfl
        refine one_ (i := 5) (N := some 42) #[Y,Y,Y,Y,Y,Y,Z,Z,Z] rfl rfl (one_of HT_.out (by kernel_rfl)) (by decide) (fun K hK => ?_)
        refine Kd.R_lit_step (Kd.int .i64) _ 3 ?hg (N := 42) ?hd (xs := ([(-1), 10000, 10001] : List Int)) (inner := [.int .i64 (-1), .int .i64 10000, .int .i64 10001]) (ok := fun _ => True) (okp := fun _ => True) ?hr ?hp (fun _ hk => hk) trivial (Below.refl _ _) (Nat.le_refl _) (by simp) ?_; (case hd => rfl); (case hg => rfl); (case hr => exact zw'); (case hp => exact (Reps.one (show Kd.M (Kd.int .i64) _ _ _ (-1) [.int .i64 (-1)] from rfl) (Reps.one (show Kd.M (Kd.int .i64) _ _ _ 10000 [.int .i64 10000] from rfl) (Reps.one (show Kd.M (Kd.int .i64) _ _ _ 10001 [.int .i64 10001] from rfl) (Reps.none _ _)))))
        intro v328 w32 ho33 hb hg_ hnew_
        have HS0_ := (hb.cell (World.block_lt_of_cell? _ _ (hHeld))).trans (hHeld); clear hg_ hnew_
        (first | rw [← Ny327.out] at ho33 | (simp only [Int.reduceToNat] at ho33; rw [← Ny327.out] at ho33))
        have n0_ := am (Kd.S_elder' zp' (Kd.R_base ho33) hb); have n1_ := am (Kd.R_elder' zn1' (Kd.R_base ho33) hb); have n2_ := am (Kd.R_lower (Kd.R_new' ho33 (Kd.R_lt zn1')) (keep_size (w := w) (g := g) (row := none) zc')); have n3_ := am (IsS69.below zd' hb); have n4_ := am (Kd.C_below (by repeat (first | (with_reducible exact HR326_0.out) | (with_reducible refine Kd.C_alloc ?_ _) | (with_reducible refine Kd.C_drewN ?_ _) | (with_reducible refine Kd.C_drew ?_) | exact HR326_0.out)) hb); have n5_ := am (pw_cell_below hb HX326_0.out); have n6_ := am (KeepBut.trans zc' (KeepBut.of_below hb g none) (.inl rfl)); have n7_ := am (below_step ze' hb); clear HO_3; clear HL326_0; clear HI0; clear HR326_0; clear HX326_0; clear HK; clear HB; have HO_3 := n0_; have HL326_0 := n1_; have HO329 := n2_; have HI0 := n3_; have HR326_0 := n4_; have HX326_0 := n5_; have HK := n6_; have HB := n7_; clear n0_ n1_ n2_ n3_ n4_ n5_ n6_ n7_; clear hb ho33; obtain ⟨Ao34, co34, eo34⟩ := Kd.R_slice HO329.out
        (first | subst eo34 | (injection eo34 with f1_ f2_ f3_; have f4_ := f1_.symm; have f5_ := f3_.symm; clear f1_ f2_ f3_; subst f4_; subst f5_))
        refine hK.out _ _ (HS0_) (fun hHeld => ?_)
        clear hK K
        refine norm_ (a' := ?_) ?_ ?_
        rotate_left
        ·show Act.put _ (some 42) _ = _
         simp only [Act.put, s1, s2, s3, i64_w, i32_w]
         rfl
        refine one_ (i := 6) (N := some 43) #[Y,Y,Y,Y,Y,Y,Y,Z,Z] rfl rfl (one_of HT_.out (by kernel_rfl)) (by decide) (fun K hK => ?_)
        refine goes_ Try.func76 (by kernel_rfl) rfl #[.pointer (some ⟨g, 0, none⟩), .slice Ao34 y327.length co34] (by rfl) rfl rfl zb' ?_
        with_reducible refine (spec_l1Cur_among.calls g s0_0 t324 t325 _ _ y327 t330 t331 t332 w0 _ ?side1 ?side2 ?side3 ?side4 ?side5 A25.out).mono ?_
        (case side1 => exact zd')
        (case side2 => exact ze')
        (case side3 => repeat (first | exact (Kd.R_reads' HO329.out).2.2 | (with_reducible refine Kd.C_alloc ?_ _) | (with_reducible refine Kd.C_drewN ?_ _) | (with_reducible refine Kd.C_drew ?_)))
        (case side4 => exact (Kd.R_reads' HO329.out).2.1)
        (case side5 => exact far_slice (IsS69.own_ne HI0.out HO329.out (by decide)))
        rintro e w35 ⟨rfl, hi, hb, hk⟩
        have HS0_ := keep_cell hk (hHeld) (by first | (rw [add_block]; exact Kd.own_blk (IsS69.own_neS HI0.out HO_3.out (by decide))) | (show (Addr.add _ _).block ≠ _; rw [add_block]; exact Kd.own_blk (IsS69.own_neS HI0.out HO_3.out (by decide))) | exact Kd.own_blk (IsS69.own_neS HI0.out HO_3.out (by decide)))
        refine ⟨_, rfl, ?_⟩
        have n0_ := am (Kd.S_mono (Kd.S_keep (IsS69.apartS (show IsS69 w0 _ g s0_0 t324 t325 from by repeat (first | (with_reducible first | exact HI0.out | apply IsS69.alloc | apply IsS69.drewN | apply IsS69.drew | apply IsS69.set_1 | apply IsS69.set_2) | exact HI0.out)) zp' (by decide)) hk (fun _ h => h.2)) (fun _ h => h.1)); have n1_ := am (Kd.R_mono (Kd.R_keep (IsS69.apart (show IsS69 w0 _ g s0_0 t324 t325 from by repeat (first | (with_reducible first | exact HI0.out | apply IsS69.alloc | apply IsS69.drewN | apply IsS69.drew | apply IsS69.set_1 | apply IsS69.set_2) | exact HI0.out)) zn1' (by decide)) hk (fun _ h => h.2)) (fun _ h => h.1)); have n2_ := am (keep_cell hk HX326_0.out (by first | (rw [add_block]; exact Kd.own_blk (IsS69.own_neS HI0.out HO_3.out (by decide))) | (show (Addr.add _ _).block ≠ _; rw [add_block]; exact Kd.own_blk (IsS69.own_neS HI0.out HO_3.out (by decide))) | exact Kd.own_blk (IsS69.own_neS HI0.out HO_3.out (by decide)) | (dsimp only; exact Kd.own_blk (IsS69.own_neS HI0.out HO_3.out (by decide))))); have n3_ := am (Kd.R_mono (Kd.R_keep (IsS69.apart (show IsS69 w0 _ g s0_0 t324 t325 from by repeat (first | (with_reducible first | exact HI0.out | apply IsS69.alloc | apply IsS69.drewN | apply IsS69.drew | apply IsS69.set_1 | apply IsS69.set_2) | exact HI0.out)) (by (with_reducible repeat (first | apply Kd.R_alloc | apply Kd.R_drewN | apply Kd.R_drew)); exact HO329.out) (by decide)) hk (fun _ h => h.2)) (fun _ h => h.1)); have n4_ := am (KeepBut.trans zc' hk (.inl rfl))
        have n5_ := am (hb); have n6_ := am (hi); clear HO_3; clear HL326_0; clear HX326_0; clear HO329; clear HK; clear HB; clear HI0; have HO_3 := n0_; have HL326_0 := n1_; have HX326_0 := n2_; have HO329 := n3_; have HK := n4_; have HB := n5_; have HI0 := n6_; clear n0_ n1_ n2_ n3_ n4_ n5_ n6_; (try clear hb); (try clear hb2); (try clear hk); (try clear hi); have p27 : 0 ≤ (0 : Int) := (by omega); have q27 : (0 : Int) < (((rd_L1 x3_1 t320).length : Int) : Int) := odt; have qi27 : (0 < (rd_L1 x3_1 t320).length) = True := eq_true (by omega); obtain ⟨go27, co27, eo27, gb27, gl27, cl27, HG27⟩ := Kd.R_form HL326_0.out (by omega)
        (first | cases eo27 | (injection eo27 with ea_ en_ ec_; (first | subst ea_ | (injection ea_ with ea_; subst ea_)); subst ec_; clear en_))
        have GB27 := Aside0.mk gb27; have GG27 := Aside0.mk HG27; clear gb27 gl27 HG27; obtain ⟨hx27_0, hf27_0⟩ := Kd.R_celln 0 HL326_0.out (0 : Int) p27 q27; (try rw [show ((0 : Int)).toNat = 0 from rfl] at hx27_0); (try simp only [Nat.reduceMul, Nat.zero_mul, Nat.zero_add, Nat.reduceAdd] at hx27_0); (try rw [show ((0 : Int)).toNat = 0 from rfl] at hf27_0); (try simp only [Nat.reduceMul, Nat.zero_mul, Nat.zero_add, Nat.reduceAdd] at hf27_0); replace p27 := eq_true p27; replace q27 := eq_true q27; have n_ := am (Kd.S_mono (ok' := (fun k_ => some k_ ≠ (.slice Ao34 y327.length co34 : Value).ownBlock)) HO_3.out (fun k_ hk => hk.2)); clear HO_3; have HO_3 := n_; clear n_; have hq36 : (t320 : Int) < (x3_1.length : Int) := (by have h_ : (t320 : Int) < ((x3_1.length : Int) : Int) := odt; first | exact h_ | (have e_ := (Kd.S_reads' HO_3.out).1; omega) | simpa only [List.length_set, List.length_set] using h_); obtain ⟨oki36, ce36, hcl36, hM36, hcc36, hok36, hbk36⟩ := Kd.S_borrow HO_3.out [] (t320 : Int) odt hq36; obtain ⟨ve36_0, rfl, ge36_0⟩ := hM36; have hv36 := hcc36 0 _ rfl; rw [Nat.add_zero, show ((Kd.slice 3 (Kd.int .i64))).sz = 1 from rfl, Nat.mul_one] at hv36; replace hv36 := Option.some.inj (hv36.symm.trans HX326_0.out); subst hv36; clear hcc36 hcl36; replace ge36_0 := (show Kd.R (Kd.int .i64) 3 _ _ _ _ (rd_L1 x3_1 t320) from ge36_0); have HP36 := Kd.R_putg ge36_0 (0 : Int) t330; have HN0_go27 := am (show g ≠ go27 from by have h_ := IsS69.own_ne HI0.out HL326_0.out (by decide); intro e_; exact h_ (by rw [e_]; rfl))
        rw [← Ny333.out] at HP36; have HS36 := hbk36 HP36.2 (fun k_ e_ => by injection e_ with e_; subst e_; exact ge36_0.1 _ rfl) (x' := y333) (Kd.M_row HP36.1); rw [← Ny335.out] at HS36; have HQ36 := Aside0.mk HS36; clear HP36 HS36 hbk36 hok36
        refine hK.out _ _ (HS0_) (fun hHeld => ?_)
        clear hK K
        refine norm_ (a' := ?_) ?_ ?_
        rotate_left
        ·show Act.put _ (some 43) _ = _
         simp only [Act.put, s1, s2, s3, i64_w, i32_w]
         rfl
        refine pure_ (i := 7) (N := some 44) (v := ?_) (a' := ?_) #[Y,Y,Y,Y,Y,Y,Y,Y,Z] rfl rfl (any_of HT_.out (by kernel_rfl)) (fun _ _ _ h => h) (Or.inl ⟨by rfl, ?_⟩) ?_ ?_
        rotate_left
        ·intro w'
         go_simp
         with_reducible rfl
        rotate_left
        ·simp only [Act.put, s1, s2, s3, i64_w, i32_w]
         rfl
        refine last_ (i := 8) (N := none) #[Y,Y,Y,Y,Y,Y,Y,Y,Y] rfl rfl (one_of HT_.out (by kernel_rfl)) (by decide) (fun K hK => ?_)
        refine skip_ (w1 := ?_) (by rfl) rfl ?_ ?_
        rotate_left
        ·go_simp
         rfl
        refine hK.out _ _ ?_
        clear hK K
        refine done_ (done_of HT_.out (by kernel_rfl)) ?_
        try go_wp2
        go_ret
        exact ⟨_, by first | rfl | (simp [errW_none, errW_some] <;> rfl) | (simp [*, errW_none, errW_some] <;> rfl), by (with_reducible repeat (first | apply Kd.S_alloc | apply Kd.S_drewN | apply Kd.S_drew)); exact Kd.S_mono HQ36.out (fun _ hk => trivial), by repeat (first | (with_reducible first | exact HI0.out | apply IsS69.alloc | apply IsS69.drewN | apply IsS69.drew | apply IsS69.set_1 | apply IsS69.set_2 | refine IsS69.far ?_ HN0_go27.out _) | exact HI0.out), by repeat (first | (with_reducible first | exact HB.out | apply ba | apply bn | apply below_drew1 | refine below_set ?_ (Nat.le_trans HL.out GB27.out) | refine below_set ?_ (IsS69.ge HI0.out)) | exact HB.out), by repeat (first | (with_reducible first | exact HK.out | apply KeepBut.set_ | apply keep_drewN | apply keep_drew | apply keep_alloc | refine keep_far ?_ GB27.out _) | exact HK.out)⟩
       ·rw [if_neg c26] at H
        exact absurd H (by simp)
      ·rw [if_neg c24] at H
       exact absurd H (by simp)
     ·rw [if_neg c23] at H
      exact absurd H (by simp)
    ·rw [if_neg c22] at H
     have c22b0 : (t323 == 0) = false := beq_eq_false_iff_ne.mpr c22; have c22b1 : (t323 != 0) = true := bne_iff_ne.mpr c22
     by_cases c38 : t323 = 1
     ·rw [if_pos c38] at H
      have c38b0 : (t323 == 1) = true := beq_iff_eq.mpr c38; have c38b1 : (t323 != 1) = false := bne_eq_false_iff_eq.mpr c38; clear c38
      by_cases c39 : 0 ≤ t320
      ·rw [if_pos c39] at H
       have c39b0 : decide (0 ≤ t320) = true := decide_eq_true c39; clear c39
       by_cases c40 : t320 < (x3_1.length : Int)
       ·rw [if_pos c40] at H
        have c40b0 : decide (t320 < (x3_1.length : Int)) = true := decide_eq_true c40; clear c40
        by_cases c41 : (rd_L1 x3_1 t320).length < 17592186044416
        ·rw [if_pos c41] at H
         have LMc41 := Aside0.mk c41; clear c41
         obtain ⟨y337, hy337⟩ : ∃ y_ : List Int, y_ = ((rd_L1 x3_1 t320) ++ [1]) := ⟨_, rfl⟩
         replace H : (some ((x3_1.set (t320 : Int).toNat y337), t324, t325)) = some (r1, r2, r3) := by first | (rw [hy337]; with_reducible exact H) | (have H2_ := (Option.bind_some _ _).symm.trans H; rw [hy337]; with_reducible exact H2_) | (have H2_ := (Option.bind_some _ _).symm.trans H; with_reducible exact H2_) | with_reducible exact H | (rw [hy337]; exact H) | exact H
         have Ny337 := Aside0.mk hy337; clear hy337
         obtain ⟨y340, hy340⟩ : ∃ y_ : List (List Int), y_ = (x3_1.set (t320 : Int).toNat y337) := ⟨_, rfl⟩
         replace H : (some (y340, t324, t325)) = some (r1, r2, r3) := by first | (rw [hy340]; with_reducible exact H) | (have H2_ := (Option.bind_some _ _).symm.trans H; rw [hy340]; with_reducible exact H2_) | (have H2_ := (Option.bind_some _ _).symm.trans H; with_reducible exact H2_) | with_reducible exact H | (rw [hy340]; exact H) | exact H
         have Ny340 := Aside0.mk hy340; clear hy340; simp only [Option.some.injEq, Prod.mk.injEq] at H; obtain ⟨rfl, rfl, rfl⟩ := H; obtain ⟨Ao43, co43, eo43⟩ := Kd.S_slice HO_3.out; subst eo43
         go_wp2_with (first | ((with_reducible refine gate_callee (f := 79) rfl ?_); refine goesL_ (some 32) rfl rfl Try.func79 (by kernel_rfl) rfl #[.pointer (some ⟨g, 0, none⟩), .int .i64 (x3_1.length : Int)] rfl zb' ?_; (with_reducible refine (spec_l1Cur_pick.calls g s0_0 x1001_1 x1002_1 (x3_1.length : Int) t320 t321 t322 w0 _ ?side1 ?side2 A20.out).mono ?_); (case side1 => exact zd'); (case side2 => exact ze'); rintro e w44 ⟨rfl, hi, hb, hk⟩; refine ⟨_, rfl, ?_⟩; have n0_ := am (Kd.S_mono (Kd.S_keep (IsS69.apartS (show IsS69 w0 _ g s0_0 x1001_1 x1002_1 from by repeat (first | (with_reducible first | exact HI0.out | apply IsS69.alloc | apply IsS69.drewN | apply IsS69.drew | apply IsS69.set_1 | apply IsS69.set_2) | exact HI0.out)) zp' (by decide)) hk (fun _ h => h.2)) (fun _ h => h.1)); have n1_ := am (KeepBut.trans zc' hk (.inl rfl)); have n2_ := am (hb); have n3_ := am (hi); clear HO_3; clear HK; clear HB; clear HI0; have HO_3 := n0_; have HK := n1_; have HB := n2_; have HI0 := n3_; clear n0_ n1_ n2_ n3_; (try clear hb); (try clear hb2); (try clear hk); (try clear hi)) | ((with_reducible refine gate_callee (f := 79) rfl ?_); refine goesL_ (some 34) rfl rfl Try.func79 (by kernel_rfl) rfl #[.pointer (some ⟨g, 0, none⟩), .int .i64 24] rfl zb' ?_; (with_reducible refine (spec_l1Cur_pick.calls g s0_0 t321 t322 24 t323 t324 t325 w0 _ ?side1 ?side2 A21.out).mono ?_); (case side1 => exact zd'); (case side2 => exact ze'); rintro e w45 ⟨rfl, hi, hb, hk⟩; refine ⟨_, rfl, ?_⟩; have n0_ := am (Kd.S_mono (Kd.S_keep (IsS69.apartS (show IsS69 w0 _ g s0_0 t321 t322 from by repeat (first | (with_reducible first | exact HI0.out | apply IsS69.alloc | apply IsS69.drewN | apply IsS69.drew | apply IsS69.set_1 | apply IsS69.set_2) | exact HI0.out)) zp' (by decide)) hk (fun _ h => h.2)) (fun _ h => h.1)); have n1_ := am (KeepBut.trans zc' hk (.inl rfl)); have n2_ := am (hb); have n3_ := am (hi); clear HO_3; clear HK; clear HB; clear HI0; have HO_3 := n0_; have HK := n1_; have HB := n2_; have HI0 := n3_; clear n0_ n1_ n2_ n3_; (try clear hb); (try clear hb2); (try clear hk); (try clear hi); have p336 : 0 ≤ (t320 : Int) := odt; have q336 : t320 < (x3_1.length : Int) := odt; obtain ⟨ad336, A336_0, c336_0, e336, hx336_0, hl336_0, hi336_0⟩ := at_L1 (Kd.S_reads' HO_3.out).2.2 t320 p336 q336; cases e336; obtain ⟨ce336, hce336, hMe336, hcc336⟩ := Kd.S_get HO_3.out [] t320 p336 (by first | exact q336 | exact odt | (have e_ := (Kd.S_reads' HO_3.out).1; omega)); obtain ⟨ve336_0, rfl, ge336_0⟩ := hMe336; have hv336_0 := hcc336 0 _ rfl; rw [Nat.add_zero, show ((Kd.slice 3 (Kd.int .i64))).sz = 1 from rfl, Nat.mul_one] at hv336_0; replace hv336_0 := Option.some.inj (hv336_0.symm.trans hx336_0); rw [hv336_0] at ge336_0; have HL336_0 := am (show Kd.R (Kd.int .i64) 3 _ _ _ _ (rd_L1 x3_1 t320) from ge336_0); clear hv336_0 ge336_0; have HX336_0 := Aside0.mk hx336_0; clear hcc336 hce336; have HR336_0 := Aside0.mk hi336_0; have HC336_0 := Aside0.mk hl336_0; clear hi336_0 hl336_0; replace p336 := eq_true p336; replace q336 := eq_true q336; obtain ⟨go46, co46, eo46, gb46, gl46, cl46, HG46⟩ := Kd.S_form HO_3.out (by have h_ : (t320 : Int) < ((x3_1.length : Int) : Int) := odt; have h2_ : 0 ≤ (t320 : Int) := odt; omega); (first | cases eo46 | (injection eo46 with ea_ en_ ec_; (first | subst ea_ | (injection ea_ with ea_; subst ea_)); subst ec_; clear en_)); have GB46 := Aside0.mk gb46; have GG46 := Aside0.mk HG46; clear gb46 gl46 HG46; (first | simp only [add_plain] at hx336_0 | skip); obtain ⟨oki46, ce46, hcl46, hM46, hcc46, _, _, hH46⟩ := Kd.S_elem HO_3.out [] (t320 : Int) odt (by have h_ : (t320 : Int) < ((x3_1.length : Int) : Int) := odt; first | exact h_ | (have e_ := (Kd.S_reads' HO_3.out).1; omega) | simpa using h_); obtain ⟨ve46_0, rfl, ge46_0⟩ := hM46; have hv46 := hcc46 0 _ rfl; have hX46 := HX336_0.out; (try simp only [add_plain] at hX46); (try simp only [Nat.add_zero] at hv46); (try rw [show ((Kd.slice 3 (Kd.int .i64))).sz = 1 from rfl, Nat.mul_one] at hv46); replace hv46 := Option.some.inj (hv46.symm.trans hX46); subst hv46; clear hX46 hcc46 hcl46; have UU46 := am (show Kd.R (Kd.int .i64) 3 _ w.heap.size oki46 (.slice A336_0 (rd_L1 x3_1 t320).length c336_0) (rd_L1 x3_1 t320) from ge46_0); have HH46 := Aside0.mk hH46; have HN46 := am (Kd.S_reads' HO_3.out).1; clear hH46 ge46_0) | ((with_reducible refine gate_builtin (b := .append) (xs := #[.tmp 52, .tmp 53]) rfl ?_); at_builtin; refine Kd.R_append (Kd.int .i64) w.heap.size rfl (.tmp 52) (.tmp 53) 27 3 (.int .i64 0) 8 rfl Try.underlying27 info3 rfl (by decide) (by omega) (.slice A336_0 (rd_L1 x3_1 t320).length c336_0) (rd_L1 x3_1 t320) 1 [.int .i64 1] (fun k_ => oki46 k_ ∨ ((fun _ => True)) k_ ∧ w45.heap.size ≤ k_) (fun _ => False) rfl rfl ?aP (fun _ hk => hk.elim) ?aF ?aO (Below.refl _ _) ?aS ?aL ?_; (case aP => exact rfl); (case aF => exact (fun k_ hk => .inr ⟨trivial, hk⟩)); (case aO => exact (by (with_reducible repeat (first | apply Kd.R_alloc | apply Kd.R_drewN | apply Kd.R_drew)); exact Kd.R_mono UU46.out (fun _ hk => .inl hk))); (case aS => exact zc2'); (case aL => have := LMc41.out; omega); intro v338 w47 ho hb hg hat; rw [← Ny337.out] at ho; have n0_ := am (IsS69.grown zd' hg (IsS69.own_ne HI0.out HL336_0.out (by decide))); have n1_ := am (below_weaken ze' HL.out hb); have n2_ := am (KeepBut.trans zc' (KeepBut.of_grown hg g) (Kd.R_base2 HL336_0.out)); have n3_ := am (Kd.H_grown (Kd.H_widen (by repeat (first | exact HH46.out | refine Kd.H_alloc ?_ _ | refine Kd.H_drewN ?_ _ | refine Kd.H_drew ?_))) hg (fun k_ e_ => .inl (UU46.out.1 k_ e_))); have n4_ := am (ho); clear HI0; clear HB; clear HK; clear HH46; clear HO_3; clear UU46; clear HL336_0; have HI0 := n0_; have HB := n1_; have HK := n2_; have HH46 := n3_; have HO339 := n4_; clear n0_ n1_ n2_ n3_ n4_; clear ho hb hg hat; have p42 : 0 ≤ (t320 : Int) := odt; have q42 : (t320 : Int) < ((x3_1.length : Int) : Int) := odt; replace p42 := eq_true p42; replace q42 := eq_true q42; obtain ⟨Ao50, co50, eo50⟩ := Kd.R_slice HO339.out; subst eo50; obtain ⟨_, _, hraw48, _, _, hcc48, _⟩ := Kd.H_raw HH46.out odt (by have h_ : (t320 : Int) < ((x3_1.length : Int) : Int) := odt; first | exact h_ | (have e_ := (HN46.out); omega) | simpa using h_); obtain ⟨_, hfr48⟩ := Kd.H_at HH46.out odt (by have h_ : (t320 : Int) < ((x3_1.length : Int) : Int) := odt; first | exact h_ | (have e_ := (HN46.out); omega) | simpa using h_); have hx48_0 := hcc48 0 _ rfl; have hf48_0 := hfr48 0; (try simp only [Nat.add_zero] at hx48_0 hf48_0); (try rw [show ((Kd.slice 3 (Kd.int .i64))).sz = 1 from rfl, Nat.mul_one] at hx48_0); (try rw [show ((Kd.slice 3 (Kd.int .i64))).sz = 1 from rfl, Nat.mul_one] at hf48_0); have HP48 := Kd.S_seg0 HH46.out odt (by have h_ : (t320 : Int) < ((x3_1.length : Int) : Int) := odt; first | exact h_ | (have e_ := (HN46.out); omega) | simpa using h_) (seg := [.slice Ao50 y337.length co50]) (j := 0) (show 1 ≤ 1 from by decide) (x' := y337) (Kd.M_row HO339.out) (fun _ hk => hk); (try simp only [show ((Kd.slice 3 (Kd.int .i64))).sz = 1 from rfl, Nat.mul_one, Nat.add_zero] at HP48); clear hcc48 hfr48) | ((with_reducible refine gate_store (t := 27) (p := 55) rfl ?_); refine store_event (t := 27) (p := 55) (v := ?vo_w49) (w1 := (w47.setCell ⟨go46, (t320 : Int).toNat, none⟩ (.slice Ao50 y337.length co50))) ?hg ?ho ?hn ?hr ?_; (case ho => rfl); (case hg => rfl); (case hn => rfl); (case hr => exact zw'); intro w49 hw; have hg : w47.grownBy w49 (some go46) := (by rw [hw]; exact HP48.2); have hp_ : Kd.S (Kd.slice 3 (Kd.int .i64)) 27 w49 w.heap.size (fun _ => True) (.slice (some ⟨go46, 0, none⟩) x3_1.length co43) y340 := (by rw [hw, Ny340.out]; exact HP48.1); clear HP48; have n0_ := am (IsS69.grown zd' hg (IsS69.own_ne HI0.out hraw48 (by decide))); have n1_ := am ((by rw [hw]; exact below_set HB.out (Nat.le_trans HL.out GB46.out) : Below w0.heap.size w0 w49)); have n2_ := am (KeepBut.trans zc' (KeepBut.of_grown hg g) (Kd.R_base2 hraw48)); have n3_ := am (hp_); clear HI0; clear HB; clear HK; clear HO339; clear HH46; have HI0 := n0_; have HB := n1_; have HK := n2_; have HO_3 := n3_; clear n0_ n1_ n2_ n3_; clear hg hw hp_ hraw48))
         go_ret
         exact ⟨_, by first | rfl | (simp [errW_none, errW_some] <;> rfl) | (simp [*, errW_none, errW_some] <;> rfl), by (with_reducible repeat (first | apply Kd.S_alloc | apply Kd.S_drewN | apply Kd.S_drew)); exact HO_3.out, by repeat (first | (with_reducible first | exact HI0.out | apply IsS69.alloc | apply IsS69.drewN | apply IsS69.drew | apply IsS69.set_1 | apply IsS69.set_2) | exact HI0.out), by repeat (first | (with_reducible first | exact HB.out | apply ba | apply bn | apply below_drew1 | refine below_set ?_ (IsS69.ge HI0.out)) | exact HB.out), by repeat (first | (with_reducible first | exact HK.out | apply KeepBut.set_ | apply keep_drewN | apply keep_drew | apply keep_alloc) | exact HK.out)⟩
        ·rw [if_neg c41] at H
         exact absurd H (by simp)
       ·rw [if_neg c40] at H
        exact absurd H (by simp)
      ·rw [if_neg c39] at H
       exact absurd H (by simp)
     ·rw [if_neg c38] at H
      have c38b0 : (t323 == 1) = false := beq_eq_false_iff_ne.mpr c38; have c38b1 : (t323 != 1) = true := bne_iff_ne.mpr c38
      by_cases c51 : t323 = 2
      ·rw [if_pos c51] at H
       have c51b0 : (t323 == 2) = true := beq_iff_eq.mpr c51; have c51b1 : (t323 != 2) = false := bne_eq_false_iff_eq.mpr c51; clear c51; simp only [Option.some.injEq, Prod.mk.injEq] at H; obtain ⟨rfl, rfl, rfl⟩ := H; obtain ⟨Ao52, co52, eo52⟩ := Kd.S_slice HO_3.out; subst eo52
       go_wp2_with (first | ((with_reducible refine gate_callee (f := 79) rfl ?_); refine goesL_ (some 32) rfl rfl Try.func79 (by kernel_rfl) rfl #[.pointer (some ⟨g, 0, none⟩), .int .i64 (x3_1.length : Int)] rfl zb' ?_; (with_reducible refine (spec_l1Cur_pick.calls g s0_0 x1001_1 x1002_1 (x3_1.length : Int) t320 t321 t322 w0 _ ?side1 ?side2 A20.out).mono ?_); (case side1 => exact zd'); (case side2 => exact ze'); rintro e w53 ⟨rfl, hi, hb, hk⟩; refine ⟨_, rfl, ?_⟩; have n0_ := am (Kd.S_mono (Kd.S_keep (IsS69.apartS (show IsS69 w0 _ g s0_0 x1001_1 x1002_1 from by repeat (first | (with_reducible first | exact HI0.out | apply IsS69.alloc | apply IsS69.drewN | apply IsS69.drew | apply IsS69.set_1 | apply IsS69.set_2) | exact HI0.out)) zp' (by decide)) hk (fun _ h => h.2)) (fun _ h => h.1)); have n1_ := am (KeepBut.trans zc' hk (.inl rfl)); have n2_ := am (hb); have n3_ := am (hi); clear HO_3; clear HK; clear HB; clear HI0; have HO_3 := n0_; have HK := n1_; have HB := n2_; have HI0 := n3_; clear n0_ n1_ n2_ n3_; (try clear hb); (try clear hb2); (try clear hk); (try clear hi)) | ((with_reducible refine gate_callee (f := 79) rfl ?_); refine goesL_ (some 34) rfl rfl Try.func79 (by kernel_rfl) rfl #[.pointer (some ⟨g, 0, none⟩), .int .i64 24] rfl zb' ?_; (with_reducible refine (spec_l1Cur_pick.calls g s0_0 t321 t322 24 t323 t324 t325 w0 _ ?side1 ?side2 A21.out).mono ?_); (case side1 => exact zd'); (case side2 => exact ze'); rintro e w54 ⟨rfl, hi, hb, hk⟩; refine ⟨_, rfl, ?_⟩; have n0_ := am (Kd.S_mono (Kd.S_keep (IsS69.apartS (show IsS69 w0 _ g s0_0 t321 t322 from by repeat (first | (with_reducible first | exact HI0.out | apply IsS69.alloc | apply IsS69.drewN | apply IsS69.drew | apply IsS69.set_1 | apply IsS69.set_2) | exact HI0.out)) zp' (by decide)) hk (fun _ h => h.2)) (fun _ h => h.1)); have n1_ := am (KeepBut.trans zc' hk (.inl rfl)); have n2_ := am (hb); have n3_ := am (hi); clear HO_3; clear HK; clear HB; clear HI0; have HO_3 := n0_; have HK := n1_; have HB := n2_; have HI0 := n3_; clear n0_ n1_ n2_ n3_; (try clear hb); (try clear hb2); (try clear hk); (try clear hi)))
       go_ret
       exact ⟨_, by first | rfl | (simp [errW_none, errW_some] <;> rfl) | (simp [*, errW_none, errW_some] <;> rfl), by first | exact Kd.S_nil _ _ _ _ _ | exact Kd.N_nil _ _ _ _ _ | exact Kd.V_nil _ _ _ _ _ | exact Kd.Q_nil _ _ _ _ _ | exact Kd.R_nil _ _ _ _ _, by repeat (first | (with_reducible first | exact HI0.out | apply IsS69.alloc | apply IsS69.drewN | apply IsS69.drew | apply IsS69.set_1 | apply IsS69.set_2) | exact HI0.out), by repeat (first | (with_reducible first | exact HB.out | apply ba | apply bn | apply below_drew1 | refine below_set ?_ (IsS69.ge HI0.out)) | exact HB.out), by repeat (first | (with_reducible first | exact HK.out | apply KeepBut.set_ | apply keep_drewN | apply keep_drew | apply keep_alloc) | exact HK.out)⟩
      ·rw [if_neg c51] at H
       have c51b0 : (t323 == 2) = false := beq_eq_false_iff_ne.mpr c51; have c51b1 : (t323 != 2) = true := bne_iff_ne.mpr c51; simp only [Option.some.injEq, Prod.mk.injEq] at H; obtain ⟨rfl, rfl, rfl⟩ := H; obtain ⟨Ao55, co55, eo55⟩ := Kd.S_slice HO_3.out; subst eo55
       go_wp2_with (first | ((with_reducible refine gate_callee (f := 79) rfl ?_); refine goesL_ (some 32) rfl rfl Try.func79 (by kernel_rfl) rfl #[.pointer (some ⟨g, 0, none⟩), .int .i64 (x3_1.length : Int)] rfl zb' ?_; (with_reducible refine (spec_l1Cur_pick.calls g s0_0 x1001_1 x1002_1 (x3_1.length : Int) t320 t321 t322 w0 _ ?side1 ?side2 A20.out).mono ?_); (case side1 => exact zd'); (case side2 => exact ze'); rintro e w56 ⟨rfl, hi, hb, hk⟩; refine ⟨_, rfl, ?_⟩; have n0_ := am (Kd.S_mono (Kd.S_keep (IsS69.apartS (show IsS69 w0 _ g s0_0 x1001_1 x1002_1 from by repeat (first | (with_reducible first | exact HI0.out | apply IsS69.alloc | apply IsS69.drewN | apply IsS69.drew | apply IsS69.set_1 | apply IsS69.set_2) | exact HI0.out)) zp' (by decide)) hk (fun _ h => h.2)) (fun _ h => h.1)); have n1_ := am (KeepBut.trans zc' hk (.inl rfl)); have n2_ := am (hb); have n3_ := am (hi); clear HO_3; clear HK; clear HB; clear HI0; have HO_3 := n0_; have HK := n1_; have HB := n2_; have HI0 := n3_; clear n0_ n1_ n2_ n3_; (try clear hb); (try clear hb2); (try clear hk); (try clear hi)) | ((with_reducible refine gate_callee (f := 79) rfl ?_); refine goesL_ (some 34) rfl rfl Try.func79 (by kernel_rfl) rfl #[.pointer (some ⟨g, 0, none⟩), .int .i64 24] rfl zb' ?_; (with_reducible refine (spec_l1Cur_pick.calls g s0_0 t321 t322 24 t323 t324 t325 w0 _ ?side1 ?side2 A21.out).mono ?_); (case side1 => exact zd'); (case side2 => exact ze'); rintro e w57 ⟨rfl, hi, hb, hk⟩; refine ⟨_, rfl, ?_⟩; have n0_ := am (Kd.S_mono (Kd.S_keep (IsS69.apartS (show IsS69 w0 _ g s0_0 t321 t322 from by repeat (first | (with_reducible first | exact HI0.out | apply IsS69.alloc | apply IsS69.drewN | apply IsS69.drew | apply IsS69.set_1 | apply IsS69.set_2) | exact HI0.out)) zp' (by decide)) hk (fun _ h => h.2)) (fun _ h => h.1)); have n1_ := am (KeepBut.trans zc' hk (.inl rfl)); have n2_ := am (hb); have n3_ := am (hi); clear HO_3; clear HK; clear HB; clear HI0; have HO_3 := n0_; have HK := n1_; have HB := n2_; have HI0 := n3_; clear n0_ n1_ n2_ n3_; (try clear hb); (try clear hb2); (try clear hk); (try clear hi)))
       go_ret
       exact ⟨_, by first | rfl | (simp [errW_none, errW_some] <;> rfl) | (simp [*, errW_none, errW_some] <;> rfl), by (with_reducible repeat (first | apply Kd.S_alloc | apply Kd.S_drewN | apply Kd.S_drew)); exact HO_3.out, by repeat (first | (with_reducible first | exact HI0.out | apply IsS69.alloc | apply IsS69.drewN | apply IsS69.drew | apply IsS69.set_1 | apply IsS69.set_2) | exact HI0.out), by repeat (first | (with_reducible first | exact HB.out | apply ba | apply bn | apply below_drew1 | refine below_set ?_ (IsS69.ge HI0.out)) | exact HB.out), by repeat (first | (with_reducible first | exact HK.out | apply KeepBut.set_ | apply keep_drewN | apply keep_drew | apply keep_alloc) | exact HK.out)⟩

/-! ### spec_DrawAreCosts: function 73 -/
def spec_DrawAreCosts.q (k : Nat) (s0_0 : List Int) (s0_1 : Int) (s0_2 : Int) : Option ((List (List Int)) × Int × Int) := (spec_l1Cur_costs.f k s0_0 s0_1 s0_2).bind fun bt341 => (some (bt341.1, bt341.2.1, bt341.2.2))
def spec_DrawAreCosts.f (k : Nat) (l0 : List Int) : Option ((List (List Int))) := (spec_DrawAreCosts.q k l0 0 0).bind fun q => some (q.1)
set_option maxHeartbeats 8000000 in
set_option maxRecDepth 100000 in
theorem spec_DrawAreCosts.calls (k : Nat) (A0 : Option Addr) (c0 : Nat) (l0 : List Int) (z1 : List (List Int)) (w0 : World) (hr0 : Kd.C (Kd.int .u8) w0 A0 l0.length l0) (hc0 : l0.length ≤ c0) (h : spec_DrawAreCosts.f k l0 = some (z1)) :
  Calls Try.prog 73 #[.slice A0 l0.length c0] w0 fun e w' => ∃ v0_ : Value, e = .returned (v0_) ∧ Kd.S (Kd.slice 3 (Kd.int .i64)) 27 w' w0.heap.size (fun _ => True) v0_ z1 ∧ Below w0.heap.size w0 w' := by
 suffices H_ : Calls Try.prog 73 #[.slice A0 l0.length c0] w0 fun e w' => ∃ b_ : Nat, w0.heap.size ≤ b_ ∧ ∃ v0_ : Value, e = .returned (v0_) ∧ Kd.S (Kd.slice 3 (Kd.int .i64)) 27 w' b_ (fun _ => True) v0_ z1 ∧ Below w0.heap.size w0 w' from H_.mono (fun e w' h_ => by
  obtain ⟨b_, hb_, v0_, he, ho0, hbel⟩ := h_
  exact ⟨v0_, he, Kd.S_lower ho0 hb_, hbel⟩)
 obtain ⟨⟨r1, r2, r3⟩, hq, hs⟩ := Option.bind_eq_some_iff.1 h
 simp only [Option.some.injEq, Prod.mk.injEq] at hs
 obtain rfl := hs
 have HR_ := Aside0.mk hr0
 have Hq_ := am hq
 clear hr0 hc0 hq h
 go_enter Try.func73, Try.ntmps73
 go_upto_region 2 with (first | ((with_reducible refine gate_dst (N := 6) rfl ?_); refine box_event ?hg (N := 6) ?hd (cs := #[.slice A0 l0.length c0, .int .i64 0, .int .u64 0]) (t := 69) ?hr ?_; (case hd => rfl); (case hg => rfl); (case hr => exact zw'); intro g hg w hbox hb; have BX_ := Aside0.mk hbox; have HG_ := Aside0.mk hg; have HB_ := Aside0.mk hb; clear hg hbox hb))
 have hI : IsS69 w0 w g l0 0 0 := ⟨A0, c0, BX_.out, Nat.le_of_eq HG_.out.symm, HR_.out⟩
 have hB : Below w0.heap.size w0 w := HB_.out
 have h := Hq_.out
 clear BX_ HG_ HB_ Hq_ HR_
 have HI0 := Aside0.mk hI
 have HK := am (KeepBut.refl w g none)
 have HL := Aside0.mk hB.size
 clear hI
 have HW0 := Aside0.mk hB.size
 have HB := Aside0.mk hB
 clear hB
 have H : ((spec_l1Cur_costs.f k l0 0 0).bind fun bt341 => (some (bt341.1, bt341.2.1, bt341.2.2))) = some (r1, r2, r3) := h
 clear h
 replace H := Option.bind_eq_some_iff.mp H
 obtain ⟨⟨t341, t344, t345⟩, A20, H⟩ := H
 replace H : (some (t341, t344, t345)) = some (r1, r2, r3) := H
 have A2 := Aside0.mk A20
 clear A20
 simp only [Option.some.injEq, Prod.mk.injEq] at H
 obtain ⟨rfl, rfl, rfl⟩ := H
 go_wp2_with (first | ((with_reducible refine gate_callee (f := 74) rfl ?_); refine goesL_ (some 8) rfl rfl Try.func74 (by kernel_rfl) rfl #[.pointer (some ⟨g, 0, none⟩)] rfl zb' ?_; (with_reducible refine (spec_l1Cur_costs.calls k g l0 0 0 t341 t344 t345 w0 _ ?side1 ?side2 A2.out).mono ?_); (case side1 => exact zd'); (case side2 => exact ze'); rintro e w3 ⟨v342, rfl, ho0, hi, hb, hk⟩; refine ⟨_, rfl, ?_⟩; have n0_ := am (Kd.S_lower ho0 (keep_size (w := w) (g := g) (row := none) zc')); have n1_ := am (KeepBut.trans zc' hk (.inl rfl)); have n2_ := am (hb); have n3_ := am (hi); clear HK; clear HB; clear HI0; have HO343 := n0_; have HK := n1_; have HB := n2_; have HI0 := n3_; clear n0_ n1_ n2_ n3_; (try clear hb); (try clear hb2); (try clear hk); (try clear hi); (try clear ho0)))
 go_ret
 exact ⟨w.heap.size, HL.out, _, by first | rfl | (simp [errW_none, errW_some] <;> rfl) | (simp [*, errW_none, errW_some] <;> rfl), by (with_reducible repeat (first | apply Kd.S_alloc | apply Kd.S_drewN | apply Kd.S_drew)); exact HO343.out, by repeat (first | (with_reducible first | exact HB.out | apply ba | apply bn | apply below_drew1 | refine below_set ?_ (IsS69.ge HI0.out)) | exact HB.out)⟩


/-! ### spec_DrawCheapestMatch: function 44 -/
def spec_DrawCheapestMatch.f (k : Nat) (l0 : List Int) : Option ((List (List Int))) := (spec_DrawAreCosts.f k l0).bind fun t341 => (some t341)
set_option maxHeartbeats 8000000 in
set_option maxRecDepth 100000 in
theorem spec_DrawCheapestMatch.calls (k : Nat) (A0 : Option Addr) (c0 : Nat) (l0 : List Int) (r : List (List Int)) (w : World) (hr0 : Kd.C (Kd.int .u8) w A0 l0.length l0) (hc0 : l0.length ≤ c0) (h : spec_DrawCheapestMatch.f k l0 = some r) :
  Calls Try.prog 44 #[.slice A0 l0.length c0] w fun e w' => ∃ v0_ : Value, e = .returned (v0_) ∧ Kd.S (Kd.slice 3 (Kd.int .i64)) 27 w' w.heap.size (fun _ => True) v0_ r ∧ Below w.heap.size w w' := by
 have HR0 := Aside0.mk hr0
 have HC0 := Aside0.mk hc0
 clear hr0 hc0
 have HB := am (Below.refl w.heap.size w)
 have H : ((spec_DrawAreCosts.f k l0).bind fun t341 => (some t341)) = some r := h
 clear h
 replace H := Option.bind_eq_some_iff.mp H
 obtain ⟨t341, A20, H⟩ := H
 replace H : (some t341) = some r := H
 have A2 := Aside0.mk A20
 clear A20
 obtain rfl := Option.some.inj H
 go_enter Try.func44, Try.ntmps44
 go_wp2_with (first | ((with_reducible refine gate_callee (f := 73) rfl ?_); refine goesL_ (some 4) rfl rfl Try.func73 (by kernel_rfl) rfl #[.slice A0 l0.length c0] rfl zb' ?_; (with_reducible refine (spec_DrawAreCosts.calls k _ _ l0 t341 _ ?side1 ?side2 A2.out).mono ?_); (case side1 => exact zf'); (case side2 => exact ze1'); rintro e w3 ⟨v342, rfl, ho0, hb⟩; refine ⟨_, rfl, ?_⟩; have n0_ := am (Kd.S_lower ho0 (below_size za')); have n1_ := am (below_step za' hb); clear HB; have HO343 := n0_; have HB := n1_; clear n0_ n1_; (try clear hb); (try clear hb2); (try clear hk); (try clear hi); (try clear ho0)))
 go_ret
 exact ⟨_, by first | rfl | (simp [errW_none, errW_some] <;> rfl) | (simp [*, errW_none, errW_some] <;> rfl), by (with_reducible repeat (first | apply Kd.S_alloc | apply Kd.S_drewN | apply Kd.S_drew)); exact HO343.out, by repeat (first | (with_reducible first | exact HB.out | apply ba | apply bn | apply below_drew1) | exact HB.out)⟩

end Go.Proofs.Ytjipboafhakjfaa.PFnMatches
