/- Text written by a program for this claim: contracts of the functions of one law. -/
import Derived.Test.YtjipboafhakjfaaPFnMatchesx0
import Derived.Test.YtjipboafhakjfaaPFnMatchesx3
import Derived.Test.YtjipboafhakjfaaPFnMatchesx4
namespace Go.Proofs.Ytjipboafhakjfaa.PFnMatches
open Go.RowKit Go.Proofs.YtjipboafhakjfaaW.PrintWords Go.Proofs.YtjipboafhakjfaaW.PrintLast Go.Proofs.YtjipboafhakjfaaW.PrintMore
attribute [local go_sem] max2_int min2_int max_two min_two max_three min_three max_four min_four   -- for this text's walks alone
set_option linter.unusedVariables false
set_option linter.unusedSimpArgs false
open ShortPFnMatches0

/-! ### spec_maAll: function 70 -/
mutual
def spec_maAll.l0 : Nat → List Int → Int → List (List Int) → Int → Option ((List (List Int)))
 | 0, _, _, _, _ => none
 | k + 1, x0, x1, x5, x6 => if x6 < x1 then ((spec_l1Has.f k x0 x6).bind fun t232 => (if t232 = true then (spec_maAll.l0 k x0 x1 x5 (wrap64 (x6 + 1))) else ((spec_l1Own.f x0).bind fun t233 => (if t233.length < 17592186044416 then ((spec_maAll.f k (t233 ++ [x6]) x1).bind fun t239 => (if x5.length + t239.length < 5864062014805 then (spec_maAll.l0 k x0 x1 (x5 ++ t239) (wrap64 (x6 + 1))) else (none))) else (none))))) else (some x5)
def spec_maAll.f : Nat → List Int → Int → Option ((List (List Int)))
 | 0, _, _ => none
 | k + 1, l0, a1 => if (l0.length : Int) = a1 then ((spec_l1Own.f l0).bind fun t226 => (some (([t226] : List (List Int))))) else (spec_maAll.l0 k l0 a1 ([] : List (List Int)) 0)
end
set_option maxHeartbeats 8000000 in
set_option maxRecDepth 100000 in
theorem spec_maAll.calls (k : Nat) : ∀ (A0 : Option Addr) (c0 : Nat) (l0 : List Int) (a1 : Int) (r : List (List Int)) (w : World) (hr0 : Kd.C (Kd.int .i64) w A0 l0.length l0) (hc0 : l0.length ≤ c0) (h : spec_maAll.f k l0 a1 = some r),
  Calls Try.prog 70 #[.slice A0 l0.length c0, .int .i64 a1] w fun e w' => ∃ v0_ : Value, e = .returned (v0_) ∧ Kd.N (Kd.slice 3 (Kd.int .i64)) 27 w' w.heap.size (fun k_ => (w.heap.size ≤ k_)) v0_ r ∧ Below w.heap.size w w' := by
 induction k using Nat.strongRecOn with
 | _ k ih =>
 intro A0 c0 l0 a1 r w hr0 hc0 h
 cases k with
 | zero => exact absurd h (by simp [spec_maAll.f])
 | succ k =>
 simp only [spec_maAll.f] at h
 have HR0 := Aside0.mk hr0
 have HC0 := Aside0.mk hc0
 clear hr0 hc0
 have HB := am (Below.refl w.heap.size w)
 have H : (if (l0.length : Int) = a1 then ((spec_l1Own.f l0).bind fun t226 => (some (([t226] : List (List Int))))) else (spec_maAll.l0 k l0 a1 ([] : List (List Int)) 0)) = some r := h
 clear h
 by_cases c3 : (l0.length : Int) = a1
 ·rw [if_pos c3] at H
  have c3b0 : ((l0.length : Int) == a1) = true := beq_iff_eq.mpr c3
  have c3b1 : ((l0.length : Int) != a1) = false := bne_eq_false_iff_eq.mpr c3
  clear c3
  replace H := Option.bind_eq_some_iff.mp H
  obtain ⟨t226, A40, H⟩ := H
  replace H : (some (([t226] : List (List Int)))) = some r := H
  have A4 := Aside0.mk A40
  clear A40
  obtain ⟨y229, hy229⟩ : ∃ y_ : List (List Int), y_ = (([t226] : List (List Int))) := ⟨_, rfl⟩
  replace H : (some y229) = some r := by first | (rw [hy229]; with_reducible exact H) | (have H2_ := (Option.bind_some _ _).symm.trans H; rw [hy229]; with_reducible exact H2_) | (have H2_ := (Option.bind_some _ _).symm.trans H; with_reducible exact H2_) | with_reducible exact H | (rw [hy229]; exact H) | exact H
  have Ny229 := Aside0.mk hy229
  clear hy229
  obtain rfl := Option.some.inj H
  go_enter Try.func70, Try.ntmps70
  go_wp2_with (first | ((with_reducible refine gate_callee (f := 88) rfl ?_); refine goesL_ (some 12) rfl rfl Try.func88 (by kernel_rfl) rfl #[.slice A0 l0.length c0] rfl zb' ?_; (with_reducible refine (spec_l1Own.calls _ _ l0 t226 _ ?side1 ?side2 A4.out).mono ?_); (case side1 => exact zf'); (case side2 => exact ze1'); rintro e w5 ⟨v227, rfl, ho0, hb⟩; refine ⟨_, rfl, ?_⟩; have n0_ := am (Kd.R_lower (Kd.R_newM (M := fun k_ => (w.heap.size ≤ k_)) ho0 (below_size za') (fun k_ h_ => h_)) (below_size za')); have n1_ := am (below_step za' hb); clear HB; have HO228 := n0_; have HB := n1_; clear n0_ n1_; (try clear hb); (try clear hb2); (try clear hk); (try clear hi); (try clear ho0); obtain ⟨Ao6, co6, eo6⟩ := Kd.R_slice HO228.out; subst eo6) | ((with_reducible refine gate_dst (N := 13) rfl ?_); refine Kd.N_lit (Kd.slice 3 (Kd.int .i64)) _ 27 ?hg (N' := 13) ?hd (xs := ([t226] : List (List Int))) (inner := [.slice Ao6 t226.length co6]) (ok := (fun k_ => (w.heap.size ≤ k_))) (okp := (fun k_ => (w.heap.size ≤ k_))) ?hr ?hp (fun _ hk => hk) ((show ∀ k_, w5.heap.size ≤ k_ → (fun k_ => (w.heap.size ≤ k_)) k_ from fun k_ hk => (Nat.le_trans (below_size za') hk)) _ (Nat.le_refl _)) (Below.refl _ _) (Nat.le_refl _) (by simp) ?_; (case hd => rfl); (case hg => rfl); (case hr => exact zw'); (case hp => exact (Reps.one (show Kd.FK (Kd.slice 3 (Kd.int .i64)) _ _ t226 [.slice Ao6 t226.length co6] from (Kd.FK_slice_mk (Kd.R_reads' (Kd.R_mono (ok' := (fun k_ => (w.heap.size ≤ k_))) (HO228.out) (fun k_ hk => hk.1))).2.1 (Kd.R_F (Kd.R_mono (ok' := (fun k_ => (w.heap.size ≤ k_))) (HO228.out) (fun k_ hk => hk.1))))) (Reps.none _ _))); intro v230 w7 ho8 hb hg_ hnew_; clear hg_ hnew_; (first | rw [← Ny229.out] at ho8 | (simp only [Int.reduceToNat] at ho8; rw [← Ny229.out] at ho8)); have n0_ := am (Kd.N_lower ho8 (below_size za')); have n1_ := am (below_step za' hb); clear HB; clear HO228; have HO231 := n0_; have HB := n1_; clear n0_ n1_; clear hb ho8))
  go_ret
  exact ⟨_, by first | rfl | (simp [errW_none, errW_some] <;> rfl) | (simp [*, errW_none, errW_some] <;> rfl), by (with_reducible repeat (first | apply Kd.N_alloc | apply Kd.N_drewN | apply Kd.N_drew)); exact HO231.out, by repeat (first | (with_reducible first | exact HB.out | apply ba | apply bn | apply below_drew1) | exact HB.out)⟩
 ·rw [if_neg c3] at H
  have c3b0 : ((l0.length : Int) == a1) = false := beq_eq_false_iff_ne.mpr c3
  have c3b1 : ((l0.length : Int) != a1) = true := bne_iff_ne.mpr c3
  have H' := Aside0.mk H
  clear H
  go_enter Try.func70, Try.ntmps70
  go_wp2
  go_loopg [5, 6] k (fun kq v5 v6 w' => ∃ (x5_1 : List (List Int)) (x6_1 : Int), v6 = .int .i64 x6_1 ∧ Aside0 (spec_maAll.l0 kq l0 a1 x5_1 x6_1 = some r) ∧ Aside0 (kq ≤ k) ∧ Aside0 (Kd.N (Kd.slice 3 (Kd.int .i64)) 27 w' w.heap.size (fun k_ => (w.heap.size ≤ k_)) v5 x5_1) ∧ Aside0 (Below w.heap.size w w'))
  case atStart => exact ⟨(([] : List (List Int))), (0), zg', H', ⟨Nat.le_refl _⟩, ⟨zd2'⟩, ⟨za'⟩⟩
  case round =>
   clear H'; (try clear p2); (try clear c3); (try clear c3b0); (try clear c3b1); (try clear c7); (try clear c8); obtain ⟨x5_1, x6_1, rfl, HA, HK1, HO_5, HB⟩ := hrel
   cases gk with
   | zero => exact absurd HA.out (by simp [spec_maAll.l0])
   | succ k1 =>
    have H := HA.out; clear HA; simp only [spec_maAll.l0] at H
    by_cases c9 : x6_1 < a1
    ·rw [if_pos c9] at H
     have c9b0 : decide (x6_1 < a1) = true := decide_eq_true c9; clear c9; replace H := Option.bind_eq_some_iff.mp H; obtain ⟨t232, A100, H⟩ := H; replace H : (if t232 = true then (spec_maAll.l0 k1 l0 a1 x5_1 (wrap64 (x6_1 + 1))) else ((spec_l1Own.f l0).bind fun t233 => (if t233.length < 17592186044416 then ((spec_maAll.f k1 (t233 ++ [x6_1]) a1).bind fun t239 => (if x5_1.length + t239.length < 5864062014805 then (spec_maAll.l0 k1 l0 a1 (x5_1 ++ t239) (wrap64 (x6_1 + 1))) else (none))) else (none)))) = some r := H; have A10 := Aside0.mk A100; clear A100
     by_cases c11 : t232 = true
     ·subst c11
      have H1 : (spec_maAll.l0 k1 l0 a1 x5_1 (wrap64 (x6_1 + 1))) = some r := by rw [if_pos rfl] at H; exact H
      clear H; have H := H1; clear H1; have H' := Aside0.mk H; clear H
      go_wp2_with (first | ((with_reducible refine gate_callee (f := 84) rfl ?_); refine goesL_ (some 21) rfl rfl Try.func84 (by kernel_rfl) rfl #[.slice A0 l0.length c0, .int .i64 x6_1] rfl zb' ?_; (with_reducible refine (spec_l1Has.calls k1 _ _ l0 x6_1 true _ ?side1 ?side2 A10.out).mono ?_); (case side1 => exact zi'); (case side2 => exact ze1'); rintro e w' ⟨rfl, ⟨nd, rfl⟩⟩; refine ⟨_, rfl, ?_⟩))
      go_roundg k1
      case measure => have := HK1.out; omega
      case rel => exact ⟨(x5_1), (wrap64 (x6_1 + 1)), zg', H', ⟨zl1'⟩, ⟨za1'⟩, ⟨za'⟩⟩
     ·replace c11 := Bool.eq_false_iff.mpr c11
      subst c11
      have H1 : ((spec_l1Own.f l0).bind fun t233 => (if t233.length < 17592186044416 then ((spec_maAll.f k1 (t233 ++ [x6_1]) a1).bind fun t239 => (if x5_1.length + t239.length < 5864062014805 then (spec_maAll.l0 k1 l0 a1 (x5_1 ++ t239) (wrap64 (x6_1 + 1))) else (none))) else (none))) = some r := by rw [if_neg (show ¬ (false = true) by decide)] at H; exact H
      clear H; have H := H1; clear H1; replace H := Option.bind_eq_some_iff.mp H; obtain ⟨t233, A120, H⟩ := H; replace H : (if t233.length < 17592186044416 then ((spec_maAll.f k1 (t233 ++ [x6_1]) a1).bind fun t239 => (if x5_1.length + t239.length < 5864062014805 then (spec_maAll.l0 k1 l0 a1 (x5_1 ++ t239) (wrap64 (x6_1 + 1))) else (none))) else (none)) = some r := H; have A12 := Aside0.mk A120; clear A120
      by_cases c13 : t233.length < 17592186044416
      ·rw [if_pos c13] at H
       have LMc13 := Aside0.mk c13; clear c13
       obtain ⟨y236, hy236⟩ : ∃ y_ : List Int, y_ = (t233 ++ [x6_1]) := ⟨_, rfl⟩
       replace H : ((spec_maAll.f k1 y236 a1).bind fun t239 => (if x5_1.length + t239.length < 5864062014805 then (spec_maAll.l0 k1 l0 a1 (x5_1 ++ t239) (wrap64 (x6_1 + 1))) else (none))) = some r := by first | (rw [hy236]; with_reducible exact H) | (have H2_ := (Option.bind_some _ _).symm.trans H; rw [hy236]; with_reducible exact H2_) | (have H2_ := (Option.bind_some _ _).symm.trans H; with_reducible exact H2_) | with_reducible exact H | (rw [hy236]; exact H) | exact H
       have Ny236 := Aside0.mk hy236; clear hy236; replace H := Option.bind_eq_some_iff.mp H; obtain ⟨t239, A140, H⟩ := H; replace H : (if x5_1.length + t239.length < 5864062014805 then (spec_maAll.l0 k1 l0 a1 (x5_1 ++ t239) (wrap64 (x6_1 + 1))) else (none)) = some r := H; have A14 := Aside0.mk A140; clear A140
       by_cases c15 : x5_1.length + t239.length < 5864062014805
       ·rw [if_pos c15] at H
        have LMc15 := Aside0.mk c15; clear c15
        obtain ⟨y242, hy242⟩ : ∃ y_ : List (List Int), y_ = (x5_1 ++ t239) := ⟨_, rfl⟩
        replace H : (spec_maAll.l0 k1 l0 a1 y242 (wrap64 (x6_1 + 1))) = some r := by first | (rw [hy242]; with_reducible exact H) | (have H2_ := (Option.bind_some _ _).symm.trans H; rw [hy242]; with_reducible exact H2_) | (have H2_ := (Option.bind_some _ _).symm.trans H; with_reducible exact H2_) | with_reducible exact H | (rw [hy242]; exact H) | exact H
        have Ny242 := Aside0.mk hy242; clear hy242; have H' := Aside0.mk H; clear H
        go_wp2_with (first | ((with_reducible refine gate_callee (f := 84) rfl ?_); refine goesL_ (some 21) rfl rfl Try.func84 (by kernel_rfl) rfl #[.slice A0 l0.length c0, .int .i64 x6_1] rfl zb' ?_; (with_reducible refine (spec_l1Has.calls k1 _ _ l0 x6_1 false _ ?side1 ?side2 A10.out).mono ?_); (case side1 => exact zi'); (case side2 => exact ze1'); rintro e w' ⟨rfl, ⟨nd, rfl⟩⟩; refine ⟨_, rfl, ?_⟩) | ((with_reducible refine gate_callee (f := 88) rfl ?_); refine goesL_ (some 25) rfl rfl Try.func88 (by kernel_rfl) rfl #[.slice A0 l0.length c0] rfl zb' ?_; (with_reducible refine (spec_l1Own.calls _ _ l0 t233 _ ?side1 ?side2 A12.out).mono ?_); (case side1 => exact zv'); (case side2 => exact ze1'); rintro e w16 ⟨v234, rfl, ho0, hb⟩; refine ⟨_, rfl, ?_⟩; have n0_ := am (Kd.N_elder' za1' (Kd.R_base ho0) hb); have n1_ := am (Kd.R_lower (Kd.R_newM (M := fun k_ => (w.heap.size ≤ k_)) ho0 (below_size za') (fun k_ h_ => h_)) (below_size za')); have n2_ := am (below_step za' hb); clear HO_5; clear HB; have HO_5 := n0_; have HO235 := n1_; have HB := n2_; clear n0_ n1_ n2_; (try clear hb); (try clear hb2); (try clear hk); (try clear hi); (try clear ho0)) | ((with_reducible refine gate_builtin (b := .append) (xs := #[.tmp 25, .tmp 27]) rfl ?_); at_builtin; refine Kd.R_append (Kd.int .i64) (w0 := w) w.heap.size rfl (.tmp 25) (.tmp 27) 27 3 (.int .i64 0) 8 rfl Try.underlying27 info3 rfl (by decide) (by omega) v234 t233 x6_1 [.int .i64 x6_1] (fun k_ => (w.heap.size ≤ k_)) (fun _ => False) rfl rfl ?aP (fun _ hk => hk.elim) ?aF ?aO ?aB ?aS ?aL ?_; (case aP => exact rfl); (case aB => exact za'); (case aF => exact (fun k_ hk => (Nat.le_trans (below_size za') hk))); (case aO => exact (by (with_reducible repeat (first | apply Kd.R_alloc | apply Kd.R_drewN | apply Kd.R_drew)); exact Kd.R_mono HO235.out (fun _ hk => hk.1))); (case aS => exact zt1'); (case aL => have := LMc13.out; omega); intro v237 w17 ho hb hg hat; rw [← Ny236.out] at ho; have n0_ := am (Kd.N_afterv (ok := (fun k_ => (w.heap.size ≤ k_))) za1' hg hat); have n1_ := am (hb); have n2_ := am (ho); clear HO_5; clear HB; clear HO235; have HO_5 := n0_; have HB := n1_; have HO238 := n2_; clear n0_ n1_ n2_; clear ho hb hg hat; obtain ⟨Ao18, co18, eo18⟩ := Kd.R_slice HO238.out; subst eo18) | ((with_reducible refine gate_callee (f := 70) rfl ?_); refine goesL_ (some 30) rfl rfl Try.func70 (by kernel_rfl) rfl #[.slice Ao18 y236.length co18, .int .i64 a1] rfl zb' ?_; (with_reducible refine (ih k1 zl1' _ _ y236 a1 t239 _ ?side1 ?side2 A14.out).mono ?_); (case side1 => repeat (first | exact (Kd.R_reads' HO238.out).2.2 | (with_reducible refine Kd.C_alloc ?_ _) | (with_reducible refine Kd.C_drewN ?_ _) | (with_reducible refine Kd.C_drew ?_))); (case side2 => exact (Kd.R_reads' HO238.out).2.1); rintro e w19 ⟨v240, rfl, ho0, hb⟩; refine ⟨_, rfl, ?_⟩; have n0_ := am (Kd.N_elder' za1' (Kd.N_base ho0) hb); have n1_ := am (Kd.R_below zi1' hb); have n2_ := am (Kd.N_lower (Kd.N_mono (ok' := fun k_ => (w.heap.size ≤ k_) ∧ some k_ ≠ (u5 : Value).ownBlock ∧ some k_ ≠ (.slice Ao18 y236.length co18 : Value).ownBlock) ho0 (fun k_ hk_ => ⟨(Nat.le_trans (below_size za') hk_), (Kd.fresh' (Kd.N_lt za1') k_ hk_), (Kd.fresh' (Kd.R_lt zi1') k_ hk_)⟩)) (below_size za')); have n3_ := am (below_step za' hb); clear HO_5; clear HO238; clear HB; have HO_5 := n0_; have HO238 := n1_; have HO241 := n2_; have HB := n3_; clear n0_ n1_ n2_ n3_; (try clear hb); (try clear hb2); (try clear hk); (try clear hi); (try clear ho0); obtain ⟨Ao21, co21, eo21⟩ := Kd.N_slice HO241.out; subst eo21) | ((with_reducible refine gate_builtin (b := .append) (xs := #[.tmp 23, .tmp 30]) rfl ?_); at_builtin; refine Kd.N_append_rows (Kd.slice 3 (Kd.int .i64)) (w0 := w) w.heap.size rfl (.tmp 23) (.tmp 30) 22 27 (.slice none 0 0) 24 rfl Try.underlying22 info27 rfl (by decide) (by omega) u5 x5_1 t239 _ _ _ (fun k_ => (w.heap.size ≤ k_) ∧ some k_ ≠ (.slice Ao18 y236.length co18 : Value).ownBlock) (fun k_ => ((fun k_ => (w.heap.size ≤ k_) ∧ some k_ ≠ (.slice Ao18 y236.length co18 : Value).ownBlock)) k_ ∧ some k_ ≠ (u5 : Value).ownBlock) rfl rfl ?aO ?aR (fun _ hk => hk) ?aF ?aB ?aS ?aL ?_; (case aR => exact (by skip; exact Kd.N_F (Kd.N_mono (ok' := (fun k_ => ((fun k_ => (w.heap.size ≤ k_) ∧ some k_ ≠ (.slice Ao18 y236.length co18 : Value).ownBlock)) k_ ∧ some k_ ≠ (u5 : Value).ownBlock)) (HO241.out) (fun k_ hk => ⟨⟨hk.1, hk.2.2⟩, hk.2.1⟩)))); (case aB => exact za'); (case aF => exact (fun k_ hk => ⟨(Nat.le_trans (below_size za') hk), Kd.fresh' (Kd.R_lt zi1') k_ hk⟩)); (case aO => exact (by (with_reducible repeat (first | apply Kd.N_alloc | apply Kd.N_drewN | apply Kd.N_drew)); exact Kd.N_mono HO_5.out (fun _ hk => ⟨hk.1.1, hk.1.2⟩))); (case aS => exact zt1'); (case aL => have := LMc15.out; omega); intro v243 w20 ho hb hg hat; rw [← Ny242.out] at ho; have n0_ := am (Kd.R_over' zi1' (Kd.N_typed za1') (by decide) hg); have n1_ := am (Kd.N_afterv (ok := (fun k_ => (w.heap.size ≤ k_) ∧ some k_ ≠ (.slice Ao18 y236.length co18 : Value).ownBlock)) (by (with_reducible repeat (first | apply Kd.N_alloc | apply Kd.N_drewN | apply Kd.N_drew)); exact Kd.N_mono HO241.out (fun _ hk => ⟨⟨hk.1, hk.2.2⟩, hk.2.1⟩)) hg hat); have n2_ := am (hb); have n3_ := am (ho); clear HO238; clear HO241; clear HB; clear HO_5; have HO238 := n0_; have HO241 := n1_; have HB := n2_; have HO244 := n3_; clear n0_ n1_ n2_ n3_; clear ho hb hg hat))
        go_roundg k1
        case measure => have := HK1.out; omega
        case rel => exact ⟨(y242), (wrap64 (x6_1 + 1)), zg', H', ⟨zl1'⟩, ⟨by (with_reducible repeat (first | apply Kd.N_alloc | apply Kd.N_drewN | apply Kd.N_drew)); exact Kd.N_mono HO244.out (fun _ hk => hk.1)⟩, ⟨za'⟩⟩
       ·rw [if_neg c15] at H
        exact absurd H (by simp)
      ·rw [if_neg c13] at H
       exact absurd H (by simp)
    ·rw [if_neg c9] at H
     have c9b0 : decide (x6_1 < a1) = false := decide_eq_false c9; clear c9; obtain rfl := Option.some.inj H
     go_wp2
     go_ret
     exact ⟨_, by first | rfl | (simp [errW_none, errW_some] <;> rfl) | (simp [*, errW_none, errW_some] <;> rfl), by (with_reducible repeat (first | apply Kd.N_alloc | apply Kd.N_drewN | apply Kd.N_drew)); exact HO_5.out, by repeat (first | (with_reducible first | exact HB.out | apply ba | apply bn | apply below_drew1) | exact HB.out)⟩

/-! ### spec_maCheapest: function 68 -/
def spec_maCheapest.l0 : Nat → List (List Int) → List Int → List (List Int) → Int → Int → Option (List Int)
 | 0, _, _, _, _, _ => none
 | k + 1, x0, x3, x8, x9, x10 => if x10 < x9 then (if 0 ≤ x10 then (if x10 < (x8.length : Int) then (if (x3.length : Int) = 0 then (spec_maCheapest.l0 k x0 (rd_L1 x8 x10) x8 x9 (wrap64 (x10 + 1))) else ((spec_maCost.f k x0 (rd_L1 x8 x10)).bind fun t249 => ((spec_maCost.f k x0 x3).bind fun t250 => (if t249 < t250 then (spec_maCheapest.l0 k x0 (rd_L1 x8 x10) x8 x9 (wrap64 (x10 + 1))) else (spec_maCheapest.l0 k x0 x3 x8 x9 (wrap64 (x10 + 1))))))) else (none)) else (none)) else (some x3)
def spec_maCheapest.f (k : Nat) (l0 : List (List Int)) : Option (List Int) := (spec_maAll.f k ([] : List Int) (l0.length : Int)).bind fun t245 => (spec_maCheapest.l0 k l0 ([] : List Int) t245 (t245.length : Int) 0)
set_option maxHeartbeats 8000000 in
set_option maxRecDepth 100000 in
theorem spec_maCheapest.calls (k : Nat) (A0 : Option Addr) (c0 : Nat) (l0 : List (List Int)) (r : List Int) (w : World) (hr0 : Kd.C (Kd.slice 3 (Kd.int .i64)) w A0 l0.length l0) (hc0 : l0.length ≤ c0) (h : spec_maCheapest.f k l0 = some r) :
  Calls Try.prog 68 #[.slice A0 l0.length c0] w fun e w' => ∃ v0_ : Value, e = .returned (v0_) ∧ Kd.V (Kd.int .i64) 3 w' w.heap.size (fun k_ => (w.heap.size ≤ k_)) v0_ r ∧ Below w.heap.size w w' := by
 have HR0 := Aside0.mk hr0
 have HC0 := Aside0.mk hc0
 clear hr0 hc0
 have HB := am (Below.refl w.heap.size w)
 have H : ((spec_maAll.f k ([] : List Int) (l0.length : Int)).bind fun t245 => (spec_maCheapest.l0 k l0 ([] : List Int) t245 (t245.length : Int) 0)) = some r := h
 clear h
 replace H := Option.bind_eq_some_iff.mp H
 obtain ⟨t245, A20, H⟩ := H
 replace H : (spec_maCheapest.l0 k l0 ([] : List Int) t245 (t245.length : Int) 0) = some r := H
 have A2 := Aside0.mk A20
 clear A20
 have H' := Aside0.mk H
 clear H
 go_enter Try.func68, Try.ntmps68
 go_wp2_with (first | ((with_reducible refine gate_callee (f := 70) rfl ?_); refine goesL_ (some 8) rfl rfl Try.func70 (by kernel_rfl) rfl #[.slice none 0 0, .int .i64 (l0.length : Int)] rfl zb' ?_; (refine (spec_maAll.calls k _ _ ([] : List Int) (l0.length : Int) t245 _ ?side1 ?side2 A2.out).mono ?_); (case side1 => exact Kd.C_nil _ _); (case side2 => exact Nat.le_refl _); rintro e w3 ⟨v246, rfl, ho0, hb⟩; refine ⟨_, rfl, ?_⟩; have n0_ := am (Kd.N_lower (Kd.N_mono (ok' := fun k_ => (w.heap.size ≤ k_)) ho0 (fun k_ hk_ => (Nat.le_trans (below_size za') hk_))) (below_size za')); have n1_ := am (below_step za' hb); clear HB; have HO247 := n0_; have HB := n1_; clear n0_ n1_; (try clear hb); (try clear hb2); (try clear hk); (try clear hi); (try clear ho0); obtain ⟨Ao4, co4, eo4⟩ := Kd.N_slice HO247.out; subst eo4))
 go_loopg [3, 10] k (fun kq v3 v10 w' => ∃ (x3_1 : List Int) (x10_1 : Int), v10 = .int .i64 x10_1 ∧ Aside0 (spec_maCheapest.l0 kq l0 x3_1 t245 (t245.length : Int) x10_1 = some r) ∧ Aside0 (kq ≤ k) ∧ Aside0 (Kd.V (Kd.int .i64) 3 w' w.heap.size (fun k_ => (w.heap.size ≤ k_) ∧ some k_ ≠ ((.slice Ao4 t245.length co4) : Value).ownBlock) v3 x3_1) ∧ Aside0 (Kd.N (Kd.slice 3 (Kd.int .i64)) 27 w' w.heap.size (fun k_ => (w.heap.size ≤ k_)) (.slice Ao4 t245.length co4) t245) ∧ Aside0 (Below w.heap.size w w'))
 case atStart => exact ⟨(([] : List Int)), (0), zg', H', ⟨Nat.le_refl _⟩, ⟨(Kd.V_nil _ _ _ _ _)⟩, ⟨by (with_reducible repeat (first | apply Kd.N_alloc | apply Kd.N_drewN | apply Kd.N_drew)); exact HO247.out⟩, ⟨za'⟩⟩
 case round =>
  clear H'
  try clear p2
  obtain ⟨x3_1, x10_1, rfl, HA, HK1, HO_3, HO_8, HB⟩ := hrel
  cases gk with
  | zero => exact absurd HA.out (by simp [spec_maCheapest.l0])
  | succ k1 =>
   have H := HA.out; clear HA; simp only [spec_maCheapest.l0] at H
   by_cases c5 : x10_1 < (t245.length : Int)
   ·rw [if_pos c5] at H
    have c5b0 : decide (x10_1 < (t245.length : Int)) = true := decide_eq_true c5; clear c5
    by_cases c6 : 0 ≤ x10_1
    ·rw [if_pos c6] at H
     have c6b0 : decide (0 ≤ x10_1) = true := decide_eq_true c6; clear c6
     by_cases c7 : x10_1 < (t245.length : Int)
     ·rw [if_pos c7] at H
      have c7b0 : decide (x10_1 < (t245.length : Int)) = true := decide_eq_true c7; clear c7
      by_cases c8 : (x3_1.length : Int) = 0
      ·rw [if_pos c8] at H
       have c8b0 : ((x3_1.length : Int) == 0) = true := beq_iff_eq.mpr c8; have c8b1 : ((x3_1.length : Int) != 0) = false := bne_eq_false_iff_eq.mpr c8; clear c8; have H' := Aside0.mk H; clear H; have p248 : 0 ≤ (x10_1 : Int) := odt; have q248 : x10_1 < (t245.length : Int) := odt; obtain ⟨ad248, A248_0, c248_0, e248, hx248_0, hl248_0, hi248_0⟩ := at_L1 (Kd.N_reads' HO_8.out).2.2 x10_1 p248 q248; cases e248; obtain ⟨ce248, hce248, hMe248, hcc248⟩ := Kd.N_get HO_8.out [] x10_1 p248 zb2'; obtain ⟨ua248_0, uc248_0, rfl, ul248_0, ge248_0⟩ := Kd.FK_slice_open hMe248; have hv248_0 := hcc248 0 _ rfl; rw [Nat.add_zero, show ((Kd.slice 3 (Kd.int .i64))).sz = 1 from rfl, Nat.mul_one] at hv248_0; replace hv248_0 := Option.some.inj (hv248_0.symm.trans hx248_0)
       injection hv248_0 with hva_ hvn_ hvc_
       rw [hva_] at ge248_0; rw [hvc_] at ul248_0; have HL248_0 := am (show Kd.V (Kd.int .i64) 3 _ w.heap.size _ _ (rd_L1 t245 x10_1) from Kd.V_mk ul248_0 ge248_0); clear hva_ hvn_ hvc_ ge248_0 ul248_0; clear hcc248 hce248; have HR248_0 := Aside0.mk hi248_0; have HC248_0 := Aside0.mk hl248_0; clear hi248_0 hl248_0; replace p248 := eq_true p248; replace q248 := eq_true q248; obtain ⟨Ao9, co9, eo9⟩ := Kd.V_slice HO_3.out; subst eo9
       go_wp2
       go_roundg k1
       case measure => have := HK1.out; omega
       case rel => exact ⟨(rd_L1 t245 x10_1), (wrap64 (x10_1 + 1)), zg', H', ⟨zl1'⟩, ⟨by (with_reducible repeat (first | apply Kd.V_alloc | apply Kd.V_drewN | apply Kd.V_drew)); exact HL248_0.out⟩, ⟨zr1'⟩, ⟨za'⟩⟩
      ·rw [if_neg c8] at H
       have c8b0 : ((x3_1.length : Int) == 0) = false := beq_eq_false_iff_ne.mpr c8; have c8b1 : ((x3_1.length : Int) != 0) = true := bne_iff_ne.mpr c8
       have c8b2 : ¬ (x3_1 = []) := fun h_ => c8 (by rw [h_]; rfl)
       replace H := Option.bind_eq_some_iff.mp H; obtain ⟨t249, A100, H⟩ := H; replace H : ((spec_maCost.f k1 l0 x3_1).bind fun t250 => (if t249 < t250 then (spec_maCheapest.l0 k1 l0 (rd_L1 t245 x10_1) t245 (t245.length : Int) (wrap64 (x10_1 + 1))) else (spec_maCheapest.l0 k1 l0 x3_1 t245 (t245.length : Int) (wrap64 (x10_1 + 1))))) = some r := H; have A10 := Aside0.mk A100; clear A100; replace H := Option.bind_eq_some_iff.mp H; obtain ⟨t250, A110, H⟩ := H; replace H : (if t249 < t250 then (spec_maCheapest.l0 k1 l0 (rd_L1 t245 x10_1) t245 (t245.length : Int) (wrap64 (x10_1 + 1))) else (spec_maCheapest.l0 k1 l0 x3_1 t245 (t245.length : Int) (wrap64 (x10_1 + 1)))) = some r := H; have A11 := Aside0.mk A110; clear A110
       by_cases c12 : t249 < t250
       ·rw [if_pos c12] at H
        have c12b0 : decide (t249 < t250) = true := decide_eq_true c12; clear c12; have H' := Aside0.mk H; clear H; have p248 : 0 ≤ (x10_1 : Int) := odt; have q248 : x10_1 < (t245.length : Int) := odt; obtain ⟨ad248, A248_0, c248_0, e248, hx248_0, hl248_0, hi248_0⟩ := at_L1 (Kd.N_reads' HO_8.out).2.2 x10_1 p248 q248; cases e248; obtain ⟨ce248, hce248, hMe248, hcc248⟩ := Kd.N_get HO_8.out [] x10_1 p248 zb2'; obtain ⟨ua248_0, uc248_0, rfl, ul248_0, ge248_0⟩ := Kd.FK_slice_open hMe248; have hv248_0 := hcc248 0 _ rfl; rw [Nat.add_zero, show ((Kd.slice 3 (Kd.int .i64))).sz = 1 from rfl, Nat.mul_one] at hv248_0; replace hv248_0 := Option.some.inj (hv248_0.symm.trans hx248_0)
        injection hv248_0 with hva_ hvn_ hvc_
        rw [hva_] at ge248_0; rw [hvc_] at ul248_0; have HL248_0 := am (show Kd.V (Kd.int .i64) 3 _ w.heap.size _ _ (rd_L1 t245 x10_1) from Kd.V_mk ul248_0 ge248_0); clear hva_ hvn_ hvc_ ge248_0 ul248_0; clear hcc248 hce248; have HR248_0 := Aside0.mk hi248_0; have HC248_0 := Aside0.mk hl248_0; clear hi248_0 hl248_0; replace p248 := eq_true p248; replace q248 := eq_true q248; obtain ⟨Ao13, co13, eo13⟩ := Kd.V_slice HO_3.out; subst eo13
        go_wp2_with (first | (go_at_call 58; (with_reducible refine (spec_maCost.calls k1 _ _ l0 _ _ (rd_L1 t245 x10_1) t249 _ ?side1 ?side2 ?side3 ?side4 A10.out).mono ?_); (case side1 => exact zi'); (case side2 => exact ze1'); (case side3 => exact zh1'); (case side4 => exact HC248_0.out); rintro e w' ⟨rfl, ⟨nd, rfl⟩⟩) | (go_at_call 58; (with_reducible refine (spec_maCost.calls k1 _ _ l0 _ _ x3_1 t250 _ ?side1 ?side2 ?side3 ?side4 A11.out).mono ?_); (case side1 => exact zv'); (case side2 => exact ze1'); (case side3 => exact zy1'); (case side4 => exact (Kd.V_reads' HO_3.out).2.1); rintro e w' ⟨rfl, ⟨nd, rfl⟩⟩))
        go_roundg k1
        case measure => have := HK1.out; omega
        case rel => exact ⟨(rd_L1 t245 x10_1), (wrap64 (x10_1 + 1)), zg', H', ⟨zl1'⟩, ⟨by (with_reducible repeat (first | apply Kd.V_alloc | apply Kd.V_drewN | apply Kd.V_drew)); exact HL248_0.out⟩, ⟨zr1'⟩, ⟨za'⟩⟩
       ·rw [if_neg c12] at H
        have c12b0 : decide (t249 < t250) = false := decide_eq_false c12; clear c12; have H' := Aside0.mk H; clear H; have p248 : 0 ≤ (x10_1 : Int) := odt; have q248 : x10_1 < (t245.length : Int) := odt; obtain ⟨ad248, A248_0, c248_0, e248, hx248_0, hl248_0, hi248_0⟩ := at_L1 (Kd.N_reads' HO_8.out).2.2 x10_1 p248 q248; cases e248; obtain ⟨ce248, hce248, hMe248, hcc248⟩ := Kd.N_get HO_8.out [] x10_1 p248 zb2'; obtain ⟨ua248_0, uc248_0, rfl, ul248_0, ge248_0⟩ := Kd.FK_slice_open hMe248; have hv248_0 := hcc248 0 _ rfl; rw [Nat.add_zero, show ((Kd.slice 3 (Kd.int .i64))).sz = 1 from rfl, Nat.mul_one] at hv248_0; replace hv248_0 := Option.some.inj (hv248_0.symm.trans hx248_0)
        injection hv248_0 with hva_ hvn_ hvc_
        rw [hva_] at ge248_0; rw [hvc_] at ul248_0; have HL248_0 := am (show Kd.V (Kd.int .i64) 3 _ w.heap.size _ _ (rd_L1 t245 x10_1) from Kd.V_mk ul248_0 ge248_0); clear hva_ hvn_ hvc_ ge248_0 ul248_0; clear hcc248 hce248; have HR248_0 := Aside0.mk hi248_0; have HC248_0 := Aside0.mk hl248_0; clear hi248_0 hl248_0; replace p248 := eq_true p248; replace q248 := eq_true q248; obtain ⟨Ao14, co14, eo14⟩ := Kd.V_slice HO_3.out; subst eo14
        go_wp2_with (first | (go_at_call 58; (with_reducible refine (spec_maCost.calls k1 _ _ l0 _ _ (rd_L1 t245 x10_1) t249 _ ?side1 ?side2 ?side3 ?side4 A10.out).mono ?_); (case side1 => exact zi'); (case side2 => exact ze1'); (case side3 => exact zh1'); (case side4 => exact HC248_0.out); rintro e w' ⟨rfl, ⟨nd, rfl⟩⟩) | (go_at_call 58; (with_reducible refine (spec_maCost.calls k1 _ _ l0 _ _ x3_1 t250 _ ?side1 ?side2 ?side3 ?side4 A11.out).mono ?_); (case side1 => exact zv'); (case side2 => exact ze1'); (case side3 => exact zy1'); (case side4 => exact (Kd.V_reads' HO_3.out).2.1); rintro e w' ⟨rfl, ⟨nd, rfl⟩⟩))
        go_roundg k1
        case measure => have := HK1.out; omega
        case rel => exact ⟨(x3_1), (wrap64 (x10_1 + 1)), zg', H', ⟨zl1'⟩, ⟨by (with_reducible repeat (first | apply Kd.V_alloc | apply Kd.V_drewN | apply Kd.V_drew)); exact HO_3.out⟩, ⟨zr1'⟩, ⟨za'⟩⟩
     ·rw [if_neg c7] at H
      exact absurd H (by simp)
    ·rw [if_neg c6] at H
     exact absurd H (by simp)
   ·rw [if_neg c5] at H
    have c5b0 : decide (x10_1 < (t245.length : Int)) = false := decide_eq_false c5; clear c5; obtain rfl := Option.some.inj H
    go_wp2
    go_ret
    exact ⟨_, by first | rfl | (simp [errW_none, errW_some] <;> rfl) | (simp [*, errW_none, errW_some] <;> rfl), by (with_reducible repeat (first | apply Kd.V_alloc | apply Kd.V_drewN | apply Kd.V_drew)); exact Kd.V_mono HO_3.out (fun _ hk => hk.1), by repeat (first | (with_reducible first | exact HB.out | apply ba | apply bn | apply below_drew1) | exact HB.out)⟩

/-! ### spec_CheapestMatch: function 38 -/
def spec_CheapestMatch.f (k : Nat) (l0 : List (List Int)) : Option (List Int × Int × Bool) := (spec_maCosts.f k l0).bind fun t251 => (if t251 = true then ((spec_maCheapest.f k l0).bind fun t252 => ((spec_maCost.f k l0 t252).bind fun t255 => (some (t252, t255, true)))) else (some (([] : List Int), 0, false)))
set_option maxHeartbeats 8000000 in
set_option maxRecDepth 100000 in
theorem spec_CheapestMatch.calls (k : Nat) (A0 : Option Addr) (c0 : Nat) (l0 : List (List Int)) (r1 : List Int) (r2 : Int) (r3 : Bool) (w : World) (hr0 : Kd.C (Kd.slice 3 (Kd.int .i64)) w A0 l0.length l0) (hc0 : l0.length ≤ c0) (h : spec_CheapestMatch.f k l0 = some (r1, r2, r3)) :
  Calls Try.prog 38 #[.slice A0 l0.length c0] w fun e w' => ∃ v0_ : Value, e = .returned (.tuple #[v0_, .int .i64 r2, .bool r3]) ∧ Kd.V (Kd.int .i64) 3 w' w.heap.size (fun k_ => (w.heap.size ≤ k_)) v0_ r1 ∧ Below w.heap.size w w' := by
 have HR0 := Aside0.mk hr0
 have HC0 := Aside0.mk hc0
 clear hr0 hc0
 have HB := am (Below.refl w.heap.size w)
 have H : ((spec_maCosts.f k l0).bind fun t251 => (if t251 = true then ((spec_maCheapest.f k l0).bind fun t252 => ((spec_maCost.f k l0 t252).bind fun t255 => (some (t252, t255, true)))) else (some (([] : List Int), 0, false)))) = some (r1, r2, r3) := h
 clear h
 replace H := Option.bind_eq_some_iff.mp H
 obtain ⟨t251, A20, H⟩ := H
 replace H : (if t251 = true then ((spec_maCheapest.f k l0).bind fun t252 => ((spec_maCost.f k l0 t252).bind fun t255 => (some (t252, t255, true)))) else (some (([] : List Int), 0, false))) = some (r1, r2, r3) := H
 have A2 := Aside0.mk A20
 clear A20
 by_cases c3 : t251 = true
 ·subst c3
  have H1 : ((spec_maCheapest.f k l0).bind fun t252 => ((spec_maCost.f k l0 t252).bind fun t255 => (some (t252, t255, true)))) = some (r1, r2, r3) := by rw [if_pos rfl] at H; exact H
  clear H
  have H := H1
  clear H1
  replace H := Option.bind_eq_some_iff.mp H
  obtain ⟨t252, A40, H⟩ := H
  replace H : ((spec_maCost.f k l0 t252).bind fun t255 => (some (t252, t255, true))) = some (r1, r2, r3) := H
  have A4 := Aside0.mk A40
  clear A40
  replace H := Option.bind_eq_some_iff.mp H
  obtain ⟨t255, A50, H⟩ := H
  replace H : (some (t252, t255, true)) = some (r1, r2, r3) := H
  have A5 := Aside0.mk A50
  clear A50
  simp only [Option.some.injEq, Prod.mk.injEq] at H
  obtain ⟨rfl, rfl, rfl⟩ := H
  go_enter Try.func38, Try.ntmps38
  go_wp2_with (first | ((with_reducible refine gate_callee (f := 52) rfl ?_); refine goesL_ (some 7) rfl rfl Try.func52 (by kernel_rfl) rfl #[.slice A0 l0.length c0] rfl zb' ?_; (with_reducible refine (spec_maCosts.calls k _ _ l0 true _ ?side1 ?side2 A2.out).mono ?_); (case side1 => exact zf'); (case side2 => exact ze1'); rintro e w' ⟨rfl, ⟨nd, rfl⟩⟩; refine ⟨_, rfl, ?_⟩) | ((with_reducible refine gate_callee (f := 68) rfl ?_); refine goesL_ (some 10) rfl rfl Try.func68 (by kernel_rfl) rfl #[.slice A0 l0.length c0] rfl zb' ?_; (with_reducible refine (spec_maCheapest.calls k _ _ l0 t252 _ ?side1 ?side2 A4.out).mono ?_); (case side1 => exact zf'); (case side2 => exact ze1'); rintro e w6 ⟨v253, rfl, ho0, hb⟩; refine ⟨_, rfl, ?_⟩; have n0_ := am (Kd.V_lower (Kd.V_mono (ok' := fun k_ => (w.heap.size ≤ k_)) ho0 (fun k_ hk_ => (Nat.le_trans (below_size za') hk_))) (below_size za')); have n1_ := am (below_step za' hb); clear HB; have HO254 := n0_; have HB := n1_; clear n0_ n1_; (try clear hb); (try clear hb2); (try clear hk); (try clear hi); (try clear ho0); obtain ⟨Ao7, co7, eo7⟩ := Kd.V_slice HO254.out; subst eo7) | ((with_reducible refine gate_callee (f := 58) rfl ?_); refine goesL_ (some 14) rfl rfl Try.func58 (by kernel_rfl) rfl #[.slice A0 l0.length c0, .slice Ao7 t252.length co7] rfl zb' ?_; (with_reducible refine (spec_maCost.calls k _ _ l0 _ _ t252 t255 _ ?side1 ?side2 ?side3 ?side4 A5.out).mono ?_); (case side1 => exact zi'); (case side2 => exact ze1'); (case side3 => repeat (first | exact (Kd.V_reads' HO254.out).2.2 | (with_reducible refine Kd.C_alloc ?_ _) | (with_reducible refine Kd.C_drewN ?_ _) | (with_reducible refine Kd.C_drew ?_))); (case side4 => exact (Kd.V_reads' HO254.out).2.1); rintro e w' ⟨rfl, ⟨nd, rfl⟩⟩; refine ⟨_, rfl, ?_⟩))
  go_ret3
  exact ⟨_, by first | rfl | (simp [errW_none, errW_some] <;> rfl) | (simp [*, errW_none, errW_some] <;> rfl), by (with_reducible repeat (first | apply Kd.V_alloc | apply Kd.V_drewN | apply Kd.V_drew)); exact HO254.out, by repeat (first | (with_reducible first | exact HB.out | apply ba | apply bn | apply below_drew1) | exact HB.out)⟩
 ·replace c3 := Bool.eq_false_iff.mpr c3
  subst c3
  have H1 : (some (([] : List Int), 0, false)) = some (r1, r2, r3) := by rw [if_neg (show ¬ (false = true) by decide)] at H; exact H
  clear H
  have H := H1
  clear H1
  simp only [Option.some.injEq, Prod.mk.injEq] at H
  obtain ⟨rfl, rfl, rfl⟩ := H
  go_enter Try.func38, Try.ntmps38
  go_wp2_with (first | ((with_reducible refine gate_callee (f := 52) rfl ?_); refine goesL_ (some 7) rfl rfl Try.func52 (by kernel_rfl) rfl #[.slice A0 l0.length c0] rfl zb' ?_; (with_reducible refine (spec_maCosts.calls k _ _ l0 false _ ?side1 ?side2 A2.out).mono ?_); (case side1 => exact zf'); (case side2 => exact ze1'); rintro e w' ⟨rfl, ⟨nd, rfl⟩⟩; refine ⟨_, rfl, ?_⟩))
  go_ret3
  exact ⟨_, by first | rfl | (simp [errW_none, errW_some] <;> rfl) | (simp [*, errW_none, errW_some] <;> rfl), (Kd.V_nil _ _ _ _ _), by repeat (first | (with_reducible first | exact HB.out | apply ba | apply bn | apply below_drew1) | exact HB.out)⟩

/-! ### impl_cheapestMatch: function 69 -/
/-- The rounds over the shovels: those that are free are tried in order. -/
def fillK {σ : Type} (rec : List Int → List Bool → σ → Option (List Int × List Bool × σ)) (i n : Nat) : Nat → List Int → List Bool → σ → Option (List Int × List Bool × σ)
 | 0, M, U, s => some (M, U, s)
 | e + 1, M, U, s => if U.getD (n - (e + 1)) false = true then fillK rec i n e M U s else (rec (M.set i ((n - (e + 1) : Nat) : Int)) (U.set (n - (e + 1)) true) s).bind fun q => fillK rec i n e q.1 (q.2.1.set (n - (e + 1)) false) q.2.2
def fillF {σ : Type} (step : σ → List Int → Option σ) (n : Nat) : Nat → List Int → List Bool → σ → Option (List Int × List Bool × σ)
 | 0, M, U, s => (step s M).bind fun s' => some (M, U, s')
 | d + 1, M, U, s => fillK (fillF step n d) (n - (d + 1)) n n M U s
def matchFill.f {σ : Type} := @fillF σ
/-- The variables of a filling, in the blocks from B on. -/
structure FillEnv (B n : Nat) (cv : Value) (W : World) (M : List Int) (U : List Bool) : Prop where
 hn : W.heap[B]? = some (.cells #[.int .i64 (n : Int)] 3 (0, 0))
 hc : W.heap[B + 1]? = some (.cells #[cv] 65 (0, 0))
 hM : W.heap[B + 2]? = some (.cells (nums .i64 M).toArray 3 (0, 0))
 hm : W.heap[B + 3]? = some (.cells #[.slice (some ⟨B + 2, 0, none⟩) n n] 27 (0, 0))
 hU : W.heap[B + 4]? = some (.cells (bools U).toArray 4 (0, 0))
 hu : W.heap[B + 5]? = some (.cells #[.slice (some ⟨B + 4, 0, none⟩) n n] 80 (0, 0))
 hf : W.heap[B + 6]? = some (.cells #[.func (.func 89) #[] #[.pointer (some ⟨B, 0, none⟩), .pointer (some ⟨B + 1, 0, none⟩), .pointer (some ⟨B + 3, 0, none⟩), .pointer (some ⟨B + 5, 0, none⟩), .pointer (some ⟨B + 6, 0, none⟩)]] 81 (0, 0))
 lM : M.length = n
 lU : U.length = n
section
variable {B n : Nat} {cv : Value} {W W' : World} {M : List Int} {U : List Bool}
theorem FillEnv.kept {S : Nat → Prop} (E : FillEnv B n cv W M U) (h : Kept W W' S) (hS : ∀ k, S k → k < B) : FillEnv B n cv W' M U where
 hn := blk_kept E.hn h (fun hk => by have := hS _ hk; omega)
 hc := blk_kept E.hc h (fun hk => by have := hS _ hk; omega)
 hM := blk_kept E.hM h (fun hk => by have := hS _ hk; omega)
 hm := blk_kept E.hm h (fun hk => by have := hS _ hk; omega)
 hU := blk_kept E.hU h (fun hk => by have := hS _ hk; omega)
 hu := blk_kept E.hu h (fun hk => by have := hS _ hk; omega)
 hf := blk_kept E.hf h (fun hk => by have := hS _ hk; omega)
 lM := E.lM
 lU := E.lU
theorem FillEnv.setM (E : FillEnv B n cv W M U) (i : Nat) (x : Int) : FillEnv B n cv (W.setCell ⟨B + 2, i, none⟩ (.int .i64 x)) (M.set i x) U where
 hn := blk_far E.hn (by simp) _
 hc := blk_far E.hc (by simp) _
 hM := by rw [blk_set E.hM]; simp [nums, List.map_set]
 hm := blk_far E.hm (by simp) _
 hU := blk_far E.hU (by simp) _
 hu := blk_far E.hu (by simp) _
 hf := blk_far E.hf (by simp) _
 lM := by rw [List.length_set]; exact E.lM
 lU := E.lU
theorem FillEnv.setU (E : FillEnv B n cv W M U) (i : Nat) (x : Bool) : FillEnv B n cv (W.setCell ⟨B + 4, i, none⟩ (.bool x)) M (U.set i x) where
 hn := blk_far E.hn (by simp) _
 hc := blk_far E.hc (by simp) _
 hM := blk_far E.hM (by simp) _
 hm := blk_far E.hm (by simp) _
 hU := by rw [blk_set E.hU]; simp [bools, List.map_set]
 hu := blk_far E.hu (by simp) _
 hf := blk_far E.hf (by simp) _
 lM := E.lM
 lU := by rw [List.length_set]; exact E.lU
theorem FillEnv.cells (E : FillEnv B n cv W M U) : W.cell? ⟨B, 0, none⟩ = some (.int .i64 (n : Int)) ∧ W.cell? ⟨B + 1, 0, none⟩ = some cv ∧ W.cell? ⟨B + 3, 0, none⟩ = some (.slice (some ⟨B + 2, 0, none⟩) n n) ∧ W.cell? ⟨B + 5, 0, none⟩ = some (.slice (some ⟨B + 4, 0, none⟩) n n) ∧ W.cell? ⟨B + 6, 0, none⟩ = some (.func (.func 89) #[] #[.pointer (some ⟨B, 0, none⟩), .pointer (some ⟨B + 1, 0, none⟩), .pointer (some ⟨B + 3, 0, none⟩), .pointer (some ⟨B + 5, 0, none⟩), .pointer (some ⟨B + 6, 0, none⟩)]) :=
 ⟨by rw [blk_cell E.hn]; rfl, by rw [blk_cell E.hc]; rfl, by rw [blk_cell E.hm]; rfl, by rw [blk_cell E.hu]; rfl, by rw [blk_cell E.hf]; rfl⟩
theorem FillEnv.atU (E : FillEnv B n cv W M U) (k : Nat) (hk : k < n) : W.cell? ⟨B + 4, k, none⟩ = some (.bool (U.getD k false)) ∧ W.frozen? ⟨B + 4, k, none⟩ = false := by
 have hl := E.lU
 refine ⟨?_, blk_frozen E.hU _⟩
 rw [blk_cell E.hU]
 simp [bools, List.getD_eq_getElem?_getD, List.getElem?_eq_getElem (show k < U.length by omega)]
theorem FillEnv.atM (E : FillEnv B n cv W M U) (k : Nat) (hk : k < n) : W.cell? ⟨B + 2, k, none⟩ = some (.int .i64 (M.getD k 0)) ∧ W.frozen? ⟨B + 2, k, none⟩ = false := by
 have hl := E.lM
 refine ⟨?_, blk_frozen E.hM _⟩
 rw [blk_cell E.hM]
 simp [nums, List.getD_eq_getElem?_getD, List.getElem?_eq_getElem (show k < M.length by omega)]
theorem FillEnv.reads (E : FillEnv B n cv W M U) (hn : n ≤ 9223372036854775807) : (Kd.int .i64).C W (some ⟨B + 2, 0, none⟩) M.length M := by
 refine Kd.C_of_reads (d := (0 : Int)) (h1 := fun _ => rfl) ⟨rfl, by rw [E.lM]; exact hn, fun _ => ⟨_, rfl, fun j hj => ?_⟩⟩
 rw [add_plain]
 exact (E.atM j (by have := E.lM; omega)).1
end
theorem blk_here {W : World} {B : Nat} (o : Obj) (h : W.heap.size = B) : (W.alloc o).heap[B]? = some o := by subst h; exact blk_new W o
theorem size_al {W : World} {B : Nat} (o : Obj) (h : W.heap.size = B) : (W.alloc o).heap.size = B + 1 := by subst h; simp
theorem FillEnv.made (W : World) (n : Nat) (cv : Value) : FillEnv W.heap.size n cv
  (((((((W.alloc (.cells #[.int .i64 (n : Int)] 3)).alloc (.cells #[cv] 65)).alloc (.cells (madeCells #[.int .i64 0] n) 3)).alloc (.cells #[.slice (some ⟨W.heap.size + 1 + 1, 0, none⟩) n n] 27)).alloc (.cells (madeCells #[.bool false] n) 4)).alloc (.cells #[.slice (some ⟨W.heap.size + 1 + 1 + 1 + 1, 0, none⟩) n n] 80)).alloc (.cells #[.func (.func 89) #[] #[.pointer (some ⟨W.heap.size, 0, none⟩), .pointer (some ⟨W.heap.size + 1, 0, none⟩), .pointer (some ⟨W.heap.size + 1 + 1 + 1, 0, none⟩), .pointer (some ⟨W.heap.size + 1 + 1 + 1 + 1 + 1, 0, none⟩), .pointer (some ⟨W.heap.size + 1 + 1 + 1 + 1 + 1 + 1, 0, none⟩)]] 81)) (List.replicate n 0) (List.replicate n false) := by
 have e1 : (madeCells #[Value.int .i64 0] n) = (nums .i64 (List.replicate n 0)).toArray := by
  apply Array.ext'
  simp only [nums, List.map_replicate]
  apply List.ext_getElem
  ·simp [madeCells]
  ·intro i h1 h2
   simp [madeCells, Nat.mod_one]
 have e2 : (madeCells #[Value.bool false] n) = (bools (List.replicate n false)).toArray := by
  apply Array.ext'
  simp only [bools, List.map_replicate]
  apply List.ext_getElem
  ·simp [madeCells]
  ·intro i h1 h2
   simp [madeCells, Nat.mod_one]
 rw [e1, e2]
 have z1 := size_al (.cells #[.int .i64 (n : Int)] 3) (rfl : W.heap.size = W.heap.size)
 have z2 := size_al (.cells #[cv] 65) z1
 have z3 := size_al (.cells (nums .i64 (List.replicate n 0)).toArray 3) z2
 have z4 := size_al (.cells #[.slice (some ⟨W.heap.size + 1 + 1, 0, none⟩) n n] 27) z3
 have z5 := size_al (.cells (bools (List.replicate n false)).toArray 4) z4
 have z6 := size_al (.cells #[.slice (some ⟨W.heap.size + 1 + 1 + 1 + 1, 0, none⟩) n n] 80) z5
 exact ⟨blk_alloc (blk_alloc (blk_alloc (blk_alloc (blk_alloc (blk_alloc (blk_new _ _) _) _) _) _) _) _,
  blk_alloc (blk_alloc (blk_alloc (blk_alloc (blk_alloc (blk_here _ z1) _) _) _) _) _,
  blk_alloc (blk_alloc (blk_alloc (blk_alloc (blk_here _ z2) _) _) _) _,
  blk_alloc (blk_alloc (blk_alloc (blk_here _ z3) _) _) _,
  blk_alloc (blk_alloc (blk_here _ z4) _) _,
  blk_alloc (blk_here _ z5) _,
  blk_here _ z6, by simp, by simp⟩
section
variable {σ : Type} (step : σ → List Int → Option σ) (Inv : σ → World → Prop) (okc : Nat → Prop) (b0 : Nat) (w0 : World) (B n q0 q1 q2 : Nat)
/-- What is asked of the function that is called. -/
def CallOk : Prop := ∀ (s s' : σ) (m : List Int) (A : Option Addr) (c : Nat) (W : World), step s m = some s' → m.length = n → (Kd.int .i64).C W A m.length m → m.length ≤ c → Inv s W → Below b0 w0 W → B + 7 ≤ W.heap.size →
 Calls Try.prog 87 #[.slice A n c, .pointer (some ⟨q0, 0, none⟩), .pointer (some ⟨q1, 0, none⟩), .pointer (some ⟨q2, 0, none⟩)] W fun e W' => e = .returned (.tuple #[]) ∧ Inv s' W' ∧ Kept W W' okc ∧ Below b0 w0 W'
/-- What stands at each moment of the filling. -/
structure FillSt (W : World) (M : List Int) (U : List Bool) (s : σ) : Prop where
 E : FillEnv B n (.func (.func 87) #[] #[.pointer (some ⟨q0, 0, none⟩), .pointer (some ⟨q1, 0, none⟩), .pointer (some ⟨q2, 0, none⟩)]) W M U
 I : Inv s W
 bel : Below b0 w0 W
variable {step Inv okc b0 w0 B n q0 q1 q2}
theorem FillSt.size {W : World} {M U} {s : σ} (h : FillSt Inv b0 w0 B n q0 q1 q2 W M U s) : B + 7 ≤ W.heap.size := by have := blk_lt h.E.hf; omega
theorem FillSt.setM {W : World} {M U} {s : σ} (h : FillSt Inv b0 w0 B n q0 q1 q2 W M U s) (hI : ∀ s W W', Inv s W → Kept W W' (fun k => k = B + 2 ∨ k = B + 4) → Inv s W') (hb : b0 ≤ B) (i : Nat) (x : Int) :
  FillSt Inv b0 w0 B n q0 q1 q2 (W.setCell ⟨B + 2, i, none⟩ (.int .i64 x)) (M.set i x) U s where
 E := h.E.setM i x
 I := hI _ _ _ h.I ((Kept.refl _ _).setCell (.inl (.inl rfl)) _)
 bel := h.bel.setCell (by simp; omega) _
theorem FillSt.setU {W : World} {M U} {s : σ} (h : FillSt Inv b0 w0 B n q0 q1 q2 W M U s) (hI : ∀ s W W', Inv s W → Kept W W' (fun k => k = B + 2 ∨ k = B + 4) → Inv s W') (hb : b0 ≤ B) (i : Nat) (x : Bool) :
  FillSt Inv b0 w0 B n q0 q1 q2 (W.setCell ⟨B + 4, i, none⟩ (.bool x)) M (U.set i x) s where
 E := h.E.setU i x
 I := hI _ _ _ h.I ((Kept.refl _ _).setCell (.inl (.inr rfl)) _)
 bel := h.bel.setCell (by simp; omega) _
def FillPost (Inv : σ → World → Prop) (b0 : Nat) (w0 : World) (B n q0 q1 q2 : Nat) (okc : Nat → Prop) (W : World) (M' : List Int) (U' : List Bool) (s' : σ) (W' : World) : Prop := FillSt Inv b0 w0 B n q0 q1 q2 W' M' U' s' ∧ Kept W W' (fun k => k = B + 2 ∨ k = B + 4 ∨ okc k)
set_option maxHeartbeats 8000000 in
set_option maxRecDepth 100000 in
theorem fill_calls (hn : n ≤ 1048576) (hb : b0 ≤ B) (hI : ∀ s W W', Inv s W → Kept W W' (fun k => k = B + 2 ∨ k = B + 4) → Inv s W') (hokc : ∀ k, okc k → k < B) (HCB : CallOk step Inv okc b0 w0 B n q0 q1 q2) : ∀ (d i : Nat), i + d = n → ∀ (M : List Int) (U : List Bool) (s : σ) (M' : List Int) (U' : List Bool) (s' : σ) (W : World), fillF step n d M U s = some (M', U', s') → FillSt Inv b0 w0 B n q0 q1 q2 W M U s →
  Calls Try.prog 89 #[.int .i64 (i : Int), .pointer (some ⟨B, 0, none⟩), .pointer (some ⟨B + 1, 0, none⟩), .pointer (some ⟨B + 3, 0, none⟩), .pointer (some ⟨B + 5, 0, none⟩), .pointer (some ⟨B + 6, 0, none⟩)] W fun e W' => e = .returned (.tuple #[]) ∧ FillPost Inv b0 w0 B n q0 q1 q2 okc W M' U' s' W' := by
 have HH := Aside0.mk hI
 have HK := Aside0.mk hokc
 have HC := Aside0.mk HCB
 clear hI hokc HCB
 intro d
 induction d with
 | zero =>
  intro i hi M U s M' U' s' W h S
  obtain rfl : i = n := by omega
  have HS := Aside0.mk S
  obtain ⟨hc1, hc2, hc3, hc4, hc5⟩ := S.E.cells
  have H : (step s M).bind (fun s' => some (M, U, s')) = some (M', U', s') := h
  obtain ⟨s1, h1, h2⟩ := Option.bind_eq_some_iff.1 H
  simp only [Option.some.injEq, Prod.mk.injEq] at h2
  obtain ⟨rfl, rfl, rfl⟩ := h2
  have H1 := Aside0.mk h1
  clear h H h1 hc4 hc5 S
  go_enter Try.func89, Try.ntmps89
  go_wp2_with fail
  refine (HC.out _ _ _ _ _ _ H1.out HS.out.E.lM (HS.out.E.reads (by omega)) (by rw [HS.out.E.lM]; exact Nat.le_refl _) HS.out.I HS.out.bel HS.out.size).mono ?_
  rintro e W1 ⟨rfl, h3, h4, h5⟩
  have HP : Aside0 (FillPost Inv b0 w0 B i q0 q1 q2 okc W M U s1 W1) := ⟨⟨HS.out.E.kept h4 HK.out, h3, h5⟩, h4.mono (fun k hk => .inr (.inr hk))⟩
  clear h3 h4 h5
  go_wp2
  refine bodyPost_ret (results_none rfl _ _ _) rfl ?_
  exact ⟨rfl, HP.out⟩
 | succ d ih =>
  intro i hi M U s M' U' s' W h S
  have HS := Aside0.mk S
  have hne : ((i : Int) == (n : Int)) = false := by rw [beq_eq_false_iff_ne]; omega
  have hi0 : n - (d + 1) = i := by omega
  have H : fillK (fillF step n d) i n n M U s = some (M', U', s') := by rw [← hi0]; exact h
  obtain ⟨hc1, hc2, hc3, hc4, hc5⟩ := S.E.cells
  have H' := Aside0.mk H
  have IH := Aside0.mk ih
  have HI := Aside0.mk hi
  have hlt : i < n := by omega
  clear h H S hi0 hc2 hc3 hc4 hc5 ih hi
  go_enter Try.func89, Try.ntmps89
  go_wp2
  go_loopg [15] n (fun kq v15 w' => ∃ (M1 : List Int) (U1 : List Bool) (s1 : σ), v15 = .int .i64 ((n - kq : Nat) : Int) ∧ Aside0 (kq ≤ n) ∧ Aside0 (fillK (fillF step n d) i n kq M1 U1 s1 = some (M', U', s')) ∧ Aside0 (FillPost Inv b0 w0 B n q0 q1 q2 okc W M1 U1 s1 w'))
  case atStart => exact ⟨M, U, s, by rw [Nat.sub_self]; rfl, ⟨Nat.le_refl _⟩, H', ⟨HS.out, Kept.refl _ _⟩⟩
  case round =>
   clear H' HS hc1; obtain ⟨M1, U1, s1, rfl, HN, HA, HP⟩ := hrel; obtain ⟨hc1, hc2, hc3, hc4, hc5⟩ := HP.out.1.E.cells
   cases gk with
   | zero =>
    have H := HA.out; simp only [fillK, Option.some.injEq, Prod.mk.injEq] at H; obtain ⟨rfl, rfl, rfl⟩ := H; clear HA; simp only [Nat.sub_zero]
    go_wp2
    refine bodyPost_end (results_none rfl _ _ _) rfl ?_
    exact ⟨rfl, HP.out⟩
   | succ k1 =>
    obtain ⟨kk, hkk⟩ : ∃ kk, kk = n - (k1 + 1) := ⟨_, rfl⟩
    have hk0 : kk < n := by have := HN.out; omega
    have hk1 : n - k1 = kk + 1 := by have := HN.out; omega
    have H := HA.out; clear HA; simp only [fillK] at H; rw [← hkk] at H ⊢; have hcu := (HP.out.1.E.atU kk hk0).1; have hb1 : decide ((kk : Int) < (n : Int)) = true := decide_eq_true (by omega); have HK1 := Aside0.mk hk1; have HK0 := Aside0.mk hkk; clear hk1 hkk
    by_cases hu : U1.getD kk false = true
    ·rw [if_pos hu] at H
     have H' := Aside0.mk H; clear H; rw [hu] at hcu; clear hu
     go_wp2
     go_roundg k1
     case measure => omega
     case rel => exact ⟨M1, U1, s1, by rw [HK1.out]; go_num, ⟨by have := HN.out; omega⟩, H', HP⟩
    ·rw [if_neg hu] at H
     rw [Bool.not_eq_true] at hu; rw [hu] at hcu; clear hu; obtain ⟨⟨M2, U2, s2⟩, h1, h2⟩ := Option.bind_eq_some_iff.1 H; have H1 := Aside0.mk h1; have H' := Aside0.mk h2; clear H h1 h2; have hfu := (HP.out.1.E.atU kk hk0).2; obtain ⟨hcm, hfm⟩ := HP.out.1.E.atM i hlt
     go_wp2_with fail
     rw [show ((i : Int) + 1) = ((i + 1 : Nat) : Int) from by omega]; have S2 := (HP.out.1.setU HH.out hb kk true).setM HH.out hb i (kk : Int)
     refine (IH.out (i + 1) (by have := HI.out; omega) _ _ _ _ _ _ _ H1.out S2).mono ?_
     rintro e W1 ⟨rfl, h3⟩
     have HQ : Aside0 (FillPost Inv b0 w0 B n q0 q1 q2 okc W M2 U2 s2 W1) := ⟨h3.1, ((HP.out.2.setCell (.inl (.inr (.inl rfl))) _).setCell (.inl (.inl rfl)) _).then_ h3.2 (fun k hk => .inl hk)⟩; clear h3 S2 hc1 hc2 hc3 hc4 hc5 hcu hfu hcm hfm HP; obtain ⟨hc1, hc2, hc3, hc4, hc5⟩ := HQ.out.1.E.cells; obtain ⟨hcu, hfu⟩ := HQ.out.1.E.atU kk hk0
     go_wp2
     have HR : Aside0 (FillPost Inv b0 w0 B n q0 q1 q2 okc W M2 (U2.set kk false) s2 (W1.setCell ⟨B + 4, kk, none⟩ (.bool false))) := ⟨HQ.out.1.setU HH.out hb kk false, HQ.out.2.setCell (.inl (.inr (.inl rfl))) _⟩
     go_roundg k1
     case measure => omega
     case rel => exact ⟨M2, U2.set kk false, s2, by rw [HK1.out]; go_num, ⟨by have := HN.out; omega⟩, H', HR⟩
end
section
variable {σ : Type} {step : σ → List Int → Option σ} {Inv : σ → World → Prop} {okc : Nat → Prop} {b0 : Nat} {w0 : World} {n q0 q1 q2 : Nat}
set_option maxHeartbeats 8000000 in
set_option maxRecDepth 100000 in
theorem each_calls (W : World) (hn : n ≤ 1048576) (hb : b0 ≤ W.heap.size) (hI : ∀ s W1 W', Inv s W1 → Kept W1 W' (fun k => k = W.heap.size + 2 ∨ k = W.heap.size + 4) → Inv s W') (hokc : ∀ k, okc k → k < W.heap.size) (HCB : CallOk step Inv okc b0 w0 W.heap.size n q0 q1 q2) (s : σ) (M' : List Int) (U' : List Bool) (s' : σ) (h : fillF step n n (List.replicate n 0) (List.replicate n false) s = some (M', U', s')) (hi : Inv s W) (hB : Below b0 w0 W) :
  Calls Try.prog 71 #[.int .i64 (n : Int), .func (.func 87) #[] #[.pointer (some ⟨q0, 0, none⟩), .pointer (some ⟨q1, 0, none⟩), .pointer (some ⟨q2, 0, none⟩)]] W fun e W' => e = .returned (.tuple #[]) ∧ Inv s' W' ∧ Kept W W' okc ∧ Below b0 w0 W' := by
 have HH := Aside0.mk hI
 have HK := Aside0.mk hokc
 have HC := Aside0.mk HCB
 have H := Aside0.mk h
 have HI := Aside0.mk hi
 have HB := Aside0.mk hB
 have hmk1 := print_make (P := Try.prog) 27 3 .i64 8 Try.underlying27 info3 (by omega) n (by omega)
 have hmk2 := print_make_of (P := Try.prog) 80 4 (.bool false) 1 Try.underlying80 info4 rfl (by omega) n (by omega)
 clear hI hokc HCB h hi hB
 go_enter Try.func71, Try.ntmps71
 go_wp2_with fail
 have hal : Kept W (((((((W.alloc (.cells #[.int .i64 (n : Int)] 3)).alloc (.cells #[.func (.func 87) #[] #[.pointer (some ⟨q0, 0, none⟩), .pointer (some ⟨q1, 0, none⟩), .pointer (some ⟨q2, 0, none⟩)]] 65)).alloc (.cells (madeCells #[.int .i64 0] n) 3)).alloc (.cells #[.slice (some ⟨W.heap.size + 1 + 1, 0, none⟩) n n] 27)).alloc (.cells (madeCells #[.bool false] n) 4)).alloc (.cells #[.slice (some ⟨W.heap.size + 1 + 1 + 1 + 1, 0, none⟩) n n] 80)).alloc (.cells #[.func (.func 89) #[] #[.pointer (some ⟨W.heap.size, 0, none⟩), .pointer (some ⟨W.heap.size + 1, 0, none⟩), .pointer (some ⟨W.heap.size + 1 + 1 + 1, 0, none⟩), .pointer (some ⟨W.heap.size + 1 + 1 + 1 + 1 + 1, 0, none⟩), .pointer (some ⟨W.heap.size + 1 + 1 + 1 + 1 + 1 + 1, 0, none⟩)]] 81)) (fun _ => False) := ((((((((Kept.refl _ _).alloc _).alloc _).alloc _).alloc _).alloc _).alloc _).alloc _)
 have hE := FillEnv.made W n (.func (.func 87) #[] #[.pointer (some ⟨q0, 0, none⟩), .pointer (some ⟨q1, 0, none⟩), .pointer (some ⟨q2, 0, none⟩)])
 have hS : FillSt Inv b0 w0 W.heap.size n q0 q1 q2 _ _ _ s := ⟨hE, HH.out _ _ _ HI.out (hal.mono (fun _ h => h.elim)), HB.out.trans ((below_alloc (below_alloc (below_alloc (below_alloc (below_alloc (below_alloc (below_alloc (Below.refl _ _) _) _) _) _) _) _) _).mono hb)⟩
 refine (fill_calls hn hb HH.out HK.out HC.out n 0 (by omega) _ _ s M' U' s' _ H.out hS).mono ?_
 rintro e W1 ⟨rfl, h3⟩
 have HQ : Aside0 (Inv s' W1 ∧ Kept W W1 okc ∧ Below b0 w0 W1) := ⟨h3.1.I, (hal.mono (fun _ h => h.elim)).then_ h3.2 (fun k hk => by
  rcases hk with hk | hk | hk
  ·exact .inr (by omega)
  ·exact .inr (by omega)
  ·exact .inl hk), h3.1.bel⟩
 clear h3 hS hE hal
 go_wp2
 refine bodyPost_end (results_none rfl _ _ _) rfl ?_
 exact ⟨rfl, HQ.out⟩
end

def impl_cheapestMatch.step (k : Nat) (l0 : List (List Int)) (s : List Int × Int) (m : List Int) : Option (List Int × Int) := (impl_matchCost.f k l0 m).bind fun c => some (if s.2 < 0 then (m, c) else if c < s.2 then (m, c) else s)
def impl_cheapestMatch.f (k : Nat) (l0 : List (List Int)) : Option (List Int × Int) := if l0.length ≤ 1048576 then (fillF (impl_cheapestMatch.step k l0) l0.length l0.length (List.replicate l0.length 0) (List.replicate l0.length false) ([], -1)).bind fun q => some q.2.2 else none
/-- What the variables hold between two calls: the least cost and its match. -/
structure CmInv (h n : Nat) (A0 : Option Addr) (c0 : Nat) (s : List Int × Int) (W : World) : Prop where
 hc : W.heap[h]? = some (.cells #[.slice A0 n c0] 22 (0, 0))
 hl : W.heap[h + 3]? = some (.cells #[.int .i64 s.2] 3 (0, 0))
 hb : ∃ v, W.heap[h + 2]? = some (.cells #[v] 27 (0, 0)) ∧ Kd.R (Kd.int .i64) 3 W h (fun k => k = h + 1 ∨ h + 11 ≤ k) v s.1
theorem CmInv.kept {h n : Nat} {A0 : Option Addr} {c0 : Nat} {s : List Int × Int} {W W' : World} (I : CmInv h n A0 c0 s W) (hk : Kept W W' (fun k => k = h + 4 + 2 ∨ k = h + 4 + 4)) : CmInv h n A0 c0 s W' where
 hc := blk_kept I.hc hk (by omega)
 hl := blk_kept I.hl hk (by omega)
 hb := by
  obtain ⟨v, h1, h2⟩ := I.hb
  exact ⟨v, blk_kept h1 hk (by omega), Kd.R_kept h2 hk (fun k h3 h4 => by omega)⟩
theorem CmInv.put {h n : Nat} {A0 : Option Addr} {c0 : Nat} {s : List Int × Int} {W1 W5 : World} (I : CmInv h n A0 c0 s W1) (hb : Below W1.heap.size W1 W5) (hz : h + 4 + 7 ≤ W1.heap.size) (v : Value) (m : List Int) (cst : Int) (ho : Kd.R (Kd.int .i64) 3 W5 W1.heap.size (fun _ => True) v m) :
  CmInv h n A0 c0 (m, cst) ((W5.setCell ⟨h + 2, 0, none⟩ v).setCell ⟨h + 3, 0, none⟩ (.int .i64 cst)) := by
 have J := I.kept (Kept.of_below hb _)
 have ho2 : Kd.R (Kd.int .i64) 3 W5 h (fun k => k = h + 1 ∨ h + 11 ≤ k) v m := Kd.R_lower (Kd.R_mono (Kd.R_bound ho) (fun k hk => .inr (by have := hk.2.1; omega))) (by omega)
 obtain ⟨v0, hv, _⟩ := J.hb
 refine ⟨blk_far (blk_far J.hc (by simp) _) (by simp) _, by rw [blk_set (blk_far J.hl (by simp) _)]; rfl, v, blk_far (by rw [blk_set hv]; rfl) (by simp) _, ?_⟩
 exact Kd.R_kept ho2 (((Kept.refl W5 (fun k => k = h + 2 ∨ k = h + 3)).setCell (.inl (.inl rfl)) _).setCell (.inl (.inr rfl)) _) (fun k h1 h2 => by omega)
set_option maxHeartbeats 8000000 in
set_option maxRecDepth 100000 in
theorem cm_call (k : Nat) (A0 : Option Addr) (c0 : Nat) (l0 : List (List Int)) (w : World) (hr0 : Kd.C (Kd.slice 3 (Kd.int .i64)) w A0 l0.length l0) (hc0 : l0.length ≤ c0) (hn : l0.length ≤ 1048576) :
  CallOk (impl_cheapestMatch.step k l0) (CmInv w.heap.size l0.length A0 c0) (fun k => k = w.heap.size + 3 ∨ k = w.heap.size + 2) w.heap.size w (w.heap.size + 4) l0.length w.heap.size (w.heap.size + 3) (w.heap.size + 2) := by
 have HR0 := Aside0.mk hr0
 have HC0 := Aside0.mk hc0
 have HN := Aside0.mk hn
 clear hr0 hc0 hn
 intro s s' m A c W hs hlm hrm hcm hi hB hsz
 have HRm := Aside0.mk hrm
 have HCm := Aside0.mk hcm
 have HLm := Aside0.mk hlm
 have HI := Aside0.mk hi
 have HB := Aside0.mk hB
 have HZ := Aside0.mk hsz
 obtain ⟨cst, h1, h2⟩ := Option.bind_eq_some_iff.1 hs
 have H1 := Aside0.mk h1
 have H2 := Aside0.mk h2
 clear hs h1 h2 hcm hrm hi hB hsz hlm
 have hargs : Value.slice A l0.length c = Value.slice A m.length c := by rw [HLm.out]
 rw [hargs]
 clear hargs
 have hq0 : W.cell? ⟨w.heap.size, 0, none⟩ = some (.slice A0 l0.length c0) := by rw [blk_cell HI.out.hc]; rfl
 go_enter Try.func87, Try.ntmps87
 go_wp2_with fail
 refine (impl_matchCost.calls k A0 c0 l0 A c m cst W (Kd.C_below HR0.out HB.out) HC0.out HRm.out HCm.out H1.out).mono ?_
 rintro e W1 ⟨rfl, hd⟩
 have HI1 := am (HI.out.kept (Kept.of_below hd.below _))
 have HB1 := am (below_step HB.out hd.below)
 have HRm1 := am (Kd.C_below HRm.out hd.below)
 have HK1 := am (Kept.of_below hd.below (fun k => k = w.heap.size + 3 ∨ k = w.heap.size + 2))
 have HZ1 : Aside0 (w.heap.size + 4 + 7 ≤ W1.heap.size) := ⟨Nat.le_trans HZ.out hd.below.size⟩
 clear hd hq0 HI HB HRm HZ H1
 have hq1 : W1.cell? ⟨w.heap.size + 3, 0, none⟩ = some (.int .i64 s.2) := by rw [blk_cell HI1.out.hl]; rfl
 have H2' := H2.out
 clear H2
 simp only [Option.some.injEq] at H2'
 by_cases b1 : s.2 < 0
 ·rw [if_pos b1] at H2'
  have b1b : decide (s.2 < 0) = true := decide_eq_true b1
  clear b1
  have H2 := Aside0.mk H2'
  clear H2'
  go_wp2_with (first | ((with_reducible refine gate_dst (N := 16) rfl ?_); refine Kd.R_lit (Kd.int .i64) _ 3 ?hg (N := 16) ?hd (xs := ([] : List Int)) (inner := []) (ok := fun _ => True) (okp := fun _ => True) ?hr ?hp (fun _ hk => hk) trivial (Below.refl _ _) (Nat.le_refl _) (by simp) ?_; (case hd => rfl); (case hg => rfl); (case hr => exact zw'); (case hp => exact (Reps.none _ _)); intro v4 w3 ho4 hb4 hg_ hnew_; clear hg_ hnew_; have HO4 := Aside0.mk ho4; have HB4 := Aside0.mk hb4; clear ho4 hb4) | ((with_reducible refine gate_builtin (b := .append) (xs := #[.tmp 16, .tmp 17]) rfl ?_); at_builtin; refine Kd.R_append_rows (Kd.int .i64) (w0 := W1) W1.heap.size rfl (.tmp 16) (.tmp 17) 27 3 (.int .i64 0) 8 rfl Try.underlying27 info3 rfl (by decide) (by omega) v4 [] m _ _ _ (fun _ => True) (fun _ => False) rfl rfl ?aO ?aR (fun _ _ h => h) (fun _ h => h.elim) ?aF ?aB ?aS ?aL ?_; (case aR => exact Kd.C_below HRm1.out HB4.out); (case aB => exact HB4.out); (case aF => exact zg2'); (case aO => exact HO4.out); (case aS => exact HB4.out.size); (case aL => have := HLm.out; have := HN.out; show (0 + m.length) * 8 ≤ 140737488355328; omega); intro v5 w5 ho hb hg hat; clear hg hat; rw [List.nil_append] at ho; obtain ⟨A5, c5, eq5⟩ := Kd.R_slice ho; subst eq5; have HO := Aside0.mk ho; have HB5 := Aside0.mk hb; clear ho hb HO4 HB4; have HI5 := am (HI1.out.kept (Kept.of_below HB5.out _)); obtain ⟨vb, hvb, _⟩ := HI5.out.hb; have hy2 : w5.cell? ⟨w.heap.size + 2, 0, none⟩ = some vb := (blk_cell hvb 0).trans rfl; have hf2 := blk_frozen hvb 0; clear hvb; have hy1 : w5.cell? ⟨w.heap.size + 3, 0, none⟩ = some (.int .i64 s.2) := (blk_cell HI5.out.hl 0).trans rfl; have hf1 := blk_frozen HI5.out.hl 0))
  obtain rfl := H2.out
  refine bodyPost_end (results_none rfl _ _ _) rfl ?_
  exact ⟨rfl, CmInv.put HI1.out HB5.out HZ1.out _ _ _ HO.out, ((HK1.out.below HB5.out).setCell (.inl (.inr rfl)) _).setCell (.inl (.inl rfl)) _, ((below_step HB1.out HB5.out).setCell (by simp) _).setCell (by simp) _⟩
 ·rw [if_neg b1] at H2'
  have b1b : decide (s.2 < 0) = false := decide_eq_false b1
  clear b1
  by_cases b2 : cst < s.2
  ·rw [if_pos b2] at H2'
   have b2b : decide (cst < s.2) = true := decide_eq_true b2; clear b2; have H2 := Aside0.mk H2'; clear H2'
   go_wp2_with (first | ((with_reducible refine gate_dst (N := 16) rfl ?_); refine Kd.R_lit (Kd.int .i64) _ 3 ?hg (N := 16) ?hd (xs := ([] : List Int)) (inner := []) (ok := fun _ => True) (okp := fun _ => True) ?hr ?hp (fun _ hk => hk) trivial (Below.refl _ _) (Nat.le_refl _) (by simp) ?_; (case hd => rfl); (case hg => rfl); (case hr => exact zw'); (case hp => exact (Reps.none _ _)); intro v4 w3 ho4 hb4 hg_ hnew_; clear hg_ hnew_; have HO4 := Aside0.mk ho4; have HB4 := Aside0.mk hb4; clear ho4 hb4) | ((with_reducible refine gate_builtin (b := .append) (xs := #[.tmp 16, .tmp 17]) rfl ?_); at_builtin; refine Kd.R_append_rows (Kd.int .i64) (w0 := W1) W1.heap.size rfl (.tmp 16) (.tmp 17) 27 3 (.int .i64 0) 8 rfl Try.underlying27 info3 rfl (by decide) (by omega) v4 [] m _ _ _ (fun _ => True) (fun _ => False) rfl rfl ?aO ?aR (fun _ _ h => h) (fun _ h => h.elim) ?aF ?aB ?aS ?aL ?_; (case aR => exact Kd.C_below HRm1.out HB4.out); (case aB => exact HB4.out); (case aF => exact zg2'); (case aO => exact HO4.out); (case aS => exact HB4.out.size); (case aL => have := HLm.out; have := HN.out; show (0 + m.length) * 8 ≤ 140737488355328; omega); intro v5 w5 ho hb hg hat; clear hg hat; rw [List.nil_append] at ho; obtain ⟨A5, c5, eq5⟩ := Kd.R_slice ho; subst eq5; have HO := Aside0.mk ho; have HB5 := Aside0.mk hb; clear ho hb HO4 HB4; have HI5 := am (HI1.out.kept (Kept.of_below HB5.out _)); obtain ⟨vb, hvb, _⟩ := HI5.out.hb; have hy2 : w5.cell? ⟨w.heap.size + 2, 0, none⟩ = some vb := (blk_cell hvb 0).trans rfl; have hf2 := blk_frozen hvb 0; clear hvb; have hy1 : w5.cell? ⟨w.heap.size + 3, 0, none⟩ = some (.int .i64 s.2) := (blk_cell HI5.out.hl 0).trans rfl; have hf1 := blk_frozen HI5.out.hl 0))
   obtain rfl := H2.out
   refine bodyPost_end (results_none rfl _ _ _) rfl ?_
   exact ⟨rfl, CmInv.put HI1.out HB5.out HZ1.out _ _ _ HO.out, ((HK1.out.below HB5.out).setCell (.inl (.inr rfl)) _).setCell (.inl (.inl rfl)) _, ((below_step HB1.out HB5.out).setCell (by simp) _).setCell (by simp) _⟩
  ·rw [if_neg b2] at H2'
   have b2b : decide (cst < s.2) = false := decide_eq_false b2; clear b2; obtain rfl := H2'
   go_wp2
   refine bodyPost_end (results_none rfl _ _ _) rfl ?_
   exact ⟨rfl, HI1.out, HK1.out, HB1.out⟩
theorem CmInv.made (w : World) (n : Nat) (A0 : Option Addr) (c0 : Nat) (W : World) (hW : W = ((((w.alloc (.cells #[.slice A0 n c0] 22)).alloc (.cells #[] 3)).alloc (.cells #[.slice (some ⟨w.heap.size + 1, 0, none⟩) 0 0] 27)).alloc (.cells #[.int .i64 (-1)] 3))) :
  CmInv w.heap.size n A0 c0 ([], -1) W ∧ W.heap.size = w.heap.size + 4 ∧ Below w.heap.size w W := by
 subst hW
 have z1 := size_al (.cells #[.slice A0 n c0] 22) (rfl : w.heap.size = w.heap.size)
 have z2 := size_al (.cells #[] 3) z1
 have z3 := size_al (.cells #[.slice (some ⟨w.heap.size + 1, 0, none⟩) 0 0] 27) z2
 have z4 := size_al (.cells #[.int .i64 (-1)] 3) z3
 have ho := own_lit (w.alloc (.cells #[.slice A0 n c0] 22)) w.heap.size 3 .i64 [] (by simp) (by simp)
 rw [z1] at ho
 have hr : Kd.R (Kd.int .i64) 3 ((w.alloc (.cells #[.slice A0 n c0] 22)).alloc (.cells #[] 3)) w.heap.size (fun k => k = w.heap.size + 1 ∨ w.heap.size + 11 ≤ k) (.slice (some ⟨w.heap.size + 1, 0, none⟩) 0 0) [] := Kd.R_of_own ho (fun k hk => by simp [Value.ownBlock] at hk; omega)
 exact ⟨⟨blk_alloc (blk_alloc (blk_alloc (blk_new _ _) _) _) _, blk_here _ z3, _, blk_alloc (blk_here _ z2) _, Kd.R_alloc (Kd.R_alloc hr _) _⟩, z4, below_alloc (below_alloc (below_alloc (below_alloc (Below.refl _ _) _) _) _) _⟩
set_option maxHeartbeats 8000000 in
set_option maxRecDepth 100000 in
theorem impl_cheapestMatch.calls (k : Nat) (A0 : Option Addr) (c0 : Nat) (l0 : List (List Int)) (r1 : List Int) (r2 : Int) (w : World) (hr0 : Kd.C (Kd.slice 3 (Kd.int .i64)) w A0 l0.length l0) (hc0 : l0.length ≤ c0) (h : impl_cheapestMatch.f k l0 = some (r1, r2)) :
  Calls Try.prog 69 #[.slice A0 l0.length c0] w fun e w' => ∃ v0_ : Value, e = .returned (.tuple #[v0_, .int .i64 r2]) ∧ Kd.R (Kd.int .i64) 3 w' w.heap.size (fun _ => True) v0_ r1 ∧ Below w.heap.size w w' := by
 have HR0 := Aside0.mk hr0
 have HC0 := Aside0.mk hc0
 have hn : l0.length ≤ 1048576 := by
  unfold impl_cheapestMatch.f at h
  by_cases g : l0.length ≤ 1048576
  ·exact g
  ·rw [if_neg g] at h; cases h
 unfold impl_cheapestMatch.f at h
 rw [if_pos hn] at h
 obtain ⟨⟨M', U', s'⟩, h1, h2⟩ := Option.bind_eq_some_iff.1 h
 simp only [Option.some.injEq] at h2
 subst h2
 have H1 := Aside0.mk h1
 have HN := Aside0.mk hn
 clear hr0 hc0 h h1 hn
 go_enter Try.func69, Try.ntmps69
 go_wp2_with fail
 generalize hW : ((((w.alloc (.cells #[.slice A0 l0.length c0] 22)).alloc (.cells #[] 3)).alloc (.cells #[.slice (some ⟨w.heap.size + 1, 0, none⟩) 0 0] 27)).alloc (.cells #[.int .i64 (-1)] 3)) = W4
 obtain ⟨hI, hz, hB⟩ := CmInv.made w l0.length A0 c0 W4 hW.symm
 clear hW
 refine (each_calls (step := impl_cheapestMatch.step k l0) (Inv := CmInv w.heap.size l0.length A0 c0) (okc := fun k => k = w.heap.size + 3 ∨ k = w.heap.size + 2) (b0 := w.heap.size) (w0 := w) (n := l0.length) (q0 := w.heap.size) (q1 := w.heap.size + 3) (q2 := w.heap.size + 2) W4 HN.out (by omega) (fun s W1 W2 h1 h2 => by rw [hz] at h2; exact h1.kept h2) (fun k hk => by omega) (by rw [hz]; exact cm_call k A0 c0 l0 w HR0.out HC0.out HN.out) ([], -1) M' U' (r1, r2) H1.out hI hB).mono ?_
 rintro e W1 ⟨rfl, h3, h4, h5⟩
 obtain ⟨v, hv, hr⟩ := h3.hb
 obtain ⟨Av, cv, eqv⟩ := Kd.R_slice hr
 subst eqv
 have hx1 : W1.cell? ⟨w.heap.size + 1 + 1, 0, none⟩ = some (.slice Av r1.length cv) := (blk_cell hv 0).trans rfl
 have hx2 : W1.cell? ⟨w.heap.size + 1 + 1 + 1, 0, none⟩ = some (.int .i64 r2) := (blk_cell h3.hl 0).trans rfl
 have HR := Aside0.mk hr
 have HB := Aside0.mk h5
 clear hr h5 h4 h3 hv hI hz hB
 go_wp2
 repeat (go_quiet (fail); try go_wp2)
 go_ret2
 exact ⟨_, rfl, Kd.R_mono (Kd.R_drewN HR.out _) (fun _ _ => trivial), pw_below_drewN HB.out _⟩


end Go.Proofs.Ytjipboafhakjfaa.PFnMatches
