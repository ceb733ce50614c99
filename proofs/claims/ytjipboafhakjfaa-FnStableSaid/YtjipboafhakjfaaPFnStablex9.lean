/- Text written by a program for this claim: contracts of the functions of one law. -/
import Derived.Test.YtjipboafhakjfaaPFnStablex0
import Derived.Test.YtjipboafhakjfaaPFnStablex2
import Derived.Test.YtjipboafhakjfaaPFnStablex3
import Derived.Test.YtjipboafhakjfaaPFnStablex4
import Derived.Test.YtjipboafhakjfaaPFnStablex5
import Derived.Test.YtjipboafhakjfaaPFnStablex8
namespace Go.Proofs.Ytjipboafhakjfaa.PFnStable
open Go.RowKit Go.Proofs.YtjipboafhakjfaaW.PrintWords Go.Proofs.YtjipboafhakjfaaW.PrintLast Go.Proofs.YtjipboafhakjfaaW.PrintMore
attribute [local go_sem] max2_int min2_int max_two min_two max_three min_three max_four min_four   -- for this text's walks alone
set_option linter.unusedVariables false
set_option linter.unusedSimpArgs false
open ShortPFnStable0

/-! ### spec_l1Own: function 88 -/
def spec_l1Own.f (l0 : List Int) : Option (List Int) := (some (([] : List Int) : List Int)).bind fun y302 => (if y302.length + l0.length < 17592186044416 then (some (y302 ++ l0)) else (none))
set_option maxHeartbeats 8000000 in
set_option maxRecDepth 100000 in
theorem spec_l1Own.calls (A0 : Option Addr) (c0 : Nat) (l0 : List Int) (r : List Int) (w : World) (hr0 : Kd.C (Kd.int .i64) w A0 l0.length l0) (hc0 : l0.length ≤ c0) (h : spec_l1Own.f l0 = some r) :
  Calls Try.prog 88 #[.slice A0 l0.length c0] w fun e w' => ∃ v0_ : Value, e = .returned (v0_) ∧ Kd.R (Kd.int .i64) 3 w' w.heap.size (fun _ => True) v0_ r ∧ Below w.heap.size w w' := by
 have HR0 := Aside0.mk hr0
 have HC0 := Aside0.mk hc0
 clear hr0 hc0
 have HB := am (Below.refl w.heap.size w)
 have H : ((some (([] : List Int) : List Int)).bind fun y302 => (if y302.length + l0.length < 17592186044416 then (some (y302 ++ l0)) else (none))) = some r := h
 clear h
 obtain ⟨y302, hy302⟩ : ∃ y_ : List Int, y_ = (([] : List Int)) := ⟨_, rfl⟩
 replace H : (if y302.length + l0.length < 17592186044416 then (some (y302 ++ l0)) else (none)) = some r := by first | (rw [hy302]; with_reducible exact H) | (have H2_ := (Option.bind_some _ _).symm.trans H; rw [hy302]; with_reducible exact H2_) | (have H2_ := (Option.bind_some _ _).symm.trans H; with_reducible exact H2_) | with_reducible exact H | (rw [hy302]; exact H) | exact H
 have Ny302 := Aside0.mk hy302
 clear hy302
 by_cases c2 : y302.length + l0.length < 17592186044416
 ·rw [if_pos c2] at H
  have LMc2 := Aside0.mk c2
  clear c2
  obtain ⟨y305, hy305⟩ : ∃ y_ : List Int, y_ = (y302 ++ l0) := ⟨_, rfl⟩
  replace H : (some y305) = some r := by first | (rw [hy305]; with_reducible exact H) | (have H2_ := (Option.bind_some _ _).symm.trans H; rw [hy305]; with_reducible exact H2_) | (have H2_ := (Option.bind_some _ _).symm.trans H; with_reducible exact H2_) | with_reducible exact H | (rw [hy305]; exact H) | exact H
  have Ny305 := Aside0.mk hy305
  clear hy305
  obtain rfl := Option.some.inj H
  go_enter Try.func88, Try.ntmps88
  go_wp2_with (first | ((with_reducible refine gate_dst (N := 3) rfl ?_); refine Kd.R_lit (Kd.int .i64) _ 3 ?hg (N := 3) ?hd (xs := ([] : List Int)) (inner := []) (ok := fun _ => True) (okp := fun _ => True) ?hr ?hp (fun _ hk => hk) trivial (Below.refl _ _) (Nat.le_refl _) (by simp) ?_; (case hd => rfl); (case hg => rfl); (case hr => exact zo'); (case hp => exact (Reps.none _ _)); intro v303 w3 ho4 hb hg_ hnew_; clear hg_ hnew_; (first | rw [← Ny302.out] at ho4 | (simp only [Int.reduceToNat] at ho4; rw [← Ny302.out] at ho4)); have n0_ := am (Kd.R_lower ho4 (below_size za')); have n1_ := am (below_step za' hb); clear HB; have HO304 := n0_; have HB := n1_; clear n0_ n1_; clear hb ho4) | ((with_reducible refine gate_builtin (b := .append) (xs := #[.tmp 3, .tmp 4]) rfl ?_); at_builtin; refine Kd.R_append_rows (Kd.int .i64) (w0 := w) w.heap.size rfl (.tmp 3) (.tmp 4) 27 3 (.int .i64 0) 8 rfl Try.underlying27 info3 rfl (by decide) (by omega) v303 y302 l0 _ _ _ (fun _ => True) (fun _ => False) rfl rfl ?aO ?aR (fun _ _ h => h) (fun _ h => h.elim) ?aF ?aB ?aS ?aL ?_; (case aR => exact zv'); (case aB => exact za'); (case aF => exact (fun _ _ => trivial)); (case aO => exact (by (with_reducible repeat (first | apply Kd.R_alloc | apply Kd.R_drewN | apply Kd.R_drew)); exact HO304.out)); (case aS => exact zp2'); (case aL => have := LMc2.out; omega); intro v306 w5 ho hb hg hat; rw [← Ny305.out] at ho; have n0_ := am (hb); have n1_ := am (ho); clear HB; clear HO304; have HB := n0_; have HO307 := n1_; clear n0_ n1_; clear ho hb hg hat))
  go_ret
  exact ⟨_, by first | rfl | (simp [errW_none, errW_some] <;> rfl) | (simp [*, errW_none, errW_some] <;> rfl), by (with_reducible repeat (first | apply Kd.R_alloc | apply Kd.R_drewN | apply Kd.R_drew)); exact HO307.out, by repeat (first | (with_reducible first | exact HB.out | apply ba | apply bn | apply below_drew1) | exact HB.out)⟩
 ·rw [if_neg c2] at H
  exact absurd H (by simp)

/-! ### spec_maAll: function 70 -/
mutual
def spec_maAll.l0 : Nat → List Int → Int → List (List Int) → Int → Option ((List (List Int)))
 | 0, _, _, _, _ => none
 | k + 1, x0, x1, x5, x6 => if x6 < x1 then ((spec_l1Has.f k x0 x6).bind fun t314 => (if t314 = true then (spec_maAll.l0 k x0 x1 x5 (wrap64 (x6 + 1))) else ((spec_l1Own.f x0).bind fun t315 => (if t315.length < 17592186044416 then ((spec_maAll.f k (t315 ++ [x6]) x1).bind fun t321 => (if x5.length + t321.length < 5864062014805 then (spec_maAll.l0 k x0 x1 (x5 ++ t321) (wrap64 (x6 + 1))) else (none))) else (none))))) else (some x5)
def spec_maAll.f : Nat → List Int → Int → Option ((List (List Int)))
 | 0, _, _ => none
 | k + 1, l0, a1 => if (l0.length : Int) = a1 then ((spec_l1Own.f l0).bind fun t308 => (some (([t308] : List (List Int))))) else (spec_maAll.l0 k l0 a1 ([] : List (List Int)) 0)
end
set_option maxHeartbeats 8000000 in
set_option maxRecDepth 100000 in
theorem spec_maAll.calls (k : Nat) : ∀ (A0 : Option Addr) (c0 : Nat) (l0 : List Int) (a1 : Int) (r : List (List Int)) (w : World) (hr0 : Kd.C (Kd.int .i64) w A0 l0.length l0) (hc0 : l0.length ≤ c0) (h : spec_maAll.f k l0 a1 = some r),
  Calls Try.prog 70 #[.slice A0 l0.length c0, .int .i64 a1] w fun e w' => ∃ v0_ : Value, e = .returned (v0_) ∧ Kd.N (Kd.slice 3 (Kd.int .i64)) 27 w' w.heap.size (fun k_ => (w.heap.size ≤ k_)) v0_ r ∧ Below w.heap.size w w' := by
 induction k using Nat.strongRecOn with
 | _ k ih =>
 intro A0 c0 l0 a1 r w hr0 hc0 h
 cases k with
 | zero => exact absurd h (by simp [spec_maAll.f])
 | succ k =>
 simp only [spec_maAll.f] at h
 have HR0 := Aside0.mk hr0
 have HC0 := Aside0.mk hc0
 clear hr0 hc0
 have HB := am (Below.refl w.heap.size w)
 have H : (if (l0.length : Int) = a1 then ((spec_l1Own.f l0).bind fun t308 => (some (([t308] : List (List Int))))) else (spec_maAll.l0 k l0 a1 ([] : List (List Int)) 0)) = some r := h
 clear h
 by_cases c3 : (l0.length : Int) = a1
 ·rw [if_pos c3] at H
  have c3b0 : ((l0.length : Int) == a1) = true := beq_iff_eq.mpr c3
  have c3b1 : ((l0.length : Int) != a1) = false := bne_eq_false_iff_eq.mpr c3
  clear c3
  replace H := Option.bind_eq_some_iff.mp H
  obtain ⟨t308, A40, H⟩ := H
  replace H : (some (([t308] : List (List Int)))) = some r := H
  have A4 := Aside0.mk A40
  clear A40
  obtain ⟨y311, hy311⟩ : ∃ y_ : List (List Int), y_ = (([t308] : List (List Int))) := ⟨_, rfl⟩
  replace H : (some y311) = some r := by first | (rw [hy311]; with_reducible exact H) | (have H2_ := (Option.bind_some _ _).symm.trans H; rw [hy311]; with_reducible exact H2_) | (have H2_ := (Option.bind_some _ _).symm.trans H; with_reducible exact H2_) | with_reducible exact H | (rw [hy311]; exact H) | exact H
  have Ny311 := Aside0.mk hy311
  clear hy311
  obtain rfl := Option.some.inj H
  go_enter Try.func70, Try.ntmps70
  go_wp2_with (first | ((with_reducible refine gate_callee (f := 88) rfl ?_); refine goesL_ (some 12) rfl rfl Try.func88 (by kernel_rfl) rfl #[.slice A0 l0.length c0] rfl zb' ?_; (with_reducible refine (spec_l1Own.calls _ _ l0 t308 _ ?side1 ?side2 A4.out).mono ?_); (case side1 => exact zg'); (case side2 => exact zw2'); rintro e w5 ⟨v309, rfl, ho0, hb⟩; refine ⟨_, rfl, ?_⟩; have n0_ := am (Kd.R_lower (Kd.R_newM (M := fun k_ => (w.heap.size ≤ k_)) ho0 (below_size za') (fun k_ h_ => h_)) (below_size za')); have n1_ := am (below_step za' hb); clear HB; have HO310 := n0_; have HB := n1_; clear n0_ n1_; (try clear hb); (try clear hb2); (try clear hk); (try clear hi); (try clear ho0); obtain ⟨Ao6, co6, eo6⟩ := Kd.R_slice HO310.out; subst eo6) | ((with_reducible refine gate_dst (N := 13) rfl ?_); refine Kd.N_lit (Kd.slice 3 (Kd.int .i64)) _ 27 ?hg (N' := 13) ?hd (xs := ([t308] : List (List Int))) (inner := [.slice Ao6 t308.length co6]) (ok := (fun k_ => (w.heap.size ≤ k_))) (okp := (fun k_ => (w.heap.size ≤ k_))) ?hr ?hp (fun _ hk => hk) ((show ∀ k_, w5.heap.size ≤ k_ → (fun k_ => (w.heap.size ≤ k_)) k_ from fun k_ hk => (Nat.le_trans (below_size za') hk)) _ (Nat.le_refl _)) (Below.refl _ _) (Nat.le_refl _) (by simp) ?_; (case hd => rfl); (case hg => rfl); (case hr => exact zo'); (case hp => exact (Reps.one (show Kd.FK (Kd.slice 3 (Kd.int .i64)) _ _ t308 [.slice Ao6 t308.length co6] from (Kd.FK_slice_mk (Kd.R_reads' (Kd.R_mono (ok' := (fun k_ => (w.heap.size ≤ k_))) (HO310.out) (fun k_ hk => hk.1))).2.1 (Kd.R_F (Kd.R_mono (ok' := (fun k_ => (w.heap.size ≤ k_))) (HO310.out) (fun k_ hk => hk.1))))) (Reps.none _ _))); intro v312 w7 ho8 hb hg_ hnew_; clear hg_ hnew_; (first | rw [← Ny311.out] at ho8 | (simp only [Int.reduceToNat] at ho8; rw [← Ny311.out] at ho8)); have n0_ := am (Kd.N_lower ho8 (below_size za')); have n1_ := am (below_step za' hb); clear HB; clear HO310; have HO313 := n0_; have HB := n1_; clear n0_ n1_; clear hb ho8))
  go_ret
  exact ⟨_, by first | rfl | (simp [errW_none, errW_some] <;> rfl) | (simp [*, errW_none, errW_some] <;> rfl), by (with_reducible repeat (first | apply Kd.N_alloc | apply Kd.N_drewN | apply Kd.N_drew)); exact HO313.out, by repeat (first | (with_reducible first | exact HB.out | apply ba | apply bn | apply below_drew1) | exact HB.out)⟩
 ·rw [if_neg c3] at H
  have c3b0 : ((l0.length : Int) == a1) = false := beq_eq_false_iff_ne.mpr c3
  have c3b1 : ((l0.length : Int) != a1) = true := bne_iff_ne.mpr c3
  have H' := Aside0.mk H
  clear H
  go_enter Try.func70, Try.ntmps70
  go_wp2
  go_loopg [5, 6] k (fun kq v5 v6 w' => ∃ (x5_1 : List (List Int)) (x6_1 : Int), v6 = .int .i64 x6_1 ∧ Aside0 (spec_maAll.l0 kq l0 a1 x5_1 x6_1 = some r) ∧ Aside0 (kq ≤ k) ∧ Aside0 (Kd.N (Kd.slice 3 (Kd.int .i64)) 27 w' w.heap.size (fun k_ => (w.heap.size ≤ k_)) v5 x5_1) ∧ Aside0 (Below w.heap.size w w'))
  case atStart => exact ⟨(([] : List (List Int))), (0), zj', H', ⟨Nat.le_refl _⟩, ⟨zc3'⟩, ⟨za'⟩⟩
  case round =>
   clear H'; (try clear p2); (try clear c3); (try clear c3b0); (try clear c3b1); (try clear c7); (try clear c8); obtain ⟨x5_1, x6_1, rfl, HA, HK1, HO_5, HB⟩ := hrel
   cases gk with
   | zero => exact absurd HA.out (by simp [spec_maAll.l0])
   | succ k1 =>
    have H := HA.out; clear HA; simp only [spec_maAll.l0] at H
    by_cases c9 : x6_1 < a1
    ·rw [if_pos c9] at H
     have c9b0 : decide (x6_1 < a1) = true := decide_eq_true c9; clear c9; replace H := Option.bind_eq_some_iff.mp H; obtain ⟨t314, A100, H⟩ := H; replace H : (if t314 = true then (spec_maAll.l0 k1 l0 a1 x5_1 (wrap64 (x6_1 + 1))) else ((spec_l1Own.f l0).bind fun t315 => (if t315.length < 17592186044416 then ((spec_maAll.f k1 (t315 ++ [x6_1]) a1).bind fun t321 => (if x5_1.length + t321.length < 5864062014805 then (spec_maAll.l0 k1 l0 a1 (x5_1 ++ t321) (wrap64 (x6_1 + 1))) else (none))) else (none)))) = some r := H; have A10 := Aside0.mk A100; clear A100
     by_cases c11 : t314 = true
     ·subst c11
      have H1 : (spec_maAll.l0 k1 l0 a1 x5_1 (wrap64 (x6_1 + 1))) = some r := by rw [if_pos rfl] at H; exact H
      clear H; have H := H1; clear H1; have H' := Aside0.mk H; clear H
      go_wp2_with (first | ((with_reducible refine gate_callee (f := 84) rfl ?_); refine goesL_ (some 21) rfl rfl Try.func84 (by kernel_rfl) rfl #[.slice A0 l0.length c0, .int .i64 x6_1] rfl zb' ?_; (with_reducible refine (spec_l1Has.calls k1 _ _ l0 x6_1 true _ ?side1 ?side2 A10.out).mono ?_); (case side1 => exact zv'); (case side2 => exact zw2'); rintro e w' ⟨rfl, ⟨nd, rfl⟩⟩; refine ⟨_, rfl, ?_⟩))
      go_roundg k1
      case measure => have := HK1.out; omega
      case rel => exact ⟨(x5_1), (wrap64 (x6_1 + 1)), zj', H', ⟨zo2'⟩, ⟨zc2'⟩, ⟨za'⟩⟩
     ·replace c11 := Bool.eq_false_iff.mpr c11
      subst c11
      have H1 : ((spec_l1Own.f l0).bind fun t315 => (if t315.length < 17592186044416 then ((spec_maAll.f k1 (t315 ++ [x6_1]) a1).bind fun t321 => (if x5_1.length + t321.length < 5864062014805 then (spec_maAll.l0 k1 l0 a1 (x5_1 ++ t321) (wrap64 (x6_1 + 1))) else (none))) else (none))) = some r := by rw [if_neg (show ¬ (false = true) by decide)] at H; exact H
      clear H; have H := H1; clear H1; replace H := Option.bind_eq_some_iff.mp H; obtain ⟨t315, A120, H⟩ := H; replace H : (if t315.length < 17592186044416 then ((spec_maAll.f k1 (t315 ++ [x6_1]) a1).bind fun t321 => (if x5_1.length + t321.length < 5864062014805 then (spec_maAll.l0 k1 l0 a1 (x5_1 ++ t321) (wrap64 (x6_1 + 1))) else (none))) else (none)) = some r := H; have A12 := Aside0.mk A120; clear A120
      by_cases c13 : t315.length < 17592186044416
      ·rw [if_pos c13] at H
       have LMc13 := Aside0.mk c13; clear c13
       obtain ⟨y318, hy318⟩ : ∃ y_ : List Int, y_ = (t315 ++ [x6_1]) := ⟨_, rfl⟩
       replace H : ((spec_maAll.f k1 y318 a1).bind fun t321 => (if x5_1.length + t321.length < 5864062014805 then (spec_maAll.l0 k1 l0 a1 (x5_1 ++ t321) (wrap64 (x6_1 + 1))) else (none))) = some r := by first | (rw [hy318]; with_reducible exact H) | (have H2_ := (Option.bind_some _ _).symm.trans H; rw [hy318]; with_reducible exact H2_) | (have H2_ := (Option.bind_some _ _).symm.trans H; with_reducible exact H2_) | with_reducible exact H | (rw [hy318]; exact H) | exact H
       have Ny318 := Aside0.mk hy318; clear hy318; replace H := Option.bind_eq_some_iff.mp H; obtain ⟨t321, A140, H⟩ := H; replace H : (if x5_1.length + t321.length < 5864062014805 then (spec_maAll.l0 k1 l0 a1 (x5_1 ++ t321) (wrap64 (x6_1 + 1))) else (none)) = some r := H; have A14 := Aside0.mk A140; clear A140
       by_cases c15 : x5_1.length + t321.length < 5864062014805
       ·rw [if_pos c15] at H
        have LMc15 := Aside0.mk c15; clear c15
        obtain ⟨y324, hy324⟩ : ∃ y_ : List (List Int), y_ = (x5_1 ++ t321) := ⟨_, rfl⟩
        replace H : (spec_maAll.l0 k1 l0 a1 y324 (wrap64 (x6_1 + 1))) = some r := by first | (rw [hy324]; with_reducible exact H) | (have H2_ := (Option.bind_some _ _).symm.trans H; rw [hy324]; with_reducible exact H2_) | (have H2_ := (Option.bind_some _ _).symm.trans H; with_reducible exact H2_) | with_reducible exact H | (rw [hy324]; exact H) | exact H
        have Ny324 := Aside0.mk hy324; clear hy324; have H' := Aside0.mk H; clear H
        go_wp2_with (first | ((with_reducible refine gate_callee (f := 84) rfl ?_); refine goesL_ (some 21) rfl rfl Try.func84 (by kernel_rfl) rfl #[.slice A0 l0.length c0, .int .i64 x6_1] rfl zb' ?_; (with_reducible refine (spec_l1Has.calls k1 _ _ l0 x6_1 false _ ?side1 ?side2 A10.out).mono ?_); (case side1 => exact zv'); (case side2 => exact zw2'); rintro e w' ⟨rfl, ⟨nd, rfl⟩⟩; refine ⟨_, rfl, ?_⟩) | ((with_reducible refine gate_callee (f := 88) rfl ?_); refine goesL_ (some 25) rfl rfl Try.func88 (by kernel_rfl) rfl #[.slice A0 l0.length c0] rfl zb' ?_; (with_reducible refine (spec_l1Own.calls _ _ l0 t315 _ ?side1 ?side2 A12.out).mono ?_); (case side1 => exact zn4'); (case side2 => exact zw2'); rintro e w16 ⟨v316, rfl, ho0, hb⟩; refine ⟨_, rfl, ?_⟩; have n0_ := am (Kd.N_elder' zc2' (Kd.R_base ho0) hb); have n1_ := am (Kd.R_lower (Kd.R_newM (M := fun k_ => (w.heap.size ≤ k_)) ho0 (below_size za') (fun k_ h_ => h_)) (below_size za')); have n2_ := am (below_step za' hb); clear HO_5; clear HB; have HO_5 := n0_; have HO317 := n1_; have HB := n2_; clear n0_ n1_ n2_; (try clear hb); (try clear hb2); (try clear hk); (try clear hi); (try clear ho0)) | ((with_reducible refine gate_builtin (b := .append) (xs := #[.tmp 25, .tmp 27]) rfl ?_); at_builtin; refine Kd.R_append (Kd.int .i64) (w0 := w) w.heap.size rfl (.tmp 25) (.tmp 27) 27 3 (.int .i64 0) 8 rfl Try.underlying27 info3 rfl (by decide) (by omega) v316 t315 x6_1 [.int .i64 x6_1] (fun k_ => (w.heap.size ≤ k_)) (fun _ => False) rfl rfl ?aP (fun _ hk => hk.elim) ?aF ?aO ?aB ?aS ?aL ?_; (case aP => exact rfl); (case aB => exact za'); (case aF => exact (fun k_ hk => (Nat.le_trans (below_size za') hk))); (case aO => exact (by (with_reducible repeat (first | apply Kd.R_alloc | apply Kd.R_drewN | apply Kd.R_drew)); exact Kd.R_mono HO317.out (fun _ hk => hk.1))); (case aS => exact zp2'); (case aL => have := LMc13.out; omega); intro v319 w17 ho hb hg hat; rw [← Ny318.out] at ho; have n0_ := am (Kd.N_afterv (ok := (fun k_ => (w.heap.size ≤ k_))) zc2' hg hat); have n1_ := am (hb); have n2_ := am (ho); clear HO_5; clear HB; clear HO317; have HO_5 := n0_; have HB := n1_; have HO320 := n2_; clear n0_ n1_ n2_; clear ho hb hg hat; obtain ⟨Ao18, co18, eo18⟩ := Kd.R_slice HO320.out; subst eo18) | ((with_reducible refine gate_callee (f := 70) rfl ?_); refine goesL_ (some 30) rfl rfl Try.func70 (by kernel_rfl) rfl #[.slice Ao18 y318.length co18, .int .i64 a1] rfl zb' ?_; (with_reducible refine (ih k1 zo2' _ _ y318 a1 t321 _ ?side1 ?side2 A14.out).mono ?_); (case side1 => repeat (first | exact (Kd.R_reads' HO320.out).2.2 | (with_reducible refine Kd.C_alloc ?_ _) | (with_reducible refine Kd.C_drewN ?_ _) | (with_reducible refine Kd.C_drew ?_))); (case side2 => exact (Kd.R_reads' HO320.out).2.1); rintro e w19 ⟨v322, rfl, ho0, hb⟩; refine ⟨_, rfl, ?_⟩; have n0_ := am (Kd.N_elder' zc2' (Kd.N_base ho0) hb); have n1_ := am (Kd.R_below zs2' hb); have n2_ := am (Kd.N_lower (Kd.N_mono (ok' := fun k_ => (w.heap.size ≤ k_) ∧ some k_ ≠ (u5 : Value).ownBlock ∧ some k_ ≠ (.slice Ao18 y318.length co18 : Value).ownBlock) ho0 (fun k_ hk_ => ⟨(Nat.le_trans (below_size za') hk_), (Kd.fresh' (Kd.N_lt zc2') k_ hk_), (Kd.fresh' (Kd.R_lt zs2') k_ hk_)⟩)) (below_size za')); have n3_ := am (below_step za' hb); clear HO_5; clear HO320; clear HB; have HO_5 := n0_; have HO320 := n1_; have HO323 := n2_; have HB := n3_; clear n0_ n1_ n2_ n3_; (try clear hb); (try clear hb2); (try clear hk); (try clear hi); (try clear ho0); obtain ⟨Ao21, co21, eo21⟩ := Kd.N_slice HO323.out; subst eo21) | ((with_reducible refine gate_builtin (b := .append) (xs := #[.tmp 23, .tmp 30]) rfl ?_); at_builtin; refine Kd.N_append_rows (Kd.slice 3 (Kd.int .i64)) (w0 := w) w.heap.size rfl (.tmp 23) (.tmp 30) 22 27 (.slice none 0 0) 24 rfl Try.underlying22 info27 rfl (by decide) (by omega) u5 x5_1 t321 _ _ _ (fun k_ => (w.heap.size ≤ k_) ∧ some k_ ≠ (.slice Ao18 y318.length co18 : Value).ownBlock) (fun k_ => ((fun k_ => (w.heap.size ≤ k_) ∧ some k_ ≠ (.slice Ao18 y318.length co18 : Value).ownBlock)) k_ ∧ some k_ ≠ (u5 : Value).ownBlock) rfl rfl ?aO ?aR (fun _ hk => hk) ?aF ?aB ?aS ?aL ?_; (case aR => exact (by skip; exact Kd.N_F (Kd.N_mono (ok' := (fun k_ => ((fun k_ => (w.heap.size ≤ k_) ∧ some k_ ≠ (.slice Ao18 y318.length co18 : Value).ownBlock)) k_ ∧ some k_ ≠ (u5 : Value).ownBlock)) (HO323.out) (fun k_ hk => ⟨⟨hk.1, hk.2.2⟩, hk.2.1⟩)))); (case aB => exact za'); (case aF => exact (fun k_ hk => ⟨(Nat.le_trans (below_size za') hk), Kd.fresh' (Kd.R_lt zs2') k_ hk⟩)); (case aO => exact (by (with_reducible repeat (first | apply Kd.N_alloc | apply Kd.N_drewN | apply Kd.N_drew)); exact Kd.N_mono HO_5.out (fun _ hk => ⟨hk.1.1, hk.1.2⟩))); (case aS => exact zp2'); (case aL => have := LMc15.out; omega); intro v325 w20 ho hb hg hat; rw [← Ny324.out] at ho; have n0_ := am (Kd.R_over' zs2' (Kd.N_typed zc2') (by decide) hg); have n1_ := am (Kd.N_afterv (ok := (fun k_ => (w.heap.size ≤ k_) ∧ some k_ ≠ (.slice Ao18 y318.length co18 : Value).ownBlock)) (by (with_reducible repeat (first | apply Kd.N_alloc | apply Kd.N_drewN | apply Kd.N_drew)); exact Kd.N_mono HO323.out (fun _ hk => ⟨⟨hk.1, hk.2.2⟩, hk.2.1⟩)) hg hat); have n2_ := am (hb); have n3_ := am (ho); clear HO320; clear HO323; clear HB; clear HO_5; have HO320 := n0_; have HO323 := n1_; have HB := n2_; have HO326 := n3_; clear n0_ n1_ n2_ n3_; clear ho hb hg hat))
        go_roundg k1
        case measure => have := HK1.out; omega
        case rel => exact ⟨(y324), (wrap64 (x6_1 + 1)), zj', H', ⟨zo2'⟩, ⟨by (with_reducible repeat (first | apply Kd.N_alloc | apply Kd.N_drewN | apply Kd.N_drew)); exact Kd.N_mono HO326.out (fun _ hk => hk.1)⟩, ⟨za'⟩⟩
       ·rw [if_neg c15] at H
        exact absurd H (by simp)
      ·rw [if_neg c13] at H
       exact absurd H (by simp)
    ·rw [if_neg c9] at H
     have c9b0 : decide (x6_1 < a1) = false := decide_eq_false c9; clear c9; obtain rfl := Option.some.inj H
     go_wp2
     go_ret
     exact ⟨_, by first | rfl | (simp [errW_none, errW_some] <;> rfl) | (simp [*, errW_none, errW_some] <;> rfl), by (with_reducible repeat (first | apply Kd.N_alloc | apply Kd.N_drewN | apply Kd.N_drew)); exact HO_5.out, by repeat (first | (with_reducible first | exact HB.out | apply ba | apply bn | apply below_drew1) | exact HB.out)⟩

/-! ### spec_CountStable: function 42 -/
def spec_CountStable.l0 : Nat → List (List Int) → List (List Int) → Int → List (List Int) → Int → Int → Option (Int × Bool)
 | 0, _, _, _, _, _, _ => none
 | k + 1, x0, x1, x6, x15, x16, x17 => if x17 < x16 then (if 0 ≤ x17 then (if x17 < (x15.length : Int) then ((spec_maBlocking.f k x0 x1 (rd_L2 x15 x17)).bind fun t332 => (if (t332.length : Int) = 0 then (spec_CountStable.l0 k x0 x1 (wrap64 (x6 + 1)) x15 x16 (wrap64 (x17 + 1))) else (spec_CountStable.l0 k x0 x1 x6 x15 x16 (wrap64 (x17 + 1))))) else (none)) else (none)) else (some (x6, true))
def spec_CountStable.f (k : Nat) (l0 : List (List Int)) (l1 : List (List Int)) : Option (Int × Bool) := (spec_maBoth.f k l0 l1).bind fun t327 => (if t327 = true then ((spec_maAll.f k ([] : List Int) (l0.length : Int)).bind fun t328 => (spec_CountStable.l0 k l0 l1 0 t328 (t328.length : Int) 0)) else (some (0, false)))
set_option maxHeartbeats 8000000 in
set_option maxRecDepth 100000 in
theorem spec_CountStable.calls (k : Nat) (A0 : Option Addr) (c0 : Nat) (l0 : List (List Int)) (A1 : Option Addr) (c1 : Nat) (l1 : List (List Int)) (r1 : Int) (r2 : Bool) (w : World) (hr0 : Kd.C (Kd.slice 3 (Kd.int .i64)) w A0 l0.length l0) (hc0 : l0.length ≤ c0) (hr1 : Kd.C (Kd.slice 3 (Kd.int .i64)) w A1 l1.length l1) (hc1 : l1.length ≤ c1) (h : spec_CountStable.f k l0 l1 = some (r1, r2)) :
  Calls Try.prog 42 #[.slice A0 l0.length c0, .slice A1 l1.length c1] w fun e w' => e = .returned (.tuple #[.int .i64 r1, .bool r2]) ∧ Below w.heap.size w w' := by
 have HR0 := Aside0.mk hr0
 have HC0 := Aside0.mk hc0
 clear hr0 hc0
 have HR1 := Aside0.mk hr1
 have HC1 := Aside0.mk hc1
 clear hr1 hc1
 have HB := am (Below.refl w.heap.size w)
 have H : ((spec_maBoth.f k l0 l1).bind fun t327 => (if t327 = true then ((spec_maAll.f k ([] : List Int) (l0.length : Int)).bind fun t328 => (spec_CountStable.l0 k l0 l1 0 t328 (t328.length : Int) 0)) else (some (0, false)))) = some (r1, r2) := h
 clear h
 replace H := Option.bind_eq_some_iff.mp H
 obtain ⟨t327, A30, H⟩ := H
 replace H : (if t327 = true then ((spec_maAll.f k ([] : List Int) (l0.length : Int)).bind fun t328 => (spec_CountStable.l0 k l0 l1 0 t328 (t328.length : Int) 0)) else (some (0, false))) = some (r1, r2) := H
 have A3 := Aside0.mk A30
 clear A30
 by_cases c4 : t327 = true
 ·subst c4
  have H1 : ((spec_maAll.f k ([] : List Int) (l0.length : Int)).bind fun t328 => (spec_CountStable.l0 k l0 l1 0 t328 (t328.length : Int) 0)) = some (r1, r2) := by rw [if_pos rfl] at H; exact H
  clear H
  have H := H1
  clear H1
  replace H := Option.bind_eq_some_iff.mp H
  obtain ⟨t328, A50, H⟩ := H
  replace H : (spec_CountStable.l0 k l0 l1 0 t328 (t328.length : Int) 0) = some (r1, r2) := H
  have A5 := Aside0.mk A50
  clear A50
  have H' := Aside0.mk H
  clear H
  go_enter Try.func42, Try.ntmps42
  go_wp2_with (first | ((with_reducible refine gate_callee (f := 62) rfl ?_); refine goesL_ (some 11) rfl rfl Try.func62 (by kernel_rfl) rfl #[.slice A0 l0.length c0, .slice A1 l1.length c1] rfl zb' ?_; (with_reducible refine (spec_maBoth.calls k _ _ l0 _ _ l1 true _ ?side1 ?side2 ?side3 ?side4 A3.out).mono ?_); (case side1 => exact zg'); (case side2 => exact zw2'); (case side3 => exact zn'); (case side4 => exact zn3'); rintro e w6 ⟨rfl, hb⟩; refine ⟨_, rfl, ?_⟩; have n0_ := am (below_step za' hb); clear HB; have HB := n0_; clear n0_; (try clear hb); (try clear hb2); (try clear hk); (try clear hi)) | ((with_reducible refine gate_callee (f := 70) rfl ?_); refine goesL_ (some 15) rfl rfl Try.func70 (by kernel_rfl) rfl #[.slice none 0 0, .int .i64 (l0.length : Int)] rfl zb' ?_; (refine (spec_maAll.calls k _ _ ([] : List Int) (l0.length : Int) t328 _ ?side1 ?side2 A5.out).mono ?_); (case side1 => exact Kd.C_nil _ _); (case side2 => exact Nat.le_refl _); rintro e w7 ⟨v329, rfl, ho0, hb⟩; refine ⟨_, rfl, ?_⟩; have n0_ := am (Kd.N_lower (Kd.N_mono (ok' := fun k_ => True) ho0 (fun k_ hk_ => trivial)) (below_size za')); have n1_ := am (below_step za' hb); clear HB; have HO330 := n0_; have HB := n1_; clear n0_ n1_; (try clear hb); (try clear hb2); (try clear hk); (try clear hi); (try clear ho0); obtain ⟨Ao8, co8, eo8⟩ := Kd.N_slice HO330.out; subst eo8))
  go_loopg [6, 17] k (fun kq v6 v17 w' => ∃ (x6_1 : Int) (x17_1 : Int), v6 = .int .i64 x6_1 ∧ v17 = .int .i64 x17_1 ∧ Aside0 (spec_CountStable.l0 kq l0 l1 x6_1 t328 (t328.length : Int) x17_1 = some (r1, r2)) ∧ Aside0 (kq ≤ k) ∧ Aside0 (Kd.N (Kd.slice 3 (Kd.int .i64)) 27 w' w.heap.size (fun _ => True) (.slice Ao8 t328.length co8) t328) ∧ Aside0 (Below w.heap.size w w'))
  case atStart => exact ⟨(0), (0), zj', zj', H', ⟨Nat.le_refl _⟩, ⟨by (with_reducible repeat (first | apply Kd.N_alloc | apply Kd.N_drewN | apply Kd.N_drew)); exact HO330.out⟩, ⟨za'⟩⟩
  case round =>
   clear H'; (try clear c1); (try clear p2); (try clear c4); (try clear c6); (try clear c7); obtain ⟨x6_1, x17_1, rfl, rfl, HA, HK1, HO_15, HB⟩ := hrel
   cases gk with
   | zero => exact absurd HA.out (by simp [spec_CountStable.l0])
   | succ k1 =>
    have H := HA.out; clear HA; simp only [spec_CountStable.l0] at H
    by_cases c9 : x17_1 < (t328.length : Int)
    ·rw [if_pos c9] at H
     have c9b0 : decide (x17_1 < (t328.length : Int)) = true := decide_eq_true c9; clear c9
     by_cases c10 : 0 ≤ x17_1
     ·rw [if_pos c10] at H
      have c10b0 : decide (0 ≤ x17_1) = true := decide_eq_true c10; clear c10
      by_cases c11 : x17_1 < (t328.length : Int)
      ·rw [if_pos c11] at H
       have c11b0 : decide (x17_1 < (t328.length : Int)) = true := decide_eq_true c11; clear c11; replace H := Option.bind_eq_some_iff.mp H; obtain ⟨t332, A120, H⟩ := H; replace H : (if (t332.length : Int) = 0 then (spec_CountStable.l0 k1 l0 l1 (wrap64 (x6_1 + 1)) t328 (t328.length : Int) (wrap64 (x17_1 + 1))) else (spec_CountStable.l0 k1 l0 l1 x6_1 t328 (t328.length : Int) (wrap64 (x17_1 + 1)))) = some (r1, r2) := H; have A12 := Aside0.mk A120; clear A120
       by_cases c13 : (t332.length : Int) = 0
       ·rw [if_pos c13] at H
        have c13b0 : ((t332.length : Int) == 0) = true := beq_iff_eq.mpr c13; have c13b1 : ((t332.length : Int) != 0) = false := bne_eq_false_iff_eq.mpr c13; clear c13; have H' := Aside0.mk H; clear H; have p331 : 0 ≤ (x17_1 : Int) := odt; have q331 : x17_1 < (t328.length : Int) := odt; obtain ⟨ad331, A331_0, c331_0, e331, hx331_0, hl331_0, hi331_0⟩ := at_L2 (Kd.N_reads' HO_15.out).2.2 x17_1 p331 q331; cases e331; obtain ⟨ce331, hce331, hMe331, hcc331⟩ := Kd.N_get HO_15.out [] x17_1 p331 (by first | exact q331 | exact odt | (have e_ := (Kd.N_reads' HO_15.out).1; omega)); obtain ⟨ua331_0, uc331_0, rfl, ul331_0, ge331_0⟩ := Kd.FK_slice_open hMe331; have hv331_0 := hcc331 0 _ rfl; rw [Nat.add_zero, show ((Kd.slice 3 (Kd.int .i64))).sz = 1 from rfl, Nat.mul_one] at hv331_0; replace hv331_0 := Option.some.inj (hv331_0.symm.trans hx331_0)
        injection hv331_0 with hva_ hvn_ hvc_
        rw [hva_] at ge331_0; rw [hvc_] at ul331_0; have HL331_0 := am (show Kd.V (Kd.int .i64) 3 _ w.heap.size _ _ (rd_L2 t328 x17_1) from Kd.V_mk ul331_0 ge331_0); clear hva_ hvn_ hvc_ ge331_0 ul331_0; clear hcc331 hce331; have HR331_0 := Aside0.mk hi331_0; have HC331_0 := Aside0.mk hl331_0; clear hi331_0 hl331_0; replace p331 := eq_true p331; replace q331 := eq_true q331
        go_wp2_with (first | ((with_reducible refine gate_callee (f := 63) rfl ?_); refine goesL_ (some 24) rfl rfl Try.func63 (by kernel_rfl) rfl #[.slice A0 l0.length c0, .slice A1 l1.length c1, .slice A331_0 (rd_L2 t328 x17_1).length c331_0] rfl zb' ?_; (with_reducible refine (spec_maBlocking.calls k1 _ _ l0 _ _ l1 _ _ (rd_L2 t328 x17_1) t332 _ ?side1 ?side2 ?side3 ?side4 ?side5 ?side6 A12.out).mono ?_); (case side1 => exact zv'); (case side2 => exact zw2'); (case side3 => exact zq'); (case side4 => exact zn3'); (case side5 => exact zr4'); (case side6 => exact HC331_0.out); rintro e w14 ⟨v333, rfl, ho0, hb⟩; refine ⟨_, rfl, ?_⟩; have n0_ := am (Kd.N_elder' zt2' (Kd.N_base (Kd.S_N ho0)) hb); have n1_ := am (Kd.V_elder' (by (with_reducible repeat (first | apply Kd.V_alloc | apply Kd.V_drewN | apply Kd.V_drew)); exact HL331_0.out) (Kd.N_base (Kd.S_N ho0)) hb); have n2_ := am (Kd.N_lower (Kd.N_mono (ok' := fun k_ => some k_ ≠ (.slice (some ad331) t328.length co8 : Value).ownBlock) (Kd.S_N (Kd.S_bound ho0)) (fun k_ hk_ => (Kd.fresh' (Kd.N_lt zt2') k_ hk_.2.1))) (below_size za')); have n3_ := am (Kd.C_below zs1' hb); have n4_ := am (below_step za' hb); clear HO_15; clear HL331_0; clear HR331_0; clear HB; have HO_15 := n0_; have HL331_0 := n1_; have HO334 := n2_; have HR331_0 := n3_; have HB := n4_; clear n0_ n1_ n2_ n3_ n4_; (try clear hb); (try clear hb2); (try clear hk); (try clear hi); (try clear ho0); obtain ⟨Ao15, co15, eo15⟩ := Kd.N_slice HO334.out; subst eo15))
        go_roundg k1
        case measure => have := HK1.out; omega
        case rel => exact ⟨(wrap64 (x6_1 + 1)), (wrap64 (x17_1 + 1)), zj', zj', H', ⟨zo2'⟩, ⟨zt4'⟩, ⟨za'⟩⟩
       ·rw [if_neg c13] at H
        have c13b0 : ((t332.length : Int) == 0) = false := beq_eq_false_iff_ne.mpr c13; have c13b1 : ((t332.length : Int) != 0) = true := bne_iff_ne.mpr c13
        have c13b2 : ¬ (t332 = []) := fun h_ => c13 (by rw [h_]; rfl)
        have H' := Aside0.mk H; clear H; have p331 : 0 ≤ (x17_1 : Int) := odt; have q331 : x17_1 < (t328.length : Int) := odt; obtain ⟨ad331, A331_0, c331_0, e331, hx331_0, hl331_0, hi331_0⟩ := at_L2 (Kd.N_reads' HO_15.out).2.2 x17_1 p331 q331; cases e331; obtain ⟨ce331, hce331, hMe331, hcc331⟩ := Kd.N_get HO_15.out [] x17_1 p331 (by first | exact q331 | exact odt | (have e_ := (Kd.N_reads' HO_15.out).1; omega)); obtain ⟨ua331_0, uc331_0, rfl, ul331_0, ge331_0⟩ := Kd.FK_slice_open hMe331; have hv331_0 := hcc331 0 _ rfl; rw [Nat.add_zero, show ((Kd.slice 3 (Kd.int .i64))).sz = 1 from rfl, Nat.mul_one] at hv331_0; replace hv331_0 := Option.some.inj (hv331_0.symm.trans hx331_0)
        injection hv331_0 with hva_ hvn_ hvc_
        rw [hva_] at ge331_0; rw [hvc_] at ul331_0; have HL331_0 := am (show Kd.V (Kd.int .i64) 3 _ w.heap.size _ _ (rd_L2 t328 x17_1) from Kd.V_mk ul331_0 ge331_0); clear hva_ hvn_ hvc_ ge331_0 ul331_0; clear hcc331 hce331; have HR331_0 := Aside0.mk hi331_0; have HC331_0 := Aside0.mk hl331_0; clear hi331_0 hl331_0; replace p331 := eq_true p331; replace q331 := eq_true q331
        go_wp2_with (first | ((with_reducible refine gate_callee (f := 63) rfl ?_); refine goesL_ (some 24) rfl rfl Try.func63 (by kernel_rfl) rfl #[.slice A0 l0.length c0, .slice A1 l1.length c1, .slice A331_0 (rd_L2 t328 x17_1).length c331_0] rfl zb' ?_; (with_reducible refine (spec_maBlocking.calls k1 _ _ l0 _ _ l1 _ _ (rd_L2 t328 x17_1) t332 _ ?side1 ?side2 ?side3 ?side4 ?side5 ?side6 A12.out).mono ?_); (case side1 => exact zv'); (case side2 => exact zw2'); (case side3 => exact zq'); (case side4 => exact zn3'); (case side5 => exact zr4'); (case side6 => exact HC331_0.out); rintro e w16 ⟨v333, rfl, ho0, hb⟩; refine ⟨_, rfl, ?_⟩; have n0_ := am (Kd.N_elder' zt2' (Kd.N_base (Kd.S_N ho0)) hb); have n1_ := am (Kd.V_elder' (by (with_reducible repeat (first | apply Kd.V_alloc | apply Kd.V_drewN | apply Kd.V_drew)); exact HL331_0.out) (Kd.N_base (Kd.S_N ho0)) hb); have n2_ := am (Kd.N_lower (Kd.N_mono (ok' := fun k_ => some k_ ≠ (.slice (some ad331) t328.length co8 : Value).ownBlock) (Kd.S_N (Kd.S_bound ho0)) (fun k_ hk_ => (Kd.fresh' (Kd.N_lt zt2') k_ hk_.2.1))) (below_size za')); have n3_ := am (Kd.C_below zs1' hb); have n4_ := am (below_step za' hb); clear HO_15; clear HL331_0; clear HR331_0; clear HB; have HO_15 := n0_; have HL331_0 := n1_; have HO334 := n2_; have HR331_0 := n3_; have HB := n4_; clear n0_ n1_ n2_ n3_ n4_; (try clear hb); (try clear hb2); (try clear hk); (try clear hi); (try clear ho0); obtain ⟨Ao17, co17, eo17⟩ := Kd.N_slice HO334.out; subst eo17))
        go_roundg k1
        case measure => have := HK1.out; omega
        case rel => exact ⟨(x6_1), (wrap64 (x17_1 + 1)), zj', zj', H', ⟨zo2'⟩, ⟨zt4'⟩, ⟨za'⟩⟩
      ·rw [if_neg c11] at H
       exact absurd H (by simp)
     ·rw [if_neg c10] at H
      exact absurd H (by simp)
    ·rw [if_neg c9] at H
     have c9b0 : decide (x17_1 < (t328.length : Int)) = false := decide_eq_false c9; clear c9; simp only [Option.some.injEq, Prod.mk.injEq] at H; obtain ⟨rfl, rfl⟩ := H
     go_wp2
     go_ret2
     exact ⟨by first | rfl | (simp [errW_none, errW_some] <;> rfl) | (simp [*, errW_none, errW_some] <;> rfl), by repeat (first | (with_reducible first | exact HB.out | apply ba | apply bn | apply below_drew1) | exact HB.out)⟩
 ·replace c4 := Bool.eq_false_iff.mpr c4
  subst c4
  have H1 : (some (0, false)) = some (r1, r2) := by rw [if_neg (show ¬ (false = true) by decide)] at H; exact H
  clear H
  have H := H1
  clear H1
  simp only [Option.some.injEq, Prod.mk.injEq] at H
  obtain ⟨rfl, rfl⟩ := H
  go_enter Try.func42, Try.ntmps42
  go_wp2_with (first | ((with_reducible refine gate_callee (f := 62) rfl ?_); refine goesL_ (some 11) rfl rfl Try.func62 (by kernel_rfl) rfl #[.slice A0 l0.length c0, .slice A1 l1.length c1] rfl zb' ?_; (with_reducible refine (spec_maBoth.calls k _ _ l0 _ _ l1 false _ ?side1 ?side2 ?side3 ?side4 A3.out).mono ?_); (case side1 => exact zg'); (case side2 => exact zw2'); (case side3 => exact zn'); (case side4 => exact zn3'); rintro e w18 ⟨rfl, hb⟩; refine ⟨_, rfl, ?_⟩; have n0_ := am (below_step za' hb); clear HB; have HB := n0_; clear n0_; (try clear hb); (try clear hb2); (try clear hk); (try clear hi)))
  go_ret2
  exact ⟨by first | rfl | (simp [errW_none, errW_some] <;> rfl) | (simp [*, errW_none, errW_some] <;> rfl), by repeat (first | (with_reducible first | exact HB.out | apply ba | apply bn | apply below_drew1) | exact HB.out)⟩

/-! ### impl_CountStable: function 43 -/
/-- The rounds over the shovels: those that are free are tried in order. -/
def fillK {σ : Type} (rec : List Int → List Bool → σ → Option (List Int × List Bool × σ)) (i n : Nat) : Nat → List Int → List Bool → σ → Option (List Int × List Bool × σ)
 | 0, M, U, s => some (M, U, s)
 | e + 1, M, U, s => if U.getD (n - (e + 1)) false = true then fillK rec i n e M U s else (rec (M.set i ((n - (e + 1) : Nat) : Int)) (U.set (n - (e + 1)) true) s).bind fun q => fillK rec i n e q.1 (q.2.1.set (n - (e + 1)) false) q.2.2
def fillF {σ : Type} (step : σ → List Int → Option σ) (n : Nat) : Nat → List Int → List Bool → σ → Option (List Int × List Bool × σ)
 | 0, M, U, s => (step s M).bind fun s' => some (M, U, s')
 | d + 1, M, U, s => fillK (fillF step n d) (n - (d + 1)) n n M U s
def matchFill.f {σ : Type} := @fillF σ
/-- The variables of a filling, in the blocks from B on. -/
structure FillEnv (B n : Nat) (cv : Value) (W : World) (M : List Int) (U : List Bool) : Prop where
 hn : W.heap[B]? = some (.cells #[.int .i64 (n : Int)] 3 (0, 0))
 hc : W.heap[B + 1]? = some (.cells #[cv] 65 (0, 0))
 hM : W.heap[B + 2]? = some (.cells (nums .i64 M).toArray 3 (0, 0))
 hm : W.heap[B + 3]? = some (.cells #[.slice (some ⟨B + 2, 0, none⟩) n n] 27 (0, 0))
 hU : W.heap[B + 4]? = some (.cells (bools U).toArray 4 (0, 0))
 hu : W.heap[B + 5]? = some (.cells #[.slice (some ⟨B + 4, 0, none⟩) n n] 80 (0, 0))
 hf : W.heap[B + 6]? = some (.cells #[.func (.func 89) #[] #[.pointer (some ⟨B, 0, none⟩), .pointer (some ⟨B + 1, 0, none⟩), .pointer (some ⟨B + 3, 0, none⟩), .pointer (some ⟨B + 5, 0, none⟩), .pointer (some ⟨B + 6, 0, none⟩)]] 81 (0, 0))
 lM : M.length = n
 lU : U.length = n
section
variable {B n : Nat} {cv : Value} {W W' : World} {M : List Int} {U : List Bool}
theorem FillEnv.kept {S : Nat → Prop} (E : FillEnv B n cv W M U) (h : Kept W W' S) (hS : ∀ k, S k → k < B) : FillEnv B n cv W' M U where
 hn := blk_kept E.hn h (fun hk => by have := hS _ hk; omega)
 hc := blk_kept E.hc h (fun hk => by have := hS _ hk; omega)
 hM := blk_kept E.hM h (fun hk => by have := hS _ hk; omega)
 hm := blk_kept E.hm h (fun hk => by have := hS _ hk; omega)
 hU := blk_kept E.hU h (fun hk => by have := hS _ hk; omega)
 hu := blk_kept E.hu h (fun hk => by have := hS _ hk; omega)
 hf := blk_kept E.hf h (fun hk => by have := hS _ hk; omega)
 lM := E.lM
 lU := E.lU
theorem FillEnv.setM (E : FillEnv B n cv W M U) (i : Nat) (x : Int) : FillEnv B n cv (W.setCell ⟨B + 2, i, none⟩ (.int .i64 x)) (M.set i x) U where
 hn := blk_far E.hn (by simp) _
 hc := blk_far E.hc (by simp) _
 hM := by rw [blk_set E.hM]; simp [nums, List.map_set]
 hm := blk_far E.hm (by simp) _
 hU := blk_far E.hU (by simp) _
 hu := blk_far E.hu (by simp) _
 hf := blk_far E.hf (by simp) _
 lM := by rw [List.length_set]; exact E.lM
 lU := E.lU
theorem FillEnv.setU (E : FillEnv B n cv W M U) (i : Nat) (x : Bool) : FillEnv B n cv (W.setCell ⟨B + 4, i, none⟩ (.bool x)) M (U.set i x) where
 hn := blk_far E.hn (by simp) _
 hc := blk_far E.hc (by simp) _
 hM := blk_far E.hM (by simp) _
 hm := blk_far E.hm (by simp) _
 hU := by rw [blk_set E.hU]; simp [bools, List.map_set]
 hu := blk_far E.hu (by simp) _
 hf := blk_far E.hf (by simp) _
 lM := E.lM
 lU := by rw [List.length_set]; exact E.lU
theorem FillEnv.cells (E : FillEnv B n cv W M U) : W.cell? ⟨B, 0, none⟩ = some (.int .i64 (n : Int)) ∧ W.cell? ⟨B + 1, 0, none⟩ = some cv ∧ W.cell? ⟨B + 3, 0, none⟩ = some (.slice (some ⟨B + 2, 0, none⟩) n n) ∧ W.cell? ⟨B + 5, 0, none⟩ = some (.slice (some ⟨B + 4, 0, none⟩) n n) ∧ W.cell? ⟨B + 6, 0, none⟩ = some (.func (.func 89) #[] #[.pointer (some ⟨B, 0, none⟩), .pointer (some ⟨B + 1, 0, none⟩), .pointer (some ⟨B + 3, 0, none⟩), .pointer (some ⟨B + 5, 0, none⟩), .pointer (some ⟨B + 6, 0, none⟩)]) :=
 ⟨by rw [blk_cell E.hn]; rfl, by rw [blk_cell E.hc]; rfl, by rw [blk_cell E.hm]; rfl, by rw [blk_cell E.hu]; rfl, by rw [blk_cell E.hf]; rfl⟩
theorem FillEnv.atU (E : FillEnv B n cv W M U) (k : Nat) (hk : k < n) : W.cell? ⟨B + 4, k, none⟩ = some (.bool (U.getD k false)) ∧ W.frozen? ⟨B + 4, k, none⟩ = false := by
 have hl := E.lU
 refine ⟨?_, blk_frozen E.hU _⟩
 rw [blk_cell E.hU]
 simp [bools, List.getD_eq_getElem?_getD, List.getElem?_eq_getElem (show k < U.length by omega)]
theorem FillEnv.atM (E : FillEnv B n cv W M U) (k : Nat) (hk : k < n) : W.cell? ⟨B + 2, k, none⟩ = some (.int .i64 (M.getD k 0)) ∧ W.frozen? ⟨B + 2, k, none⟩ = false := by
 have hl := E.lM
 refine ⟨?_, blk_frozen E.hM _⟩
 rw [blk_cell E.hM]
 simp [nums, List.getD_eq_getElem?_getD, List.getElem?_eq_getElem (show k < M.length by omega)]
theorem FillEnv.reads (E : FillEnv B n cv W M U) (hn : n ≤ 9223372036854775807) : (Kd.int .i64).C W (some ⟨B + 2, 0, none⟩) M.length M := by
 refine Kd.C_of_reads (d := (0 : Int)) (h1 := fun _ => rfl) ⟨rfl, by rw [E.lM]; exact hn, fun _ => ⟨_, rfl, fun j hj => ?_⟩⟩
 rw [add_plain]
 exact (E.atM j (by have := E.lM; omega)).1
end
theorem blk_here {W : World} {B : Nat} (o : Obj) (h : W.heap.size = B) : (W.alloc o).heap[B]? = some o := by subst h; exact blk_new W o
theorem size_al {W : World} {B : Nat} (o : Obj) (h : W.heap.size = B) : (W.alloc o).heap.size = B + 1 := by subst h; simp
theorem FillEnv.made (W : World) (n : Nat) (cv : Value) : FillEnv W.heap.size n cv
  (((((((W.alloc (.cells #[.int .i64 (n : Int)] 3)).alloc (.cells #[cv] 65)).alloc (.cells (madeCells #[.int .i64 0] n) 3)).alloc (.cells #[.slice (some ⟨W.heap.size + 1 + 1, 0, none⟩) n n] 27)).alloc (.cells (madeCells #[.bool false] n) 4)).alloc (.cells #[.slice (some ⟨W.heap.size + 1 + 1 + 1 + 1, 0, none⟩) n n] 80)).alloc (.cells #[.func (.func 89) #[] #[.pointer (some ⟨W.heap.size, 0, none⟩), .pointer (some ⟨W.heap.size + 1, 0, none⟩), .pointer (some ⟨W.heap.size + 1 + 1 + 1, 0, none⟩), .pointer (some ⟨W.heap.size + 1 + 1 + 1 + 1 + 1, 0, none⟩), .pointer (some ⟨W.heap.size + 1 + 1 + 1 + 1 + 1 + 1, 0, none⟩)]] 81)) (List.replicate n 0) (List.replicate n false) := by
 have e1 : (madeCells #[Value.int .i64 0] n) = (nums .i64 (List.replicate n 0)).toArray := by
  apply Array.ext'
  simp only [nums, List.map_replicate]
  apply List.ext_getElem
  ·simp [madeCells]
  ·intro i h1 h2
   simp [madeCells, Nat.mod_one]
 have e2 : (madeCells #[Value.bool false] n) = (bools (List.replicate n false)).toArray := by
  apply Array.ext'
  simp only [bools, List.map_replicate]
  apply List.ext_getElem
  ·simp [madeCells]
  ·intro i h1 h2
   simp [madeCells, Nat.mod_one]
 rw [e1, e2]
 have z1 := size_al (.cells #[.int .i64 (n : Int)] 3) (rfl : W.heap.size = W.heap.size)
 have z2 := size_al (.cells #[cv] 65) z1
 have z3 := size_al (.cells (nums .i64 (List.replicate n 0)).toArray 3) z2
 have z4 := size_al (.cells #[.slice (some ⟨W.heap.size + 1 + 1, 0, none⟩) n n] 27) z3
 have z5 := size_al (.cells (bools (List.replicate n false)).toArray 4) z4
 have z6 := size_al (.cells #[.slice (some ⟨W.heap.size + 1 + 1 + 1 + 1, 0, none⟩) n n] 80) z5
 exact ⟨blk_alloc (blk_alloc (blk_alloc (blk_alloc (blk_alloc (blk_alloc (blk_new _ _) _) _) _) _) _) _,
  blk_alloc (blk_alloc (blk_alloc (blk_alloc (blk_alloc (blk_here _ z1) _) _) _) _) _,
  blk_alloc (blk_alloc (blk_alloc (blk_alloc (blk_here _ z2) _) _) _) _,
  blk_alloc (blk_alloc (blk_alloc (blk_here _ z3) _) _) _,
  blk_alloc (blk_alloc (blk_here _ z4) _) _,
  blk_alloc (blk_here _ z5) _,
  blk_here _ z6, by simp, by simp⟩
section
variable {σ : Type} (step : σ → List Int → Option σ) (Inv : σ → World → Prop) (okc : Nat → Prop) (b0 : Nat) (w0 : World) (B n q0 q1 q2 : Nat)
/-- What is asked of the function that is called. -/
def CallOk : Prop := ∀ (s s' : σ) (m : List Int) (A : Option Addr) (c : Nat) (W : World), step s m = some s' → m.length = n → (Kd.int .i64).C W A m.length m → m.length ≤ c → Inv s W → Below b0 w0 W → B + 7 ≤ W.heap.size →
 Calls Try.prog 72 #[.slice A n c, .pointer (some ⟨q0, 0, none⟩), .pointer (some ⟨q1, 0, none⟩), .pointer (some ⟨q2, 0, none⟩)] W fun e W' => e = .returned (.tuple #[]) ∧ Inv s' W' ∧ Kept W W' okc ∧ Below b0 w0 W'
/-- What stands at each moment of the filling. -/
structure FillSt (W : World) (M : List Int) (U : List Bool) (s : σ) : Prop where
 E : FillEnv B n (.func (.func 72) #[] #[.pointer (some ⟨q0, 0, none⟩), .pointer (some ⟨q1, 0, none⟩), .pointer (some ⟨q2, 0, none⟩)]) W M U
 I : Inv s W
 bel : Below b0 w0 W
variable {step Inv okc b0 w0 B n q0 q1 q2}
theorem FillSt.size {W : World} {M U} {s : σ} (h : FillSt Inv b0 w0 B n q0 q1 q2 W M U s) : B + 7 ≤ W.heap.size := by have := blk_lt h.E.hf; omega
theorem FillSt.setM {W : World} {M U} {s : σ} (h : FillSt Inv b0 w0 B n q0 q1 q2 W M U s) (hI : ∀ s W W', Inv s W → Kept W W' (fun k => k = B + 2 ∨ k = B + 4) → Inv s W') (hb : b0 ≤ B) (i : Nat) (x : Int) :
  FillSt Inv b0 w0 B n q0 q1 q2 (W.setCell ⟨B + 2, i, none⟩ (.int .i64 x)) (M.set i x) U s where
 E := h.E.setM i x
 I := hI _ _ _ h.I ((Kept.refl _ _).setCell (.inl (.inl rfl)) _)
 bel := h.bel.setCell (by simp; omega) _
theorem FillSt.setU {W : World} {M U} {s : σ} (h : FillSt Inv b0 w0 B n q0 q1 q2 W M U s) (hI : ∀ s W W', Inv s W → Kept W W' (fun k => k = B + 2 ∨ k = B + 4) → Inv s W') (hb : b0 ≤ B) (i : Nat) (x : Bool) :
  FillSt Inv b0 w0 B n q0 q1 q2 (W.setCell ⟨B + 4, i, none⟩ (.bool x)) M (U.set i x) s where
 E := h.E.setU i x
 I := hI _ _ _ h.I ((Kept.refl _ _).setCell (.inl (.inr rfl)) _)
 bel := h.bel.setCell (by simp; omega) _
def FillPost (Inv : σ → World → Prop) (b0 : Nat) (w0 : World) (B n q0 q1 q2 : Nat) (okc : Nat → Prop) (W : World) (M' : List Int) (U' : List Bool) (s' : σ) (W' : World) : Prop := FillSt Inv b0 w0 B n q0 q1 q2 W' M' U' s' ∧ Kept W W' (fun k => k = B + 2 ∨ k = B + 4 ∨ okc k)
set_option maxHeartbeats 8000000 in
set_option maxRecDepth 100000 in
theorem fill_calls (hn : n ≤ 1048576) (hb : b0 ≤ B) (hI : ∀ s W W', Inv s W → Kept W W' (fun k => k = B + 2 ∨ k = B + 4) → Inv s W') (hokc : ∀ k, okc k → k < B) (HCB : CallOk step Inv okc b0 w0 B n q0 q1 q2) : ∀ (d i : Nat), i + d = n → ∀ (M : List Int) (U : List Bool) (s : σ) (M' : List Int) (U' : List Bool) (s' : σ) (W : World), fillF step n d M U s = some (M', U', s') → FillSt Inv b0 w0 B n q0 q1 q2 W M U s →
  Calls Try.prog 89 #[.int .i64 (i : Int), .pointer (some ⟨B, 0, none⟩), .pointer (some ⟨B + 1, 0, none⟩), .pointer (some ⟨B + 3, 0, none⟩), .pointer (some ⟨B + 5, 0, none⟩), .pointer (some ⟨B + 6, 0, none⟩)] W fun e W' => e = .returned (.tuple #[]) ∧ FillPost Inv b0 w0 B n q0 q1 q2 okc W M' U' s' W' := by
 have HH := Aside0.mk hI
 have HK := Aside0.mk hokc
 have HC := Aside0.mk HCB
 clear hI hokc HCB
 intro d
 induction d with
 | zero =>
  intro i hi M U s M' U' s' W h S
  obtain rfl : i = n := by omega
  have HS := Aside0.mk S
  obtain ⟨hc1, hc2, hc3, hc4, hc5⟩ := S.E.cells
  have H : (step s M).bind (fun s' => some (M, U, s')) = some (M', U', s') := h
  obtain ⟨s1, h1, h2⟩ := Option.bind_eq_some_iff.1 H
  simp only [Option.some.injEq, Prod.mk.injEq] at h2
  obtain ⟨rfl, rfl, rfl⟩ := h2
  have H1 := Aside0.mk h1
  clear h H h1 hc4 hc5 S
  go_enter Try.func89, Try.ntmps89
  go_wp2_with fail
  refine (HC.out _ _ _ _ _ _ H1.out HS.out.E.lM (HS.out.E.reads (by omega)) (by rw [HS.out.E.lM]; exact Nat.le_refl _) HS.out.I HS.out.bel HS.out.size).mono ?_
  rintro e W1 ⟨rfl, h3, h4, h5⟩
  have HP : Aside0 (FillPost Inv b0 w0 B i q0 q1 q2 okc W M U s1 W1) := ⟨⟨HS.out.E.kept h4 HK.out, h3, h5⟩, h4.mono (fun k hk => .inr (.inr hk))⟩
  clear h3 h4 h5
  go_wp2
  refine bodyPost_ret (results_none rfl _ _ _) rfl ?_
  exact ⟨rfl, HP.out⟩
 | succ d ih =>
  intro i hi M U s M' U' s' W h S
  have HS := Aside0.mk S
  have hne : ((i : Int) == (n : Int)) = false := by rw [beq_eq_false_iff_ne]; omega
  have hi0 : n - (d + 1) = i := by omega
  have H : fillK (fillF step n d) i n n M U s = some (M', U', s') := by rw [← hi0]; exact h
  obtain ⟨hc1, hc2, hc3, hc4, hc5⟩ := S.E.cells
  have H' := Aside0.mk H
  have IH := Aside0.mk ih
  have HI := Aside0.mk hi
  have hlt : i < n := by omega
  clear h H S hi0 hc2 hc3 hc4 hc5 ih hi
  go_enter Try.func89, Try.ntmps89
  go_wp2
  go_loopg [15] n (fun kq v15 w' => ∃ (M1 : List Int) (U1 : List Bool) (s1 : σ), v15 = .int .i64 ((n - kq : Nat) : Int) ∧ Aside0 (kq ≤ n) ∧ Aside0 (fillK (fillF step n d) i n kq M1 U1 s1 = some (M', U', s')) ∧ Aside0 (FillPost Inv b0 w0 B n q0 q1 q2 okc W M1 U1 s1 w'))
  case atStart => exact ⟨M, U, s, by rw [Nat.sub_self]; rfl, ⟨Nat.le_refl _⟩, H', ⟨HS.out, Kept.refl _ _⟩⟩
  case round =>
   clear H' HS hc1; obtain ⟨M1, U1, s1, rfl, HN, HA, HP⟩ := hrel; obtain ⟨hc1, hc2, hc3, hc4, hc5⟩ := HP.out.1.E.cells
   cases gk with
   | zero =>
    have H := HA.out; simp only [fillK, Option.some.injEq, Prod.mk.injEq] at H; obtain ⟨rfl, rfl, rfl⟩ := H; clear HA; simp only [Nat.sub_zero]
    go_wp2
    refine bodyPost_end (results_none rfl _ _ _) rfl ?_
    exact ⟨rfl, HP.out⟩
   | succ k1 =>
    obtain ⟨kk, hkk⟩ : ∃ kk, kk = n - (k1 + 1) := ⟨_, rfl⟩
    have hk0 : kk < n := by have := HN.out; omega
    have hk1 : n - k1 = kk + 1 := by have := HN.out; omega
    have H := HA.out; clear HA; simp only [fillK] at H; rw [← hkk] at H ⊢; have hcu := (HP.out.1.E.atU kk hk0).1; have hb1 : decide ((kk : Int) < (n : Int)) = true := decide_eq_true (by omega); have HK1 := Aside0.mk hk1; have HK0 := Aside0.mk hkk; clear hk1 hkk
    by_cases hu : U1.getD kk false = true
    ·rw [if_pos hu] at H
     have H' := Aside0.mk H; clear H; rw [hu] at hcu; clear hu
     go_wp2
     go_roundg k1
     case measure => omega
     case rel => exact ⟨M1, U1, s1, by rw [HK1.out]; go_num, ⟨by have := HN.out; omega⟩, H', HP⟩
    ·rw [if_neg hu] at H
     rw [Bool.not_eq_true] at hu; rw [hu] at hcu; clear hu; obtain ⟨⟨M2, U2, s2⟩, h1, h2⟩ := Option.bind_eq_some_iff.1 H; have H1 := Aside0.mk h1; have H' := Aside0.mk h2; clear H h1 h2; have hfu := (HP.out.1.E.atU kk hk0).2; obtain ⟨hcm, hfm⟩ := HP.out.1.E.atM i hlt
     go_wp2_with fail
     rw [show ((i : Int) + 1) = ((i + 1 : Nat) : Int) from by omega]; have S2 := (HP.out.1.setU HH.out hb kk true).setM HH.out hb i (kk : Int)
     refine (IH.out (i + 1) (by have := HI.out; omega) _ _ _ _ _ _ _ H1.out S2).mono ?_
     rintro e W1 ⟨rfl, h3⟩
     have HQ : Aside0 (FillPost Inv b0 w0 B n q0 q1 q2 okc W M2 U2 s2 W1) := ⟨h3.1, ((HP.out.2.setCell (.inl (.inr (.inl rfl))) _).setCell (.inl (.inl rfl)) _).then_ h3.2 (fun k hk => .inl hk)⟩; clear h3 S2 hc1 hc2 hc3 hc4 hc5 hcu hfu hcm hfm HP; obtain ⟨hc1, hc2, hc3, hc4, hc5⟩ := HQ.out.1.E.cells; obtain ⟨hcu, hfu⟩ := HQ.out.1.E.atU kk hk0
     go_wp2
     have HR : Aside0 (FillPost Inv b0 w0 B n q0 q1 q2 okc W M2 (U2.set kk false) s2 (W1.setCell ⟨B + 4, kk, none⟩ (.bool false))) := ⟨HQ.out.1.setU HH.out hb kk false, HQ.out.2.setCell (.inl (.inr (.inl rfl))) _⟩
     go_roundg k1
     case measure => omega
     case rel => exact ⟨M2, U2.set kk false, s2, by rw [HK1.out]; go_num, ⟨by have := HN.out; omega⟩, H', HR⟩
end
section
variable {σ : Type} {step : σ → List Int → Option σ} {Inv : σ → World → Prop} {okc : Nat → Prop} {b0 : Nat} {w0 : World} {n q0 q1 q2 : Nat}
set_option maxHeartbeats 8000000 in
set_option maxRecDepth 100000 in
theorem each_calls (W : World) (hn : n ≤ 1048576) (hb : b0 ≤ W.heap.size) (hI : ∀ s W1 W', Inv s W1 → Kept W1 W' (fun k => k = W.heap.size + 2 ∨ k = W.heap.size + 4) → Inv s W') (hokc : ∀ k, okc k → k < W.heap.size) (HCB : CallOk step Inv okc b0 w0 W.heap.size n q0 q1 q2) (s : σ) (M' : List Int) (U' : List Bool) (s' : σ) (h : fillF step n n (List.replicate n 0) (List.replicate n false) s = some (M', U', s')) (hi : Inv s W) (hB : Below b0 w0 W) :
  Calls Try.prog 71 #[.int .i64 (n : Int), .func (.func 72) #[] #[.pointer (some ⟨q0, 0, none⟩), .pointer (some ⟨q1, 0, none⟩), .pointer (some ⟨q2, 0, none⟩)]] W fun e W' => e = .returned (.tuple #[]) ∧ Inv s' W' ∧ Kept W W' okc ∧ Below b0 w0 W' := by
 have HH := Aside0.mk hI
 have HK := Aside0.mk hokc
 have HC := Aside0.mk HCB
 have H := Aside0.mk h
 have HI := Aside0.mk hi
 have HB := Aside0.mk hB
 have hmk1 := print_make (P := Try.prog) 27 3 .i64 8 Try.underlying27 info3 (by omega) n (by omega)
 have hmk2 := print_make_of (P := Try.prog) 80 4 (.bool false) 1 Try.underlying80 info4 rfl (by omega) n (by omega)
 clear hI hokc HCB h hi hB
 go_enter Try.func71, Try.ntmps71
 go_wp2_with fail
 have hal : Kept W (((((((W.alloc (.cells #[.int .i64 (n : Int)] 3)).alloc (.cells #[.func (.func 72) #[] #[.pointer (some ⟨q0, 0, none⟩), .pointer (some ⟨q1, 0, none⟩), .pointer (some ⟨q2, 0, none⟩)]] 65)).alloc (.cells (madeCells #[.int .i64 0] n) 3)).alloc (.cells #[.slice (some ⟨W.heap.size + 1 + 1, 0, none⟩) n n] 27)).alloc (.cells (madeCells #[.bool false] n) 4)).alloc (.cells #[.slice (some ⟨W.heap.size + 1 + 1 + 1 + 1, 0, none⟩) n n] 80)).alloc (.cells #[.func (.func 89) #[] #[.pointer (some ⟨W.heap.size, 0, none⟩), .pointer (some ⟨W.heap.size + 1, 0, none⟩), .pointer (some ⟨W.heap.size + 1 + 1 + 1, 0, none⟩), .pointer (some ⟨W.heap.size + 1 + 1 + 1 + 1 + 1, 0, none⟩), .pointer (some ⟨W.heap.size + 1 + 1 + 1 + 1 + 1 + 1, 0, none⟩)]] 81)) (fun _ => False) := ((((((((Kept.refl _ _).alloc _).alloc _).alloc _).alloc _).alloc _).alloc _).alloc _)
 have hE := FillEnv.made W n (.func (.func 72) #[] #[.pointer (some ⟨q0, 0, none⟩), .pointer (some ⟨q1, 0, none⟩), .pointer (some ⟨q2, 0, none⟩)])
 have hS : FillSt Inv b0 w0 W.heap.size n q0 q1 q2 _ _ _ s := ⟨hE, HH.out _ _ _ HI.out (hal.mono (fun _ h => h.elim)), HB.out.trans ((below_alloc (below_alloc (below_alloc (below_alloc (below_alloc (below_alloc (below_alloc (Below.refl _ _) _) _) _) _) _) _) _).mono hb)⟩
 refine (fill_calls hn hb HH.out HK.out HC.out n 0 (by omega) _ _ s M' U' s' _ H.out hS).mono ?_
 rintro e W1 ⟨rfl, h3⟩
 have HQ : Aside0 (Inv s' W1 ∧ Kept W W1 okc ∧ Below b0 w0 W1) := ⟨h3.1.I, (hal.mono (fun _ h => h.elim)).then_ h3.2 (fun k hk => by
  rcases hk with hk | hk | hk
  ·exact .inr (by omega)
  ·exact .inr (by omega)
  ·exact .inl hk), h3.1.bel⟩
 clear h3 hS hE hal
 go_wp2
 refine bodyPost_end (results_none rfl _ _ _) rfl ?_
 exact ⟨rfl, HQ.out⟩
end

def impl_CountStable.step (k : Nat) (l0 l1 : List (List Int)) (s : Int) (m : List Int) : Option Int := (impl_blockingPairs.f k l0 l1 m).bind fun q => some (if (q.length : Int) = 0 then wrap64 (s + 1) else s)
def impl_CountStable.f (k : Nat) (l0 : List (List Int)) (l1 : List (List Int)) : Option (Int × Bool) := (impl_areSides.f k l0 l1).bind fun t => if t = true then (if l0.length ≤ 1048576 then (fillF (impl_CountStable.step k l0 l1) l0.length l0.length (List.replicate l0.length 0) (List.replicate l0.length false) 0).bind fun q => some (q.2.2, true) else none) else some (0, false)
/-- What the variables hold between two calls: both sides, and the number. -/
structure CsInv (h hn n m : Nat) (A0 : Option Addr) (c0 : Nat) (A1 : Option Addr) (c1 : Nat) (s : Int) (W : World) : Prop where
 ha : W.heap[h]? = some (.cells #[.slice A0 n c0] 22 (0, 0))
 hb : W.heap[h + 1]? = some (.cells #[.slice A1 m c1] 22 (0, 0))
 hs : W.heap[hn]? = some (.cells #[.int .i64 s] 3 (0, 0))
theorem CsInv.kept {h hn n m : Nat} {A0 : Option Addr} {c0 : Nat} {A1 : Option Addr} {c1 : Nat} {s : Int} {W W' : World} {S : Nat → Prop} (I : CsInv h hn n m A0 c0 A1 c1 s W) (hk : Kept W W' S) (h1 : ¬ S h) (h2 : ¬ S (h + 1)) (h3 : ¬ S hn) : CsInv h hn n m A0 c0 A1 c1 s W' :=
 ⟨blk_kept I.ha hk h1, blk_kept I.hb hk h2, blk_kept I.hs hk h3⟩
set_option maxHeartbeats 8000000 in
set_option maxRecDepth 100000 in
theorem cs_call (k : Nat) (A0 : Option Addr) (c0 : Nat) (l0 : List (List Int)) (A1 : Option Addr) (c1 : Nat) (l1 : List (List Int)) (w : World) (hn : Nat) (hnw : w.heap.size + 2 ≤ hn) (hr0 : Kd.C (Kd.slice 3 (Kd.int .i64)) w A0 l0.length l0) (hc0 : l0.length ≤ c0) (hr1 : Kd.C (Kd.slice 3 (Kd.int .i64)) w A1 l1.length l1) (hc1 : l1.length ≤ c1) :
  CallOk (impl_CountStable.step k l0 l1) (CsInv w.heap.size hn l0.length l1.length A0 c0 A1 c1) (fun k => k = hn) w.heap.size w (hn + 1) l0.length w.heap.size (w.heap.size + 1) hn := by
 have HR0 := Aside0.mk hr0
 have HC0 := Aside0.mk hc0
 have HR1 := Aside0.mk hr1
 have HC1 := Aside0.mk hc1
 clear hr0 hc0 hr1 hc1
 intro s s' m A c W hs hlm hrm hcm hi hB hsz
 have HRm := Aside0.mk hrm
 have HCm := Aside0.mk hcm
 have HLm := Aside0.mk hlm
 have HI := Aside0.mk hi
 have HB := Aside0.mk hB
 have HZ := Aside0.mk hsz
 obtain ⟨q, h1, h2⟩ := Option.bind_eq_some_iff.1 hs
 have H1 := Aside0.mk h1
 have HW := Aside0.mk hnw
 simp only [Option.some.injEq] at h2
 have H2 := Aside0.mk h2
 clear hs h1 h2 hcm hrm hi hB hsz hlm
 have hargs : Value.slice A l0.length c = Value.slice A m.length c := by rw [HLm.out]
 rw [hargs]
 clear hargs
 have hq0 : W.cell? ⟨w.heap.size, 0, none⟩ = some (.slice A0 l0.length c0) := (blk_cell HI.out.ha 0).trans rfl
 have hq1 : W.cell? ⟨w.heap.size + 1, 0, none⟩ = some (.slice A1 l1.length c1) := (blk_cell HI.out.hb 0).trans rfl
 go_enter Try.func72, Try.ntmps72
 go_wp2_with fail
 refine (impl_blockingPairs.calls k A0 c0 l0 A1 c1 l1 A c m q W (Kd.C_below HR0.out HB.out) HC0.out (Kd.C_below HR1.out HB.out) HC1.out HRm.out HCm.out H1.out).mono ?_
 rintro e W1 ⟨v, rfl, ho, hb⟩
 obtain ⟨Av, cv, eqv⟩ := Kd.S_slice ho
 subst eqv
 have HI1 := am (HI.out.kept (Kept.of_below hb (fun _ => False)) (fun h => h) (fun h => h) (fun h => h))
 have HB1 := am (below_step HB.out hb)
 have HK1 := am (Kept.of_below hb (fun k => k = hn))
 clear hb ho hq0 hq1 HI HB HRm H1
 have hx : W1.cell? ⟨hn, 0, none⟩ = some (.int .i64 s) := (blk_cell HI1.out.hs 0).trans rfl
 have hf : W1.frozen? ⟨hn, 0, none⟩ = false := blk_frozen HI1.out.hs 0
 have H2' := H2.out
 clear H2
 by_cases b1 : (q.length : Int) = 0
 ·rw [if_pos b1] at H2'
  have b1b : ((q.length : Int) == 0) = true := beq_iff_eq.2 b1
  have H2 := Aside0.mk H2'
  have b1c := Aside0.mk b1
  clear H2' b1
  go_wp2
  obtain rfl := H2.out
  have hw := HW.out
  refine bodyPost_end (results_none rfl _ _ _) rfl ?_
  exact ⟨rfl, ⟨blk_far HI1.out.ha (by simp; omega) _, blk_far HI1.out.hb (by simp; omega) _, by rw [blk_set HI1.out.hs]; rfl⟩, HK1.out.setCell (.inl rfl) _, HB1.out.setCell (by simp; omega) _⟩
 ·rw [if_neg b1] at H2'
  have b1b : ((q.length : Int) == 0) = false := beq_eq_false_iff_ne.2 b1
  clear b1
  obtain rfl := H2'
  go_wp2
  refine bodyPost_end (results_none rfl _ _ _) rfl ?_
  exact ⟨rfl, HI1.out, HK1.out, HB1.out⟩
set_option maxHeartbeats 8000000 in
set_option maxRecDepth 100000 in
theorem impl_CountStable.calls (k : Nat) (A0 : Option Addr) (c0 : Nat) (l0 : List (List Int)) (A1 : Option Addr) (c1 : Nat) (l1 : List (List Int)) (r1 : Int) (r2 : Bool) (w : World) (hr0 : Kd.C (Kd.slice 3 (Kd.int .i64)) w A0 l0.length l0) (hc0 : l0.length ≤ c0) (hr1 : Kd.C (Kd.slice 3 (Kd.int .i64)) w A1 l1.length l1) (hc1 : l1.length ≤ c1) (h : impl_CountStable.f k l0 l1 = some (r1, r2)) :
  Calls Try.prog 43 #[.slice A0 l0.length c0, .slice A1 l1.length c1] w fun e w' => e = .returned (.tuple #[.int .i64 r1, .bool r2]) ∧ Below w.heap.size w w' := by
 have HR0 := Aside0.mk hr0
 have HC0 := Aside0.mk hc0
 have HR1 := Aside0.mk hr1
 have HC1 := Aside0.mk hc1
 unfold impl_CountStable.f at h
 obtain ⟨t, h1, h2⟩ := Option.bind_eq_some_iff.1 h
 have H1 := Aside0.mk h1
 clear hr0 hc0 hr1 hc1 h h1
 cases t with
 | false =>
  simp only [Bool.false_eq_true, if_false, Option.some.injEq, Prod.mk.injEq] at h2
  obtain ⟨rfl, rfl⟩ := h2
  go_enter Try.func43, Try.ntmps43
  go_wp2_with fail
  refine (impl_areSides.calls k A0 c0 l0 A1 c1 l1 false _ (Kd.C_alloc (Kd.C_alloc HR0.out _) _) HC0.out (Kd.C_alloc (Kd.C_alloc HR1.out _) _) HC1.out H1.out).mono ?_
  rintro e W1 ⟨rfl, hb⟩
  have HB := am (below_step (below_alloc (below_alloc (Below.refl w.heap.size w) _) _) hb)
  clear hb
  go_wp2
  go_ret2
  exact ⟨rfl, HB.out⟩
 | true =>
  simp only [if_true] at h2
  have hn : l0.length ≤ 1048576 := by
   by_cases g : l0.length ≤ 1048576
   ·exact g
   ·rw [if_neg g] at h2; cases h2
  rw [if_pos hn] at h2
  obtain ⟨⟨M', U', s'⟩, h3, h4⟩ := Option.bind_eq_some_iff.1 h2
  simp only [Option.some.injEq, Prod.mk.injEq] at h4
  obtain ⟨rfl, rfl⟩ := h4
  have H3 := Aside0.mk h3
  have HN := Aside0.mk hn
  clear h2 h3 hn
  go_enter Try.func43, Try.ntmps43
  go_wp2_with fail
  refine (impl_areSides.calls k A0 c0 l0 A1 c1 l1 true _ (Kd.C_alloc (Kd.C_alloc HR0.out _) _) HC0.out (Kd.C_alloc (Kd.C_alloc HR1.out _) _) HC1.out H1.out).mono ?_
  rintro e W1 ⟨rfl, hb⟩
  have hb1 : (W1.heap[w.heap.size]?) = some (.cells #[.slice A0 l0.length c0] 22 (0, 0)) := (hb.block _ (by simp; omega)).trans (blk_alloc (blk_new _ _) _)
  have hb2 : (W1.heap[w.heap.size + 1]?) = some (.cells #[.slice A1 l1.length c1] 22 (0, 0)) := (hb.block _ (by simp)).trans (blk_here _ (size_al _ rfl))
  have hz1 := hb.size
  simp only [World.size_alloc] at hz1
  have HB := am (below_step (below_alloc (below_alloc (Below.refl w.heap.size w) _) _) hb)
  clear hb
  have hq0 : (W1.alloc (.cells #[.int .i64 0] 3)).cell? ⟨w.heap.size, 0, none⟩ = some (.slice A0 l0.length c0) := (blk_cell (blk_alloc hb1 _) 0).trans rfl
  have HBa := Aside0.mk hb1
  have HBb := Aside0.mk hb2
  have HZ := Aside0.mk hz1
  clear hb1 hb2 hz1
  go_wp2_with fail
  generalize hW : W1.alloc (.cells #[.int .i64 0] 3) = W2
  have hz2 : W2.heap.size = W1.heap.size + 1 := by rw [← hW]; simp
  have hI : CsInv w.heap.size W1.heap.size l0.length l1.length A0 c0 A1 c1 0 W2 := by rw [← hW]; exact ⟨blk_alloc HBa.out _, blk_alloc HBb.out _, blk_new _ _⟩
  have hB2 : Below w.heap.size w W2 := by rw [← hW]; exact HB.out.alloc HB.out.size _
  have hz := HZ.out
  clear hW hq0
  refine (each_calls (step := impl_CountStable.step k l0 l1) (Inv := CsInv w.heap.size W1.heap.size l0.length l1.length A0 c0 A1 c1) (okc := fun k => k = W1.heap.size) (b0 := w.heap.size) (w0 := w) (n := l0.length) (q0 := w.heap.size) (q1 := w.heap.size + 1) (q2 := W1.heap.size) W2 HN.out (by omega) (fun s W3 W4 h1 h2 => h1.kept h2 (by omega) (by omega) (by omega)) (fun k hk => by omega) (by rw [hz2]; exact cs_call k A0 c0 l0 A1 c1 l1 w W1.heap.size hz HR0.out HC0.out HR1.out HC1.out) 0 M' U' s' H3.out hI hB2).mono ?_
  rintro e W5 ⟨rfl, h3, h4, h5⟩
  have hx : W5.cell? ⟨W1.heap.size, 0, none⟩ = some (.int .i64 s') := (blk_cell h3.hs 0).trans rfl
  have HB5 := Aside0.mk h5
  clear h3 h4 h5 hI hB2 hz2 hz
  go_wp2
  go_ret2
  exact ⟨rfl, HB5.out⟩


end Go.Proofs.Ytjipboafhakjfaa.PFnStable
