/- Text written by a program for this claim: contracts of the functions of one law. -/
import Derived.Test.YtjipboafhakjfaaPFnStablex0
import Derived.Test.YtjipboafhakjfaaPFnStablex10
import Derived.Test.YtjipboafhakjfaaPFnStablex11
namespace Go.Proofs.Ytjipboafhakjfaa.PFnStable
open Go.RowKit Go.Proofs.YtjipboafhakjfaaW.PrintWords Go.Proofs.YtjipboafhakjfaaW.PrintLast Go.Proofs.YtjipboafhakjfaaW.PrintMore
attribute [local go_sem] max2_int min2_int max_two min_two max_three min_three max_four min_four   -- for this text's walks alone
set_option linter.unusedVariables false
set_option linter.unusedSimpArgs false
open ShortPFnStable0

/-! ### spec_l1Cur_preferences: function 78 -/
def spec_l1Cur_preferences.l0 : Nat → Int → List (List Int) → List Int → Int → Int → Option ((List (List Int)) × Int × Int)
 | 0, _, _, _, _, _ => none
 | k + 1, x1, x5, x1000, x1001, x1002 => if (x5.length : Int) < x1 then ((spec_l1Cur_permuted.f x1000 x1001 x1002 x1).bind fun bt360 => (if x5.length < 5864062014805 then (spec_l1Cur_preferences.l0 k x1 (x5 ++ [bt360.1]) x1000 bt360.2.1 bt360.2.2) else (none))) else (if (x5.length : Int) > 0 then ((spec_l1Cur_pick.f x1000 x1001 x1002 (x5.length : Int)).bind fun bt368 => ((spec_l1Cur_pick.f x1000 bt368.2.1 bt368.2.2 30).bind fun bt371 => (if bt371.1 = 0 then (if 0 ≤ bt368.1 then (if bt368.1 < (x5.length : Int) then (if 0 ≤ (wrap64 (x1 - 1)) then (if (wrap64 (x1 - 1)) < ((rd_L2 x5 bt368.1).length : Int) then ((spec_l1Cur_among.f x1000 bt371.2.1 bt371.2.2 (([(-1), x1, rd (rd_L2 x5 bt368.1) (wrap64 (x1 - 1))] : List Int))).bind fun bt380 => (if 0 < ((rd_L2 x5 bt368.1).length : Int) then (some ((x5.set (bt368.1 : Int).toNat ((rd_L2 x5 bt368.1).set (0 : Int).toNat bt380.1)), bt380.2.1, bt380.2.2)) else (none))) else (none)) else (none)) else (none)) else (none)) else (if bt371.1 = 1 then (if 0 ≤ bt368.1 then (if bt368.1 < (x5.length : Int) then (if (rd_L2 x5 bt368.1).length < 17592186044416 then (some ((x5.set (bt368.1 : Int).toNat ((rd_L2 x5 bt368.1) ++ [0])), bt371.2.1, bt371.2.2)) else (none)) else (none)) else (none)) else (some (x5, bt371.2.1, bt371.2.2)))))) else (some (x5, x1001, x1002)))
def spec_l1Cur_preferences.f (k : Nat) (s0_0 : List Int) (s0_1 : Int) (s0_2 : Int) (a1 : Int) : Option ((List (List Int)) × Int × Int) := spec_l1Cur_preferences.l0 k a1 ([] : List (List Int)) s0_0 s0_1 s0_2
def spec_l1Cur_preferences.T8 : Bool × List (List Nat × List Nat) := (true, [([], []), ([], []), ([0, 1], [0, 1]), ([2], [2]), ([], []), ([], []), ([], []), ([], []), ([6, 7], [6, 7]), ([8], [8]), ([], []), ([10], [10]), ([9, 11], [9, 11]), ([12], [12]), ([5, 13], [5, 13]), ([4, 14], [4, 14]), ([3, 0, 1, 2, 3, 4, 5, 6, 7, 8, 9, 10, 11, 12, 13, 14, 15], [3]), ([16, 15, 15, 0, 1, 2, 3, 4, 5, 6, 7, 8, 9, 10, 11, 12, 13, 14, 15], [15, 16])])
def spec_l1Cur_preferences.B8 : List Nat := [0, 0, 3, 7, 0, 0, 0, 0, 192, 448, 0, 1024, 4032, 8128, 16352, 32752, 65535, 131071]
theorem spec_l1Cur_preferences.tab8 : rtab .any (opsOf Try.f78 8) = spec_l1Cur_preferences.T8 := by kernel_rfl
theorem spec_l1Cur_preferences.bits8 : waitsOk spec_l1Cur_preferences.T8.2 spec_l1Cur_preferences.B8 = true := by kernel_rfl
set_option maxHeartbeats 8000000 in
set_option maxRecDepth 100000 in
theorem spec_l1Cur_preferences.calls (k : Nat) (g : Nat) (s0_0 : List Int) (s0_1 : Int) (s0_2 : Int) (a1 : Int) (r1 : List (List Int)) (r2 : Int) (r3 : Int) (w0 w : World) (hI : IsS69 w0 w g s0_0 s0_1 s0_2) (hB : Below w0.heap.size w0 w) (h : spec_l1Cur_preferences.f k s0_0 s0_1 s0_2 a1 = some (r1, r2, r3)) :
  Calls Try.prog 78 #[.pointer (some ⟨g, 0, none⟩), .int .i64 a1] w fun e w' => ∃ v0_ : Value, e = .returned (v0_) ∧ Kd.S (Kd.slice 3 (Kd.int .i64)) 27 w' w.heap.size (fun _ => True) v0_ r1 ∧ IsS69 w0 w' g s0_0 r2 r3 ∧ Below w0.heap.size w0 w' ∧ KeepBut w w' g none := by
 have HI0 := Aside0.mk hI
 have HK := am (KeepBut.refl w g none)
 have HL := Aside0.mk hB.size
 clear hI
 have HW0 := Aside0.mk hB.size
 have HB := Aside0.mk hB
 clear hB
 have H : (spec_l1Cur_preferences.l0 k a1 ([] : List (List Int)) s0_0 s0_1 s0_2) = some (r1, r2, r3) := h
 clear h
 have H' := Aside0.mk H
 clear H
 go_enter Try.func78, Try.ntmps78
 go_wp2
 go_loopg [5] k (fun kq v5 w' => ∃ (x5_1 : List (List Int)) (x1001_1 : Int) (x1002_1 : Int), Aside0 (spec_l1Cur_preferences.l0 kq a1 x5_1 s0_0 x1001_1 x1002_1 = some (r1, r2, r3)) ∧ Aside0 (kq ≤ k) ∧ Aside0 (Kd.S (Kd.slice 3 (Kd.int .i64)) 27 w' w.heap.size (fun _ => True) v5 x5_1) ∧ Aside0 (IsS69 w0 w' g s0_0 x1001_1 x1002_1) ∧ Aside0 (KeepBut w w' g none) ∧ Aside0 (Below w0.heap.size w0 w'))
 case atStart => exact ⟨(([] : List (List Int))), (s0_1), (s0_2), H', ⟨Nat.le_refl _⟩, ⟨zc3'⟩, ⟨zd'⟩, ⟨zc'⟩, ⟨zf'⟩⟩
 case round =>
  clear H'
  try clear p2
  obtain ⟨x5_1, x1001_1, x1002_1, HA, HK1, HO_5, HI0, HK, HB⟩ := hrel
  cases gk with
  | zero => exact absurd HA.out (by simp [spec_l1Cur_preferences.l0])
  | succ k1 =>
   have H := HA.out; clear HA; simp only [spec_l1Cur_preferences.l0] at H
   by_cases c3 : (x5_1.length : Int) < a1
   ·rw [if_pos c3] at H
    have c3b0 : decide ((x5_1.length : Int) < a1) = true := decide_eq_true c3; clear c3; replace H := Option.bind_eq_some_iff.mp H; obtain ⟨⟨t360, t363, t364⟩, A40, H⟩ := H; replace H : (if x5_1.length < 5864062014805 then (spec_l1Cur_preferences.l0 k1 a1 (x5_1 ++ [t360]) s0_0 t363 t364) else (none)) = some (r1, r2, r3) := H; have A4 := Aside0.mk A40; clear A40
    by_cases c5 : x5_1.length < 5864062014805
    ·rw [if_pos c5] at H
     have LMc5 := Aside0.mk c5; clear c5
     obtain ⟨y365, hy365⟩ : ∃ y_ : List (List Int), y_ = (x5_1 ++ [t360]) := ⟨_, rfl⟩
     replace H : (spec_l1Cur_preferences.l0 k1 a1 y365 s0_0 t363 t364) = some (r1, r2, r3) := by first | (rw [hy365]; with_reducible exact H) | (have H2_ := (Option.bind_some _ _).symm.trans H; rw [hy365]; with_reducible exact H2_) | (have H2_ := (Option.bind_some _ _).symm.trans H; with_reducible exact H2_) | with_reducible exact H | (rw [hy365]; exact H) | exact H
     have Ny365 := Aside0.mk hy365; clear hy365; have H' := Aside0.mk H; clear H; obtain ⟨Ao6, co6, eo6⟩ := Kd.S_slice HO_5.out; subst eo6
     go_wp2_with (first | ((with_reducible refine gate_callee (f := 90) rfl ?_); refine goesL_ (some 14) rfl rfl Try.func90 (by kernel_rfl) rfl #[.pointer (some ⟨g, 0, none⟩), .int .i64 a1] rfl zb' ?_; (with_reducible refine (spec_l1Cur_permuted.calls g s0_0 x1001_1 x1002_1 a1 t360 t363 t364 w0 _ ?side1 ?side2 A4.out).mono ?_); (case side1 => exact zd'); (case side2 => exact zf'); rintro e w7 ⟨v361, rfl, ho0, hi, hb, hk⟩; refine ⟨_, rfl, ?_⟩; have n0_ := am (Kd.S_mono (Kd.S_told (Kd.S_oldK (IsS69.apartS (show IsS69 w0 _ g s0_0 x1001_1 x1002_1 from by repeat (first | (with_reducible first | exact HI0.out | apply IsS69.alloc | apply IsS69.drewN | apply IsS69.drew | apply IsS69.set_1 | apply IsS69.set_2) | exact HI0.out)) zp' (by decide)) hk) (Kd.R_base ho0)) (fun _ h_ => h_.1)); have n1_ := am (Kd.R_lower ho0 (keep_size (w := w) (g := g) (row := none) zc')); have n2_ := am (KeepBut.trans zc' hk (.inl rfl)); have n3_ := am (hb); have n4_ := am (hi); clear HO_5; clear HK; clear HB; clear HI0; have HO_5 := n0_; have HO362 := n1_; have HK := n2_; have HB := n3_; have HI0 := n4_; clear n0_ n1_ n2_ n3_ n4_; (try clear hb); (try clear hb2); (try clear hk); (try clear hi); (try clear ho0); obtain ⟨Ao9, co9, eo9⟩ := Kd.R_slice HO362.out; subst eo9) | ((with_reducible refine gate_builtin (b := .append) (xs := #[.tmp 11, .tmp 15]) rfl ?_); at_builtin; refine Kd.S_append (Kd.slice 3 (Kd.int .i64)) w.heap.size rfl (.tmp 11) (.tmp 15) 22 27 (.slice none 0 0) 24 rfl Try.underlying22 info27 rfl (by decide) (by omega) (.slice Ao6 x5_1.length co6) x5_1 t360 [.slice Ao9 t360.length co9] (fun _ => True) (fun k_ => some k_ = (.slice Ao9 t360.length co9 : Value).ownBlock) rfl rfl ?aP (fun k_ hk_ => ((Kd.R_mono (ok' := fun k_ => ((fun _ => True)) k_ ∧ some k_ ≠ (.slice Ao6 x5_1.length co6 : Value).ownBlock) (Kd.R_apart' (HO362.out) (Kd.S_typed HO_5.out) (by decide)) (fun k_ hk => ⟨trivial, hk.2⟩))).1 k_ hk_.symm) ?aF ?aO (Below.refl _ _) ?aS ?aL ?_; (case aP => exact Kd.M_row (Kd.R_mono (Kd.R_tight rfl (Kd.R_mono (ok' := fun k_ => ((fun _ => True)) k_ ∧ some k_ ≠ (.slice Ao6 x5_1.length co6 : Value).ownBlock) (Kd.R_apart' (HO362.out) (Kd.S_typed HO_5.out) (by decide)) (fun k_ hk => ⟨trivial, hk.2⟩))) (fun _ h_ => h_))); (case aF => exact (fun _ _ => trivial)); (case aO => exact (by (with_reducible repeat (first | apply Kd.S_alloc | apply Kd.S_drewN | apply Kd.S_drew)); exact Kd.S_mono HO_5.out (fun k_ hk => ⟨trivial, fun e_ => hk.2 e_⟩))); (case aS => exact (keep_size (w := w) (g := g) (row := none) zc')); (case aL => have := LMc5.out; omega); intro v366 w8 ho hb hg hat; rw [← Ny365.out] at ho; have n0_ := am (IsS69.grown zd' hg (IsS69.own_neS HI0.out HO_5.out (by decide))); have n1_ := am (below_weaken zf' HL.out hb); have n2_ := am (KeepBut.trans zc' (KeepBut.of_grown hg g) (Kd.S_base2 HO_5.out)); have n3_ := am (ho); clear HI0; clear HB; clear HK; clear HO_5; clear HO362; have HI0 := n0_; have HB := n1_; have HK := n2_; have HO367 := n3_; clear n0_ n1_ n2_ n3_; clear ho hb hg hat))
     go_roundg k1
     case measure => have := HK1.out; omega
     case rel => exact ⟨(y365), (t363), (t364), H', ⟨zo2'⟩, ⟨by (with_reducible repeat (first | apply Kd.S_alloc | apply Kd.S_drewN | apply Kd.S_drew)); exact HO367.out⟩, ⟨zd'⟩, ⟨zc'⟩, ⟨zf'⟩⟩
    ·rw [if_neg c5] at H
     exact absurd H (by simp)
   ·rw [if_neg c3] at H
    have c3b0 : decide ((x5_1.length : Int) < a1) = false := decide_eq_false c3; clear c3
    by_cases c10 : (x5_1.length : Int) > 0
    ·rw [if_pos c10] at H
     have c10b0 : decide (0 < (x5_1.length : Int)) = true := decide_eq_true c10; have c10b1 : decide (0 < x5_1.length) = true := decide_eq_true (by omega); clear c10; replace H := Option.bind_eq_some_iff.mp H; obtain ⟨⟨t368, t369, t370⟩, A110, H⟩ := H; replace H : ((spec_l1Cur_pick.f s0_0 t369 t370 30).bind fun bt371 => (if bt371.1 = 0 then (if 0 ≤ t368 then (if t368 < (x5_1.length : Int) then (if 0 ≤ (wrap64 (a1 - 1)) then (if (wrap64 (a1 - 1)) < ((rd_L2 x5_1 t368).length : Int) then ((spec_l1Cur_among.f s0_0 bt371.2.1 bt371.2.2 (([(-1), a1, rd (rd_L2 x5_1 t368) (wrap64 (a1 - 1))] : List Int))).bind fun bt380 => (if 0 < ((rd_L2 x5_1 t368).length : Int) then (some ((x5_1.set (t368 : Int).toNat ((rd_L2 x5_1 t368).set (0 : Int).toNat bt380.1)), bt380.2.1, bt380.2.2)) else (none))) else (none)) else (none)) else (none)) else (none)) else (if bt371.1 = 1 then (if 0 ≤ t368 then (if t368 < (x5_1.length : Int) then (if (rd_L2 x5_1 t368).length < 17592186044416 then (some ((x5_1.set (t368 : Int).toNat ((rd_L2 x5_1 t368) ++ [0])), bt371.2.1, bt371.2.2)) else (none)) else (none)) else (none)) else (some (x5_1, bt371.2.1, bt371.2.2))))) = some (r1, r2, r3) := H; have A11 := Aside0.mk A110; clear A110; replace H := Option.bind_eq_some_iff.mp H; obtain ⟨⟨t371, t372, t373⟩, A120, H⟩ := H; replace H : (if t371 = 0 then (if 0 ≤ t368 then (if t368 < (x5_1.length : Int) then (if 0 ≤ (wrap64 (a1 - 1)) then (if (wrap64 (a1 - 1)) < ((rd_L2 x5_1 t368).length : Int) then ((spec_l1Cur_among.f s0_0 t372 t373 (([(-1), a1, rd (rd_L2 x5_1 t368) (wrap64 (a1 - 1))] : List Int))).bind fun bt380 => (if 0 < ((rd_L2 x5_1 t368).length : Int) then (some ((x5_1.set (t368 : Int).toNat ((rd_L2 x5_1 t368).set (0 : Int).toNat bt380.1)), bt380.2.1, bt380.2.2)) else (none))) else (none)) else (none)) else (none)) else (none)) else (if t371 = 1 then (if 0 ≤ t368 then (if t368 < (x5_1.length : Int) then (if (rd_L2 x5_1 t368).length < 17592186044416 then (some ((x5_1.set (t368 : Int).toNat ((rd_L2 x5_1 t368) ++ [0])), t372, t373)) else (none)) else (none)) else (none)) else (some (x5_1, t372, t373)))) = some (r1, r2, r3) := H
     have A12 := Aside0.mk A120; clear A120
     by_cases c13 : t371 = 0
     ·rw [if_pos c13] at H
      have c13b0 : (t371 == 0) = true := beq_iff_eq.mpr c13; have c13b1 : (t371 != 0) = false := bne_eq_false_iff_eq.mpr c13; clear c13
      by_cases c14 : 0 ≤ t368
      ·rw [if_pos c14] at H
       have c14b0 : decide (0 ≤ t368) = true := decide_eq_true c14; clear c14
       by_cases c15 : t368 < (x5_1.length : Int)
       ·rw [if_pos c15] at H
        have c15b0 : decide (t368 < (x5_1.length : Int)) = true := decide_eq_true c15; clear c15
        obtain ⟨ji16, hji16⟩ : ∃ j_ : Int, (wrap64 (a1 - 1)) = j_ := ⟨_, rfl⟩
        replace H : (if 0 ≤ (ji16) then (if (ji16) < ((rd_L2 x5_1 t368).length : Int) then ((spec_l1Cur_among.f s0_0 t372 t373 (([(-1), a1, rd (rd_L2 x5_1 t368) (ji16)] : List Int))).bind fun bt380 => (if 0 < ((rd_L2 x5_1 t368).length : Int) then (some ((x5_1.set (t368 : Int).toNat ((rd_L2 x5_1 t368).set (0 : Int).toNat bt380.1)), bt380.2.1, bt380.2.2)) else (none))) else (none)) else (none)) = some (r1, r2, r3) := by first | (rw [hji16] at H; exact H) | (simp only [hji16] at H ⊢; exact H)
        (try rw [hji16] at A11); (try rw [hji16] at A12); have hji16w : (IntKind.i64.wrap (a1 - 1)) = ji16 := (i64_w _).trans hji16
        by_cases c17 : 0 ≤ (ji16)
        ·rw [if_pos c17] at H
         have c17b0 : decide (0 ≤ (ji16)) = true := decide_eq_true c17; clear c17
         by_cases c18 : (ji16) < ((rd_L2 x5_1 t368).length : Int)
         ·rw [if_pos c18] at H
          have c18b0 : decide ((ji16) < ((rd_L2 x5_1 t368).length : Int)) = true := decide_eq_true c18; clear c18
          obtain ⟨y377, hy377⟩ : ∃ y_ : List Int, y_ = (([(-1), a1, rd (rd_L2 x5_1 t368) (ji16)] : List Int)) := ⟨_, rfl⟩
          replace H : ((spec_l1Cur_among.f s0_0 t372 t373 y377).bind fun bt380 => (if 0 < ((rd_L2 x5_1 t368).length : Int) then (some ((x5_1.set (t368 : Int).toNat ((rd_L2 x5_1 t368).set (0 : Int).toNat bt380.1)), bt380.2.1, bt380.2.2)) else (none))) = some (r1, r2, r3) := by first | (rw [hy377]; with_reducible exact H) | (have H2_ := (Option.bind_some _ _).symm.trans H; rw [hy377]; with_reducible exact H2_) | (have H2_ := (Option.bind_some _ _).symm.trans H; with_reducible exact H2_) | with_reducible exact H | (rw [hy377]; exact H) | exact H
          have Ny377 := Aside0.mk hy377; clear hy377; replace H := Option.bind_eq_some_iff.mp H; obtain ⟨⟨t380, t381, t382⟩, A190, H⟩ := H; replace H : (if 0 < ((rd_L2 x5_1 t368).length : Int) then (some ((x5_1.set (t368 : Int).toNat ((rd_L2 x5_1 t368).set (0 : Int).toNat t380)), t381, t382)) else (none)) = some (r1, r2, r3) := H; have A19 := Aside0.mk A190; clear A190
          by_cases c20 : 0 < ((rd_L2 x5_1 t368).length : Int)
          ·rw [if_pos c20] at H
           have c20b0 : decide (0 < ((rd_L2 x5_1 t368).length : Int)) = true := decide_eq_true c20; have c20b1 : decide (0 < (rd_L2 x5_1 t368).length) = true := decide_eq_true (by omega); clear c20
           obtain ⟨y383, hy383⟩ : ∃ y_ : List Int, y_ = ((rd_L2 x5_1 t368).set (0 : Int).toNat t380) := ⟨_, rfl⟩
           replace H : (some ((x5_1.set (t368 : Int).toNat y383), t381, t382)) = some (r1, r2, r3) := by first | (rw [hy383]; with_reducible exact H) | (have H2_ := (Option.bind_some _ _).symm.trans H; rw [hy383]; with_reducible exact H2_) | (have H2_ := (Option.bind_some _ _).symm.trans H; with_reducible exact H2_) | with_reducible exact H | (rw [hy383]; exact H) | exact H
           have Ny383 := Aside0.mk hy383; clear hy383
           obtain ⟨y385, hy385⟩ : ∃ y_ : List (List Int), y_ = (x5_1.set (t368 : Int).toNat y383) := ⟨_, rfl⟩
           replace H : (some (y385, t381, t382)) = some (r1, r2, r3) := by first | (rw [hy385]; with_reducible exact H) | (have H2_ := (Option.bind_some _ _).symm.trans H; rw [hy385]; with_reducible exact H2_) | (have H2_ := (Option.bind_some _ _).symm.trans H; with_reducible exact H2_) | with_reducible exact H | (rw [hy385]; exact H) | exact H
           have Ny385 := Aside0.mk hy385; clear hy385; simp only [Option.some.injEq, Prod.mk.injEq] at H; obtain ⟨rfl, rfl, rfl⟩ := H; obtain ⟨Ao22, co22, eo22⟩ := Kd.S_slice HO_5.out; subst eo22
           try go_wp2_with (first | ((with_reducible refine gate_callee (f := 79) rfl ?_); refine goesL_ (some 23) rfl rfl Try.func79 (by kernel_rfl) rfl #[.pointer (some ⟨g, 0, none⟩), .int .i64 (x5_1.length : Int)] rfl zb' ?_; (with_reducible refine (spec_l1Cur_pick.calls g s0_0 x1001_1 x1002_1 (x5_1.length : Int) t368 t369 t370 w0 _ ?side1 ?side2 A11.out).mono ?_); (case side1 => exact zd'); (case side2 => exact zf'); rintro e w23 ⟨rfl, hi, hb, hk⟩; refine ⟨_, rfl, ?_⟩; have n0_ := am (Kd.S_mono (Kd.S_keep (IsS69.apartS (show IsS69 w0 _ g s0_0 x1001_1 x1002_1 from by repeat (first | (with_reducible first | exact HI0.out | apply IsS69.alloc | apply IsS69.drewN | apply IsS69.drew | apply IsS69.set_1 | apply IsS69.set_2) | exact HI0.out)) zp' (by decide)) hk (fun _ h => h.2)) (fun _ h => h.1)); have n1_ := am (KeepBut.trans zc' hk (.inl rfl)); have n2_ := am (hb); have n3_ := am (hi); clear HO_5; clear HK; clear HB; clear HI0; have HO_5 := n0_; have HK := n1_; have HB := n2_; have HI0 := n3_; clear n0_ n1_ n2_ n3_; (try clear hb); (try clear hb2); (try clear hk); (try clear hi)) | ((with_reducible refine gate_callee (f := 79) rfl ?_); refine goesL_ (some 25) rfl rfl Try.func79 (by kernel_rfl) rfl #[.pointer (some ⟨g, 0, none⟩), .int .i64 30] rfl zb' ?_; (with_reducible refine (spec_l1Cur_pick.calls g s0_0 t369 t370 30 t371 t372 t373 w0 _ ?side1 ?side2 A12.out).mono ?_); (case side1 => exact zd'); (case side2 => exact zf'); rintro e w24 ⟨rfl, hi, hb, hk⟩; refine ⟨_, rfl, ?_⟩; have n0_ := am (Kd.S_mono (Kd.S_keep (IsS69.apartS (show IsS69 w0 _ g s0_0 t369 t370 from by repeat (first | (with_reducible first | exact HI0.out | apply IsS69.alloc | apply IsS69.drewN | apply IsS69.drew | apply IsS69.set_1 | apply IsS69.set_2) | exact HI0.out)) zp' (by decide)) hk (fun _ h => h.2)) (fun _ h => h.1)); have n1_ := am (KeepBut.trans zc' hk (.inl rfl)); have n2_ := am (hb); have n3_ := am (hi); clear HO_5; clear HK; clear HB; clear HI0; have HO_5 := n0_; have HK := n1_; have HB := n2_; have HI0 := n3_; clear n0_ n1_ n2_ n3_; (try clear hb); (try clear hb2); (try clear hk); (try clear hi)))
           have n0_ := am (Kd.S_drew HO_5.out); have n1_ := am (IsS69.drew HI0.out); have n2_ := am (keep_drew HK.out); have n3_ := am (below_drew1 HB.out); clear HO_5; clear HI0; clear HK; clear HB; have HO_5 := n0_; have HI0 := n1_; have HK := n2_; have HB := n3_; clear n0_ n1_ n2_ n3_; have p374 : 0 ≤ (t368 : Int) := odt; have q374 : t368 < (x5_1.length : Int) := odt; obtain ⟨ad374, A374_0, c374_0, e374, hx374_0, hl374_0, hi374_0⟩ := at_L2 (Kd.S_reads' HO_5.out).2.2 t368 p374 q374; cases e374; obtain ⟨ce374, hce374, hMe374, hcc374⟩ := Kd.S_get HO_5.out [] t368 p374 (by first | exact q374 | exact odt | (have e_ := (Kd.S_reads' HO_5.out).1; omega)); obtain ⟨ve374_0, rfl, ge374_0⟩ := hMe374; have hv374_0 := hcc374 0 _ rfl; rw [Nat.add_zero, show ((Kd.slice 3 (Kd.int .i64))).sz = 1 from rfl, Nat.mul_one] at hv374_0; replace hv374_0 := Option.some.inj (hv374_0.symm.trans hx374_0); rw [hv374_0] at ge374_0; have HL374_0 := am (show Kd.R (Kd.int .i64) 3 _ _ _ _ (rd_L2 x5_1 t368) from ge374_0); clear hv374_0 ge374_0; have HX374_0 := Aside0.mk hx374_0; clear hcc374 hce374; have HR374_0 := Aside0.mk hi374_0; have HC374_0 := Aside0.mk hl374_0; clear hi374_0 hl374_0; replace p374 := eq_true p374; replace q374 := eq_true q374; have p375 : 0 ≤ (t368 : Int) := odt; have q375 : t368 < (x5_1.length : Int) := odt; obtain ⟨ad375, A375_0, c375_0, e375, hx375_0, hl375_0, hi375_0⟩ := at_L2 (Kd.S_reads' HO_5.out).2.2 t368 p375 q375; obtain rfl : ad374 = ad375 := (by injection e375); obtain ⟨ce375, hce375, hMe375, hcc375⟩ := Kd.S_get HO_5.out [] t368 p375 (by first | exact q375 | exact odt | (have e_ := (Kd.S_reads' HO_5.out).1; omega))
           obtain ⟨ve375_0, rfl, ge375_0⟩ := hMe375; have hv375_0 := hcc375 0 _ rfl; rw [Nat.add_zero, show ((Kd.slice 3 (Kd.int .i64))).sz = 1 from rfl, Nat.mul_one] at hv375_0; replace hv375_0 := Option.some.inj (hv375_0.symm.trans hx375_0); rw [hv375_0] at ge375_0; have HL375_0 := am (show Kd.R (Kd.int .i64) 3 _ _ _ _ (rd_L2 x5_1 t368) from ge375_0); clear hv375_0 ge375_0; have HX375_0 := Aside0.mk hx375_0; clear hcc375 hce375; have HR375_0 := Aside0.mk hi375_0; have HC375_0 := Aside0.mk hl375_0; clear hi375_0 hl375_0; replace p375 := eq_true p375; replace q375 := eq_true q375; have ea_ := Option.some.inj (hx374_0.symm.trans hx375_0)
           injection ea_ with ea_ en_ ec_
           subst ea_; subst ec_; clear en_; have p376 : 0 ≤ ((ji16) : Int) := odt; have q376 : (ji16) < ((rd_L2 x5_1 t368).length : Int) := odt; obtain ⟨ad376, e376, hx376_0⟩ := Kd.at_int zs3' (ji16) p376 q376; cases e376; replace p376 := eq_true p376; replace q376 := eq_true q376
           refine start_ (n := 18) (S := fun w' => w'.cell? (ad374.add (t368).toNat) = some (.slice (some ad376) (rd_L2 x5_1 t368).length c374_0) ∧ w'.cell? (ad374.add (t368).toNat) = some (.slice (some ad376) (rd_L2 x5_1 t368).length c374_0) ∧ w'.cell? (ad376.add ((ji16)).toNat) = some (.int .i64 (rd (rd_L2 x5_1 t368) (ji16)))) (ds := [17]) #[Z,Z,Z,Z,Z,Z,Z,Z,Z,Z,Z,Z,Z,Z,Z,Z,Z,Z] (by kernel_rfl) rfl rfl ⟨hx374_0, hx375_0, hx376_0⟩ (fun hHeld => ?_); refine with_tabW spec_l1Cur_preferences.tab8 spec_l1Cur_preferences.bits8 (fun HT_ HW_ => ?_)
           generalize w24.drew = w25 at HO_5 HI0 HK HB HL374_0 HL375_0 HR374_0 HR375_0 HX374_0 HX375_0 hx374_0 hx375_0 hx376_0 hHeld ⊢
           refine pure_ (i := 0) (N := some 28) (v := ?_) (a' := ?_) #[Y,Z,Z,Z,Z,Z,Z,Z,Z,Z,Z,Z,Z,Z,Z,Z,Z,Z] rfl rfl (any_of HT_.out (by kernel_rfl)) (fun _ _ _ h => h) (Or.inl ⟨by rfl, ?_⟩) ?_ ?_
           rotate_left
           ·intro w'
            go_simp
            with_reducible rfl
           rotate_left
           ·simp only [Act.put, s1, s2, s3, i64_w, i32_w]
            rfl
           refine pure_ (i := 1) (N := some 29) (v := ?_) (a' := ?_) #[Y,Y,Z,Z,Z,Z,Z,Z,Z,Z,Z,Z,Z,Z,Z,Z,Z,Z] rfl rfl (any_of HT_.out (by kernel_rfl)) (fun _ _ _ h => h) (Or.inl ⟨by rfl, ?_⟩) ?_ ?_
           rotate_left
           ·intro w'
            go_simp
            with_reducible rfl
           rotate_left
           ·simp only [Act.put, s1, s2, s3, i64_w, i32_w]
            rfl
           refine pure_ (i := 2) (N := some 30) (v := ?_) (a' := ?_) #[Y,Y,Y,Z,Z,Z,Z,Z,Z,Z,Z,Z,Z,Z,Z,Z,Z,Z] rfl rfl (any_of HT_.out (by kernel_rfl)) (fun _ _ _ h => h) (Or.inl ⟨by rfl, ?_⟩) ?_ ?_
           rotate_left
           ·intro w'
            go_simp
            with_reducible rfl
           rotate_left
           ·simp only [Act.put, s1, s2, s3, i64_w, i32_w]
            rfl
           refine pure_ (i := 4) (N := some 32) (v := ?_) (a' := ?_) #[Y,Y,Y,Z,Y,Z,Z,Z,Z,Z,Z,Z,Z,Z,Z,Z,Z,Z] rfl rfl (any_of HT_.out (by kernel_rfl)) (fun _ _ _ h => h) (Or.inl ⟨by rfl, ?_⟩) ?_ ?_
           rotate_left
           ·intro w'
            go_simp
            with_reducible rfl
           rotate_left
           ·simp only [Act.put, s1, s2, s3, i64_w, i32_w]
            rfl
           refine pure_ (i := 5) (N := some 33) (v := ?_) (a' := ?_) #[Y,Y,Y,Z,Y,Y,Z,Z,Z,Z,Z,Z,Z,Z,Z,Z,Z,Z] rfl rfl (any_of HT_.out (by kernel_rfl)) (fun _ _ _ h => h) (Or.inl ⟨by rfl, ?_⟩) ?_ ?_
           rotate_left
           ·intro w'
            go_simp
            with_reducible rfl
           rotate_left
           ·simp only [Act.put, s1, s2, s3, i64_w, i32_w]
            rfl
           refine pure_ (i := 6) (N := some 34) (v := ?_) (a' := ?_) #[Y,Y,Y,Z,Y,Y,Y,Z,Z,Z,Z,Z,Z,Z,Z,Z,Z,Z] rfl rfl (any_of HT_.out (by kernel_rfl)) (fun _ _ _ h => h) (Or.inl ⟨by rfl, ?_⟩) ?_ ?_
           rotate_left
           ·intro w'
            go_simp
            with_reducible rfl
           rotate_left
           ·simp only [Act.put, s1, s2, s3, i64_w, i32_w]
            rfl
           refine pure_ (i := 7) (N := some 35) (v := ?_) (a' := ?_) #[Y,Y,Y,Z,Y,Y,Y,Y,Z,Z,Z,Z,Z,Z,Z,Z,Z,Z] rfl rfl (any_of HT_.out (by kernel_rfl)) (fun _ _ _ h => h) (Or.inl ⟨by rfl, ?_⟩) ?_ ?_
           rotate_left
           ·intro w'
            go_simp
            with_reducible rfl
           rotate_left
           ·simp only [Act.put, s1, s2, s3, i64_w, i32_w]
            rfl
           refine pure_ (i := 8) (N := some 36) (v := ?_) (a' := ?_) #[Y,Y,Y,Z,Y,Y,Y,Y,Y,Z,Z,Z,Z,Z,Z,Z,Z,Z] rfl rfl (any_of HT_.out (by kernel_rfl)) (fun _ _ _ h => h) (Or.inl ⟨by rfl, ?_⟩) ?_ ?_
           rotate_left
           ·intro w'
            go_simp
            with_reducible rfl
           rotate_left
           ·simp only [Act.put, s1, s2, s3, i64_w, i32_w]
            rfl
           refine pure_ (i := 10) (N := some 38) (v := ?_) (a' := ?_) #[Y,Y,Y,Z,Y,Y,Y,Y,Y,Z,Y,Z,Z,Z,Z,Z,Z,Z] rfl rfl (any_of HT_.out (by kernel_rfl)) (fun _ _ _ h => h) (Or.inl ⟨by rfl, ?_⟩) ?_ ?_
           rotate_left
           ·intro w'
            go_simp
            with_reducible rfl
           rotate_left
           ·simp only [Act.put, s1, s2, s3, i64_w, i32_w]
            rfl
           refine pure_ (i := 11) (N := some 39) (v := ?_) (a' := ?_) #[Y,Y,Y,Z,Y,Y,Y,Y,Y,Z,Y,Y,Z,Z,Z,Z,Z,Z] rfl rfl (any_of HT_.out (by kernel_rfl)) (fun _ _ _ h => h) (Or.inl ⟨by rfl, ?_⟩) ?_ ?_
           rotate_left
           ·intro w'
            go_simp
            with_reducible rfl
           rotate_left
           ·simp only [Act.put, s1, s2, s3, i64_w, i32_w]
            rfl
           refine take_ (i := 3) (N := some 31) (v := ?_) (a' := ?_) #[Y,Y,Y,Y,Y,Y,Y,Y,Y,Z,Y,Y,Z,Z,Z,Z,Z,Z] rfl rfl (take_ofW HT_.out HW_.out (by kernel_rfl)) (fun _ _ _ h => h) (Or.inl ⟨by rfl, ?_⟩) hHeld ?_ ?_
           rotate_left
           ·rintro w' ⟨s0, s1, s2⟩
            go_simp
            with_reducible rfl
           rotate_left
           ·simp only [Act.put, s1, s2, s3, i64_w, i32_w]
            rfl
           refine take_ (i := 9) (N := some 37) (v := ?_) (a' := ?_) #[Y,Y,Y,Y,Y,Y,Y,Y,Y,Y,Y,Y,Z,Z,Z,Z,Z,Z] rfl rfl (take_ofW HT_.out HW_.out (by kernel_rfl)) (fun _ _ _ h => h) (Or.inl ⟨by rfl, ?_⟩) hHeld ?_ ?_
           rotate_left
           ·rintro w' ⟨s0, s1, s2⟩
            go_simp
            with_reducible rfl
           rotate_left
           ·simp only [Act.put, s1, s2, s3, i64_w, i32_w]
            rfl
           refine pure_ (i := 12) (N := some 40) (v := ?_) (a' := ?_) #[Y,Y,Y,Y,Y,Y,Y,Y,Y,Y,Y,Y,Y,Z,Z,Z,Z,Z] rfl rfl (any_of HT_.out (by kernel_rfl)) (fun _ _ _ h => h) (Or.inl ⟨by rfl, ?_⟩) ?_ ?_
           rotate_left
           ·intro w'
            go_simp
            with_reducible rfl
           rotate_left
           ·simp only [Act.put, s1, s2, s3, i64_w, i32_w]
            rfl
           refine take_ (i := 13) (N := some 41) (v := ?_) (a' := ?_) #[Y,Y,Y,Y,Y,Y,Y,Y,Y,Y,Y,Y,Y,Y,Z,Z,Z,Z] rfl rfl (take_ofW HT_.out HW_.out (by kernel_rfl)) (fun _ _ _ h => h) (Or.inl ⟨by rfl, ?_⟩) hHeld ?_ ?_
           rotate_left
           ·rintro w' ⟨s0, s1, s2⟩
            go_simp
            with_reducible rfl
           rotate_left
           ·simp only [Act.put, s1, s2, s3, i64_w, i32_w]
            rfl
           refine one_ (i := 14) (N := some 42) #[Y,Y,Y,Y,Y,Y,Y,Y,Y,Y,Y,Y,Y,Y,Y,Z,Z,Z] rfl rfl (one_of HT_.out (by kernel_rfl)) (by decide) (fun K hK => ?_)
           refine Kd.R_lit_step (Kd.int .i64) _ 3 ?hg (N := 42) ?hd (xs := ([(-1), a1, rd (rd_L2 x5_1 t368) (ji16)] : List Int)) (inner := [.int .i64 (-1), .int .i64 a1, .int .i64 (rd (rd_L2 x5_1 t368) (ji16))]) (ok := fun _ => True) (okp := fun _ => True) ?hr ?hp (fun _ hk => hk) trivial (Below.refl _ _) (Nat.le_refl _) (by simp) ?_; (case hd => rfl); (case hg => rfl); (case hr => exact zo'); (case hp => exact (Reps.one (show Kd.M (Kd.int .i64) _ _ _ (-1) [.int .i64 (-1)] from rfl) (Reps.one (show Kd.M (Kd.int .i64) _ _ _ a1 [.int .i64 a1] from rfl) (Reps.one (show Kd.M (Kd.int .i64) _ _ _ (rd (rd_L2 x5_1 t368) (ji16)) [.int .i64 (rd (rd_L2 x5_1 t368) (ji16))] from rfl) (Reps.none _ _)))))
           intro v378 w26 ho27 hb hg_ hnew_
           have HS0_ := (hb.cell (World.block_lt_of_cell? _ _ (hHeld.1))).trans (hHeld.1); have HS1_ := (hb.cell (World.block_lt_of_cell? _ _ (hHeld.2.1))).trans (hHeld.2.1); have HS2_ := (hb.cell (World.block_lt_of_cell? _ _ (hHeld.2.2))).trans (hHeld.2.2); clear hg_ hnew_
           (first | rw [← Ny377.out] at ho27 | (simp only [Int.reduceToNat] at ho27; rw [← Ny377.out] at ho27))
           have n0_ := am (Kd.S_elder' zp' (Kd.R_base ho27) hb); have n1_ := am (Kd.R_elder' zl3' (Kd.R_base ho27) hb); have n2_ := am (Kd.R_elder' zm3' (Kd.R_base ho27) hb); have n3_ := am (Kd.R_lower (Kd.R_new' (Kd.R_new' ho27 (Kd.R_lt zl3')) (Kd.R_lt zm3')) (keep_size (w := w) (g := g) (row := none) zc')); have n4_ := am (IsS69.below zd' hb); have n5_ := am (Kd.C_below (by repeat (first | (with_reducible exact HR374_0.out) | (with_reducible refine Kd.C_alloc ?_ _) | (with_reducible refine Kd.C_drewN ?_ _) | (with_reducible refine Kd.C_drew ?_) | exact HR374_0.out)) hb); have n6_ := am (pw_cell_below hb HX374_0.out); have n7_ := am (Kd.C_below zs3' hb); have n8_ := am (pw_cell_below hb HX375_0.out); have n9_ := am (KeepBut.trans zc' (KeepBut.of_below hb g none) (.inl rfl)); have n10_ := am (below_step zf' hb); clear HO_5; clear HL374_0; clear HL375_0; clear HI0; clear HR374_0; clear HX374_0; clear HR375_0; clear HX375_0; clear HK; clear HB; have HO_5 := n0_; have HL374_0 := n1_; have HL375_0 := n2_; have HO379 := n3_; have HI0 := n4_; have HR374_0 := n5_; have HX374_0 := n6_; have HR375_0 := n7_; have HX375_0 := n8_; have HK := n9_; have HB := n10_; clear n0_ n1_ n2_ n3_ n4_ n5_ n6_ n7_ n8_ n9_ n10_; clear hb ho27; obtain ⟨Ao28, co28, eo28⟩ := Kd.R_slice HO379.out
           (first | subst eo28 | (injection eo28 with f1_ f2_ f3_; have f4_ := f1_.symm; have f5_ := f3_.symm; clear f1_ f2_ f3_; subst f4_; subst f5_))
           refine hK.out _ _ ⟨HS0_, HS1_, HS2_⟩ (fun hHeld => ?_)
           clear hK K
           refine norm_ (a' := ?_) ?_ ?_
           rotate_left
           ·show Act.put _ (some 42) _ = _
            simp only [Act.put, s1, s2, s3, i64_w, i32_w]
            rfl
           refine one_ (i := 15) (N := some 43) #[Y,Y,Y,Y,Y,Y,Y,Y,Y,Y,Y,Y,Y,Y,Y,Y,Z,Z] rfl rfl (one_of HT_.out (by kernel_rfl)) (by decide) (fun K hK => ?_)
           refine goes_ Try.func76 (by kernel_rfl) rfl #[.pointer (some ⟨g, 0, none⟩), .slice Ao28 y377.length co28] (by rfl) rfl rfl zb' ?_
           with_reducible refine (spec_l1Cur_among.calls g s0_0 t372 t373 _ _ y377 t380 t381 t382 w0 _ ?side1 ?side2 ?side3 ?side4 ?side5 A19.out).mono ?_
           (case side1 => exact zd')
           (case side2 => exact zf')
           (case side3 => repeat (first | exact (Kd.R_reads' HO379.out).2.2 | (with_reducible refine Kd.C_alloc ?_ _) | (with_reducible refine Kd.C_drewN ?_ _) | (with_reducible refine Kd.C_drew ?_)))
           (case side4 => exact (Kd.R_reads' HO379.out).2.1)
           (case side5 => exact far_slice (IsS69.own_ne HI0.out HO379.out (by decide)))
           rintro e w29 ⟨rfl, hi, hb, hk⟩
           have HS0_ := keep_cell hk (hHeld.1) zd3'; have HS1_ := keep_cell hk (hHeld.2.1) zd3'; have HS2_ := keep_cell hk (hHeld.2.2) (by first | (rw [add_block]; exact Kd.own_blk (IsS69.own_ne HI0.out HL375_0.out (by decide))) | (show (Addr.add _ _).block ≠ _; rw [add_block]; exact Kd.own_blk (IsS69.own_ne HI0.out HL375_0.out (by decide))) | exact Kd.own_blk (IsS69.own_ne HI0.out HL375_0.out (by decide)))
           refine ⟨_, rfl, ?_⟩
           have n0_ := am (Kd.S_mono (Kd.S_keep (IsS69.apartS (show IsS69 w0 _ g s0_0 t372 t373 from by repeat (first | (with_reducible first | exact HI0.out | apply IsS69.alloc | apply IsS69.drewN | apply IsS69.drew | apply IsS69.set_1 | apply IsS69.set_2) | exact HI0.out)) zp' (by decide)) hk (fun _ h => h.2)) (fun _ h => h.1)); have n1_ := am (Kd.R_mono (Kd.R_keep (IsS69.apart (show IsS69 w0 _ g s0_0 t372 t373 from by repeat (first | (with_reducible first | exact HI0.out | apply IsS69.alloc | apply IsS69.drewN | apply IsS69.drew | apply IsS69.set_1 | apply IsS69.set_2) | exact HI0.out)) zl3' (by decide)) hk (fun _ h => h.2)) (fun _ h => h.1)); have n2_ := am (keep_cell hk HX374_0.out zl2'); have n3_ := am (Kd.R_mono (Kd.R_keep (IsS69.apart (show IsS69 w0 _ g s0_0 t372 t373 from by repeat (first | (with_reducible first | exact HI0.out | apply IsS69.alloc | apply IsS69.drewN | apply IsS69.drew | apply IsS69.set_1 | apply IsS69.set_2) | exact HI0.out)) zm3' (by decide)) hk (fun _ h => h.2)) (fun _ h => h.1)); have n4_ := am (keep_cell hk HX375_0.out zl2'); have n5_ := am (Kd.R_mono (Kd.R_keep (IsS69.apart (show IsS69 w0 _ g s0_0 t372 t373 from by repeat (first | (with_reducible first | exact HI0.out | apply IsS69.alloc | apply IsS69.drewN | apply IsS69.drew | apply IsS69.set_1 | apply IsS69.set_2) | exact HI0.out)) (by (with_reducible repeat (first | apply Kd.R_alloc | apply Kd.R_drewN | apply Kd.R_drew)); exact HO379.out) (by decide)) hk (fun _ h => h.2)) (fun _ h => h.1)); have n6_ := am (KeepBut.trans zc' hk (.inl rfl))
           have n7_ := am (hb); have n8_ := am (hi); clear HO_5; clear HL374_0; clear HX374_0; clear HL375_0; clear HX375_0; clear HO379; clear HK; clear HB; clear HI0; have HO_5 := n0_; have HL374_0 := n1_; have HX374_0 := n2_; have HL375_0 := n3_; have HX375_0 := n4_; have HO379 := n5_; have HK := n6_; have HB := n7_; have HI0 := n8_; clear n0_ n1_ n2_ n3_ n4_ n5_ n6_ n7_ n8_; (try clear hb); (try clear hb2); (try clear hk); (try clear hi); have p21 : 0 ≤ (0 : Int) := (by omega); have q21 : (0 : Int) < (((rd_L2 x5_1 t368).length : Int) : Int) := odt; have qi21 : (0 < (rd_L2 x5_1 t368).length) = True := eq_true (by omega); obtain ⟨go21, co21, eo21, gb21, gl21, cl21, HG21⟩ := Kd.R_form HL374_0.out (by omega)
           (first | cases eo21 | (injection eo21 with ea_ en_ ec_; (first | subst ea_ | (injection ea_ with ea_; subst ea_)); subst ec_; clear en_))
           have GB21 := Aside0.mk gb21; have GG21 := Aside0.mk HG21; clear gb21 gl21 HG21
           (first | simp only [add_plain] at hx376_0 | skip)
           obtain ⟨hx21_0, hf21_0⟩ := Kd.R_celln 0 HL374_0.out (0 : Int) p21 q21; (try rw [show ((0 : Int)).toNat = 0 from rfl] at hx21_0); (try simp only [Nat.reduceMul, Nat.zero_mul, Nat.zero_add, Nat.reduceAdd] at hx21_0); (try rw [show ((0 : Int)).toNat = 0 from rfl] at hf21_0); (try simp only [Nat.reduceMul, Nat.zero_mul, Nat.zero_add, Nat.reduceAdd] at hf21_0); replace p21 := eq_true p21; replace q21 := eq_true q21; have n_ := am (Kd.S_mono (ok' := (fun k_ => some k_ ≠ (.slice Ao28 y377.length co28 : Value).ownBlock)) HO_5.out (fun k_ hk => hk.2)); clear HO_5; have HO_5 := n_; clear n_; have hq30 : (t368 : Int) < (x5_1.length : Int) := (by have h_ : (t368 : Int) < ((x5_1.length : Int) : Int) := odt; first | exact h_ | (have e_ := (Kd.S_reads' HO_5.out).1; omega) | simpa only [List.length_set, List.length_set] using h_); obtain ⟨oki30, ce30, hcl30, hM30, hcc30, hok30, hbk30⟩ := Kd.S_borrow HO_5.out [] (t368 : Int) odt hq30; obtain ⟨ve30_0, rfl, ge30_0⟩ := hM30; have hv30 := hcc30 0 _ rfl; rw [Nat.add_zero, show ((Kd.slice 3 (Kd.int .i64))).sz = 1 from rfl, Nat.mul_one] at hv30; replace hv30 := Option.some.inj (hv30.symm.trans HX374_0.out); subst hv30; clear hcc30 hcl30; replace ge30_0 := (show Kd.R (Kd.int .i64) 3 _ _ _ _ (rd_L2 x5_1 t368) from ge30_0); have HP30 := Kd.R_putg ge30_0 (0 : Int) t380; have HN0_go21 := am (show g ≠ go21 from by have h_ := IsS69.own_ne HI0.out HL374_0.out (by decide); intro e_; exact h_ (by rw [e_]; rfl)); rw [← Ny383.out] at HP30; have HS30 := hbk30 HP30.2 (fun k_ e_ => by injection e_ with e_; subst e_; exact ge30_0.1 _ rfl) (x' := y383) (Kd.M_row HP30.1)
           rw [← Ny385.out] at HS30; have HQ30 := Aside0.mk HS30; clear HP30 HS30 hbk30 hok30
           refine hK.out _ _ ⟨HS0_, HS1_, HS2_⟩ (fun hHeld => ?_)
           clear hK K
           refine norm_ (a' := ?_) ?_ ?_
           rotate_left
           ·show Act.put _ (some 43) _ = _
            simp only [Act.put, s1, s2, s3, i64_w, i32_w]
            rfl
           refine pure_ (i := 16) (N := some 44) (v := ?_) (a' := ?_) #[Y,Y,Y,Y,Y,Y,Y,Y,Y,Y,Y,Y,Y,Y,Y,Y,Y,Z] rfl rfl (any_of HT_.out (by kernel_rfl)) (fun _ _ _ h => h) (Or.inl ⟨by rfl, ?_⟩) ?_ ?_
           rotate_left
           ·intro w'
            go_simp
            with_reducible rfl
           rotate_left
           ·simp only [Act.put, s1, s2, s3, i64_w, i32_w]
            rfl
           refine last_ (i := 17) (N := none) #[Y,Y,Y,Y,Y,Y,Y,Y,Y,Y,Y,Y,Y,Y,Y,Y,Y,Y] rfl rfl (one_of HT_.out (by kernel_rfl)) (by decide) (fun K hK => ?_)
           refine skip_ (w1 := ?_) (by rfl) rfl ?_ ?_
           rotate_left
           ·go_simp
            rfl
           refine hK.out _ _ ?_
           clear hK K
           refine done_ (done_of HT_.out (by kernel_rfl)) ?_
           try go_wp2
           go_ret
           exact ⟨_, by first | rfl | (simp [errW_none, errW_some] <;> rfl) | (simp only [← hji16]; first | rfl | (simp [errW_none, errW_some] <;> rfl)) | (simp [*, errW_none, errW_some] <;> rfl), by (with_reducible repeat (first | apply Kd.S_alloc | apply Kd.S_drewN | apply Kd.S_drew)); exact Kd.S_mono HQ30.out (fun _ hk => trivial), by repeat (first | (with_reducible first | exact HI0.out | apply IsS69.alloc | apply IsS69.drewN | apply IsS69.drew | apply IsS69.set_1 | apply IsS69.set_2 | refine IsS69.far ?_ HN0_go21.out _) | exact HI0.out), by repeat (first | (with_reducible first | exact HB.out | apply ba | apply bn | apply below_drew1 | refine below_set ?_ (Nat.le_trans HL.out GB21.out) | refine below_set ?_ (IsS69.ge HI0.out)) | exact HB.out), by repeat (first | (with_reducible first | exact HK.out | apply KeepBut.set_ | apply keep_drewN | apply keep_drew | apply keep_alloc | refine keep_far ?_ GB21.out _) | exact HK.out)⟩
          ·rw [if_neg c20] at H
           exact absurd H (by simp)
         ·rw [if_neg c18] at H
          exact absurd H (by simp)
        ·rw [if_neg c17] at H
         exact absurd H (by simp)
       ·rw [if_neg c15] at H
        exact absurd H (by simp)
      ·rw [if_neg c14] at H
       exact absurd H (by simp)
     ·rw [if_neg c13] at H
      have c13b0 : (t371 == 0) = false := beq_eq_false_iff_ne.mpr c13; have c13b1 : (t371 != 0) = true := bne_iff_ne.mpr c13
      by_cases c32 : t371 = 1
      ·rw [if_pos c32] at H
       have c32b0 : (t371 == 1) = true := beq_iff_eq.mpr c32; have c32b1 : (t371 != 1) = false := bne_eq_false_iff_eq.mpr c32; clear c32
       by_cases c33 : 0 ≤ t368
       ·rw [if_pos c33] at H
        have c33b0 : decide (0 ≤ t368) = true := decide_eq_true c33; clear c33
        by_cases c34 : t368 < (x5_1.length : Int)
        ·rw [if_pos c34] at H
         have c34b0 : decide (t368 < (x5_1.length : Int)) = true := decide_eq_true c34; clear c34
         by_cases c35 : (rd_L2 x5_1 t368).length < 17592186044416
         ·rw [if_pos c35] at H
          have LMc35 := Aside0.mk c35; clear c35
          obtain ⟨y387, hy387⟩ : ∃ y_ : List Int, y_ = ((rd_L2 x5_1 t368) ++ [0]) := ⟨_, rfl⟩
          replace H : (some ((x5_1.set (t368 : Int).toNat y387), t372, t373)) = some (r1, r2, r3) := by first | (rw [hy387]; with_reducible exact H) | (have H2_ := (Option.bind_some _ _).symm.trans H; rw [hy387]; with_reducible exact H2_) | (have H2_ := (Option.bind_some _ _).symm.trans H; with_reducible exact H2_) | with_reducible exact H | (rw [hy387]; exact H) | exact H
          have Ny387 := Aside0.mk hy387; clear hy387
          obtain ⟨y390, hy390⟩ : ∃ y_ : List (List Int), y_ = (x5_1.set (t368 : Int).toNat y387) := ⟨_, rfl⟩
          replace H : (some (y390, t372, t373)) = some (r1, r2, r3) := by first | (rw [hy390]; with_reducible exact H) | (have H2_ := (Option.bind_some _ _).symm.trans H; rw [hy390]; with_reducible exact H2_) | (have H2_ := (Option.bind_some _ _).symm.trans H; with_reducible exact H2_) | with_reducible exact H | (rw [hy390]; exact H) | exact H
          have Ny390 := Aside0.mk hy390; clear hy390; simp only [Option.some.injEq, Prod.mk.injEq] at H; obtain ⟨rfl, rfl, rfl⟩ := H; obtain ⟨Ao37, co37, eo37⟩ := Kd.S_slice HO_5.out; subst eo37
          go_wp2_with (first | ((with_reducible refine gate_callee (f := 79) rfl ?_); refine goesL_ (some 23) rfl rfl Try.func79 (by kernel_rfl) rfl #[.pointer (some ⟨g, 0, none⟩), .int .i64 (x5_1.length : Int)] rfl zb' ?_; (with_reducible refine (spec_l1Cur_pick.calls g s0_0 x1001_1 x1002_1 (x5_1.length : Int) t368 t369 t370 w0 _ ?side1 ?side2 A11.out).mono ?_); (case side1 => exact zd'); (case side2 => exact zf'); rintro e w38 ⟨rfl, hi, hb, hk⟩; refine ⟨_, rfl, ?_⟩; have n0_ := am (Kd.S_mono (Kd.S_keep (IsS69.apartS (show IsS69 w0 _ g s0_0 x1001_1 x1002_1 from by repeat (first | (with_reducible first | exact HI0.out | apply IsS69.alloc | apply IsS69.drewN | apply IsS69.drew | apply IsS69.set_1 | apply IsS69.set_2) | exact HI0.out)) zp' (by decide)) hk (fun _ h => h.2)) (fun _ h => h.1)); have n1_ := am (KeepBut.trans zc' hk (.inl rfl)); have n2_ := am (hb); have n3_ := am (hi); clear HO_5; clear HK; clear HB; clear HI0; have HO_5 := n0_; have HK := n1_; have HB := n2_; have HI0 := n3_; clear n0_ n1_ n2_ n3_; (try clear hb); (try clear hb2); (try clear hk); (try clear hi)) | ((with_reducible refine gate_callee (f := 79) rfl ?_); refine goesL_ (some 25) rfl rfl Try.func79 (by kernel_rfl) rfl #[.pointer (some ⟨g, 0, none⟩), .int .i64 30] rfl zb' ?_; (with_reducible refine (spec_l1Cur_pick.calls g s0_0 t369 t370 30 t371 t372 t373 w0 _ ?side1 ?side2 A12.out).mono ?_); (case side1 => exact zd'); (case side2 => exact zf'); rintro e w39 ⟨rfl, hi, hb, hk⟩; refine ⟨_, rfl, ?_⟩; have n0_ := am (Kd.S_mono (Kd.S_keep (IsS69.apartS (show IsS69 w0 _ g s0_0 t369 t370 from by repeat (first | (with_reducible first | exact HI0.out | apply IsS69.alloc | apply IsS69.drewN | apply IsS69.drew | apply IsS69.set_1 | apply IsS69.set_2) | exact HI0.out)) zp' (by decide)) hk (fun _ h => h.2)) (fun _ h => h.1)); have n1_ := am (KeepBut.trans zc' hk (.inl rfl)); have n2_ := am (hb); have n3_ := am (hi); clear HO_5; clear HK; clear HB; clear HI0; have HO_5 := n0_; have HK := n1_; have HB := n2_; have HI0 := n3_; clear n0_ n1_ n2_ n3_; (try clear hb); (try clear hb2); (try clear hk); (try clear hi); have p386 : 0 ≤ (t368 : Int) := odt; have q386 : t368 < (x5_1.length : Int) := odt; obtain ⟨ad386, A386_0, c386_0, e386, hx386_0, hl386_0, hi386_0⟩ := at_L2 (Kd.S_reads' HO_5.out).2.2 t368 p386 q386; cases e386; obtain ⟨ce386, hce386, hMe386, hcc386⟩ := Kd.S_get HO_5.out [] t368 p386 (by first | exact q386 | exact odt | (have e_ := (Kd.S_reads' HO_5.out).1; omega)); obtain ⟨ve386_0, rfl, ge386_0⟩ := hMe386; have hv386_0 := hcc386 0 _ rfl; rw [Nat.add_zero, show ((Kd.slice 3 (Kd.int .i64))).sz = 1 from rfl, Nat.mul_one] at hv386_0; replace hv386_0 := Option.some.inj (hv386_0.symm.trans hx386_0); rw [hv386_0] at ge386_0; have HL386_0 := am (show Kd.R (Kd.int .i64) 3 _ _ _ _ (rd_L2 x5_1 t368) from ge386_0); clear hv386_0 ge386_0; have HX386_0 := Aside0.mk hx386_0; clear hcc386 hce386; have HR386_0 := Aside0.mk hi386_0; have HC386_0 := Aside0.mk hl386_0; clear hi386_0 hl386_0; replace p386 := eq_true p386; replace q386 := eq_true q386; obtain ⟨go40, co40, eo40, gb40, gl40, cl40, HG40⟩ := Kd.S_form HO_5.out (by have h_ : (t368 : Int) < ((x5_1.length : Int) : Int) := odt; have h2_ : 0 ≤ (t368 : Int) := odt; omega); (first | cases eo40 | (injection eo40 with ea_ en_ ec_; (first | subst ea_ | (injection ea_ with ea_; subst ea_)); subst ec_; clear en_)); have GB40 := Aside0.mk gb40; have GG40 := Aside0.mk HG40; clear gb40 gl40 HG40; (first | simp only [add_plain] at hx386_0 | skip); obtain ⟨oki40, ce40, hcl40, hM40, hcc40, _, _, hH40⟩ := Kd.S_elem HO_5.out [] (t368 : Int) odt (by have h_ : (t368 : Int) < ((x5_1.length : Int) : Int) := odt; first | exact h_ | (have e_ := (Kd.S_reads' HO_5.out).1; omega) | simpa using h_); obtain ⟨ve40_0, rfl, ge40_0⟩ := hM40; have hv40 := hcc40 0 _ rfl; have hX40 := HX386_0.out; (try simp only [add_plain] at hX40); (try simp only [Nat.add_zero] at hv40); (try rw [show ((Kd.slice 3 (Kd.int .i64))).sz = 1 from rfl, Nat.mul_one] at hv40); replace hv40 := Option.some.inj (hv40.symm.trans hX40); subst hv40; clear hX40 hcc40 hcl40; have UU40 := am (show Kd.R (Kd.int .i64) 3 _ w.heap.size oki40 (.slice A386_0 (rd_L2 x5_1 t368).length c386_0) (rd_L2 x5_1 t368) from ge40_0); have HH40 := Aside0.mk hH40; have HN40 := am (Kd.S_reads' HO_5.out).1; clear hH40 ge40_0) | ((with_reducible refine gate_builtin (b := .append) (xs := #[.tmp 52, .tmp 53]) rfl ?_); at_builtin; refine Kd.R_append (Kd.int .i64) w.heap.size rfl (.tmp 52) (.tmp 53) 27 3 (.int .i64 0) 8 rfl Try.underlying27 info3 rfl (by decide) (by omega) (.slice A386_0 (rd_L2 x5_1 t368).length c386_0) (rd_L2 x5_1 t368) 0 [.int .i64 0] (fun k_ => oki40 k_ ∨ ((fun _ => True)) k_ ∧ w39.heap.size ≤ k_) (fun _ => False) rfl rfl ?aP (fun _ hk => hk.elim) ?aF ?aO (Below.refl _ _) ?aS ?aL ?_; (case aP => exact rfl); (case aF => exact (fun k_ hk => .inr ⟨trivial, hk⟩)); (case aO => exact (by (with_reducible repeat (first | apply Kd.R_alloc | apply Kd.R_drewN | apply Kd.R_drew)); exact Kd.R_mono UU40.out (fun _ hk => .inl hk))); (case aS => exact (keep_size (w := w) (g := g) (row := none) zc')); (case aL => have := LMc35.out; omega); intro v388 w41 ho hb hg hat; rw [← Ny387.out] at ho; have n0_ := am (IsS69.grown zd' hg (IsS69.own_ne HI0.out HL386_0.out (by decide))); have n1_ := am (below_weaken zf' HL.out hb); have n2_ := am (KeepBut.trans zc' (KeepBut.of_grown hg g) (Kd.R_base2 HL386_0.out)); have n3_ := am (Kd.H_grown (Kd.H_widen (by repeat (first | exact HH40.out | refine Kd.H_alloc ?_ _ | refine Kd.H_drewN ?_ _ | refine Kd.H_drew ?_))) hg (fun k_ e_ => .inl (UU40.out.1 k_ e_))); have n4_ := am (ho); clear HI0; clear HB; clear HK; clear HH40; clear HO_5; clear UU40; clear HL386_0; have HI0 := n0_; have HB := n1_; have HK := n2_; have HH40 := n3_; have HO389 := n4_; clear n0_ n1_ n2_ n3_ n4_; clear ho hb hg hat; have p36 : 0 ≤ (t368 : Int) := odt; have q36 : (t368 : Int) < ((x5_1.length : Int) : Int) := odt; replace p36 := eq_true p36; replace q36 := eq_true q36; obtain ⟨Ao44, co44, eo44⟩ := Kd.R_slice HO389.out; subst eo44; obtain ⟨_, _, hraw42, _, _, hcc42, _⟩ := Kd.H_raw HH40.out odt (by have h_ : (t368 : Int) < ((x5_1.length : Int) : Int) := odt; first | exact h_ | (have e_ := (HN40.out); omega) | simpa using h_); obtain ⟨_, hfr42⟩ := Kd.H_at HH40.out odt (by have h_ : (t368 : Int) < ((x5_1.length : Int) : Int) := odt; first | exact h_ | (have e_ := (HN40.out); omega) | simpa using h_); have hx42_0 := hcc42 0 _ rfl; have hf42_0 := hfr42 0; (try simp only [Nat.add_zero] at hx42_0 hf42_0); (try rw [show ((Kd.slice 3 (Kd.int .i64))).sz = 1 from rfl, Nat.mul_one] at hx42_0); (try rw [show ((Kd.slice 3 (Kd.int .i64))).sz = 1 from rfl, Nat.mul_one] at hf42_0); have HP42 := Kd.S_seg0 HH40.out odt (by have h_ : (t368 : Int) < ((x5_1.length : Int) : Int) := odt; first | exact h_ | (have e_ := (HN40.out); omega) | simpa using h_) (seg := [.slice Ao44 y387.length co44]) (j := 0) (show 1 ≤ 1 from by decide) (x' := y387) (Kd.M_row HO389.out) (fun _ hk => hk); (try simp only [show ((Kd.slice 3 (Kd.int .i64))).sz = 1 from rfl, Nat.mul_one, Nat.add_zero] at HP42); clear hcc42 hfr42) | ((with_reducible refine gate_store (t := 27) (p := 55) rfl ?_); refine store_event (t := 27) (p := 55) (v := ?vo_w43) (w1 := (w41.setCell ⟨go40, (t368 : Int).toNat, none⟩ (.slice Ao44 y387.length co44))) ?hg ?ho ?hn ?hr ?_; (case ho => rfl); (case hg => rfl); (case hn => rfl); (case hr => exact zo'); intro w43 hw; have hg : w41.grownBy w43 (some go40) := (by rw [hw]; exact HP42.2); have hp_ : Kd.S (Kd.slice 3 (Kd.int .i64)) 27 w43 w.heap.size (fun _ => True) (.slice (some ⟨go40, 0, none⟩) x5_1.length co37) y390 := (by rw [hw, Ny390.out]; exact HP42.1); clear HP42; have n0_ := am (IsS69.grown zd' hg (IsS69.own_ne HI0.out hraw42 (by decide))); have n1_ := am ((by rw [hw]; exact below_set HB.out (Nat.le_trans HL.out GB40.out) : Below w0.heap.size w0 w43)); have n2_ := am (KeepBut.trans zc' (KeepBut.of_grown hg g) (Kd.R_base2 hraw42)); have n3_ := am (hp_); clear HI0; clear HB; clear HK; clear HO389; clear HH40; have HI0 := n0_; have HB := n1_; have HK := n2_; have HO_5 := n3_; clear n0_ n1_ n2_ n3_; clear hg hw hp_ hraw42))
          go_ret
          exact ⟨_, by first | rfl | (simp [errW_none, errW_some] <;> rfl) | (simp [*, errW_none, errW_some] <;> rfl), by (with_reducible repeat (first | apply Kd.S_alloc | apply Kd.S_drewN | apply Kd.S_drew)); exact HO_5.out, by repeat (first | (with_reducible first | exact HI0.out | apply IsS69.alloc | apply IsS69.drewN | apply IsS69.drew | apply IsS69.set_1 | apply IsS69.set_2) | exact HI0.out), by repeat (first | (with_reducible first | exact HB.out | apply ba | apply bn | apply below_drew1 | refine below_set ?_ (IsS69.ge HI0.out)) | exact HB.out), by repeat (first | (with_reducible first | exact HK.out | apply KeepBut.set_ | apply keep_drewN | apply keep_drew | apply keep_alloc) | exact HK.out)⟩
         ·rw [if_neg c35] at H
          exact absurd H (by simp)
        ·rw [if_neg c34] at H
         exact absurd H (by simp)
       ·rw [if_neg c33] at H
        exact absurd H (by simp)
      ·rw [if_neg c32] at H
       have c32b0 : (t371 == 1) = false := beq_eq_false_iff_ne.mpr c32; have c32b1 : (t371 != 1) = true := bne_iff_ne.mpr c32; simp only [Option.some.injEq, Prod.mk.injEq] at H; obtain ⟨rfl, rfl, rfl⟩ := H; obtain ⟨Ao45, co45, eo45⟩ := Kd.S_slice HO_5.out; subst eo45
       go_wp2_with (first | ((with_reducible refine gate_callee (f := 79) rfl ?_); refine goesL_ (some 23) rfl rfl Try.func79 (by kernel_rfl) rfl #[.pointer (some ⟨g, 0, none⟩), .int .i64 (x5_1.length : Int)] rfl zb' ?_; (with_reducible refine (spec_l1Cur_pick.calls g s0_0 x1001_1 x1002_1 (x5_1.length : Int) t368 t369 t370 w0 _ ?side1 ?side2 A11.out).mono ?_); (case side1 => exact zd'); (case side2 => exact zf'); rintro e w46 ⟨rfl, hi, hb, hk⟩; refine ⟨_, rfl, ?_⟩; have n0_ := am (Kd.S_mono (Kd.S_keep (IsS69.apartS (show IsS69 w0 _ g s0_0 x1001_1 x1002_1 from by repeat (first | (with_reducible first | exact HI0.out | apply IsS69.alloc | apply IsS69.drewN | apply IsS69.drew | apply IsS69.set_1 | apply IsS69.set_2) | exact HI0.out)) zp' (by decide)) hk (fun _ h => h.2)) (fun _ h => h.1)); have n1_ := am (KeepBut.trans zc' hk (.inl rfl)); have n2_ := am (hb); have n3_ := am (hi); clear HO_5; clear HK; clear HB; clear HI0; have HO_5 := n0_; have HK := n1_; have HB := n2_; have HI0 := n3_; clear n0_ n1_ n2_ n3_; (try clear hb); (try clear hb2); (try clear hk); (try clear hi)) | ((with_reducible refine gate_callee (f := 79) rfl ?_); refine goesL_ (some 25) rfl rfl Try.func79 (by kernel_rfl) rfl #[.pointer (some ⟨g, 0, none⟩), .int .i64 30] rfl zb' ?_; (with_reducible refine (spec_l1Cur_pick.calls g s0_0 t369 t370 30 t371 t372 t373 w0 _ ?side1 ?side2 A12.out).mono ?_); (case side1 => exact zd'); (case side2 => exact zf'); rintro e w47 ⟨rfl, hi, hb, hk⟩; refine ⟨_, rfl, ?_⟩; have n0_ := am (Kd.S_mono (Kd.S_keep (IsS69.apartS (show IsS69 w0 _ g s0_0 t369 t370 from by repeat (first | (with_reducible first | exact HI0.out | apply IsS69.alloc | apply IsS69.drewN | apply IsS69.drew | apply IsS69.set_1 | apply IsS69.set_2) | exact HI0.out)) zp' (by decide)) hk (fun _ h => h.2)) (fun _ h => h.1)); have n1_ := am (KeepBut.trans zc' hk (.inl rfl)); have n2_ := am (hb); have n3_ := am (hi); clear HO_5; clear HK; clear HB; clear HI0; have HO_5 := n0_; have HK := n1_; have HB := n2_; have HI0 := n3_; clear n0_ n1_ n2_ n3_; (try clear hb); (try clear hb2); (try clear hk); (try clear hi)))
       go_ret
       exact ⟨_, by first | rfl | (simp [errW_none, errW_some] <;> rfl) | (simp [*, errW_none, errW_some] <;> rfl), by (with_reducible repeat (first | apply Kd.S_alloc | apply Kd.S_drewN | apply Kd.S_drew)); exact HO_5.out, by repeat (first | (with_reducible first | exact HI0.out | apply IsS69.alloc | apply IsS69.drewN | apply IsS69.drew | apply IsS69.set_1 | apply IsS69.set_2) | exact HI0.out), by repeat (first | (with_reducible first | exact HB.out | apply ba | apply bn | apply below_drew1 | refine below_set ?_ (IsS69.ge HI0.out)) | exact HB.out), by repeat (first | (with_reducible first | exact HK.out | apply KeepBut.set_ | apply keep_drewN | apply keep_drew | apply keep_alloc) | exact HK.out)⟩
    ·rw [if_neg c10] at H
     have c10b0 : decide (0 < (x5_1.length : Int)) = false := decide_eq_false c10; have c10b1 : decide (0 < x5_1.length) = false := decide_eq_false (by omega); clear c10; simp only [Option.some.injEq, Prod.mk.injEq] at H; obtain ⟨rfl, rfl, rfl⟩ := H; obtain ⟨Ao48, co48, eo48⟩ := Kd.S_slice HO_5.out; subst eo48
     go_wp2
     go_ret
     exact ⟨_, by first | rfl | (simp [errW_none, errW_some] <;> rfl) | (simp [*, errW_none, errW_some] <;> rfl), by (with_reducible repeat (first | apply Kd.S_alloc | apply Kd.S_drewN | apply Kd.S_drew)); exact HO_5.out, by repeat (first | (with_reducible first | exact HI0.out | apply IsS69.alloc | apply IsS69.drewN | apply IsS69.drew | apply IsS69.set_1 | apply IsS69.set_2) | exact HI0.out), by repeat (first | (with_reducible first | exact HB.out | apply ba | apply bn | apply below_drew1 | refine below_set ?_ (IsS69.ge HI0.out)) | exact HB.out), by repeat (first | (with_reducible first | exact HK.out | apply KeepBut.set_ | apply keep_drewN | apply keep_drew | apply keep_alloc) | exact HK.out)⟩

/-! ### spec_DrawStableMatch: function 48 -/
def spec_DrawStableMatch.q (k : Nat) (s0_0 : List Int) (s0_1 : Int) (s0_2 : Int) : Option ((List (List Int)) × (List (List Int)) × Int × Int) := (spec_l1Cur_side.f s0_0 s0_1 s0_2).bind fun bt391 => ((spec_l1Cur_preferences.f k s0_0 bt391.2.1 bt391.2.2 bt391.1).bind fun bt394 => ((spec_l1Cur_pick.f s0_0 bt394.2.1 bt394.2.2 24).bind fun bt399 => ((spec_l1Cur_preferences.f k s0_0 bt399.2.1 bt399.2.2 (wrap64 (bt391.1 + (wrap64 (Int.tdiv bt399.1 23))))).bind fun bt402 => (some (bt394.1, bt402.1, bt402.2.1, bt402.2.2)))))
def spec_DrawStableMatch.f (k : Nat) (l0 : List Int) : Option ((List (List Int)) × (List (List Int))) := (spec_DrawStableMatch.q k l0 0 0).bind fun q => some (q.1, q.2.1)
set_option maxHeartbeats 8000000 in
set_option maxRecDepth 100000 in
theorem spec_DrawStableMatch.calls (k : Nat) (A0 : Option Addr) (c0 : Nat) (l0 : List Int) (z1 : List (List Int)) (z2 : List (List Int)) (w0 : World) (hr0 : Kd.C (Kd.int .u8) w0 A0 l0.length l0) (hc0 : l0.length ≤ c0) (h : spec_DrawStableMatch.f k l0 = some (z1, z2)) :
  Calls Try.prog 48 #[.slice A0 l0.length c0] w0 fun e w' => ∃ v0_ v1_ : Value, e = .returned (.tuple #[v0_, v1_]) ∧ Kd.S (Kd.slice 3 (Kd.int .i64)) 27 w' w0.heap.size (fun k_ => some k_ ≠ (v1_ : Value).ownBlock) v0_ z1 ∧ Kd.S (Kd.slice 3 (Kd.int .i64)) 27 w' w0.heap.size (fun k_ => some k_ ≠ (v0_ : Value).ownBlock) v1_ z2 ∧ Below w0.heap.size w0 w' := by
 suffices H_ : Calls Try.prog 48 #[.slice A0 l0.length c0] w0 fun e w' => ∃ b_ : Nat, w0.heap.size ≤ b_ ∧ ∃ v0_ v1_ : Value, e = .returned (.tuple #[v0_, v1_]) ∧ Kd.S (Kd.slice 3 (Kd.int .i64)) 27 w' b_ (fun k_ => some k_ ≠ (v1_ : Value).ownBlock) v0_ z1 ∧ Kd.S (Kd.slice 3 (Kd.int .i64)) 27 w' b_ (fun k_ => some k_ ≠ (v0_ : Value).ownBlock) v1_ z2 ∧ Below w0.heap.size w0 w' from H_.mono (fun e w' h_ => by
  obtain ⟨b_, hb_, v0_, v1_, he, ho0, ho1, hbel⟩ := h_
  exact ⟨v0_, v1_, he, Kd.S_lower ho0 hb_, Kd.S_lower ho1 hb_, hbel⟩)
 obtain ⟨⟨r1, r2, r3, r4⟩, hq, hs⟩ := Option.bind_eq_some_iff.1 h
 simp only [Option.some.injEq, Prod.mk.injEq] at hs
 obtain ⟨rfl, rfl⟩ := hs
 have HR_ := Aside0.mk hr0
 have Hq_ := am hq
 clear hr0 hc0 hq h
 go_enter Try.func48, Try.ntmps48
 go_upto_region 2 with (first | ((with_reducible refine gate_dst (N := 8) rfl ?_); refine box_event ?hg (N := 8) ?hd (cs := #[.slice A0 l0.length c0, .int .i64 0, .int .u64 0]) (t := 69) ?hr ?_; (case hd => rfl); (case hg => rfl); (case hr => exact zo'); intro g hg w hbox hb; have BX_ := Aside0.mk hbox; have HG_ := Aside0.mk hg; have HB_ := Aside0.mk hb; clear hg hbox hb))
 have hI : IsS69 w0 w g l0 0 0 := ⟨A0, c0, BX_.out, Nat.le_of_eq HG_.out.symm, HR_.out⟩
 have hB : Below w0.heap.size w0 w := HB_.out
 have h := Hq_.out
 clear BX_ HG_ HB_ Hq_ HR_
 have HI0 := Aside0.mk hI
 have HK := am (KeepBut.refl w g none)
 have HL := Aside0.mk hB.size
 clear hI
 have HW0 := Aside0.mk hB.size
 have HB := Aside0.mk hB
 clear hB
 have H : ((spec_l1Cur_side.f l0 0 0).bind fun bt391 => ((spec_l1Cur_preferences.f k l0 bt391.2.1 bt391.2.2 bt391.1).bind fun bt394 => ((spec_l1Cur_pick.f l0 bt394.2.1 bt394.2.2 24).bind fun bt399 => ((spec_l1Cur_preferences.f k l0 bt399.2.1 bt399.2.2 (wrap64 (bt391.1 + (wrap64 (Int.tdiv bt399.1 23))))).bind fun bt402 => (some (bt394.1, bt402.1, bt402.2.1, bt402.2.2)))))) = some (r1, r2, r3, r4) := h
 clear h
 replace H := Option.bind_eq_some_iff.mp H
 obtain ⟨⟨t391, t392, t393⟩, A20, H⟩ := H
 replace H : ((spec_l1Cur_preferences.f k l0 t392 t393 t391).bind fun bt394 => ((spec_l1Cur_pick.f l0 bt394.2.1 bt394.2.2 24).bind fun bt399 => ((spec_l1Cur_preferences.f k l0 bt399.2.1 bt399.2.2 (wrap64 (t391 + (wrap64 (Int.tdiv bt399.1 23))))).bind fun bt402 => (some (bt394.1, bt402.1, bt402.2.1, bt402.2.2))))) = some (r1, r2, r3, r4) := H
 have A2 := Aside0.mk A20
 clear A20
 replace H := Option.bind_eq_some_iff.mp H
 obtain ⟨⟨t394, t397, t398⟩, A30, H⟩ := H
 replace H : ((spec_l1Cur_pick.f l0 t397 t398 24).bind fun bt399 => ((spec_l1Cur_preferences.f k l0 bt399.2.1 bt399.2.2 (wrap64 (t391 + (wrap64 (Int.tdiv bt399.1 23))))).bind fun bt402 => (some (t394, bt402.1, bt402.2.1, bt402.2.2)))) = some (r1, r2, r3, r4) := H
 have A3 := Aside0.mk A30
 clear A30
 replace H := Option.bind_eq_some_iff.mp H
 obtain ⟨⟨t399, t400, t401⟩, A40, H⟩ := H
 replace H : ((spec_l1Cur_preferences.f k l0 t400 t401 (wrap64 (t391 + (wrap64 (Int.tdiv t399 23))))).bind fun bt402 => (some (t394, bt402.1, bt402.2.1, bt402.2.2))) = some (r1, r2, r3, r4) := H
 have A4 := Aside0.mk A40
 clear A40
 replace H := Option.bind_eq_some_iff.mp H
 obtain ⟨⟨t402, t405, t406⟩, A50, H⟩ := H
 replace H : (some (t394, t402, t405, t406)) = some (r1, r2, r3, r4) := H
 have A5 := Aside0.mk A50
 clear A50
 simp only [Option.some.injEq, Prod.mk.injEq] at H
 obtain ⟨rfl, rfl, rfl, rfl⟩ := H
 go_wp2_with (first | ((with_reducible refine gate_callee (f := 77) rfl ?_); refine goesL_ (some 10) rfl rfl Try.func77 (by kernel_rfl) rfl #[.pointer (some ⟨g, 0, none⟩)] rfl zb' ?_; (with_reducible refine (spec_l1Cur_side.calls g l0 0 0 t391 t392 t393 w0 _ ?side1 ?side2 A2.out).mono ?_); (case side1 => exact zd'); (case side2 => exact zf'); rintro e w6 ⟨rfl, hi, hb, hk⟩; refine ⟨_, rfl, ?_⟩; have n0_ := am (KeepBut.trans zc' hk (.inl rfl)); have n1_ := am (hb); have n2_ := am (hi); clear HK; clear HB; clear HI0; have HK := n0_; have HB := n1_; have HI0 := n2_; clear n0_ n1_ n2_; (try clear hb); (try clear hb2); (try clear hk); (try clear hi)) | ((with_reducible refine gate_callee (f := 78) rfl ?_); refine goesL_ (some 13) rfl rfl Try.func78 (by kernel_rfl) rfl #[.pointer (some ⟨g, 0, none⟩), .int .i64 t391] rfl zb' ?_; (with_reducible refine (spec_l1Cur_preferences.calls k g l0 t392 t393 t391 t394 t397 t398 w0 _ ?side1 ?side2 A3.out).mono ?_); (case side1 => exact zd'); (case side2 => exact zf'); rintro e w7 ⟨v395, rfl, ho0, hi, hb, hk⟩; refine ⟨_, rfl, ?_⟩; have n0_ := am (Kd.S_lower ho0 (keep_size (w := w) (g := g) (row := none) zc')); have n1_ := am (KeepBut.trans zc' hk (.inl rfl)); have n2_ := am (hb); have n3_ := am (hi); clear HK; clear HB; clear HI0; have HO396 := n0_; have HK := n1_; have HB := n2_; have HI0 := n3_; clear n0_ n1_ n2_ n3_; (try clear hb); (try clear hb2); (try clear hk); (try clear hi); (try clear ho0)) | ((with_reducible refine gate_callee (f := 79) rfl ?_); refine goesL_ (some 17) rfl rfl Try.func79 (by kernel_rfl) rfl #[.pointer (some ⟨g, 0, none⟩), .int .i64 24] rfl zb' ?_; (with_reducible refine (spec_l1Cur_pick.calls g l0 t397 t398 24 t399 t400 t401 w0 _ ?side1 ?side2 A4.out).mono ?_); (case side1 => exact zd'); (case side2 => exact zf'); rintro e w8 ⟨rfl, hi, hb, hk⟩; refine ⟨_, rfl, ?_⟩; have n0_ := am (Kd.S_mono (Kd.S_keep (IsS69.apartS (show IsS69 w0 _ g l0 t397 t398 from by repeat (first | (with_reducible first | exact HI0.out | apply IsS69.alloc | apply IsS69.drewN | apply IsS69.drew | apply IsS69.set_1 | apply IsS69.set_2) | exact HI0.out)) zo3' (by decide)) hk (fun _ h => h.2)) (fun _ h => h.1)); have n1_ := am (KeepBut.trans zc' hk (.inl rfl)); have n2_ := am (hb); have n3_ := am (hi); clear HO396; clear HK; clear HB; clear HI0; have HO396 := n0_; have HK := n1_; have HB := n2_; have HI0 := n3_; clear n0_ n1_ n2_ n3_; (try clear hb); (try clear hb2); (try clear hk); (try clear hi)) | ((with_reducible refine gate_callee (f := 78) rfl ?_); refine goesL_ (some 20) rfl rfl Try.func78 (by kernel_rfl) rfl #[.pointer (some ⟨g, 0, none⟩), .int .i64 (wrap64 (t391 + (wrap64 (Int.tdiv t399 23))))] rfl zb' ?_; (with_reducible refine (spec_l1Cur_preferences.calls k g l0 t400 t401 (wrap64 (t391 + (wrap64 (Int.tdiv t399 23)))) t402 t405 t406 w0 _ ?side1 ?side2 A5.out).mono ?_); (case side1 => exact zd'); (case side2 => exact zf'); rintro e w9 ⟨v403, rfl, ho0, hi, hb, hk⟩; refine ⟨_, rfl, ?_⟩; have n0_ := am (Kd.S_mono (Kd.S_told (Kd.S_oldK (IsS69.apartS (show IsS69 w0 _ g l0 t400 t401 from by repeat (first | (with_reducible first | exact HI0.out | apply IsS69.alloc | apply IsS69.drewN | apply IsS69.drew | apply IsS69.set_1 | apply IsS69.set_2) | exact HI0.out)) zo3' (by decide)) hk) (Kd.S_base ho0)) (fun _ h_ => h_.1)); have n1_ := am (Kd.S_lower (Kd.S_new' ho0 (Kd.S_lt zo3')) (keep_size (w := w) (g := g) (row := none) zc')); have n2_ := am (KeepBut.trans zc' hk (.inl rfl)); have n3_ := am (hb); have n4_ := am (hi); clear HO396; clear HK; clear HB; clear HI0; have HO396 := n0_; have HO404 := n1_; have HK := n2_; have HB := n3_; have HI0 := n4_; clear n0_ n1_ n2_ n3_ n4_; (try clear hb); (try clear hb2); (try clear hk); (try clear hi); (try clear ho0)))
 go_ret2
 exact ⟨w.heap.size, HL.out, _, _, by first | rfl | (simp [errW_none, errW_some] <;> rfl) | (simp [*, errW_none, errW_some] <;> rfl), by (with_reducible repeat (first | apply Kd.S_alloc | apply Kd.S_drewN | apply Kd.S_drew)); exact Kd.S_mono HO396.out (fun _ hk => hk.2), by (with_reducible repeat (first | apply Kd.S_alloc | apply Kd.S_drewN | apply Kd.S_drew)); exact Kd.S_mono HO404.out (fun _ hk => hk.2), by repeat (first | (with_reducible first | exact HB.out | apply ba | apply bn | apply below_drew1 | refine below_set ?_ (IsS69.ge HI0.out)) | exact HB.out)⟩


/-! ### spec_l1Cur_matchOf: function 75 -/
def spec_l1Cur_matchOf.f (s0_0 : List Int) (s0_1 : Int) (s0_2 : Int) (a1 : Int) : Option (List Int × Int × Int) := (spec_l1Cur_permuted.f s0_0 s0_1 s0_2 a1).bind fun bt391 => ((spec_l1Cur_pick.f s0_0 bt391.2.1 bt391.2.2 24).bind fun bt396 => (if bt396.1 = 0 then (if bt391.1.length < 17592186044416 then (some ((bt391.1 ++ [a1]), bt396.2.1, bt396.2.2)) else (none)) else (if bt396.1 = 1 then (if a1 > 1 then (if 1 < (bt391.1.length : Int) then (if 0 < (bt391.1.length : Int) then (some ((bt391.1.set (0 : Int).toNat (rd bt391.1 1)), bt396.2.1, bt396.2.2)) else (none)) else (none)) else (some (bt391.1, bt396.2.1, bt396.2.2))) else (some (bt391.1, bt396.2.1, bt396.2.2)))))
set_option maxHeartbeats 8000000 in
set_option maxRecDepth 100000 in
theorem spec_l1Cur_matchOf.calls (g : Nat) (s0_0 : List Int) (s0_1 : Int) (s0_2 : Int) (a1 : Int) (r1 : List Int) (r2 : Int) (r3 : Int) (w0 w : World) (hI : IsS69 w0 w g s0_0 s0_1 s0_2) (hB : Below w0.heap.size w0 w) (h : spec_l1Cur_matchOf.f s0_0 s0_1 s0_2 a1 = some (r1, r2, r3)) :
  Calls Try.prog 75 #[.pointer (some ⟨g, 0, none⟩), .int .i64 a1] w fun e w' => ∃ v0_ : Value, e = .returned (v0_) ∧ Kd.R (Kd.int .i64) 3 w' w.heap.size (fun _ => True) v0_ r1 ∧ IsS69 w0 w' g s0_0 r2 r3 ∧ Below w0.heap.size w0 w' ∧ KeepBut w w' g none := by
 have HI0 := Aside0.mk hI
 have HK := am (KeepBut.refl w g none)
 have HL := Aside0.mk hB.size
 clear hI
 have HW0 := Aside0.mk hB.size
 have HB := Aside0.mk hB
 clear hB
 have H : ((spec_l1Cur_permuted.f s0_0 s0_1 s0_2 a1).bind fun bt391 => ((spec_l1Cur_pick.f s0_0 bt391.2.1 bt391.2.2 24).bind fun bt396 => (if bt396.1 = 0 then (if bt391.1.length < 17592186044416 then (some ((bt391.1 ++ [a1]), bt396.2.1, bt396.2.2)) else (none)) else (if bt396.1 = 1 then (if a1 > 1 then (if 1 < (bt391.1.length : Int) then (if 0 < (bt391.1.length : Int) then (some ((bt391.1.set (0 : Int).toNat (rd bt391.1 1)), bt396.2.1, bt396.2.2)) else (none)) else (none)) else (some (bt391.1, bt396.2.1, bt396.2.2))) else (some (bt391.1, bt396.2.1, bt396.2.2)))))) = some (r1, r2, r3) := h
 clear h
 replace H := Option.bind_eq_some_iff.mp H
 obtain ⟨⟨t391, t394, t395⟩, A30, H⟩ := H
 replace H : ((spec_l1Cur_pick.f s0_0 t394 t395 24).bind fun bt396 => (if bt396.1 = 0 then (if t391.length < 17592186044416 then (some ((t391 ++ [a1]), bt396.2.1, bt396.2.2)) else (none)) else (if bt396.1 = 1 then (if a1 > 1 then (if 1 < (t391.length : Int) then (if 0 < (t391.length : Int) then (some ((t391.set (0 : Int).toNat (rd t391 1)), bt396.2.1, bt396.2.2)) else (none)) else (none)) else (some (t391, bt396.2.1, bt396.2.2))) else (some (t391, bt396.2.1, bt396.2.2))))) = some (r1, r2, r3) := H
 have A3 := Aside0.mk A30
 clear A30
 replace H := Option.bind_eq_some_iff.mp H
 obtain ⟨⟨t396, t397, t398⟩, A40, H⟩ := H
 replace H : (if t396 = 0 then (if t391.length < 17592186044416 then (some ((t391 ++ [a1]), t397, t398)) else (none)) else (if t396 = 1 then (if a1 > 1 then (if 1 < (t391.length : Int) then (if 0 < (t391.length : Int) then (some ((t391.set (0 : Int).toNat (rd t391 1)), t397, t398)) else (none)) else (none)) else (some (t391, t397, t398))) else (some (t391, t397, t398)))) = some (r1, r2, r3) := H
 have A4 := Aside0.mk A40
 clear A40
 by_cases c5 : t396 = 0
 ·rw [if_pos c5] at H
  have c5b0 : (t396 == 0) = true := beq_iff_eq.mpr c5
  have c5b1 : (t396 != 0) = false := bne_eq_false_iff_eq.mpr c5
  clear c5
  by_cases c6 : t391.length < 17592186044416
  ·rw [if_pos c6] at H
   have LMc6 := Aside0.mk c6; clear c6
   obtain ⟨y399, hy399⟩ : ∃ y_ : List Int, y_ = (t391 ++ [a1]) := ⟨_, rfl⟩
   replace H : (some (y399, t397, t398)) = some (r1, r2, r3) := by first | (rw [hy399]; with_reducible exact H) | (have H2_ := (Option.bind_some _ _).symm.trans H; rw [hy399]; with_reducible exact H2_) | (have H2_ := (Option.bind_some _ _).symm.trans H; with_reducible exact H2_) | with_reducible exact H | (rw [hy399]; exact H) | exact H
   have Ny399 := Aside0.mk hy399; clear hy399; simp only [Option.some.injEq, Prod.mk.injEq] at H; obtain ⟨rfl, rfl, rfl⟩ := H
   go_enter Try.func75, Try.ntmps75
   go_wp2_with (first | ((with_reducible refine gate_callee (f := 90) rfl ?_); refine goesL_ (some 8) rfl rfl Try.func90 (by kernel_rfl) rfl #[.pointer (some ⟨g, 0, none⟩), .int .i64 a1] rfl zb' ?_; (with_reducible refine (spec_l1Cur_permuted.calls g s0_0 s0_1 s0_2 a1 t391 t394 t395 w0 _ ?side1 ?side2 A3.out).mono ?_); (case side1 => exact zd'); (case side2 => exact zf'); rintro e w7 ⟨v392, rfl, ho0, hi, hb, hk⟩; refine ⟨_, rfl, ?_⟩; have n0_ := am (Kd.R_lower ho0 (keep_size (w := w) (g := g) (row := none) zc')); have n1_ := am (KeepBut.trans zc' hk (.inl rfl)); have n2_ := am (hb); have n3_ := am (hi); clear HK; clear HB; clear HI0; have HO393 := n0_; have HK := n1_; have HB := n2_; have HI0 := n3_; clear n0_ n1_ n2_ n3_; (try clear hb); (try clear hb2); (try clear hk); (try clear hi); (try clear ho0)) | ((with_reducible refine gate_callee (f := 79) rfl ?_); refine goesL_ (some 10) rfl rfl Try.func79 (by kernel_rfl) rfl #[.pointer (some ⟨g, 0, none⟩), .int .i64 24] rfl zb' ?_; (with_reducible refine (spec_l1Cur_pick.calls g s0_0 t394 t395 24 t396 t397 t398 w0 _ ?side1 ?side2 A4.out).mono ?_); (case side1 => exact zd'); (case side2 => exact zf'); rintro e w8 ⟨rfl, hi, hb, hk⟩; refine ⟨_, rfl, ?_⟩; have n0_ := am (Kd.R_mono (Kd.R_keep (IsS69.apart (show IsS69 w0 _ g s0_0 t394 t395 from by repeat (first | (with_reducible first | exact HI0.out | apply IsS69.alloc | apply IsS69.drewN | apply IsS69.drew | apply IsS69.set_1 | apply IsS69.set_2) | exact HI0.out)) zd2' (by decide)) hk (fun _ h => h.2)) (fun _ h => h.1)); have n1_ := am (KeepBut.trans zc' hk (.inl rfl)); have n2_ := am (hb); have n3_ := am (hi); clear HO393; clear HK; clear HB; clear HI0; have HO393 := n0_; have HK := n1_; have HB := n2_; have HI0 := n3_; clear n0_ n1_ n2_ n3_; (try clear hb); (try clear hb2); (try clear hk); (try clear hi)) | ((with_reducible refine gate_builtin (b := .append) (xs := #[.tmp 13, .tmp 15]) rfl ?_); at_builtin; refine Kd.R_append (Kd.int .i64) w.heap.size rfl (.tmp 13) (.tmp 15) 27 3 (.int .i64 0) 8 rfl Try.underlying27 info3 rfl (by decide) (by omega) v392 t391 a1 [.int .i64 a1] (fun _ => True) (fun _ => False) rfl rfl ?aP (fun _ hk => hk.elim) ?aF ?aO (Below.refl _ _) ?aS ?aL ?_; (case aP => exact rfl); (case aF => exact (fun _ _ => trivial)); (case aO => exact zd2'); (case aS => exact (keep_size (w := w) (g := g) (row := none) zc')); (case aL => have := LMc6.out; omega); intro v400 w9 ho hb hg hat; rw [← Ny399.out] at ho; have n0_ := am (IsS69.grown zd' hg (IsS69.own_ne HI0.out HO393.out (by decide))); have n1_ := am (below_weaken zf' HL.out hb); have n2_ := am (KeepBut.trans zc' (KeepBut.of_grown hg g) (Kd.R_base2 HO393.out)); have n3_ := am (ho); clear HI0; clear HB; clear HK; clear HO393; have HI0 := n0_; have HB := n1_; have HK := n2_; have HO401 := n3_; clear n0_ n1_ n2_ n3_; clear ho hb hg hat))
   go_ret
   exact ⟨_, by first | rfl | (simp [errW_none, errW_some] <;> rfl) | (simp [*, errW_none, errW_some] <;> rfl), by (with_reducible repeat (first | apply Kd.R_alloc | apply Kd.R_drewN | apply Kd.R_drew)); exact HO401.out, by repeat (first | (with_reducible first | exact HI0.out | apply IsS69.alloc | apply IsS69.drewN | apply IsS69.drew | apply IsS69.set_1 | apply IsS69.set_2) | exact HI0.out), by repeat (first | (with_reducible first | exact HB.out | apply ba | apply bn | apply below_drew1 | refine below_set ?_ (IsS69.ge HI0.out)) | exact HB.out), by repeat (first | (with_reducible first | exact HK.out | apply KeepBut.set_ | apply keep_drewN | apply keep_drew | apply keep_alloc) | exact HK.out)⟩
  ·rw [if_neg c6] at H
   exact absurd H (by simp)
 ·rw [if_neg c5] at H
  have c5b0 : (t396 == 0) = false := beq_eq_false_iff_ne.mpr c5
  have c5b1 : (t396 != 0) = true := bne_iff_ne.mpr c5
  by_cases c10 : t396 = 1
  ·rw [if_pos c10] at H
   have c10b0 : (t396 == 1) = true := beq_iff_eq.mpr c10; have c10b1 : (t396 != 1) = false := bne_eq_false_iff_eq.mpr c10; clear c10
   by_cases c11 : a1 > 1
   ·rw [if_pos c11] at H
    have c11b0 : decide (1 < a1) = true := decide_eq_true c11; clear c11
    by_cases c12 : 1 < (t391.length : Int)
    ·rw [if_pos c12] at H
     have c12b0 : decide (1 < (t391.length : Int)) = true := decide_eq_true c12; have c12b1 : decide (1 < t391.length) = true := decide_eq_true (by omega); clear c12
     by_cases c13 : 0 < (t391.length : Int)
     ·rw [if_pos c13] at H
      have c13b0 : decide (0 < (t391.length : Int)) = true := decide_eq_true c13; have c13b1 : decide (0 < t391.length) = true := decide_eq_true (by omega); clear c13
      obtain ⟨y403, hy403⟩ : ∃ y_ : List Int, y_ = (t391.set (0 : Int).toNat (rd t391 1)) := ⟨_, rfl⟩
      replace H : (some (y403, t397, t398)) = some (r1, r2, r3) := by first | (rw [hy403]; with_reducible exact H) | (have H2_ := (Option.bind_some _ _).symm.trans H; rw [hy403]; with_reducible exact H2_) | (have H2_ := (Option.bind_some _ _).symm.trans H; with_reducible exact H2_) | with_reducible exact H | (rw [hy403]; exact H) | exact H
      have Ny403 := Aside0.mk hy403; clear hy403; simp only [Option.some.injEq, Prod.mk.injEq] at H; obtain ⟨rfl, rfl, rfl⟩ := H
      go_enter Try.func75, Try.ntmps75
      go_wp2_with (first | ((with_reducible refine gate_callee (f := 90) rfl ?_); refine goesL_ (some 8) rfl rfl Try.func90 (by kernel_rfl) rfl #[.pointer (some ⟨g, 0, none⟩), .int .i64 a1] rfl zb' ?_; (with_reducible refine (spec_l1Cur_permuted.calls g s0_0 s0_1 s0_2 a1 t391 t394 t395 w0 _ ?side1 ?side2 A3.out).mono ?_); (case side1 => exact zd'); (case side2 => exact zf'); rintro e w15 ⟨v392, rfl, ho0, hi, hb, hk⟩; refine ⟨_, rfl, ?_⟩; have n0_ := am (Kd.R_lower ho0 (keep_size (w := w) (g := g) (row := none) zc')); have n1_ := am (KeepBut.trans zc' hk (.inl rfl)); have n2_ := am (hb); have n3_ := am (hi); clear HK; clear HB; clear HI0; have HO393 := n0_; have HK := n1_; have HB := n2_; have HI0 := n3_; clear n0_ n1_ n2_ n3_; (try clear hb); (try clear hb2); (try clear hk); (try clear hi); (try clear ho0)) | ((with_reducible refine gate_callee (f := 79) rfl ?_); refine goesL_ (some 10) rfl rfl Try.func79 (by kernel_rfl) rfl #[.pointer (some ⟨g, 0, none⟩), .int .i64 24] rfl zb' ?_; (with_reducible refine (spec_l1Cur_pick.calls g s0_0 t394 t395 24 t396 t397 t398 w0 _ ?side1 ?side2 A4.out).mono ?_); (case side1 => exact zd'); (case side2 => exact zf'); rintro e w16 ⟨rfl, hi, hb, hk⟩; refine ⟨_, rfl, ?_⟩; have n0_ := am (Kd.R_mono (Kd.R_keep (IsS69.apart (show IsS69 w0 _ g s0_0 t394 t395 from by repeat (first | (with_reducible first | exact HI0.out | apply IsS69.alloc | apply IsS69.drewN | apply IsS69.drew | apply IsS69.set_1 | apply IsS69.set_2) | exact HI0.out)) zd2' (by decide)) hk (fun _ h => h.2)) (fun _ h => h.1)); have n1_ := am (KeepBut.trans zc' hk (.inl rfl)); have n2_ := am (hb); have n3_ := am (hi); clear HO393; clear HK; clear HB; clear HI0; have HO393 := n0_; have HK := n1_; have HB := n2_; have HI0 := n3_; clear n0_ n1_ n2_ n3_; (try clear hb); (try clear hb2); (try clear hk); (try clear hi); obtain ⟨Ao17, co17, eo17⟩ := Kd.R_slice HO393.out; subst eo17; have p402 : 0 ≤ (1 : Int) := (by omega); have q402 : 1 < (t391.length : Int) := odt; obtain ⟨ad402, e402, hx402_0⟩ := Kd.at_int (Kd.R_reads' HO393.out).2.2 1 p402 q402; cases e402; (try simp only [show (1 : Int).toNat = 1 from rfl, Nat.reduceMul, Nat.reduceEqDiff, Go.Addr.add, ↓reduceIte] at hx402_0); have qi402 : (1 < t391.length) = True := eq_true (by omega); (try rw [show ((1 : Int)).toNat = 1 from rfl] at hx402_0); replace p402 := eq_true p402; replace q402 := eq_true q402; have p14 : 0 ≤ (0 : Int) := (by omega); have q14 : (0 : Int) < ((t391.length : Int) : Int) := odt; have qi14 : (0 < t391.length) = True := eq_true (by omega); obtain ⟨go14, co14, eo14, gb14, gl14, cl14, HG14⟩ := Kd.R_form HO393.out (by omega); (first | cases eo14 | (injection eo14 with ea_ en_ ec_; (first | subst ea_ | (injection ea_ with ea_; subst ea_)); subst ec_; clear en_)); have GB14 := Aside0.mk gb14; have GG14 := Aside0.mk HG14; clear gb14 gl14 HG14; (first | simp only [add_plain] at hx402_0 | skip); obtain ⟨hx14_0, hf14_0⟩ := Kd.R_celln 0 HO393.out (0 : Int) p14 q14; (try rw [show ((0 : Int)).toNat = 0 from rfl] at hx14_0); (try simp only [Nat.reduceMul, Nat.zero_mul, Nat.zero_add, Nat.reduceAdd] at hx14_0); (try rw [show ((0 : Int)).toNat = 0 from rfl] at hf14_0); (try simp only [Nat.reduceMul, Nat.zero_mul, Nat.zero_add, Nat.reduceAdd] at hf14_0); replace p14 := eq_true p14; replace q14 := eq_true q14; obtain ⟨hy18_, hz18_⟩ := Kd.R_celln 0 HO393.out (0 : Int) (by omega) odt; (try simp only [Int.reduceToNat, Int.toNat_zero, Int.toNat_ofNat, Nat.reduceMul, Nat.zero_mul, Nat.zero_add] at hy18_ hz18_); (try rw [show ((0 : Int)).toNat = 0 from rfl] at hy18_); (try rw [show ((0 : Int)).toNat = 0 from rfl] at hz18_); have HP18 := Kd.R_putg HO393.out (0 : Int) (rd t391 1)) | ((with_reducible refine gate_store (t := 3) (p := 25) rfl ?_); refine store_event (t := 3) (p := 25) (v := ?vo_w19) (w1 := (w16.setCell ⟨go14, (0 : Int).toNat, none⟩ (.int .i64 (rd t391 1)))) ?hg ?ho ?hn ?hr ?_; (case ho => rfl); (case hg => rfl); (case hn => rfl); (case hr => exact zo'); intro w19 hw; have hg : w16.grownBy w19 (some go14) := (by rw [hw]; exact HP18.2); have hp_ : Kd.R (Kd.int .i64) 3 w19 w.heap.size (fun _ => True) (.slice (some ⟨go14, 0, none⟩) t391.length co17) y403 := (by rw [hw, Ny403.out]; exact HP18.1); clear HP18; have n0_ := am (IsS69.grown zd' hg (IsS69.own_ne HI0.out HO393.out (by decide))); have n1_ := am (hp_); have n2_ := am ((by rw [hw]; exact below_set (HB.out) (Nat.le_trans HL.out GB14.out) : Below w0.heap.size w0 w19)); have n3_ := am (KeepBut.trans zc' (KeepBut.of_grown hg g) (Kd.R_base2 HO393.out)); clear HI0; clear HO393; clear HB; clear HK; have HI0 := n0_; have HO393 := n1_; have HB := n2_; have HK := n3_; clear n0_ n1_ n2_ n3_; clear hg hw hp_))
      go_ret
      exact ⟨_, by first | rfl | (simp [errW_none, errW_some] <;> rfl) | (simp [*, errW_none, errW_some] <;> rfl), by (with_reducible repeat (first | apply Kd.R_alloc | apply Kd.R_drewN | apply Kd.R_drew)); exact HO393.out, by repeat (first | (with_reducible first | exact HI0.out | apply IsS69.alloc | apply IsS69.drewN | apply IsS69.drew | apply IsS69.set_1 | apply IsS69.set_2) | exact HI0.out), by repeat (first | (with_reducible first | exact HB.out | apply ba | apply bn | apply below_drew1 | refine below_set ?_ (IsS69.ge HI0.out)) | exact HB.out), by repeat (first | (with_reducible first | exact HK.out | apply KeepBut.set_ | apply keep_drewN | apply keep_drew | apply keep_alloc) | exact HK.out)⟩
     ·rw [if_neg c13] at H
      exact absurd H (by simp)
    ·rw [if_neg c12] at H
     exact absurd H (by simp)
   ·rw [if_neg c11] at H
    have c11b0 : decide (1 < a1) = false := decide_eq_false c11; clear c11; simp only [Option.some.injEq, Prod.mk.injEq] at H; obtain ⟨rfl, rfl, rfl⟩ := H
    go_enter Try.func75, Try.ntmps75
    go_wp2_with (first | ((with_reducible refine gate_callee (f := 90) rfl ?_); refine goesL_ (some 8) rfl rfl Try.func90 (by kernel_rfl) rfl #[.pointer (some ⟨g, 0, none⟩), .int .i64 a1] rfl zb' ?_; (with_reducible refine (spec_l1Cur_permuted.calls g s0_0 s0_1 s0_2 a1 t391 t394 t395 w0 _ ?side1 ?side2 A3.out).mono ?_); (case side1 => exact zd'); (case side2 => exact zf'); rintro e w20 ⟨v392, rfl, ho0, hi, hb, hk⟩; refine ⟨_, rfl, ?_⟩; have n0_ := am (Kd.R_lower ho0 (keep_size (w := w) (g := g) (row := none) zc')); have n1_ := am (KeepBut.trans zc' hk (.inl rfl)); have n2_ := am (hb); have n3_ := am (hi); clear HK; clear HB; clear HI0; have HO393 := n0_; have HK := n1_; have HB := n2_; have HI0 := n3_; clear n0_ n1_ n2_ n3_; (try clear hb); (try clear hb2); (try clear hk); (try clear hi); (try clear ho0)) | ((with_reducible refine gate_callee (f := 79) rfl ?_); refine goesL_ (some 10) rfl rfl Try.func79 (by kernel_rfl) rfl #[.pointer (some ⟨g, 0, none⟩), .int .i64 24] rfl zb' ?_; (with_reducible refine (spec_l1Cur_pick.calls g s0_0 t394 t395 24 t396 t397 t398 w0 _ ?side1 ?side2 A4.out).mono ?_); (case side1 => exact zd'); (case side2 => exact zf'); rintro e w21 ⟨rfl, hi, hb, hk⟩; refine ⟨_, rfl, ?_⟩; have n0_ := am (Kd.R_mono (Kd.R_keep (IsS69.apart (show IsS69 w0 _ g s0_0 t394 t395 from by repeat (first | (with_reducible first | exact HI0.out | apply IsS69.alloc | apply IsS69.drewN | apply IsS69.drew | apply IsS69.set_1 | apply IsS69.set_2) | exact HI0.out)) zd2' (by decide)) hk (fun _ h => h.2)) (fun _ h => h.1)); have n1_ := am (KeepBut.trans zc' hk (.inl rfl)); have n2_ := am (hb); have n3_ := am (hi); clear HO393; clear HK; clear HB; clear HI0; have HO393 := n0_; have HK := n1_; have HB := n2_; have HI0 := n3_; clear n0_ n1_ n2_ n3_; (try clear hb); (try clear hb2); (try clear hk); (try clear hi)))
    go_ret
    exact ⟨_, by first | rfl | (simp [errW_none, errW_some] <;> rfl) | (simp [*, errW_none, errW_some] <;> rfl), by (with_reducible repeat (first | apply Kd.R_alloc | apply Kd.R_drewN | apply Kd.R_drew)); exact HO393.out, by repeat (first | (with_reducible first | exact HI0.out | apply IsS69.alloc | apply IsS69.drewN | apply IsS69.drew | apply IsS69.set_1 | apply IsS69.set_2) | exact HI0.out), by repeat (first | (with_reducible first | exact HB.out | apply ba | apply bn | apply below_drew1 | refine below_set ?_ (IsS69.ge HI0.out)) | exact HB.out), by repeat (first | (with_reducible first | exact HK.out | apply KeepBut.set_ | apply keep_drewN | apply keep_drew | apply keep_alloc) | exact HK.out)⟩
  ·rw [if_neg c10] at H
   have c10b0 : (t396 == 1) = false := beq_eq_false_iff_ne.mpr c10; have c10b1 : (t396 != 1) = true := bne_iff_ne.mpr c10; simp only [Option.some.injEq, Prod.mk.injEq] at H; obtain ⟨rfl, rfl, rfl⟩ := H
   go_enter Try.func75, Try.ntmps75
   go_wp2_with (first | ((with_reducible refine gate_callee (f := 90) rfl ?_); refine goesL_ (some 8) rfl rfl Try.func90 (by kernel_rfl) rfl #[.pointer (some ⟨g, 0, none⟩), .int .i64 a1] rfl zb' ?_; (with_reducible refine (spec_l1Cur_permuted.calls g s0_0 s0_1 s0_2 a1 t391 t394 t395 w0 _ ?side1 ?side2 A3.out).mono ?_); (case side1 => exact zd'); (case side2 => exact zf'); rintro e w22 ⟨v392, rfl, ho0, hi, hb, hk⟩; refine ⟨_, rfl, ?_⟩; have n0_ := am (Kd.R_lower ho0 (keep_size (w := w) (g := g) (row := none) zc')); have n1_ := am (KeepBut.trans zc' hk (.inl rfl)); have n2_ := am (hb); have n3_ := am (hi); clear HK; clear HB; clear HI0; have HO393 := n0_; have HK := n1_; have HB := n2_; have HI0 := n3_; clear n0_ n1_ n2_ n3_; (try clear hb); (try clear hb2); (try clear hk); (try clear hi); (try clear ho0)) | ((with_reducible refine gate_callee (f := 79) rfl ?_); refine goesL_ (some 10) rfl rfl Try.func79 (by kernel_rfl) rfl #[.pointer (some ⟨g, 0, none⟩), .int .i64 24] rfl zb' ?_; (with_reducible refine (spec_l1Cur_pick.calls g s0_0 t394 t395 24 t396 t397 t398 w0 _ ?side1 ?side2 A4.out).mono ?_); (case side1 => exact zd'); (case side2 => exact zf'); rintro e w23 ⟨rfl, hi, hb, hk⟩; refine ⟨_, rfl, ?_⟩; have n0_ := am (Kd.R_mono (Kd.R_keep (IsS69.apart (show IsS69 w0 _ g s0_0 t394 t395 from by repeat (first | (with_reducible first | exact HI0.out | apply IsS69.alloc | apply IsS69.drewN | apply IsS69.drew | apply IsS69.set_1 | apply IsS69.set_2) | exact HI0.out)) zd2' (by decide)) hk (fun _ h => h.2)) (fun _ h => h.1)); have n1_ := am (KeepBut.trans zc' hk (.inl rfl)); have n2_ := am (hb); have n3_ := am (hi); clear HO393; clear HK; clear HB; clear HI0; have HO393 := n0_; have HK := n1_; have HB := n2_; have HI0 := n3_; clear n0_ n1_ n2_ n3_; (try clear hb); (try clear hb2); (try clear hk); (try clear hi)))
   go_ret
   exact ⟨_, by first | rfl | (simp [errW_none, errW_some] <;> rfl) | (simp [*, errW_none, errW_some] <;> rfl), by (with_reducible repeat (first | apply Kd.R_alloc | apply Kd.R_drewN | apply Kd.R_drew)); exact HO393.out, by repeat (first | (with_reducible first | exact HI0.out | apply IsS69.alloc | apply IsS69.drewN | apply IsS69.drew | apply IsS69.set_1 | apply IsS69.set_2) | exact HI0.out), by repeat (first | (with_reducible first | exact HB.out | apply ba | apply bn | apply below_drew1 | refine below_set ?_ (IsS69.ge HI0.out)) | exact HB.out), by repeat (first | (with_reducible first | exact HK.out | apply KeepBut.set_ | apply keep_drewN | apply keep_drew | apply keep_alloc) | exact HK.out)⟩

end Go.Proofs.Ytjipboafhakjfaa.PFnStable
