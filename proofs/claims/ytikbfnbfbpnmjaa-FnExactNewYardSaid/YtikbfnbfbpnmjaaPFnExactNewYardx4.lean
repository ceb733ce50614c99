/- Text written by a program for this claim: contracts of the functions of one law. -/
import Derived.Test.YtikbfnbfbpnmjaaPFnExactNewYardx0
import Derived.Test.YtikbfnbfbpnmjaaPFnExactNewYardx3
namespace Go.Proofs.Ytikbfnbfbpnmjaa.PFnExactNewYard
open Go.RowKit Go.Proofs.YtikbfnbfbpnmjaaW.PrintWords Go.Proofs.YtikbfnbfbpnmjaaW.PrintLast Go.Proofs.YtikbfnbfbpnmjaaW.PrintMore
attribute [local go_sem] max2_int min2_int max_two min_two max_three min_three max_four min_four   -- for this text's walks alone
set_option linter.unusedVariables false
set_option linter.unusedSimpArgs false
open ShortPFnExactNewYard0

/-! ### spec_flNew: function 84 -/
def spec_flNew.l0 : Nat → Int → Int → Int → List Int → List Int → List Int → Int → Int → List (S80) → List (List Int) → Int → Int → Int → Option (List Int × List Int × List Int × Int × Int × (List (S80)) × (List (List Int)) × List Int × Int × Int × Int)
 | 0, _, _, _, _, _, _, _, _, _, _, _, _, _ => none
 | k + 1, x1, x5, x7, x193000, x193001, x193002, x193003, x193004, x193005, x193006, x193008, x193009, x193010 => if x7 < x1 then (if x5 = 0 then (none) else (if x193005.length < 5864062014805 then (if 0 ≤ (Int.tmod x7 x5) then (if (Int.tmod x7 x5) < (x193006.length : Int) then (if (rd_L2 x193006 (Int.tmod x7 x5)).length < 17592186044416 then (spec_flNew.l0 k x1 x5 (wrap64 (x7 + 1)) x193000 x193001 x193002 x193003 x193004 (x193005 ++ [(⟨0, Int.tmod x7 x5, 0⟩ : S80)]) (x193006.set ((Int.tmod x7 x5) : Int).toNat ((rd_L2 x193006 (Int.tmod x7 x5)) ++ [x7])) x193008 x193009 x193010) else (none)) else (none)) else (none)) else (none))) else (some (x193000, x193001, x193002, x193003, x193004, x193005, x193006, ([] : List Int), x193008, x193009, x193010))
def spec_flNew.f (k : Nat) (l0_0 : List Int) (l0_1 : List Int) (l0_2 : List Int) (a0_3 : Int) (a0_4 : Int) (a1 : Int) : Option (List Int × List Int × List Int × Int × Int × (List (S80)) × (List (List Int)) × List Int × Int × Int × Int) := (spec_l1Own.f l0_0).bind fun t180 => ((spec_l1Own.f l0_1).bind fun t183 => ((spec_l1Own.f l0_2).bind fun t186 => (if 0 ≤ (l0_0.length : Int) then (if ((l0_0.length : Int) : Int).toNat ≤ 11728124029610 then (spec_flNew.l0 k a1 (l0_0.length : Int) 0 t180 t183 t186 a0_3 a0_4 ([] : List (S80)) (List.replicate ((l0_0.length : Int) : Int).toNat []) 0 0 0) else (none)) else (none))))
def spec_flNew.T2 : Bool × List (List Nat × List Nat) := (true, [([], []), ([0], [0]), ([1], [1]), ([], []), ([3], [3]), ([4, 2], [4]), ([], []), ([6], [6]), ([7, 5], [7]), ([], []), ([9], [9]), ([], []), ([11], [11]), ([2, 5, 8, 10, 12], [2, 5, 8, 10, 12]), ([], []), ([14, 14], [14]), ([13, 15], [13, 15]), ([], []), ([17, 16, 8, 0, 1, 2, 3, 4, 5, 6, 7, 8, 9, 10, 11, 12, 13, 14, 15, 16, 17], [16, 17])])
def spec_flNew.B2 : List Nat := [0, 1, 3, 0, 8, 31, 0, 64, 255, 0, 512, 0, 2048, 8191, 0, 16384, 65535, 0, 262143]
theorem spec_flNew.tab2 : rtab .any (opsOf Try.f84 2) = spec_flNew.T2 := by kernel_rfl
theorem spec_flNew.bits2 : waitsOk spec_flNew.T2.2 spec_flNew.B2 = true := by kernel_rfl
def spec_flNew.T6 : Bool × List (List Nat × List Nat) := (true, [([], []), ([0], [0]), ([], []), ([], []), ([2, 3], [2, 3]), ([4], [4]), ([5], [5]), ([1, 6], [1, 6]), ([0, 1, 2, 3, 4, 5, 6, 7], []), ([8, 7, 7, 0, 1, 2, 3, 4, 5, 6, 7], [7, 8])])
def spec_flNew.B6 : List Nat := [0, 1, 0, 0, 12, 28, 60, 127, 255, 511]
theorem spec_flNew.tab6 : rtab .any (opsOf Try.f84 6) = spec_flNew.T6 := by kernel_rfl
theorem spec_flNew.bits6 : waitsOk spec_flNew.T6.2 spec_flNew.B6 = true := by kernel_rfl
def spec_flNew.T7 : Bool × List (List Nat × List Nat) := (true, [([], []), ([0], [0]), ([], []), ([], []), ([2, 3], [2, 3]), ([], []), ([5], [5]), ([], []), ([], []), ([7, 8], [7, 8]), ([6, 9], [6, 9]), ([10], [10]), ([], []), ([12], [12]), ([11, 13], [11, 13]), ([1, 4, 0, 1, 2, 3, 4, 5, 6, 7, 8, 9, 10, 11, 12, 13, 14], [1, 4]), ([15, 14, 14, 0, 1, 2, 3, 4, 5, 6, 7, 8, 9, 10, 11, 12, 13, 14], [14, 15])])
def spec_flNew.B7 : List Nat := [0, 1, 0, 0, 12, 0, 32, 0, 0, 384, 992, 2016, 0, 4096, 16352, 32767, 65535]
theorem spec_flNew.tab7 : rtab .any (opsOf Try.f84 7) = spec_flNew.T7 := by kernel_rfl
theorem spec_flNew.bits7 : waitsOk spec_flNew.T7.2 spec_flNew.B7 = true := by kernel_rfl
set_option maxHeartbeats 8000000 in
set_option maxRecDepth 100000 in
theorem spec_flNew.calls (k : Nat) (A0_0 : Option Addr) (c0_0 : Nat) (l0_0 : List Int) (A0_1 : Option Addr) (c0_1 : Nat) (l0_1 : List Int) (A0_2 : Option Addr) (c0_2 : Nat) (l0_2 : List Int) (a0_3 : Int) (a0_4 : Int) (a1 : Int) (r1 : List Int) (r2 : List Int) (r3 : List Int) (r4 : Int) (r5 : Int) (r6 : List (S80)) (r7 : List (List Int)) (r8 : List Int) (r9 : Int) (r10 : Int) (r11 : Int) (w : World) (hr0_0 : Kd.C (Kd.int .i64) w A0_0 l0_0.length l0_0) (hc0_0 : l0_0.length ≤ c0_0) (hr0_1 : Kd.C (Kd.int .i64) w A0_1 l0_1.length l0_1) (hc0_1 : l0_1.length ≤ c0_1) (hr0_2 : Kd.C (Kd.int .i64) w A0_2 l0_2.length l0_2) (hc0_2 : l0_2.length ≤ c0_2) (h : spec_flNew.f k l0_0 l0_1 l0_2 a0_3 a0_4 a1 = some (r1, r2, r3, r4, r5, r6, r7, r8, r9, r10, r11)) :
  Calls Try.prog 84 #[.agg #[.slice A0_0 l0_0.length c0_0, .slice A0_1 l0_1.length c0_1, .slice A0_2 l0_2.length c0_2, .int .i64 a0_3, .int .i64 a0_4], .int .i64 a1] w fun e w' => ∃ v0_ v1_ v2_ v5_ v6_ v7_ : Value, e = .returned (.agg #[v0_, v1_, v2_, .int .i64 r4, .int .i64 r5, v5_, v6_, v7_, .int .i64 r9, .int .i64 r10, .int .i64 r11]) ∧ Kd.R (Kd.int .i64) 3 w' w.heap.size (fun k_ => some k_ ≠ (v1_ : Value).ownBlock ∧ some k_ ≠ (v2_ : Value).ownBlock ∧ some k_ ≠ (v7_ : Value).ownBlock) v0_ r1 ∧ Kd.R (Kd.int .i64) 3 w' w.heap.size (fun k_ => some k_ ≠ (v0_ : Value).ownBlock ∧ some k_ ≠ (v2_ : Value).ownBlock ∧ some k_ ≠ (v7_ : Value).ownBlock) v1_ r2 ∧ Kd.R (Kd.int .i64) 3 w' w.heap.size (fun k_ => some k_ ≠ (v0_ : Value).ownBlock ∧ some k_ ≠ (v1_ : Value).ownBlock ∧ some k_ ≠ (v7_ : Value).ownBlock) v2_ r3 ∧ Kd.R k80 80 w' w.heap.size (fun _ => True) v5_ r6 ∧ Kd.S (Kd.slice 3 (Kd.int .i64)) 22 w' w.heap.size (fun k_ => some k_ ≠ (v0_ : Value).ownBlock ∧ some k_ ≠ (v1_ : Value).ownBlock ∧ some k_ ≠ (v2_ : Value).ownBlock ∧ some k_ ≠ (v7_ : Value).ownBlock) v6_ r7 ∧ Kd.R (Kd.int .i64) 3 w' w.heap.size (fun k_ => some k_ ≠ (v0_ : Value).ownBlock ∧ some k_ ≠ (v1_ : Value).ownBlock ∧ some k_ ≠ (v2_ : Value).ownBlock) v7_ r8 ∧ Below w.heap.size w w' := by
 have hu27 := Try.underlying27
 have hu44 := Try.underlying44
 have hu80 := Try.underlying80
 have HR0_0 := Aside0.mk hr0_0
 have HC0_0 := Aside0.mk hc0_0
 clear hr0_0 hc0_0
 have HR0_1 := Aside0.mk hr0_1
 have HC0_1 := Aside0.mk hc0_1
 clear hr0_1 hc0_1
 have HR0_2 := Aside0.mk hr0_2
 have HC0_2 := Aside0.mk hc0_2
 clear hr0_2 hc0_2
 have HB := am (Below.refl w.heap.size w)
 have H : ((spec_l1Own.f l0_0).bind fun t180 => ((spec_l1Own.f l0_1).bind fun t183 => ((spec_l1Own.f l0_2).bind fun t186 => (if 0 ≤ (l0_0.length : Int) then (if ((l0_0.length : Int) : Int).toNat ≤ 11728124029610 then (spec_flNew.l0 k a1 (l0_0.length : Int) 0 t180 t183 t186 a0_3 a0_4 ([] : List (S80)) (List.replicate ((l0_0.length : Int) : Int).toNat []) 0 0 0) else (none)) else (none))))) = some (r1, r2, r3, r4, r5, r6, r7, r8, r9, r10, r11) := h
 clear h
 replace H := Option.bind_eq_some_iff.mp H
 obtain ⟨t180, A30, H⟩ := H
 replace H : ((spec_l1Own.f l0_1).bind fun t183 => ((spec_l1Own.f l0_2).bind fun t186 => (if 0 ≤ (l0_0.length : Int) then (if ((l0_0.length : Int) : Int).toNat ≤ 11728124029610 then (spec_flNew.l0 k a1 (l0_0.length : Int) 0 t180 t183 t186 a0_3 a0_4 ([] : List (S80)) (List.replicate ((l0_0.length : Int) : Int).toNat []) 0 0 0) else (none)) else (none)))) = some (r1, r2, r3, r4, r5, r6, r7, r8, r9, r10, r11) := H
 have A3 := Aside0.mk A30
 clear A30
 replace H := Option.bind_eq_some_iff.mp H
 obtain ⟨t183, A40, H⟩ := H
 replace H : ((spec_l1Own.f l0_2).bind fun t186 => (if 0 ≤ (l0_0.length : Int) then (if ((l0_0.length : Int) : Int).toNat ≤ 11728124029610 then (spec_flNew.l0 k a1 (l0_0.length : Int) 0 t180 t183 t186 a0_3 a0_4 ([] : List (S80)) (List.replicate ((l0_0.length : Int) : Int).toNat []) 0 0 0) else (none)) else (none))) = some (r1, r2, r3, r4, r5, r6, r7, r8, r9, r10, r11) := H
 have A4 := Aside0.mk A40
 clear A40
 replace H := Option.bind_eq_some_iff.mp H
 obtain ⟨t186, A50, H⟩ := H
 replace H : (if 0 ≤ (l0_0.length : Int) then (if ((l0_0.length : Int) : Int).toNat ≤ 11728124029610 then (spec_flNew.l0 k a1 (l0_0.length : Int) 0 t180 t183 t186 a0_3 a0_4 ([] : List (S80)) (List.replicate ((l0_0.length : Int) : Int).toNat []) 0 0 0) else (none)) else (none)) = some (r1, r2, r3, r4, r5, r6, r7, r8, r9, r10, r11) := H
 have A5 := Aside0.mk A50
 clear A50
 by_cases c6 : 0 ≤ (l0_0.length : Int)
 ·rw [if_pos c6] at H
  have c6b0 := eq_true c6
  have c6b1 : decide (0 ≤ (l0_0.length : Int)) = true := decide_eq_true c6
  clear c6
  by_cases c7 : ((l0_0.length : Int) : Int).toNat ≤ 11728124029610
  ·rw [if_pos c7] at H
   have c7b0 := eq_true c7; have c7b1 : decide (((l0_0.length : Int) : Int).toNat ≤ 11728124029610) = true := decide_eq_true c7; clear c7
   obtain ⟨y189, hy189⟩ : ∃ y_ : List (List Int), y_ = (List.replicate ((l0_0.length : Int) : Int).toNat []) := ⟨_, rfl⟩
   replace H : (spec_flNew.l0 k a1 (l0_0.length : Int) 0 t180 t183 t186 a0_3 a0_4 ([] : List (S80)) y189 0 0 0) = some (r1, r2, r3, r4, r5, r6, r7, r8, r9, r10, r11) := by first | (rw [hy189]; with_reducible exact H) | (have H2_ := (Option.bind_some _ _).symm.trans H; rw [hy189]; with_reducible exact H2_) | (have H2_ := (Option.bind_some _ _).symm.trans H; with_reducible exact H2_) | with_reducible exact H | (rw [hy189]; exact H) | exact H
   have Ny189 := Aside0.mk hy189; clear hy189; have H' := Aside0.mk H; clear H
   go_enter Try.func84, Try.ntmps84
   try go_wp2_with (first | ((with_reducible refine gate_dst (N := 2) rfl ?_); refine box_event ?hg (N := 2) ?hd (cs := #[.slice A0_0 l0_0.length c0_0, .slice A0_1 l0_1.length c0_1, .slice A0_2 l0_2.length c0_2, .int .i64 a0_3, .int .i64 a0_4]) (t := 27) ?hr ?_; (case hd => rfl); (case hg => rfl); (case hr => exact zq'); intro gb178 hg w8 hbox hb; have n0_ := am (below_step za' hb); have n1_ := am (hbox); have n2_ := am ((by rw [hg]; exact (below_size za') : w.heap.size ≤ gb178)); have n3_ := am ((by rw [hg]; exact (below_size za') : w.heap.size ≤ gb178)); clear HB; have HB := n0_; have BK178 := n1_; have GW178 := n2_; have GE178 := n3_; clear n0_ n1_ n2_ n3_; clear hb hbox hg) | ((with_reducible refine gate_dst (N := 4) rfl ?_); refine box_event ?hg (N := 4) ?hd (cs := #[.slice none 0 0, .slice none 0 0, .slice none 0 0, .int .i64 0, .int .i64 0, .slice none 0 0, .slice none 0 0, .slice none 0 0, .int .i64 0, .int .i64 0, .int .i64 0]) (t := 44) ?hr ?_; (case hd => rfl); (case hg => rfl); (case hr => exact zq'); intro gb179 hg w9 hbox hb; have n0_ := am (blk_below (g := gb178) (o := o0') zg' hb); have n1_ := am (below_step zv3' hb); have n2_ := am (hbox); have n3_ := am ((by rw [hg]; exact (below_size zv3') : w.heap.size ≤ gb179)); have n4_ := am ((by rw [hg]; exact (below_size zv3') : w.heap.size ≤ gb179)); have n5_ := am ((by rw [hg]; exact Nat.ne_of_lt (blk_lt (g := gb178) (o := o0') zg') : gb178 ≠ gb179)); have n6_ := am ((by rw [hg]; exact Nat.ne_of_gt (blk_lt (g := gb178) (o := o0') zg') : gb179 ≠ gb178)); clear BK178; clear HB; have BK178 := n0_; have HB := n1_; have BK179 := n2_; have GW179 := n3_; have GE179 := n4_; have NB178_179 := n5_; have NB179_178 := n6_; clear n0_ n1_ n2_ n3_ n4_ n5_ n6_; clear hb hbox hg; have hnb10 := NB178_179.out; have hnc10 := NB179_178.out; have hcz11_0 : w9.cell? ⟨gb178, 0, none⟩ = some (.slice A0_0 l0_0.length c0_0) := (blk_cell BK178.out 0).trans rfl; have hcz11_1 : w9.cell? ⟨gb178, 1, none⟩ = some (.slice A0_1 l0_1.length c0_1) := (blk_cell BK178.out 1).trans rfl; have hcz11_2 : w9.cell? ⟨gb178, 2, none⟩ = some (.slice A0_2 l0_2.length c0_2) := (blk_cell BK178.out 2).trans rfl; have hcz11_3 : w9.cell? ⟨gb178, 3, none⟩ = some (.int .i64 a0_3) := (blk_cell BK178.out 3).trans rfl; have hcz11_4 : w9.cell? ⟨gb178, 4, none⟩ = some (.int .i64 a0_4) := (blk_cell BK178.out 4).trans rfl; have hfz11_0 := blk_frozen BK178.out 0; have hfz11_1 := blk_frozen BK178.out 1; have hfz11_2 := blk_frozen BK178.out 2; have hfz11_3 := blk_frozen BK178.out 3; have hfz11_4 := blk_frozen BK178.out 4))
   have n0_ := am (blk_drew BK178.out); have n1_ := am (blk_drew BK179.out); have n2_ := am (below_drew1 HB.out); clear BK178; clear BK179; clear HB; have BK178 := n0_; have BK179 := n1_; have HB := n2_; clear n0_ n1_ n2_
   refine start_ (n := 19) (S := fun w' => w'.cell? ⟨gb178, 0, none⟩ = some (.slice A0_0 l0_0.length c0_0) ∧ w'.cell? ⟨gb178, 1, none⟩ = some (.slice A0_1 l0_1.length c0_1) ∧ w'.cell? ⟨gb178, 2, none⟩ = some (.slice A0_2 l0_2.length c0_2) ∧ w'.cell? ⟨gb178, 3, none⟩ = some (.int .i64 a0_3) ∧ w'.cell? ⟨gb178, 4, none⟩ = some (.int .i64 a0_4)) (ds := []) #[Z,Z,Z,Z,Z,Z,Z,Z,Z,Z,Z,Z,Z,Z,Z,Z,Z,Z,Z] (by kernel_rfl) rfl rfl ⟨(blk_cell BK178.out 0).trans rfl, (blk_cell BK178.out 1).trans rfl, (blk_cell BK178.out 2).trans rfl, (blk_cell BK178.out 3).trans rfl, (blk_cell BK178.out 4).trans rfl⟩ (fun hHeld => ?_); refine with_tabW spec_flNew.tab2 spec_flNew.bits2 (fun HT_ HW_ => ?_)
   generalize w9.drew = w12 at BK178 BK179 HB hHeld ⊢
   refine pure_ (i := 0) (N := some 11) (v := ?_) (a' := ?_) #[Y,Z,Z,Z,Z,Z,Z,Z,Z,Z,Z,Z,Z,Z,Z,Z,Z,Z,Z] rfl rfl (any_of HT_.out (by kernel_rfl)) (fun _ _ _ h => h) (Or.inl ⟨by rfl, ?_⟩) ?_ ?_
   rotate_left
   ·intro w'
    go_simp
    with_reducible rfl
   rotate_left
   ·simp only [Act.put, s1, s2, s3, i64_w, i32_w]
    rfl
   refine pure_ (i := 3) (N := some 14) (v := ?_) (a' := ?_) #[Y,Z,Z,Y,Z,Z,Z,Z,Z,Z,Z,Z,Z,Z,Z,Z,Z,Z,Z] rfl rfl (any_of HT_.out (by kernel_rfl)) (fun _ _ _ h => h) (Or.inl ⟨by rfl, ?_⟩) ?_ ?_
   rotate_left
   ·intro w'
    go_simp
    with_reducible rfl
   rotate_left
   ·simp only [Act.put, s1, s2, s3, i64_w, i32_w]
    rfl
   refine pure_ (i := 6) (N := some 17) (v := ?_) (a' := ?_) #[Y,Z,Z,Y,Z,Z,Y,Z,Z,Z,Z,Z,Z,Z,Z,Z,Z,Z,Z] rfl rfl (any_of HT_.out (by kernel_rfl)) (fun _ _ _ h => h) (Or.inl ⟨by rfl, ?_⟩) ?_ ?_
   rotate_left
   ·intro w'
    go_simp
    with_reducible rfl
   rotate_left
   ·simp only [Act.put, s1, s2, s3, i64_w, i32_w]
    rfl
   refine pure_ (i := 9) (N := some 20) (v := ?_) (a' := ?_) #[Y,Z,Z,Y,Z,Z,Y,Z,Z,Y,Z,Z,Z,Z,Z,Z,Z,Z,Z] rfl rfl (any_of HT_.out (by kernel_rfl)) (fun _ _ _ h => h) (Or.inl ⟨by rfl, ?_⟩) ?_ ?_
   rotate_left
   ·intro w'
    go_simp
    with_reducible rfl
   rotate_left
   ·simp only [Act.put, s1, s2, s3, i64_w, i32_w]
    rfl
   refine pure_ (i := 11) (N := some 22) (v := ?_) (a' := ?_) #[Y,Z,Z,Y,Z,Z,Y,Z,Z,Y,Z,Y,Z,Z,Z,Z,Z,Z,Z] rfl rfl (any_of HT_.out (by kernel_rfl)) (fun _ _ _ h => h) (Or.inl ⟨by rfl, ?_⟩) ?_ ?_
   rotate_left
   ·intro w'
    go_simp
    with_reducible rfl
   rotate_left
   ·simp only [Act.put, s1, s2, s3, i64_w, i32_w]
    rfl
   refine pure_ (i := 14) (N := some 25) (v := ?_) (a' := ?_) #[Y,Z,Z,Y,Z,Z,Y,Z,Z,Y,Z,Y,Z,Z,Y,Z,Z,Z,Z] rfl rfl (any_of HT_.out (by kernel_rfl)) (fun _ _ _ h => h) (Or.inl ⟨by rfl, ?_⟩) ?_ ?_
   rotate_left
   ·intro w'
    go_simp
    with_reducible rfl
   rotate_left
   ·simp only [Act.put, s1, s2, s3, i64_w, i32_w]
    rfl
   refine take_ (i := 1) (N := some 12) (v := ?_) (a' := ?_) #[Y,Y,Z,Y,Z,Z,Y,Z,Z,Y,Z,Y,Z,Z,Y,Z,Z,Z,Z] rfl rfl (take_ofW HT_.out HW_.out (by kernel_rfl)) (fun _ _ _ h => h) (Or.inl ⟨by rfl, ?_⟩) hHeld ?_ ?_
   rotate_left
   ·rintro w' ⟨s0, s1, s2, s3, s4⟩
    go_simp
    with_reducible rfl
   rotate_left
   ·simp only [Act.put, s1, s2, s3, i64_w, i32_w]
    rfl
   refine take_ (i := 4) (N := some 15) (v := ?_) (a' := ?_) #[Y,Y,Z,Y,Y,Z,Y,Z,Z,Y,Z,Y,Z,Z,Y,Z,Z,Z,Z] rfl rfl (take_ofW HT_.out HW_.out (by kernel_rfl)) (fun _ _ _ h => h) (Or.inl ⟨by rfl, ?_⟩) hHeld ?_ ?_
   rotate_left
   ·rintro w' ⟨s0, s1, s2, s3, s4⟩
    go_simp
    with_reducible rfl
   rotate_left
   ·simp only [Act.put, s1, s2, s3, i64_w, i32_w]
    rfl
   refine take_ (i := 7) (N := some 18) (v := ?_) (a' := ?_) #[Y,Y,Z,Y,Y,Z,Y,Y,Z,Y,Z,Y,Z,Z,Y,Z,Z,Z,Z] rfl rfl (take_ofW HT_.out HW_.out (by kernel_rfl)) (fun _ _ _ h => h) (Or.inl ⟨by rfl, ?_⟩) hHeld ?_ ?_
   rotate_left
   ·rintro w' ⟨s0, s1, s2, s3, s4⟩
    go_simp
    with_reducible rfl
   rotate_left
   ·simp only [Act.put, s1, s2, s3, i64_w, i32_w]
    rfl
   refine take_ (i := 10) (N := some 21) (v := ?_) (a' := ?_) #[Y,Y,Z,Y,Y,Z,Y,Y,Z,Y,Y,Y,Z,Z,Y,Z,Z,Z,Z] rfl rfl (take_ofW HT_.out HW_.out (by kernel_rfl)) (fun _ _ _ h => h) (Or.inl ⟨by rfl, ?_⟩) hHeld ?_ ?_
   rotate_left
   ·rintro w' ⟨s0, s1, s2, s3, s4⟩
    go_simp
    with_reducible rfl
   rotate_left
   ·simp only [Act.put, s1, s2, s3, i64_w, i32_w]
    rfl
   refine take_ (i := 12) (N := some 23) (v := ?_) (a' := ?_) #[Y,Y,Z,Y,Y,Z,Y,Y,Z,Y,Y,Y,Y,Z,Y,Z,Z,Z,Z] rfl rfl (take_ofW HT_.out HW_.out (by kernel_rfl)) (fun _ _ _ h => h) (Or.inl ⟨by rfl, ?_⟩) hHeld ?_ ?_
   rotate_left
   ·rintro w' ⟨s0, s1, s2, s3, s4⟩
    go_simp
    with_reducible rfl
   rotate_left
   ·simp only [Act.put, s1, s2, s3, i64_w, i32_w]
    rfl
   refine join_ (σ := Value × Value × Value × Value × Nat) 1 #[Y,Y,Y,Y,Y,Y,Y,Y,Y,Y,Y,Y,Y,Y,Y,Y,Y,Y,Z] (fun s_ => [(13, s_.1), (16, s_.2.1), (19, s_.2.2.1), (26, s_.2.2.2.1), (6, .pointer (some ⟨s_.2.2.2.2, 0, none⟩)), (24, .agg #[s_.1, s_.2.1, s_.2.2.1, .int .i64 a0_3, .int .i64 a0_4]), (27, .agg #[s_.1, s_.2.1, s_.2.2.1, .int .i64 a0_3, .int .i64 a0_4, .slice none 0 0, s_.2.2.2.1, .slice none 0 0, .int .i64 0, .int .i64 0, .int .i64 0])]) (fun s_ w' => (w'.cell? ⟨gb178, 0, none⟩ = some (.slice A0_0 l0_0.length c0_0) ∧ w'.cell? ⟨gb178, 1, none⟩ = some (.slice A0_1 l0_1.length c0_1) ∧ w'.cell? ⟨gb178, 2, none⟩ = some (.slice A0_2 l0_2.length c0_2) ∧ w'.cell? ⟨gb178, 3, none⟩ = some (.int .i64 a0_3) ∧ w'.cell? ⟨gb178, 4, none⟩ = some (.int .i64 a0_4)) ∧ (Kd.R (Kd.int .i64) 3 w' w.heap.size (fun k_ => some k_ ≠ (s_.2.1 : Value).ownBlock ∧ some k_ ≠ (s_.2.2.1 : Value).ownBlock) s_.1 t180) ∧ (Kd.R (Kd.int .i64) 3 w' w.heap.size (fun k_ => some k_ ≠ (s_.1 : Value).ownBlock ∧ some k_ ≠ (s_.2.2.1 : Value).ownBlock) s_.2.1 t183) ∧ (Kd.R (Kd.int .i64) 3 w' w.heap.size (fun k_ => some k_ ≠ (s_.1 : Value).ownBlock ∧ some k_ ≠ (s_.2.1 : Value).ownBlock) s_.2.2.1 t186) ∧ (Kd.S (Kd.slice 3 (Kd.int .i64)) 22 w' w.heap.size (fun k_ => some k_ ≠ (s_.1 : Value).ownBlock ∧ some k_ ≠ (s_.2.1 : Value).ownBlock ∧ some k_ ≠ (s_.2.2.1 : Value).ownBlock) s_.2.2.2.1 y189) ∧ (w'.heap[gb178]? = some (.cells #[.slice A0_0 l0_0.length c0_0, .slice A0_1 l0_1.length c0_1, .slice A0_2 l0_2.length c0_2, .int .i64 a0_3, .int .i64 a0_4] 27 (0, 0))) ∧ (w'.heap[gb179]? = some (.cells #[.slice none 0 0, .slice none 0 0, .slice none 0 0, .int .i64 0, .int .i64 0, .slice none 0 0, .slice none 0 0, .slice none 0 0, .int .i64 0, .int .i64 0, .int .i64 0] 44 (0, 0))) ∧ (w'.heap[s_.2.2.2.2]? = some (.cells #[.slice none 0 0, .slice none 0 0, .slice none 0 0, .int .i64 0, .int .i64 0, .slice none 0 0, .slice none 0 0, .slice none 0 0, .int .i64 0, .int .i64 0, .int .i64 0] 44 (0, 0))) ∧ (w.heap.size ≤ s_.2.2.2.2) ∧ (w.heap.size ≤ s_.2.2.2.2) ∧ (gb178 ≠ s_.2.2.2.2) ∧ (s_.2.2.2.2 ≠ gb178) ∧ (gb179 ≠ s_.2.2.2.2) ∧ (s_.2.2.2.2 ≠ gb179) ∧ (Below w.heap.size w w')) ?_ ?_
   rotate_left
   ·intro hJ2_5_8_15_17
    refine join_ (σ := Value × Value × Value × Value) 2 #[Y,Y,Y,Y,Y,Y,Y,Y,Y,Y,Y,Y,Y,Y,Y,Y,Y,Z,Z] (fun s_ => [(13, s_.1), (16, s_.2.1), (19, s_.2.2.1), (26, s_.2.2.2), (24, .agg #[s_.1, s_.2.1, s_.2.2.1, .int .i64 a0_3, .int .i64 a0_4]), (27, .agg #[s_.1, s_.2.1, s_.2.2.1, .int .i64 a0_3, .int .i64 a0_4, .slice none 0 0, s_.2.2.2, .slice none 0 0, .int .i64 0, .int .i64 0, .int .i64 0])]) (fun s_ w' => (w'.cell? ⟨gb178, 0, none⟩ = some (.slice A0_0 l0_0.length c0_0) ∧ w'.cell? ⟨gb178, 1, none⟩ = some (.slice A0_1 l0_1.length c0_1) ∧ w'.cell? ⟨gb178, 2, none⟩ = some (.slice A0_2 l0_2.length c0_2) ∧ w'.cell? ⟨gb178, 3, none⟩ = some (.int .i64 a0_3) ∧ w'.cell? ⟨gb178, 4, none⟩ = some (.int .i64 a0_4)) ∧ (Kd.R (Kd.int .i64) 3 w' w.heap.size (fun k_ => some k_ ≠ (s_.2.1 : Value).ownBlock ∧ some k_ ≠ (s_.2.2.1 : Value).ownBlock) s_.1 t180) ∧ (Kd.R (Kd.int .i64) 3 w' w.heap.size (fun k_ => some k_ ≠ (s_.1 : Value).ownBlock ∧ some k_ ≠ (s_.2.2.1 : Value).ownBlock) s_.2.1 t183) ∧ (Kd.R (Kd.int .i64) 3 w' w.heap.size (fun k_ => some k_ ≠ (s_.1 : Value).ownBlock ∧ some k_ ≠ (s_.2.1 : Value).ownBlock) s_.2.2.1 t186) ∧ (Kd.S (Kd.slice 3 (Kd.int .i64)) 22 w' w.heap.size (fun k_ => some k_ ≠ (s_.1 : Value).ownBlock ∧ some k_ ≠ (s_.2.1 : Value).ownBlock ∧ some k_ ≠ (s_.2.2.1 : Value).ownBlock) s_.2.2.2 y189) ∧ (w'.heap[gb178]? = some (.cells #[.slice A0_0 l0_0.length c0_0, .slice A0_1 l0_1.length c0_1, .slice A0_2 l0_2.length c0_2, .int .i64 a0_3, .int .i64 a0_4] 27 (0, 0))) ∧ (w'.heap[gb179]? = some (.cells #[.slice none 0 0, .slice none 0 0, .slice none 0 0, .int .i64 0, .int .i64 0, .slice none 0 0, .slice none 0 0, .slice none 0 0, .int .i64 0, .int .i64 0, .int .i64 0] 44 (0, 0))) ∧ (Below w.heap.size w w')) ?_ ?_
    rotate_left
    ·intro hJ2_5_8_15
     refine join_ (σ := Value × Value × Value × Nat) 3 #[Y,Y,Y,Y,Y,Y,Y,Y,Y,Y,Y,Y,Y,Y,Y,Z,Z,Y,Z] (fun s_ => [(13, s_.1), (16, s_.2.1), (19, s_.2.2.1), (6, .pointer (some ⟨s_.2.2.2, 0, none⟩)), (24, .agg #[s_.1, s_.2.1, s_.2.2.1, .int .i64 a0_3, .int .i64 a0_4])]) (fun s_ w' => (w'.cell? ⟨gb178, 0, none⟩ = some (.slice A0_0 l0_0.length c0_0) ∧ w'.cell? ⟨gb178, 1, none⟩ = some (.slice A0_1 l0_1.length c0_1) ∧ w'.cell? ⟨gb178, 2, none⟩ = some (.slice A0_2 l0_2.length c0_2) ∧ w'.cell? ⟨gb178, 3, none⟩ = some (.int .i64 a0_3) ∧ w'.cell? ⟨gb178, 4, none⟩ = some (.int .i64 a0_4)) ∧ (Kd.R (Kd.int .i64) 3 w' w.heap.size (fun k_ => some k_ ≠ (s_.2.1 : Value).ownBlock ∧ some k_ ≠ (s_.2.2.1 : Value).ownBlock) s_.1 t180) ∧ (Kd.R (Kd.int .i64) 3 w' w.heap.size (fun k_ => some k_ ≠ (s_.1 : Value).ownBlock ∧ some k_ ≠ (s_.2.2.1 : Value).ownBlock) s_.2.1 t183) ∧ (Kd.R (Kd.int .i64) 3 w' w.heap.size (fun k_ => some k_ ≠ (s_.1 : Value).ownBlock ∧ some k_ ≠ (s_.2.1 : Value).ownBlock) s_.2.2.1 t186) ∧ (w'.heap[gb178]? = some (.cells #[.slice A0_0 l0_0.length c0_0, .slice A0_1 l0_1.length c0_1, .slice A0_2 l0_2.length c0_2, .int .i64 a0_3, .int .i64 a0_4] 27 (0, 0))) ∧ (w'.heap[gb179]? = some (.cells #[.slice none 0 0, .slice none 0 0, .slice none 0 0, .int .i64 0, .int .i64 0, .slice none 0 0, .slice none 0 0, .slice none 0 0, .int .i64 0, .int .i64 0, .int .i64 0] 44 (0, 0))) ∧ (w'.heap[s_.2.2.2]? = some (.cells #[.slice none 0 0, .slice none 0 0, .slice none 0 0, .int .i64 0, .int .i64 0, .slice none 0 0, .slice none 0 0, .slice none 0 0, .int .i64 0, .int .i64 0, .int .i64 0] 44 (0, 0))) ∧ (w.heap.size ≤ s_.2.2.2) ∧ (w.heap.size ≤ s_.2.2.2) ∧ (gb178 ≠ s_.2.2.2) ∧ (s_.2.2.2 ≠ gb178) ∧ (gb179 ≠ s_.2.2.2) ∧ (s_.2.2.2 ≠ gb179) ∧ (Below w.heap.size w w')) ?_ ?_
     rotate_left
     ·intro hJ2_5_8_17
      refine join_ (σ := Value × Value × Value × Nat) 4 #[Y,Y,Y,Y,Y,Y,Y,Y,Z,Y,Y,Y,Y,Z,Y,Y,Z,Y,Z] (fun s_ => [(13, s_.1), (16, s_.2.1), (26, s_.2.2.1), (6, .pointer (some ⟨s_.2.2.2, 0, none⟩))]) (fun s_ w' => (w'.cell? ⟨gb178, 0, none⟩ = some (.slice A0_0 l0_0.length c0_0) ∧ w'.cell? ⟨gb178, 1, none⟩ = some (.slice A0_1 l0_1.length c0_1) ∧ w'.cell? ⟨gb178, 2, none⟩ = some (.slice A0_2 l0_2.length c0_2) ∧ w'.cell? ⟨gb178, 3, none⟩ = some (.int .i64 a0_3) ∧ w'.cell? ⟨gb178, 4, none⟩ = some (.int .i64 a0_4)) ∧ (Kd.R (Kd.int .i64) 3 w' w.heap.size (fun k_ => some k_ ≠ (s_.2.1 : Value).ownBlock) s_.1 t180) ∧ (Kd.R (Kd.int .i64) 3 w' w.heap.size (fun k_ => some k_ ≠ (s_.1 : Value).ownBlock) s_.2.1 t183) ∧ (Kd.S (Kd.slice 3 (Kd.int .i64)) 22 w' w.heap.size (fun k_ => some k_ ≠ (s_.1 : Value).ownBlock ∧ some k_ ≠ (s_.2.1 : Value).ownBlock) s_.2.2.1 y189) ∧ (w'.heap[gb178]? = some (.cells #[.slice A0_0 l0_0.length c0_0, .slice A0_1 l0_1.length c0_1, .slice A0_2 l0_2.length c0_2, .int .i64 a0_3, .int .i64 a0_4] 27 (0, 0))) ∧ (w'.heap[gb179]? = some (.cells #[.slice none 0 0, .slice none 0 0, .slice none 0 0, .int .i64 0, .int .i64 0, .slice none 0 0, .slice none 0 0, .slice none 0 0, .int .i64 0, .int .i64 0, .int .i64 0] 44 (0, 0))) ∧ (w'.heap[s_.2.2.2]? = some (.cells #[.slice none 0 0, .slice none 0 0, .slice none 0 0, .int .i64 0, .int .i64 0, .slice none 0 0, .slice none 0 0, .slice none 0 0, .int .i64 0, .int .i64 0, .int .i64 0] 44 (0, 0))) ∧ (w.heap.size ≤ s_.2.2.2) ∧ (w.heap.size ≤ s_.2.2.2) ∧ (gb178 ≠ s_.2.2.2) ∧ (s_.2.2.2 ≠ gb178) ∧ (gb179 ≠ s_.2.2.2) ∧ (s_.2.2.2 ≠ gb179) ∧ (Below w.heap.size w w')) ?_ ?_
      rotate_left
      ·intro hJ2_5_15_17
       refine join_ (σ := Value × Value × Value) 4 #[Y,Y,Y,Y,Y,Y,Y,Y,Y,Y,Y,Y,Y,Y,Y,Z,Z,Z,Z] (fun s_ => [(13, s_.1), (16, s_.2.1), (19, s_.2.2), (24, .agg #[s_.1, s_.2.1, s_.2.2, .int .i64 a0_3, .int .i64 a0_4])]) (fun s_ w' => (w'.cell? ⟨gb178, 0, none⟩ = some (.slice A0_0 l0_0.length c0_0) ∧ w'.cell? ⟨gb178, 1, none⟩ = some (.slice A0_1 l0_1.length c0_1) ∧ w'.cell? ⟨gb178, 2, none⟩ = some (.slice A0_2 l0_2.length c0_2) ∧ w'.cell? ⟨gb178, 3, none⟩ = some (.int .i64 a0_3) ∧ w'.cell? ⟨gb178, 4, none⟩ = some (.int .i64 a0_4)) ∧ (Kd.R (Kd.int .i64) 3 w' w.heap.size (fun k_ => some k_ ≠ (s_.2.1 : Value).ownBlock ∧ some k_ ≠ (s_.2.2 : Value).ownBlock) s_.1 t180) ∧ (Kd.R (Kd.int .i64) 3 w' w.heap.size (fun k_ => some k_ ≠ (s_.1 : Value).ownBlock ∧ some k_ ≠ (s_.2.2 : Value).ownBlock) s_.2.1 t183) ∧ (Kd.R (Kd.int .i64) 3 w' w.heap.size (fun k_ => some k_ ≠ (s_.1 : Value).ownBlock ∧ some k_ ≠ (s_.2.1 : Value).ownBlock) s_.2.2 t186) ∧ (w'.heap[gb178]? = some (.cells #[.slice A0_0 l0_0.length c0_0, .slice A0_1 l0_1.length c0_1, .slice A0_2 l0_2.length c0_2, .int .i64 a0_3, .int .i64 a0_4] 27 (0, 0))) ∧ (w'.heap[gb179]? = some (.cells #[.slice none 0 0, .slice none 0 0, .slice none 0 0, .int .i64 0, .int .i64 0, .slice none 0 0, .slice none 0 0, .slice none 0 0, .int .i64 0, .int .i64 0, .int .i64 0] 44 (0, 0))) ∧ (Below w.heap.size w w')) ?_ ?_
       rotate_left
       ·intro hJ2_5_8
        refine join_ (σ := Value × Value × Value) 5 #[Y,Y,Y,Y,Y,Y,Y,Y,Z,Y,Y,Y,Y,Z,Y,Y,Z,Z,Z] (fun s_ => [(13, s_.1), (16, s_.2.1), (26, s_.2.2)]) (fun s_ w' => (w'.cell? ⟨gb178, 0, none⟩ = some (.slice A0_0 l0_0.length c0_0) ∧ w'.cell? ⟨gb178, 1, none⟩ = some (.slice A0_1 l0_1.length c0_1) ∧ w'.cell? ⟨gb178, 2, none⟩ = some (.slice A0_2 l0_2.length c0_2) ∧ w'.cell? ⟨gb178, 3, none⟩ = some (.int .i64 a0_3) ∧ w'.cell? ⟨gb178, 4, none⟩ = some (.int .i64 a0_4)) ∧ (Kd.R (Kd.int .i64) 3 w' w.heap.size (fun k_ => some k_ ≠ (s_.2.1 : Value).ownBlock) s_.1 t180) ∧ (Kd.R (Kd.int .i64) 3 w' w.heap.size (fun k_ => some k_ ≠ (s_.1 : Value).ownBlock) s_.2.1 t183) ∧ (Kd.S (Kd.slice 3 (Kd.int .i64)) 22 w' w.heap.size (fun k_ => some k_ ≠ (s_.1 : Value).ownBlock ∧ some k_ ≠ (s_.2.1 : Value).ownBlock) s_.2.2 y189) ∧ (w'.heap[gb178]? = some (.cells #[.slice A0_0 l0_0.length c0_0, .slice A0_1 l0_1.length c0_1, .slice A0_2 l0_2.length c0_2, .int .i64 a0_3, .int .i64 a0_4] 27 (0, 0))) ∧ (w'.heap[gb179]? = some (.cells #[.slice none 0 0, .slice none 0 0, .slice none 0 0, .int .i64 0, .int .i64 0, .slice none 0 0, .slice none 0 0, .slice none 0 0, .int .i64 0, .int .i64 0, .int .i64 0] 44 (0, 0))) ∧ (Below w.heap.size w w')) ?_ ?_
        rotate_left
        ·intro hJ2_5_15
         refine join_ (σ := Value × Value × Nat) 5 #[Y,Y,Y,Y,Y,Y,Y,Y,Z,Y,Y,Y,Y,Z,Y,Z,Z,Y,Z] (fun s_ => [(13, s_.1), (16, s_.2.1), (6, .pointer (some ⟨s_.2.2, 0, none⟩))]) (fun s_ w' => (w'.cell? ⟨gb178, 0, none⟩ = some (.slice A0_0 l0_0.length c0_0) ∧ w'.cell? ⟨gb178, 1, none⟩ = some (.slice A0_1 l0_1.length c0_1) ∧ w'.cell? ⟨gb178, 2, none⟩ = some (.slice A0_2 l0_2.length c0_2) ∧ w'.cell? ⟨gb178, 3, none⟩ = some (.int .i64 a0_3) ∧ w'.cell? ⟨gb178, 4, none⟩ = some (.int .i64 a0_4)) ∧ (Kd.R (Kd.int .i64) 3 w' w.heap.size (fun k_ => some k_ ≠ (s_.2.1 : Value).ownBlock) s_.1 t180) ∧ (Kd.R (Kd.int .i64) 3 w' w.heap.size (fun k_ => some k_ ≠ (s_.1 : Value).ownBlock) s_.2.1 t183) ∧ (w'.heap[gb178]? = some (.cells #[.slice A0_0 l0_0.length c0_0, .slice A0_1 l0_1.length c0_1, .slice A0_2 l0_2.length c0_2, .int .i64 a0_3, .int .i64 a0_4] 27 (0, 0))) ∧ (w'.heap[gb179]? = some (.cells #[.slice none 0 0, .slice none 0 0, .slice none 0 0, .int .i64 0, .int .i64 0, .slice none 0 0, .slice none 0 0, .slice none 0 0, .int .i64 0, .int .i64 0, .int .i64 0] 44 (0, 0))) ∧ (w'.heap[s_.2.2]? = some (.cells #[.slice none 0 0, .slice none 0 0, .slice none 0 0, .int .i64 0, .int .i64 0, .slice none 0 0, .slice none 0 0, .slice none 0 0, .int .i64 0, .int .i64 0, .int .i64 0] 44 (0, 0))) ∧ (w.heap.size ≤ s_.2.2) ∧ (w.heap.size ≤ s_.2.2) ∧ (gb178 ≠ s_.2.2) ∧ (s_.2.2 ≠ gb178) ∧ (gb179 ≠ s_.2.2) ∧ (s_.2.2 ≠ gb179) ∧ (Below w.heap.size w w')) ?_ ?_
         rotate_left
         ·intro hJ2_5_17
          refine join_ (σ := Value × Value × Nat) 5 #[Y,Y,Y,Y,Y,Z,Y,Y,Z,Y,Y,Y,Y,Z,Y,Y,Z,Y,Z] (fun s_ => [(13, s_.1), (26, s_.2.1), (6, .pointer (some ⟨s_.2.2, 0, none⟩))]) (fun s_ w' => (w'.cell? ⟨gb178, 0, none⟩ = some (.slice A0_0 l0_0.length c0_0) ∧ w'.cell? ⟨gb178, 1, none⟩ = some (.slice A0_1 l0_1.length c0_1) ∧ w'.cell? ⟨gb178, 2, none⟩ = some (.slice A0_2 l0_2.length c0_2) ∧ w'.cell? ⟨gb178, 3, none⟩ = some (.int .i64 a0_3) ∧ w'.cell? ⟨gb178, 4, none⟩ = some (.int .i64 a0_4)) ∧ (Kd.R (Kd.int .i64) 3 w' w.heap.size (fun _ => True) s_.1 t180) ∧ (Kd.S (Kd.slice 3 (Kd.int .i64)) 22 w' w.heap.size (fun k_ => some k_ ≠ (s_.1 : Value).ownBlock) s_.2.1 y189) ∧ (w'.heap[gb178]? = some (.cells #[.slice A0_0 l0_0.length c0_0, .slice A0_1 l0_1.length c0_1, .slice A0_2 l0_2.length c0_2, .int .i64 a0_3, .int .i64 a0_4] 27 (0, 0))) ∧ (w'.heap[gb179]? = some (.cells #[.slice none 0 0, .slice none 0 0, .slice none 0 0, .int .i64 0, .int .i64 0, .slice none 0 0, .slice none 0 0, .slice none 0 0, .int .i64 0, .int .i64 0, .int .i64 0] 44 (0, 0))) ∧ (w'.heap[s_.2.2]? = some (.cells #[.slice none 0 0, .slice none 0 0, .slice none 0 0, .int .i64 0, .int .i64 0, .slice none 0 0, .slice none 0 0, .slice none 0 0, .int .i64 0, .int .i64 0, .int .i64 0] 44 (0, 0))) ∧ (w.heap.size ≤ s_.2.2) ∧ (w.heap.size ≤ s_.2.2) ∧ (gb178 ≠ s_.2.2) ∧ (s_.2.2 ≠ gb178) ∧ (gb179 ≠ s_.2.2) ∧ (s_.2.2 ≠ gb179) ∧ (Below w.heap.size w w')) ?_ ?_
          rotate_left
          ·intro hJ2_15_17
           refine join_ (σ := Value × Value) 6 #[Y,Y,Y,Y,Y,Y,Y,Y,Z,Y,Y,Y,Y,Z,Y,Z,Z,Z,Z] (fun s_ => [(13, s_.1), (16, s_.2)]) (fun s_ w' => (w'.cell? ⟨gb178, 0, none⟩ = some (.slice A0_0 l0_0.length c0_0) ∧ w'.cell? ⟨gb178, 1, none⟩ = some (.slice A0_1 l0_1.length c0_1) ∧ w'.cell? ⟨gb178, 2, none⟩ = some (.slice A0_2 l0_2.length c0_2) ∧ w'.cell? ⟨gb178, 3, none⟩ = some (.int .i64 a0_3) ∧ w'.cell? ⟨gb178, 4, none⟩ = some (.int .i64 a0_4)) ∧ (Kd.R (Kd.int .i64) 3 w' w.heap.size (fun k_ => some k_ ≠ (s_.2 : Value).ownBlock) s_.1 t180) ∧ (Kd.R (Kd.int .i64) 3 w' w.heap.size (fun k_ => some k_ ≠ (s_.1 : Value).ownBlock) s_.2 t183) ∧ (w'.heap[gb178]? = some (.cells #[.slice A0_0 l0_0.length c0_0, .slice A0_1 l0_1.length c0_1, .slice A0_2 l0_2.length c0_2, .int .i64 a0_3, .int .i64 a0_4] 27 (0, 0))) ∧ (w'.heap[gb179]? = some (.cells #[.slice none 0 0, .slice none 0 0, .slice none 0 0, .int .i64 0, .int .i64 0, .slice none 0 0, .slice none 0 0, .slice none 0 0, .int .i64 0, .int .i64 0, .int .i64 0] 44 (0, 0))) ∧ (Below w.heap.size w w')) ?_ ?_
           rotate_left
           ·intro hJ2_5
            refine join_ (σ := Value × Value) 6 #[Y,Y,Y,Y,Y,Z,Y,Y,Z,Y,Y,Y,Y,Z,Y,Y,Z,Z,Z] (fun s_ => [(13, s_.1), (26, s_.2)]) (fun s_ w' => (w'.cell? ⟨gb178, 0, none⟩ = some (.slice A0_0 l0_0.length c0_0) ∧ w'.cell? ⟨gb178, 1, none⟩ = some (.slice A0_1 l0_1.length c0_1) ∧ w'.cell? ⟨gb178, 2, none⟩ = some (.slice A0_2 l0_2.length c0_2) ∧ w'.cell? ⟨gb178, 3, none⟩ = some (.int .i64 a0_3) ∧ w'.cell? ⟨gb178, 4, none⟩ = some (.int .i64 a0_4)) ∧ (Kd.R (Kd.int .i64) 3 w' w.heap.size (fun _ => True) s_.1 t180) ∧ (Kd.S (Kd.slice 3 (Kd.int .i64)) 22 w' w.heap.size (fun k_ => some k_ ≠ (s_.1 : Value).ownBlock) s_.2 y189) ∧ (w'.heap[gb178]? = some (.cells #[.slice A0_0 l0_0.length c0_0, .slice A0_1 l0_1.length c0_1, .slice A0_2 l0_2.length c0_2, .int .i64 a0_3, .int .i64 a0_4] 27 (0, 0))) ∧ (w'.heap[gb179]? = some (.cells #[.slice none 0 0, .slice none 0 0, .slice none 0 0, .int .i64 0, .int .i64 0, .slice none 0 0, .slice none 0 0, .slice none 0 0, .int .i64 0, .int .i64 0, .int .i64 0] 44 (0, 0))) ∧ (Below w.heap.size w w')) ?_ ?_
            rotate_left
            ·intro hJ2_15
             refine join_ (σ := Value × Nat) 6 #[Y,Y,Y,Y,Y,Z,Y,Y,Z,Y,Y,Y,Y,Z,Y,Z,Z,Y,Z] (fun s_ => [(13, s_.1), (6, .pointer (some ⟨s_.2, 0, none⟩))]) (fun s_ w' => (w'.cell? ⟨gb178, 0, none⟩ = some (.slice A0_0 l0_0.length c0_0) ∧ w'.cell? ⟨gb178, 1, none⟩ = some (.slice A0_1 l0_1.length c0_1) ∧ w'.cell? ⟨gb178, 2, none⟩ = some (.slice A0_2 l0_2.length c0_2) ∧ w'.cell? ⟨gb178, 3, none⟩ = some (.int .i64 a0_3) ∧ w'.cell? ⟨gb178, 4, none⟩ = some (.int .i64 a0_4)) ∧ (Kd.R (Kd.int .i64) 3 w' w.heap.size (fun _ => True) s_.1 t180) ∧ (w'.heap[gb178]? = some (.cells #[.slice A0_0 l0_0.length c0_0, .slice A0_1 l0_1.length c0_1, .slice A0_2 l0_2.length c0_2, .int .i64 a0_3, .int .i64 a0_4] 27 (0, 0))) ∧ (w'.heap[gb179]? = some (.cells #[.slice none 0 0, .slice none 0 0, .slice none 0 0, .int .i64 0, .int .i64 0, .slice none 0 0, .slice none 0 0, .slice none 0 0, .int .i64 0, .int .i64 0, .int .i64 0] 44 (0, 0))) ∧ (w'.heap[s_.2]? = some (.cells #[.slice none 0 0, .slice none 0 0, .slice none 0 0, .int .i64 0, .int .i64 0, .slice none 0 0, .slice none 0 0, .slice none 0 0, .int .i64 0, .int .i64 0, .int .i64 0] 44 (0, 0))) ∧ (w.heap.size ≤ s_.2) ∧ (w.heap.size ≤ s_.2) ∧ (gb178 ≠ s_.2) ∧ (s_.2 ≠ gb178) ∧ (gb179 ≠ s_.2) ∧ (s_.2 ≠ gb179) ∧ (Below w.heap.size w w')) ?_ ?_
             rotate_left
             ·intro hJ2_17
              refine join_ (σ := Value × Nat) 6 #[Y,Y,Z,Y,Y,Z,Y,Y,Z,Y,Y,Y,Y,Z,Y,Y,Z,Y,Z] (fun s_ => [(26, s_.1), (6, .pointer (some ⟨s_.2, 0, none⟩))]) (fun s_ w' => (w'.cell? ⟨gb178, 0, none⟩ = some (.slice A0_0 l0_0.length c0_0) ∧ w'.cell? ⟨gb178, 1, none⟩ = some (.slice A0_1 l0_1.length c0_1) ∧ w'.cell? ⟨gb178, 2, none⟩ = some (.slice A0_2 l0_2.length c0_2) ∧ w'.cell? ⟨gb178, 3, none⟩ = some (.int .i64 a0_3) ∧ w'.cell? ⟨gb178, 4, none⟩ = some (.int .i64 a0_4)) ∧ (Kd.S (Kd.slice 3 (Kd.int .i64)) 22 w' w.heap.size (fun _ => True) s_.1 y189) ∧ (w'.heap[gb178]? = some (.cells #[.slice A0_0 l0_0.length c0_0, .slice A0_1 l0_1.length c0_1, .slice A0_2 l0_2.length c0_2, .int .i64 a0_3, .int .i64 a0_4] 27 (0, 0))) ∧ (w'.heap[gb179]? = some (.cells #[.slice none 0 0, .slice none 0 0, .slice none 0 0, .int .i64 0, .int .i64 0, .slice none 0 0, .slice none 0 0, .slice none 0 0, .int .i64 0, .int .i64 0, .int .i64 0] 44 (0, 0))) ∧ (w'.heap[s_.2]? = some (.cells #[.slice none 0 0, .slice none 0 0, .slice none 0 0, .int .i64 0, .int .i64 0, .slice none 0 0, .slice none 0 0, .slice none 0 0, .int .i64 0, .int .i64 0, .int .i64 0] 44 (0, 0))) ∧ (w.heap.size ≤ s_.2) ∧ (w.heap.size ≤ s_.2) ∧ (gb178 ≠ s_.2) ∧ (s_.2 ≠ gb178) ∧ (gb179 ≠ s_.2) ∧ (s_.2 ≠ gb179) ∧ (Below w.heap.size w w')) ?_ ?_
              rotate_left
              ·intro hJ15_17
               refine join_ (σ := Value) 7 #[Y,Y,Y,Y,Y,Z,Y,Y,Z,Y,Y,Y,Y,Z,Y,Z,Z,Z,Z] (fun s_ => [(13, s_)]) (fun s_ w' => (w'.cell? ⟨gb178, 0, none⟩ = some (.slice A0_0 l0_0.length c0_0) ∧ w'.cell? ⟨gb178, 1, none⟩ = some (.slice A0_1 l0_1.length c0_1) ∧ w'.cell? ⟨gb178, 2, none⟩ = some (.slice A0_2 l0_2.length c0_2) ∧ w'.cell? ⟨gb178, 3, none⟩ = some (.int .i64 a0_3) ∧ w'.cell? ⟨gb178, 4, none⟩ = some (.int .i64 a0_4)) ∧ (Kd.R (Kd.int .i64) 3 w' w.heap.size (fun _ => True) s_ t180) ∧ (w'.heap[gb178]? = some (.cells #[.slice A0_0 l0_0.length c0_0, .slice A0_1 l0_1.length c0_1, .slice A0_2 l0_2.length c0_2, .int .i64 a0_3, .int .i64 a0_4] 27 (0, 0))) ∧ (w'.heap[gb179]? = some (.cells #[.slice none 0 0, .slice none 0 0, .slice none 0 0, .int .i64 0, .int .i64 0, .slice none 0 0, .slice none 0 0, .slice none 0 0, .int .i64 0, .int .i64 0, .int .i64 0] 44 (0, 0))) ∧ (Below w.heap.size w w')) ?_ ?_
               rotate_left
               ·intro hJ2
                refine join_ (σ := Value) 7 #[Y,Y,Z,Y,Y,Z,Y,Y,Z,Y,Y,Y,Y,Z,Y,Y,Z,Z,Z] (fun s_ => [(26, s_)]) (fun s_ w' => (w'.cell? ⟨gb178, 0, none⟩ = some (.slice A0_0 l0_0.length c0_0) ∧ w'.cell? ⟨gb178, 1, none⟩ = some (.slice A0_1 l0_1.length c0_1) ∧ w'.cell? ⟨gb178, 2, none⟩ = some (.slice A0_2 l0_2.length c0_2) ∧ w'.cell? ⟨gb178, 3, none⟩ = some (.int .i64 a0_3) ∧ w'.cell? ⟨gb178, 4, none⟩ = some (.int .i64 a0_4)) ∧ (Kd.S (Kd.slice 3 (Kd.int .i64)) 22 w' w.heap.size (fun _ => True) s_ y189) ∧ (w'.heap[gb178]? = some (.cells #[.slice A0_0 l0_0.length c0_0, .slice A0_1 l0_1.length c0_1, .slice A0_2 l0_2.length c0_2, .int .i64 a0_3, .int .i64 a0_4] 27 (0, 0))) ∧ (w'.heap[gb179]? = some (.cells #[.slice none 0 0, .slice none 0 0, .slice none 0 0, .int .i64 0, .int .i64 0, .slice none 0 0, .slice none 0 0, .slice none 0 0, .int .i64 0, .int .i64 0, .int .i64 0] 44 (0, 0))) ∧ (Below w.heap.size w w')) ?_ ?_
                rotate_left
                ·intro hJ15
                 refine join_ (σ := Nat) 7 #[Y,Y,Z,Y,Y,Z,Y,Y,Z,Y,Y,Y,Y,Z,Y,Z,Z,Y,Z] (fun s_ => [(6, .pointer (some ⟨s_, 0, none⟩))]) (fun s_ w' => (w'.cell? ⟨gb178, 0, none⟩ = some (.slice A0_0 l0_0.length c0_0) ∧ w'.cell? ⟨gb178, 1, none⟩ = some (.slice A0_1 l0_1.length c0_1) ∧ w'.cell? ⟨gb178, 2, none⟩ = some (.slice A0_2 l0_2.length c0_2) ∧ w'.cell? ⟨gb178, 3, none⟩ = some (.int .i64 a0_3) ∧ w'.cell? ⟨gb178, 4, none⟩ = some (.int .i64 a0_4)) ∧ (w'.heap[gb178]? = some (.cells #[.slice A0_0 l0_0.length c0_0, .slice A0_1 l0_1.length c0_1, .slice A0_2 l0_2.length c0_2, .int .i64 a0_3, .int .i64 a0_4] 27 (0, 0))) ∧ (w'.heap[gb179]? = some (.cells #[.slice none 0 0, .slice none 0 0, .slice none 0 0, .int .i64 0, .int .i64 0, .slice none 0 0, .slice none 0 0, .slice none 0 0, .int .i64 0, .int .i64 0, .int .i64 0] 44 (0, 0))) ∧ (w'.heap[s_]? = some (.cells #[.slice none 0 0, .slice none 0 0, .slice none 0 0, .int .i64 0, .int .i64 0, .slice none 0 0, .slice none 0 0, .slice none 0 0, .int .i64 0, .int .i64 0, .int .i64 0] 44 (0, 0))) ∧ (w.heap.size ≤ s_) ∧ (w.heap.size ≤ s_) ∧ (gb178 ≠ s_) ∧ (s_ ≠ gb178) ∧ (gb179 ≠ s_) ∧ (s_ ≠ gb179) ∧ (Below w.heap.size w w')) ?_ ?_
                 rotate_left
                 ·intro hJ17
                  refine three_ (i := 2) (j := 15) (k := 17) (Ni := some 13) (Nj := some 26) (Nk := some 6) #[Y,Y,Y,Y,Y,Z,Y,Y,Z,Y,Y,Y,Y,Z,Y,Z,Z,Z,Z] #[Y,Y,Z,Y,Y,Z,Y,Y,Z,Y,Y,Y,Y,Z,Y,Y,Z,Z,Z] #[Y,Y,Z,Y,Y,Z,Y,Y,Z,Y,Y,Y,Y,Z,Y,Z,Z,Y,Z] rfl rfl rfl rfl rfl rfl (three_of HT_.out (by kernel_rfl)) (by decide) (by decide) (by decide) (fun K hK => ?_) (fun K hK => ?_) (fun K hK => ?_)
                  ·skip
                   refine goes_ Try.func106 (by kernel_rfl) rfl #[.slice A0_0 l0_0.length c0_0] (by rfl) rfl rfl zb' ?_
                   with_reducible refine (spec_l1Own.calls _ _ l0_0 t180 _ ?side1 ?side2 A3.out).mono ?_
                   (case side1 => exact ze')
                   (case side2 => exact zx2')
                   rintro e w13 ⟨v181, rfl, ho0, hb⟩
                   refine ⟨_, rfl, ?_⟩
                   have n0_ := am (Kd.R_lower ho0 (below_size zc')); have n1_ := am (blk_below (g := gb178) (o := o0') zg' hb); have n2_ := am (blk_below (g := gb179) (o := o1') zh' hb); have n3_ := am (below_step zc' hb); clear BK178; clear BK179; clear HB; have HO182 := n0_; have BK178 := n1_; have BK179 := n2_; have HB := n3_; clear n0_ n1_ n2_ n3_; (try clear hb); (try clear hb2); (try clear hk); (try clear hi); (try clear ho0)
                   refine hK.out _ _ ⟨(blk_cell BK178.out 0).trans rfl, (blk_cell BK178.out 1).trans rfl, (blk_cell BK178.out 2).trans rfl, (blk_cell BK178.out 3).trans rfl, (blk_cell BK178.out 4).trans rfl⟩ (fun hHeld => ?_)
                   clear hK K
                   refine norm_ (a' := ?_) ?_ ?_
                   rotate_left
                   ·show Act.put _ (some 13) _ = _
                    simp only [Act.put, s1, s2, s3, i64_w, i32_w]
                    rfl
                   exact norm_ zo' (hJ2 (v181) _ ⟨hHeld, zi', zg', zh', zc'⟩)
                  ·skip
                   refine Kd.S_make_step (Kd.slice 3 (Kd.int .i64)) _ 22 (by rfl) (N := 26) rfl 37 _ _ rfl (l0_0.length : Int) rfl rfl Try.underlying37 (.slice none 0 0) 24 info22 rfl (by decide) (by omega) [] (ok := fun _ => True) (okp := fun _ => True) ⟨_, rfl, Kd.R_nil _ _ _ _ _⟩ (fun _ hk => hk) trivial odt (Nat.le_trans (Nat.mul_le_mul_right _ (odt : (l0_0.length : Int).toNat ≤ 11728124029610)) (by omega)) (Below.refl _ _) (Nat.le_refl _) ?_
                   intro v190 w13 ho14 hb hg_ hnew_
                   clear hg_ hnew_
                   (first | rw [← Ny189.out] at ho14 | (simp only [Int.reduceToNat] at ho14; rw [← Ny189.out] at ho14))
                   have n0_ := am (Kd.S_lower ho14 (below_size zc')); have n1_ := am (blk_below (g := gb178) (o := o0') zg' hb); have n2_ := am (blk_below (g := gb179) (o := o1') zh' hb); have n3_ := am (below_step zc' hb); clear BK178; clear BK179; clear HB; have HO191 := n0_; have BK178 := n1_; have BK179 := n2_; have HB := n3_; clear n0_ n1_ n2_ n3_; clear hb ho14
                   refine hK.out _ _ ⟨(blk_cell BK178.out 0).trans rfl, (blk_cell BK178.out 1).trans rfl, (blk_cell BK178.out 2).trans rfl, (blk_cell BK178.out 3).trans rfl, (blk_cell BK178.out 4).trans rfl⟩ (fun hHeld => ?_)
                   clear hK K
                   refine norm_ (a' := ?_) ?_ ?_
                   rotate_left
                   ·show Act.put _ (some 26) _ = _
                    simp only [Act.put, s1, s2, s3, i64_w, i32_w]
                    rfl
                   exact norm_ zo' (hJ15 (v190) _ ⟨hHeld, zg1', zg', zh', zc'⟩)
                  ·skip
                   refine box_step ?hg (N := 6) ?hd (cs := #[.slice none 0 0, .slice none 0 0, .slice none 0 0, .int .i64 0, .int .i64 0, .slice none 0 0, .slice none 0 0, .slice none 0 0, .int .i64 0, .int .i64 0, .int .i64 0]) (t := 44) ?hr ?_; (case hd => rfl); (case hg => rfl); (case hr => exact zq')
                   intro gb192 hg w13 hbox hb
                   have n0_ := am (blk_below (g := gb178) (o := o0') zg' hb); have n1_ := am (blk_below (g := gb179) (o := o1') zh' hb); have n2_ := am (below_step zc' hb); have n3_ := am (hbox); have n4_ := am ((by rw [hg]; exact (below_size zc') : w.heap.size ≤ gb192)); have n5_ := am ((by rw [hg]; exact (below_size zc') : w.heap.size ≤ gb192)); have n6_ := am ((by rw [hg]; exact Nat.ne_of_lt (blk_lt (g := gb178) (o := o0') zg') : gb178 ≠ gb192)); have n7_ := am ((by rw [hg]; exact Nat.ne_of_gt (blk_lt (g := gb178) (o := o0') zg') : gb192 ≠ gb178)); have n8_ := am ((by rw [hg]; exact Nat.ne_of_lt (blk_lt (g := gb179) (o := o1') zh') : gb179 ≠ gb192)); have n9_ := am ((by rw [hg]; exact Nat.ne_of_gt (blk_lt (g := gb179) (o := o1') zh') : gb192 ≠ gb179)); clear BK178; clear BK179; clear HB; have BK178 := n0_; have BK179 := n1_; have HB := n2_; have BK192 := n3_; have GW192 := n4_; have GE192 := n5_; have NB178_192 := n6_; have NB192_178 := n7_; have NB179_192 := n8_; have NB192_179 := n9_; clear n0_ n1_ n2_ n3_ n4_ n5_ n6_ n7_ n8_ n9_; clear hb hbox hg
                   refine hK.out _ _ ⟨(blk_cell BK178.out 0).trans rfl, (blk_cell BK178.out 1).trans rfl, (blk_cell BK178.out 2).trans rfl, (blk_cell BK178.out 3).trans rfl, (blk_cell BK178.out 4).trans rfl⟩ (fun hHeld => ?_)
                   clear hK K
                   refine norm_ (a' := ?_) ?_ ?_
                   rotate_left
                   ·show Act.put _ (some 6) _ = _
                    simp only [Act.put, s1, s2, s3, i64_w, i32_w]
                    rfl
                   exact norm_ zo' (hJ17 (gb192) _ ⟨hHeld, zg', zh', za1', GW192.out, GE192.out, NB178_192.out, NB192_178.out, NB179_192.out, NB192_179.out, zd'⟩)
                 ·skip
                  rintro gb192 w14 ⟨hS_, h0_, h1_, h2_, h3_, h4_, h5_, h6_, h7_, h8_, h9_⟩
                  have n0_ : Aside0 (w14.heap[gb178]? = some (.cells #[.slice A0_0 l0_0.length c0_0, .slice A0_1 l0_1.length c0_1, .slice A0_2 l0_2.length c0_2, .int .i64 a0_3, .int .i64 a0_4] 27 (0, 0))) := ⟨h0_⟩; have n1_ : Aside0 (w14.heap[gb179]? = some (.cells #[.slice none 0 0, .slice none 0 0, .slice none 0 0, .int .i64 0, .int .i64 0, .slice none 0 0, .slice none 0 0, .slice none 0 0, .int .i64 0, .int .i64 0, .int .i64 0] 44 (0, 0))) := ⟨h1_⟩; have n2_ : Aside0 (w14.heap[gb192]? = some (.cells #[.slice none 0 0, .slice none 0 0, .slice none 0 0, .int .i64 0, .int .i64 0, .slice none 0 0, .slice none 0 0, .slice none 0 0, .int .i64 0, .int .i64 0, .int .i64 0] 44 (0, 0))) := ⟨h2_⟩; have n3_ : Aside0 (w.heap.size ≤ gb192) := ⟨h3_⟩; have n4_ : Aside0 (w.heap.size ≤ gb192) := ⟨h4_⟩; have n5_ : Aside0 (gb178 ≠ gb192) := ⟨h5_⟩; have n6_ : Aside0 (gb192 ≠ gb178) := ⟨h6_⟩; have n7_ : Aside0 (gb179 ≠ gb192) := ⟨h7_⟩; have n8_ : Aside0 (gb192 ≠ gb179) := ⟨h8_⟩; have n9_ : Aside0 (Below w.heap.size w w14) := ⟨h9_⟩; clear BK178; clear BK179; clear HB; clear h0_ h1_ h2_ h3_ h4_ h5_ h6_ h7_ h8_ h9_; have BK178 := n0_; have BK179 := n1_; have BK192 := n2_; have GW192 := n3_; have GE192 := n4_; have NB178_192 := n5_; have NB192_178 := n6_; have NB179_192 := n7_; have NB192_179 := n8_; have HB := n9_; clear n0_ n1_ n2_ n3_ n4_ n5_ n6_ n7_ n8_ n9_; have hHeld : w14.cell? ⟨gb178, 0, none⟩ = some (.slice A0_0 l0_0.length c0_0) ∧ w14.cell? ⟨gb178, 1, none⟩ = some (.slice A0_1 l0_1.length c0_1) ∧ w14.cell? ⟨gb178, 2, none⟩ = some (.slice A0_2 l0_2.length c0_2) ∧ w14.cell? ⟨gb178, 3, none⟩ = some (.int .i64 a0_3) ∧ w14.cell? ⟨gb178, 4, none⟩ = some (.int .i64 a0_4) := hS_
                  refine norm_ (a' := ?_) ?_ ?_
                  rotate_left
                  ·simp only [putAll, Act.put, s1, s2, s3]
                   rfl
                  refine two_ (i := 2) (j := 15) (Ni := some 13) (Nj := some 26) #[Y,Y,Y,Y,Y,Z,Y,Y,Z,Y,Y,Y,Y,Z,Y,Z,Z,Y,Z] #[Y,Y,Z,Y,Y,Z,Y,Y,Z,Y,Y,Y,Y,Z,Y,Y,Z,Y,Z] rfl rfl rfl rfl (two_of HT_.out (by kernel_rfl)) (by decide) (by decide) (fun K hK => ?_) (fun K hK => ?_)
                  ·skip
                   refine goes_ Try.func106 (by kernel_rfl) rfl #[.slice A0_0 l0_0.length c0_0] (by rfl) rfl rfl zb' ?_
                   with_reducible refine (spec_l1Own.calls _ _ l0_0 t180 _ ?side1 ?side2 A3.out).mono ?_
                   (case side1 => exact ze')
                   (case side2 => exact zx2')
                   rintro e w15 ⟨v181, rfl, ho0, hb⟩
                   refine ⟨_, rfl, ?_⟩
                   have n0_ := am (Kd.R_lower ho0 (below_size zd')); have n1_ := am (blk_below (g := gb178) (o := o0') zg' hb); have n2_ := am (blk_below (g := gb179) (o := o1') zh' hb); have n3_ := am (blk_below (g := gb192) (o := o1') za1' hb); have n4_ := am (below_step zd' hb); clear BK178; clear BK179; clear BK192; clear HB; have HO182 := n0_; have BK178 := n1_; have BK179 := n2_; have BK192 := n3_; have HB := n4_; clear n0_ n1_ n2_ n3_ n4_; (try clear hb); (try clear hb2); (try clear hk); (try clear hi); (try clear ho0)
                   refine hK.out _ _ ⟨(blk_cell BK178.out 0).trans rfl, (blk_cell BK178.out 1).trans rfl, (blk_cell BK178.out 2).trans rfl, (blk_cell BK178.out 3).trans rfl, (blk_cell BK178.out 4).trans rfl⟩ (fun hHeld => ?_)
                   clear hK K
                   refine norm_ (a' := ?_) ?_ ?_
                   rotate_left
                   ·show Act.put _ (some 13) _ = _
                    simp only [Act.put, s1, s2, s3, i64_w, i32_w]
                    rfl
                   exact norm_ zo' (hJ2_17 (v181, gb192) _ ⟨hHeld, zi', zg', zh', za1', GW192.out, GE192.out, NB178_192.out, NB192_178.out, NB179_192.out, NB192_179.out, zd'⟩)
                  ·skip
                   refine Kd.S_make_step (Kd.slice 3 (Kd.int .i64)) _ 22 (by rfl) (N := 26) rfl 37 _ _ rfl (l0_0.length : Int) rfl rfl Try.underlying37 (.slice none 0 0) 24 info22 rfl (by decide) (by omega) [] (ok := fun _ => True) (okp := fun _ => True) ⟨_, rfl, Kd.R_nil _ _ _ _ _⟩ (fun _ hk => hk) trivial odt (Nat.le_trans (Nat.mul_le_mul_right _ (odt : (l0_0.length : Int).toNat ≤ 11728124029610)) (by omega)) (Below.refl _ _) (Nat.le_refl _) ?_
                   intro v190 w15 ho16 hb hg_ hnew_
                   clear hg_ hnew_
                   (first | rw [← Ny189.out] at ho16 | (simp only [Int.reduceToNat] at ho16; rw [← Ny189.out] at ho16))
                   have n0_ := am (Kd.S_lower ho16 (below_size zd')); have n1_ := am (blk_below (g := gb178) (o := o0') zg' hb); have n2_ := am (blk_below (g := gb179) (o := o1') zh' hb); have n3_ := am (blk_below (g := gb192) (o := o1') za1' hb); have n4_ := am (below_step zd' hb); clear BK178; clear BK179; clear BK192; clear HB; have HO191 := n0_; have BK178 := n1_; have BK179 := n2_; have BK192 := n3_; have HB := n4_; clear n0_ n1_ n2_ n3_ n4_; clear hb ho16
                   refine hK.out _ _ ⟨(blk_cell BK178.out 0).trans rfl, (blk_cell BK178.out 1).trans rfl, (blk_cell BK178.out 2).trans rfl, (blk_cell BK178.out 3).trans rfl, (blk_cell BK178.out 4).trans rfl⟩ (fun hHeld => ?_)
                   clear hK K
                   refine norm_ (a' := ?_) ?_ ?_
                   rotate_left
                   ·show Act.put _ (some 26) _ = _
                    simp only [Act.put, s1, s2, s3, i64_w, i32_w]
                    rfl
                   exact norm_ zo' (hJ15_17 (v190, gb192) _ ⟨hHeld, zg1', zg', zh', za1', GW192.out, GE192.out, NB178_192.out, NB192_178.out, NB179_192.out, NB192_179.out, zd'⟩)
                ·skip
                 rintro v190 w15 ⟨hS_, h0_, h1_, h2_, h3_⟩
                 have n0_ : Aside0 (Kd.S (Kd.slice 3 (Kd.int .i64)) 22 w15 w.heap.size (fun _ => True) v190 y189) := ⟨h0_⟩; have n1_ : Aside0 (w15.heap[gb178]? = some (.cells #[.slice A0_0 l0_0.length c0_0, .slice A0_1 l0_1.length c0_1, .slice A0_2 l0_2.length c0_2, .int .i64 a0_3, .int .i64 a0_4] 27 (0, 0))) := ⟨h1_⟩; have n2_ : Aside0 (w15.heap[gb179]? = some (.cells #[.slice none 0 0, .slice none 0 0, .slice none 0 0, .int .i64 0, .int .i64 0, .slice none 0 0, .slice none 0 0, .slice none 0 0, .int .i64 0, .int .i64 0, .int .i64 0] 44 (0, 0))) := ⟨h2_⟩; have n3_ : Aside0 (Below w.heap.size w w15) := ⟨h3_⟩; clear BK178; clear BK179; clear HB; clear h0_ h1_ h2_ h3_; have HO191 := n0_; have BK178 := n1_; have BK179 := n2_; have HB := n3_; clear n0_ n1_ n2_ n3_; have hHeld : w15.cell? ⟨gb178, 0, none⟩ = some (.slice A0_0 l0_0.length c0_0) ∧ w15.cell? ⟨gb178, 1, none⟩ = some (.slice A0_1 l0_1.length c0_1) ∧ w15.cell? ⟨gb178, 2, none⟩ = some (.slice A0_2 l0_2.length c0_2) ∧ w15.cell? ⟨gb178, 3, none⟩ = some (.int .i64 a0_3) ∧ w15.cell? ⟨gb178, 4, none⟩ = some (.int .i64 a0_4) := hS_
                 refine norm_ (a' := ?_) ?_ ?_
                 rotate_left
                 ·simp only [putAll, Act.put, s1, s2, s3]
                  rfl
                 refine two_ (i := 2) (j := 17) (Ni := some 13) (Nj := some 6) #[Y,Y,Y,Y,Y,Z,Y,Y,Z,Y,Y,Y,Y,Z,Y,Y,Z,Z,Z] #[Y,Y,Z,Y,Y,Z,Y,Y,Z,Y,Y,Y,Y,Z,Y,Y,Z,Y,Z] rfl rfl rfl rfl (two_of HT_.out (by kernel_rfl)) (by decide) (by decide) (fun K hK => ?_) (fun K hK => ?_)
                 ·skip
                  refine goes_ Try.func106 (by kernel_rfl) rfl #[.slice A0_0 l0_0.length c0_0] (by rfl) rfl rfl zb' ?_
                  with_reducible refine (spec_l1Own.calls _ _ l0_0 t180 _ ?side1 ?side2 A3.out).mono ?_
                  (case side1 => exact ze')
                  (case side2 => exact zx2')
                  rintro e w16 ⟨v181, rfl, ho0, hb⟩
                  refine ⟨_, rfl, ?_⟩
                  have n0_ := am (Kd.S_elder' zg1' (Kd.R_base ho0) hb); have n1_ := am (Kd.R_lower ho0 (below_size zc')); have n2_ := am (blk_below (g := gb178) (o := o0') zg' hb); have n3_ := am (blk_below (g := gb179) (o := o1') zh' hb); have n4_ := am (below_step zc' hb); clear HO191; clear BK178; clear BK179; clear HB; have HO191 := n0_; have HO182 := n1_; have BK178 := n2_; have BK179 := n3_; have HB := n4_; clear n0_ n1_ n2_ n3_ n4_; (try clear hb); (try clear hb2); (try clear hk); (try clear hi); (try clear ho0)
                  refine hK.out _ _ ⟨(blk_cell BK178.out 0).trans rfl, (blk_cell BK178.out 1).trans rfl, (blk_cell BK178.out 2).trans rfl, (blk_cell BK178.out 3).trans rfl, (blk_cell BK178.out 4).trans rfl⟩ (fun hHeld => ?_)
                  clear hK K
                  refine norm_ (a' := ?_) ?_ ?_
                  rotate_left
                  ·show Act.put _ (some 13) _ = _
                   simp only [Act.put, s1, s2, s3, i64_w, i32_w]
                   rfl
                  exact norm_ zo' (hJ2_15 (v181, v190) _ ⟨hHeld, zi', zd3', zg', zh', zc'⟩)
                 ·skip
                  refine box_step ?hg (N := 6) ?hd (cs := #[.slice none 0 0, .slice none 0 0, .slice none 0 0, .int .i64 0, .int .i64 0, .slice none 0 0, .slice none 0 0, .slice none 0 0, .int .i64 0, .int .i64 0, .int .i64 0]) (t := 44) ?hr ?_; (case hd => rfl); (case hg => rfl); (case hr => exact zq')
                  intro gb192 hg w16 hbox hb
                  have n0_ := am (Kd.S_below zg1' hb); have n1_ := am (blk_below (g := gb178) (o := o0') zg' hb); have n2_ := am (blk_below (g := gb179) (o := o1') zh' hb); have n3_ := am (below_step zc' hb); have n4_ := am (hbox); have n5_ := am ((by rw [hg]; exact (below_size zc') : w.heap.size ≤ gb192)); have n6_ := am ((by rw [hg]; exact (below_size zc') : w.heap.size ≤ gb192)); have n7_ := am ((by rw [hg]; exact Nat.ne_of_lt (blk_lt (g := gb178) (o := o0') zg') : gb178 ≠ gb192)); have n8_ := am ((by rw [hg]; exact Nat.ne_of_gt (blk_lt (g := gb178) (o := o0') zg') : gb192 ≠ gb178)); have n9_ := am ((by rw [hg]; exact Nat.ne_of_lt (blk_lt (g := gb179) (o := o1') zh') : gb179 ≠ gb192)); have n10_ := am ((by rw [hg]; exact Nat.ne_of_gt (blk_lt (g := gb179) (o := o1') zh') : gb192 ≠ gb179)); clear HO191; clear BK178; clear BK179; clear HB; have HO191 := n0_; have BK178 := n1_; have BK179 := n2_; have HB := n3_; have BK192 := n4_; have GW192 := n5_; have GE192 := n6_; have NB178_192 := n7_; have NB192_178 := n8_; have NB179_192 := n9_; have NB192_179 := n10_; clear n0_ n1_ n2_ n3_ n4_ n5_ n6_ n7_ n8_ n9_ n10_; clear hb hbox hg
                  refine hK.out _ _ ⟨(blk_cell BK178.out 0).trans rfl, (blk_cell BK178.out 1).trans rfl, (blk_cell BK178.out 2).trans rfl, (blk_cell BK178.out 3).trans rfl, (blk_cell BK178.out 4).trans rfl⟩ (fun hHeld => ?_)
                  clear hK K
                  refine norm_ (a' := ?_) ?_ ?_
                  rotate_left
                  ·show Act.put _ (some 6) _ = _
                   simp only [Act.put, s1, s2, s3, i64_w, i32_w]
                   rfl
                  exact norm_ zo' (hJ15_17 (v190, gb192) _ ⟨hHeld, zg1', zg', zh', za1', GW192.out, GE192.out, NB178_192.out, NB192_178.out, NB179_192.out, NB192_179.out, zd'⟩)
               ·skip
                rintro v181 w14 ⟨hS_, h0_, h1_, h2_, h3_⟩
                have n0_ : Aside0 (Kd.R (Kd.int .i64) 3 w14 w.heap.size (fun _ => True) v181 t180) := ⟨h0_⟩; have n1_ : Aside0 (w14.heap[gb178]? = some (.cells #[.slice A0_0 l0_0.length c0_0, .slice A0_1 l0_1.length c0_1, .slice A0_2 l0_2.length c0_2, .int .i64 a0_3, .int .i64 a0_4] 27 (0, 0))) := ⟨h1_⟩; have n2_ : Aside0 (w14.heap[gb179]? = some (.cells #[.slice none 0 0, .slice none 0 0, .slice none 0 0, .int .i64 0, .int .i64 0, .slice none 0 0, .slice none 0 0, .slice none 0 0, .int .i64 0, .int .i64 0, .int .i64 0] 44 (0, 0))) := ⟨h2_⟩; have n3_ : Aside0 (Below w.heap.size w w14) := ⟨h3_⟩; clear BK178; clear BK179; clear HB; clear h0_ h1_ h2_ h3_; have HO182 := n0_; have BK178 := n1_; have BK179 := n2_; have HB := n3_; clear n0_ n1_ n2_ n3_; have hHeld : w14.cell? ⟨gb178, 0, none⟩ = some (.slice A0_0 l0_0.length c0_0) ∧ w14.cell? ⟨gb178, 1, none⟩ = some (.slice A0_1 l0_1.length c0_1) ∧ w14.cell? ⟨gb178, 2, none⟩ = some (.slice A0_2 l0_2.length c0_2) ∧ w14.cell? ⟨gb178, 3, none⟩ = some (.int .i64 a0_3) ∧ w14.cell? ⟨gb178, 4, none⟩ = some (.int .i64 a0_4) := hS_
                refine norm_ (a' := ?_) ?_ ?_
                rotate_left
                ·simp only [putAll, Act.put, s1, s2, s3]
                 rfl
                refine three_ (i := 5) (j := 15) (k := 17) (Ni := some 16) (Nj := some 26) (Nk := some 6) #[Y,Y,Y,Y,Y,Y,Y,Y,Z,Y,Y,Y,Y,Z,Y,Z,Z,Z,Z] #[Y,Y,Y,Y,Y,Z,Y,Y,Z,Y,Y,Y,Y,Z,Y,Y,Z,Z,Z] #[Y,Y,Y,Y,Y,Z,Y,Y,Z,Y,Y,Y,Y,Z,Y,Z,Z,Y,Z] rfl rfl rfl rfl rfl rfl (three_of HT_.out (by kernel_rfl)) (by decide) (by decide) (by decide) (fun K hK => ?_) (fun K hK => ?_) (fun K hK => ?_)
                ·skip
                 refine goes_ Try.func106 (by kernel_rfl) rfl #[.slice A0_1 l0_1.length c0_1] (by rfl) rfl rfl zb' ?_
                 with_reducible refine (spec_l1Own.calls _ _ l0_1 t183 _ ?side1 ?side2 A4.out).mono ?_
                 (case side1 => exact zl')
                 (case side2 => exact zb3')
                 rintro e w15 ⟨v184, rfl, ho0, hb⟩
                 refine ⟨_, rfl, ?_⟩
                 have n0_ := am (Kd.R_elder' zi' (Kd.R_base ho0) hb); have n1_ := am (Kd.R_lower (Kd.R_new' ho0 (Kd.R_lt zi')) (below_size zc')); have n2_ := am (blk_below (g := gb178) (o := o0') zg' hb); have n3_ := am (blk_below (g := gb179) (o := o1') zh' hb); have n4_ := am (below_step zc' hb); clear HO182; clear BK178; clear BK179; clear HB; have HO182 := n0_; have HO185 := n1_; have BK178 := n2_; have BK179 := n3_; have HB := n4_; clear n0_ n1_ n2_ n3_ n4_; (try clear hb); (try clear hb2); (try clear hk); (try clear hi); (try clear ho0)
                 refine hK.out _ _ ⟨(blk_cell BK178.out 0).trans rfl, (blk_cell BK178.out 1).trans rfl, (blk_cell BK178.out 2).trans rfl, (blk_cell BK178.out 3).trans rfl, (blk_cell BK178.out 4).trans rfl⟩ (fun hHeld => ?_)
                 clear hK K
                 refine norm_ (a' := ?_) ?_ ?_
                 rotate_left
                 ·show Act.put _ (some 16) _ = _
                  simp only [Act.put, s1, s2, s3, i64_w, i32_w]
                  rfl
                 exact norm_ zo' (hJ2_5 (v181, v184) _ ⟨hHeld, ze3', zf3', zg', zh', zc'⟩)
                ·skip
                 refine Kd.S_make_step (Kd.slice 3 (Kd.int .i64)) _ 22 (by rfl) (N := 26) rfl 37 _ _ rfl (l0_0.length : Int) rfl rfl Try.underlying37 (.slice none 0 0) 24 info22 rfl (by decide) (by omega) [] (ok := fun _ => True) (okp := fun _ => True) ⟨_, rfl, Kd.R_nil _ _ _ _ _⟩ (fun _ hk => hk) trivial odt (Nat.le_trans (Nat.mul_le_mul_right _ (odt : (l0_0.length : Int).toNat ≤ 11728124029610)) (by omega)) (Below.refl _ _) (Nat.le_refl _) ?_
                 intro v190 w15 ho16 hb hg_ hnew_
                 clear hg_ hnew_
                 (first | rw [← Ny189.out] at ho16 | (simp only [Int.reduceToNat] at ho16; rw [← Ny189.out] at ho16))
                 have n0_ := am (Kd.R_below zi' hb); have n1_ := am (Kd.S_lower (Kd.S_new' ho16 (Kd.R_lt zi')) (below_size zc')); have n2_ := am (blk_below (g := gb178) (o := o0') zg' hb); have n3_ := am (blk_below (g := gb179) (o := o1') zh' hb); have n4_ := am (below_step zc' hb); clear HO182; clear BK178; clear BK179; clear HB; have HO182 := n0_; have HO191 := n1_; have BK178 := n2_; have BK179 := n3_; have HB := n4_; clear n0_ n1_ n2_ n3_ n4_; clear hb ho16
                 refine hK.out _ _ ⟨(blk_cell BK178.out 0).trans rfl, (blk_cell BK178.out 1).trans rfl, (blk_cell BK178.out 2).trans rfl, (blk_cell BK178.out 3).trans rfl, (blk_cell BK178.out 4).trans rfl⟩ (fun hHeld => ?_)
                 clear hK K
                 refine norm_ (a' := ?_) ?_ ?_
                 rotate_left
                 ·show Act.put _ (some 26) _ = _
                  simp only [Act.put, s1, s2, s3, i64_w, i32_w]
                  rfl
                 exact norm_ zo' (hJ2_15 (v181, v190) _ ⟨hHeld, zi', zd3', zg', zh', zc'⟩)
                ·skip
                 refine box_step ?hg (N := 6) ?hd (cs := #[.slice none 0 0, .slice none 0 0, .slice none 0 0, .int .i64 0, .int .i64 0, .slice none 0 0, .slice none 0 0, .slice none 0 0, .int .i64 0, .int .i64 0, .int .i64 0]) (t := 44) ?hr ?_; (case hd => rfl); (case hg => rfl); (case hr => exact zq')
                 intro gb192 hg w15 hbox hb
                 have n0_ := am (Kd.R_below zi' hb); have n1_ := am (blk_below (g := gb178) (o := o0') zg' hb); have n2_ := am (blk_below (g := gb179) (o := o1') zh' hb); have n3_ := am (below_step zc' hb); have n4_ := am (hbox); have n5_ := am ((by rw [hg]; exact (below_size zc') : w.heap.size ≤ gb192)); have n6_ := am ((by rw [hg]; exact (below_size zc') : w.heap.size ≤ gb192)); have n7_ := am ((by rw [hg]; exact Nat.ne_of_lt (blk_lt (g := gb178) (o := o0') zg') : gb178 ≠ gb192)); have n8_ := am ((by rw [hg]; exact Nat.ne_of_gt (blk_lt (g := gb178) (o := o0') zg') : gb192 ≠ gb178)); have n9_ := am ((by rw [hg]; exact Nat.ne_of_lt (blk_lt (g := gb179) (o := o1') zh') : gb179 ≠ gb192)); have n10_ := am ((by rw [hg]; exact Nat.ne_of_gt (blk_lt (g := gb179) (o := o1') zh') : gb192 ≠ gb179)); clear HO182; clear BK178; clear BK179; clear HB; have HO182 := n0_; have BK178 := n1_; have BK179 := n2_; have HB := n3_; have BK192 := n4_; have GW192 := n5_; have GE192 := n6_; have NB178_192 := n7_; have NB192_178 := n8_; have NB179_192 := n9_; have NB192_179 := n10_; clear n0_ n1_ n2_ n3_ n4_ n5_ n6_ n7_ n8_ n9_ n10_; clear hb hbox hg
                 refine hK.out _ _ ⟨(blk_cell BK178.out 0).trans rfl, (blk_cell BK178.out 1).trans rfl, (blk_cell BK178.out 2).trans rfl, (blk_cell BK178.out 3).trans rfl, (blk_cell BK178.out 4).trans rfl⟩ (fun hHeld => ?_)
                 clear hK K
                 refine norm_ (a' := ?_) ?_ ?_
                 rotate_left
                 ·show Act.put _ (some 6) _ = _
                  simp only [Act.put, s1, s2, s3, i64_w, i32_w]
                  rfl
                 exact norm_ zo' (hJ2_17 (v181, gb192) _ ⟨hHeld, zi', zg', zh', za1', GW192.out, GE192.out, NB178_192.out, NB192_178.out, NB179_192.out, NB192_179.out, zd'⟩)
              ·skip
               rintro ⟨v190, gb192⟩ w16 ⟨hS_, h0_, h1_, h2_, h3_, h4_, h5_, h6_, h7_, h8_, h9_, h10_⟩
               have n0_ : Aside0 (Kd.S (Kd.slice 3 (Kd.int .i64)) 22 w16 w.heap.size (fun _ => True) v190 y189) := ⟨h0_⟩; have n1_ : Aside0 (w16.heap[gb178]? = some (.cells #[.slice A0_0 l0_0.length c0_0, .slice A0_1 l0_1.length c0_1, .slice A0_2 l0_2.length c0_2, .int .i64 a0_3, .int .i64 a0_4] 27 (0, 0))) := ⟨h1_⟩; have n2_ : Aside0 (w16.heap[gb179]? = some (.cells #[.slice none 0 0, .slice none 0 0, .slice none 0 0, .int .i64 0, .int .i64 0, .slice none 0 0, .slice none 0 0, .slice none 0 0, .int .i64 0, .int .i64 0, .int .i64 0] 44 (0, 0))) := ⟨h2_⟩; have n3_ : Aside0 (w16.heap[gb192]? = some (.cells #[.slice none 0 0, .slice none 0 0, .slice none 0 0, .int .i64 0, .int .i64 0, .slice none 0 0, .slice none 0 0, .slice none 0 0, .int .i64 0, .int .i64 0, .int .i64 0] 44 (0, 0))) := ⟨h3_⟩; have n4_ : Aside0 (w.heap.size ≤ gb192) := ⟨h4_⟩; have n5_ : Aside0 (w.heap.size ≤ gb192) := ⟨h5_⟩; have n6_ : Aside0 (gb178 ≠ gb192) := ⟨h6_⟩; have n7_ : Aside0 (gb192 ≠ gb178) := ⟨h7_⟩; have n8_ : Aside0 (gb179 ≠ gb192) := ⟨h8_⟩; have n9_ : Aside0 (gb192 ≠ gb179) := ⟨h9_⟩; have n10_ : Aside0 (Below w.heap.size w w16) := ⟨h10_⟩; clear BK178; clear BK179; clear HB; clear h0_ h1_ h2_ h3_ h4_ h5_ h6_ h7_ h8_ h9_ h10_; have HO191 := n0_; have BK178 := n1_; have BK179 := n2_; have BK192 := n3_; have GW192 := n4_; have GE192 := n5_; have NB178_192 := n6_; have NB192_178 := n7_; have NB179_192 := n8_; have NB192_179 := n9_; have HB := n10_; clear n0_ n1_ n2_ n3_ n4_ n5_ n6_ n7_ n8_ n9_ n10_; have hHeld : w16.cell? ⟨gb178, 0, none⟩ = some (.slice A0_0 l0_0.length c0_0) ∧ w16.cell? ⟨gb178, 1, none⟩ = some (.slice A0_1 l0_1.length c0_1) ∧ w16.cell? ⟨gb178, 2, none⟩ = some (.slice A0_2 l0_2.length c0_2) ∧ w16.cell? ⟨gb178, 3, none⟩ = some (.int .i64 a0_3) ∧ w16.cell? ⟨gb178, 4, none⟩ = some (.int .i64 a0_4) := hS_
               refine norm_ (a' := ?_) ?_ ?_
               rotate_left
               ·simp only [putAll, Act.put, s1, s2, s3]
                rfl
               refine one_ (i := 2) (N := some 13) #[Y,Y,Y,Y,Y,Z,Y,Y,Z,Y,Y,Y,Y,Z,Y,Y,Z,Y,Z] rfl rfl (one_of HT_.out (by kernel_rfl)) (by decide) (fun K hK => ?_)
               refine goes_ Try.func106 (by kernel_rfl) rfl #[.slice A0_0 l0_0.length c0_0] (by rfl) rfl rfl zb' ?_
               with_reducible refine (spec_l1Own.calls _ _ l0_0 t180 _ ?side1 ?side2 A3.out).mono ?_
               (case side1 => exact ze')
               (case side2 => exact zx2')
               rintro e w17 ⟨v181, rfl, ho0, hb⟩
               refine ⟨_, rfl, ?_⟩
               have n0_ := am (Kd.S_elder' zg1' (Kd.R_base ho0) hb); have n1_ := am (Kd.R_lower ho0 (below_size zd')); have n2_ := am (blk_below (g := gb178) (o := o0') zg' hb); have n3_ := am (blk_below (g := gb179) (o := o1') zh' hb); have n4_ := am (blk_below (g := gb192) (o := o1') za1' hb); have n5_ := am (below_step zd' hb); clear HO191; clear BK178; clear BK179; clear BK192; clear HB; have HO191 := n0_; have HO182 := n1_; have BK178 := n2_; have BK179 := n3_; have BK192 := n4_; have HB := n5_; clear n0_ n1_ n2_ n3_ n4_ n5_; (try clear hb); (try clear hb2); (try clear hk); (try clear hi); (try clear ho0)
               refine hK.out _ _ ⟨(blk_cell BK178.out 0).trans rfl, (blk_cell BK178.out 1).trans rfl, (blk_cell BK178.out 2).trans rfl, (blk_cell BK178.out 3).trans rfl, (blk_cell BK178.out 4).trans rfl⟩ (fun hHeld => ?_)
               clear hK K
               refine norm_ (a' := ?_) ?_ ?_
               rotate_left
               ·show Act.put _ (some 13) _ = _
                simp only [Act.put, s1, s2, s3, i64_w, i32_w]
                rfl
               exact norm_ zo' (hJ2_15_17 (v181, v190, gb192) _ ⟨hHeld, zi', zd3', zg', zh', za1', GW192.out, GE192.out, NB178_192.out, NB192_178.out, NB179_192.out, NB192_179.out, zd'⟩)
             ·skip
              rintro ⟨v181, gb192⟩ w15 ⟨hS_, h0_, h1_, h2_, h3_, h4_, h5_, h6_, h7_, h8_, h9_, h10_⟩
              have n0_ : Aside0 (Kd.R (Kd.int .i64) 3 w15 w.heap.size (fun _ => True) v181 t180) := ⟨h0_⟩; have n1_ : Aside0 (w15.heap[gb178]? = some (.cells #[.slice A0_0 l0_0.length c0_0, .slice A0_1 l0_1.length c0_1, .slice A0_2 l0_2.length c0_2, .int .i64 a0_3, .int .i64 a0_4] 27 (0, 0))) := ⟨h1_⟩; have n2_ : Aside0 (w15.heap[gb179]? = some (.cells #[.slice none 0 0, .slice none 0 0, .slice none 0 0, .int .i64 0, .int .i64 0, .slice none 0 0, .slice none 0 0, .slice none 0 0, .int .i64 0, .int .i64 0, .int .i64 0] 44 (0, 0))) := ⟨h2_⟩; have n3_ : Aside0 (w15.heap[gb192]? = some (.cells #[.slice none 0 0, .slice none 0 0, .slice none 0 0, .int .i64 0, .int .i64 0, .slice none 0 0, .slice none 0 0, .slice none 0 0, .int .i64 0, .int .i64 0, .int .i64 0] 44 (0, 0))) := ⟨h3_⟩; have n4_ : Aside0 (w.heap.size ≤ gb192) := ⟨h4_⟩; have n5_ : Aside0 (w.heap.size ≤ gb192) := ⟨h5_⟩; have n6_ : Aside0 (gb178 ≠ gb192) := ⟨h6_⟩; have n7_ : Aside0 (gb192 ≠ gb178) := ⟨h7_⟩; have n8_ : Aside0 (gb179 ≠ gb192) := ⟨h8_⟩; have n9_ : Aside0 (gb192 ≠ gb179) := ⟨h9_⟩; have n10_ : Aside0 (Below w.heap.size w w15) := ⟨h10_⟩; clear BK178; clear BK179; clear HB; clear h0_ h1_ h2_ h3_ h4_ h5_ h6_ h7_ h8_ h9_ h10_; have HO182 := n0_; have BK178 := n1_; have BK179 := n2_; have BK192 := n3_; have GW192 := n4_; have GE192 := n5_; have NB178_192 := n6_; have NB192_178 := n7_; have NB179_192 := n8_; have NB192_179 := n9_; have HB := n10_; clear n0_ n1_ n2_ n3_ n4_ n5_ n6_ n7_ n8_ n9_ n10_; have hHeld : w15.cell? ⟨gb178, 0, none⟩ = some (.slice A0_0 l0_0.length c0_0) ∧ w15.cell? ⟨gb178, 1, none⟩ = some (.slice A0_1 l0_1.length c0_1) ∧ w15.cell? ⟨gb178, 2, none⟩ = some (.slice A0_2 l0_2.length c0_2) ∧ w15.cell? ⟨gb178, 3, none⟩ = some (.int .i64 a0_3) ∧ w15.cell? ⟨gb178, 4, none⟩ = some (.int .i64 a0_4) := hS_
              refine norm_ (a' := ?_) ?_ ?_
              rotate_left
              ·simp only [putAll, Act.put, s1, s2, s3]
               rfl
              refine two_ (i := 5) (j := 15) (Ni := some 16) (Nj := some 26) #[Y,Y,Y,Y,Y,Y,Y,Y,Z,Y,Y,Y,Y,Z,Y,Z,Z,Y,Z] #[Y,Y,Y,Y,Y,Z,Y,Y,Z,Y,Y,Y,Y,Z,Y,Y,Z,Y,Z] rfl rfl rfl rfl (two_of HT_.out (by kernel_rfl)) (by decide) (by decide) (fun K hK => ?_) (fun K hK => ?_)
              ·skip
               refine goes_ Try.func106 (by kernel_rfl) rfl #[.slice A0_1 l0_1.length c0_1] (by rfl) rfl rfl zb' ?_
               with_reducible refine (spec_l1Own.calls _ _ l0_1 t183 _ ?side1 ?side2 A4.out).mono ?_
               (case side1 => exact zl')
               (case side2 => exact zb3')
               rintro e w16 ⟨v184, rfl, ho0, hb⟩
               refine ⟨_, rfl, ?_⟩
               have n0_ := am (Kd.R_elder' zi' (Kd.R_base ho0) hb); have n1_ := am (Kd.R_lower (Kd.R_new' ho0 (Kd.R_lt zi')) (below_size zd')); have n2_ := am (blk_below (g := gb178) (o := o0') zg' hb); have n3_ := am (blk_below (g := gb179) (o := o1') zh' hb); have n4_ := am (blk_below (g := gb192) (o := o1') za1' hb); have n5_ := am (below_step zd' hb); clear HO182; clear BK178; clear BK179; clear BK192; clear HB; have HO182 := n0_; have HO185 := n1_; have BK178 := n2_; have BK179 := n3_; have BK192 := n4_; have HB := n5_; clear n0_ n1_ n2_ n3_ n4_ n5_; (try clear hb); (try clear hb2); (try clear hk); (try clear hi); (try clear ho0)
               refine hK.out _ _ ⟨(blk_cell BK178.out 0).trans rfl, (blk_cell BK178.out 1).trans rfl, (blk_cell BK178.out 2).trans rfl, (blk_cell BK178.out 3).trans rfl, (blk_cell BK178.out 4).trans rfl⟩ (fun hHeld => ?_)
               clear hK K
               refine norm_ (a' := ?_) ?_ ?_
               rotate_left
               ·show Act.put _ (some 16) _ = _
                simp only [Act.put, s1, s2, s3, i64_w, i32_w]
                rfl
               exact norm_ zo' (hJ2_5_17 (v181, v184, gb192) _ ⟨hHeld, ze3', zf3', zg', zh', za1', GW192.out, GE192.out, NB178_192.out, NB192_178.out, NB179_192.out, NB192_179.out, zd'⟩)
              ·skip
               refine Kd.S_make_step (Kd.slice 3 (Kd.int .i64)) _ 22 (by rfl) (N := 26) rfl 37 _ _ rfl (l0_0.length : Int) rfl rfl Try.underlying37 (.slice none 0 0) 24 info22 rfl (by decide) (by omega) [] (ok := fun _ => True) (okp := fun _ => True) ⟨_, rfl, Kd.R_nil _ _ _ _ _⟩ (fun _ hk => hk) trivial odt (Nat.le_trans (Nat.mul_le_mul_right _ (odt : (l0_0.length : Int).toNat ≤ 11728124029610)) (by omega)) (Below.refl _ _) (Nat.le_refl _) ?_
               intro v190 w16 ho17 hb hg_ hnew_
               clear hg_ hnew_
               (first | rw [← Ny189.out] at ho17 | (simp only [Int.reduceToNat] at ho17; rw [← Ny189.out] at ho17))
               have n0_ := am (Kd.R_below zi' hb); have n1_ := am (Kd.S_lower (Kd.S_new' ho17 (Kd.R_lt zi')) (below_size zd')); have n2_ := am (blk_below (g := gb178) (o := o0') zg' hb); have n3_ := am (blk_below (g := gb179) (o := o1') zh' hb); have n4_ := am (blk_below (g := gb192) (o := o1') za1' hb); have n5_ := am (below_step zd' hb); clear HO182; clear BK178; clear BK179; clear BK192; clear HB; have HO182 := n0_; have HO191 := n1_; have BK178 := n2_; have BK179 := n3_; have BK192 := n4_; have HB := n5_; clear n0_ n1_ n2_ n3_ n4_ n5_; clear hb ho17
               refine hK.out _ _ ⟨(blk_cell BK178.out 0).trans rfl, (blk_cell BK178.out 1).trans rfl, (blk_cell BK178.out 2).trans rfl, (blk_cell BK178.out 3).trans rfl, (blk_cell BK178.out 4).trans rfl⟩ (fun hHeld => ?_)
               clear hK K
               refine norm_ (a' := ?_) ?_ ?_
               rotate_left
               ·show Act.put _ (some 26) _ = _
                simp only [Act.put, s1, s2, s3, i64_w, i32_w]
                rfl
               exact norm_ zo' (hJ2_15_17 (v181, v190, gb192) _ ⟨hHeld, zi', zd3', zg', zh', za1', GW192.out, GE192.out, NB178_192.out, NB192_178.out, NB179_192.out, NB192_179.out, zd'⟩)
            ·skip
             rintro ⟨v181, v190⟩ w16 ⟨hS_, h0_, h1_, h2_, h3_, h4_⟩
             have n0_ : Aside0 (Kd.R (Kd.int .i64) 3 w16 w.heap.size (fun _ => True) v181 t180) := ⟨h0_⟩; have n1_ : Aside0 (Kd.S (Kd.slice 3 (Kd.int .i64)) 22 w16 w.heap.size (fun k_ => some k_ ≠ (v181 : Value).ownBlock) v190 y189) := ⟨h1_⟩; have n2_ : Aside0 (w16.heap[gb178]? = some (.cells #[.slice A0_0 l0_0.length c0_0, .slice A0_1 l0_1.length c0_1, .slice A0_2 l0_2.length c0_2, .int .i64 a0_3, .int .i64 a0_4] 27 (0, 0))) := ⟨h2_⟩; have n3_ : Aside0 (w16.heap[gb179]? = some (.cells #[.slice none 0 0, .slice none 0 0, .slice none 0 0, .int .i64 0, .int .i64 0, .slice none 0 0, .slice none 0 0, .slice none 0 0, .int .i64 0, .int .i64 0, .int .i64 0] 44 (0, 0))) := ⟨h3_⟩; have n4_ : Aside0 (Below w.heap.size w w16) := ⟨h4_⟩; clear BK178; clear BK179; clear HB; clear h0_ h1_ h2_ h3_ h4_; have HO182 := n0_; have HO191 := n1_; have BK178 := n2_; have BK179 := n3_; have HB := n4_; clear n0_ n1_ n2_ n3_ n4_; have hHeld : w16.cell? ⟨gb178, 0, none⟩ = some (.slice A0_0 l0_0.length c0_0) ∧ w16.cell? ⟨gb178, 1, none⟩ = some (.slice A0_1 l0_1.length c0_1) ∧ w16.cell? ⟨gb178, 2, none⟩ = some (.slice A0_2 l0_2.length c0_2) ∧ w16.cell? ⟨gb178, 3, none⟩ = some (.int .i64 a0_3) ∧ w16.cell? ⟨gb178, 4, none⟩ = some (.int .i64 a0_4) := hS_
             refine norm_ (a' := ?_) ?_ ?_
             rotate_left
             ·simp only [putAll, Act.put, s1, s2, s3]
              rfl
             refine two_ (i := 5) (j := 17) (Ni := some 16) (Nj := some 6) #[Y,Y,Y,Y,Y,Y,Y,Y,Z,Y,Y,Y,Y,Z,Y,Y,Z,Z,Z] #[Y,Y,Y,Y,Y,Z,Y,Y,Z,Y,Y,Y,Y,Z,Y,Y,Z,Y,Z] rfl rfl rfl rfl (two_of HT_.out (by kernel_rfl)) (by decide) (by decide) (fun K hK => ?_) (fun K hK => ?_)
             ·skip
              refine goes_ Try.func106 (by kernel_rfl) rfl #[.slice A0_1 l0_1.length c0_1] (by rfl) rfl rfl zb' ?_
              with_reducible refine (spec_l1Own.calls _ _ l0_1 t183 _ ?side1 ?side2 A4.out).mono ?_
              (case side1 => exact zl')
              (case side2 => exact zb3')
              rintro e w17 ⟨v184, rfl, ho0, hb⟩
              refine ⟨_, rfl, ?_⟩
              have n0_ := am (Kd.R_elder' zi' (Kd.R_base ho0) hb); have n1_ := am (Kd.S_elder' zg1' (Kd.R_base ho0) hb); have n2_ := am (Kd.R_lower (Kd.R_new' ho0 (Kd.R_lt zi')) (below_size zc')); have n3_ := am (blk_below (g := gb178) (o := o0') zg' hb); have n4_ := am (blk_below (g := gb179) (o := o1') zh' hb); have n5_ := am (below_step zc' hb); clear HO182; clear HO191; clear BK178; clear BK179; clear HB; have HO182 := n0_; have HO191 := n1_; have HO185 := n2_; have BK178 := n3_; have BK179 := n4_; have HB := n5_; clear n0_ n1_ n2_ n3_ n4_ n5_; (try clear hb); (try clear hb2); (try clear hk); (try clear hi); (try clear ho0)
              refine hK.out _ _ ⟨(blk_cell BK178.out 0).trans rfl, (blk_cell BK178.out 1).trans rfl, (blk_cell BK178.out 2).trans rfl, (blk_cell BK178.out 3).trans rfl, (blk_cell BK178.out 4).trans rfl⟩ (fun hHeld => ?_)
              clear hK K
              refine norm_ (a' := ?_) ?_ ?_
              rotate_left
              ·show Act.put _ (some 16) _ = _
               simp only [Act.put, s1, s2, s3, i64_w, i32_w]
               rfl
              exact norm_ zo' (hJ2_5_15 (v181, v184, v190) _ ⟨hHeld, ze3', zf3', zg1', zg', zh', zc'⟩)
             ·skip
              refine box_step ?hg (N := 6) ?hd (cs := #[.slice none 0 0, .slice none 0 0, .slice none 0 0, .int .i64 0, .int .i64 0, .slice none 0 0, .slice none 0 0, .slice none 0 0, .int .i64 0, .int .i64 0, .int .i64 0]) (t := 44) ?hr ?_; (case hd => rfl); (case hg => rfl); (case hr => exact zq')
              intro gb192 hg w17 hbox hb
              have n0_ := am (Kd.R_below zi' hb); have n1_ := am (Kd.S_below zg1' hb); have n2_ := am (blk_below (g := gb178) (o := o0') zg' hb); have n3_ := am (blk_below (g := gb179) (o := o1') zh' hb); have n4_ := am (below_step zc' hb); have n5_ := am (hbox); have n6_ := am ((by rw [hg]; exact (below_size zc') : w.heap.size ≤ gb192)); have n7_ := am ((by rw [hg]; exact (below_size zc') : w.heap.size ≤ gb192)); have n8_ := am ((by rw [hg]; exact Nat.ne_of_lt (blk_lt (g := gb178) (o := o0') zg') : gb178 ≠ gb192)); have n9_ := am ((by rw [hg]; exact Nat.ne_of_gt (blk_lt (g := gb178) (o := o0') zg') : gb192 ≠ gb178)); have n10_ := am ((by rw [hg]; exact Nat.ne_of_lt (blk_lt (g := gb179) (o := o1') zh') : gb179 ≠ gb192)); have n11_ := am ((by rw [hg]; exact Nat.ne_of_gt (blk_lt (g := gb179) (o := o1') zh') : gb192 ≠ gb179)); clear HO182; clear HO191; clear BK178; clear BK179; clear HB; have HO182 := n0_; have HO191 := n1_; have BK178 := n2_; have BK179 := n3_; have HB := n4_; have BK192 := n5_; have GW192 := n6_; have GE192 := n7_; have NB178_192 := n8_; have NB192_178 := n9_; have NB179_192 := n10_; have NB192_179 := n11_; clear n0_ n1_ n2_ n3_ n4_ n5_ n6_ n7_ n8_ n9_ n10_ n11_; clear hb hbox hg
              refine hK.out _ _ ⟨(blk_cell BK178.out 0).trans rfl, (blk_cell BK178.out 1).trans rfl, (blk_cell BK178.out 2).trans rfl, (blk_cell BK178.out 3).trans rfl, (blk_cell BK178.out 4).trans rfl⟩ (fun hHeld => ?_)
              clear hK K
              refine norm_ (a' := ?_) ?_ ?_
              rotate_left
              ·show Act.put _ (some 6) _ = _
               simp only [Act.put, s1, s2, s3, i64_w, i32_w]
               rfl
              exact norm_ zo' (hJ2_15_17 (v181, v190, gb192) _ ⟨hHeld, zi', zg1', zg', zh', za1', GW192.out, GE192.out, NB178_192.out, NB192_178.out, NB179_192.out, NB192_179.out, zd'⟩)
           ·skip
            rintro ⟨v181, v184⟩ w15 ⟨hS_, h0_, h1_, h2_, h3_, h4_⟩
            have n0_ : Aside0 (Kd.R (Kd.int .i64) 3 w15 w.heap.size (fun k_ => some k_ ≠ (v184 : Value).ownBlock) v181 t180) := ⟨h0_⟩; have n1_ : Aside0 (Kd.R (Kd.int .i64) 3 w15 w.heap.size (fun k_ => some k_ ≠ (v181 : Value).ownBlock) v184 t183) := ⟨h1_⟩; have n2_ : Aside0 (w15.heap[gb178]? = some (.cells #[.slice A0_0 l0_0.length c0_0, .slice A0_1 l0_1.length c0_1, .slice A0_2 l0_2.length c0_2, .int .i64 a0_3, .int .i64 a0_4] 27 (0, 0))) := ⟨h2_⟩; have n3_ : Aside0 (w15.heap[gb179]? = some (.cells #[.slice none 0 0, .slice none 0 0, .slice none 0 0, .int .i64 0, .int .i64 0, .slice none 0 0, .slice none 0 0, .slice none 0 0, .int .i64 0, .int .i64 0, .int .i64 0] 44 (0, 0))) := ⟨h3_⟩; have n4_ : Aside0 (Below w.heap.size w w15) := ⟨h4_⟩; clear BK178; clear BK179; clear HB; clear h0_ h1_ h2_ h3_ h4_; have HO182 := n0_; have HO185 := n1_; have BK178 := n2_; have BK179 := n3_; have HB := n4_; clear n0_ n1_ n2_ n3_ n4_; have hHeld : w15.cell? ⟨gb178, 0, none⟩ = some (.slice A0_0 l0_0.length c0_0) ∧ w15.cell? ⟨gb178, 1, none⟩ = some (.slice A0_1 l0_1.length c0_1) ∧ w15.cell? ⟨gb178, 2, none⟩ = some (.slice A0_2 l0_2.length c0_2) ∧ w15.cell? ⟨gb178, 3, none⟩ = some (.int .i64 a0_3) ∧ w15.cell? ⟨gb178, 4, none⟩ = some (.int .i64 a0_4) := hS_
            refine norm_ (a' := ?_) ?_ ?_
            rotate_left
            ·simp only [putAll, Act.put, s1, s2, s3]
             rfl
            refine three_ (i := 8) (j := 15) (k := 17) (Ni := some 19) (Nj := some 26) (Nk := some 6) #[Y,Y,Y,Y,Y,Y,Y,Y,Y,Y,Y,Y,Y,Z,Y,Z,Z,Z,Z] #[Y,Y,Y,Y,Y,Y,Y,Y,Z,Y,Y,Y,Y,Z,Y,Y,Z,Z,Z] #[Y,Y,Y,Y,Y,Y,Y,Y,Z,Y,Y,Y,Y,Z,Y,Z,Z,Y,Z] rfl rfl rfl rfl rfl rfl (three_of HT_.out (by kernel_rfl)) (by decide) (by decide) (by decide) (fun K hK => ?_) (fun K hK => ?_) (fun K hK => ?_)
            ·skip
             refine goes_ Try.func106 (by kernel_rfl) rfl #[.slice A0_2 l0_2.length c0_2] (by rfl) rfl rfl zb' ?_
             with_reducible refine (spec_l1Own.calls _ _ l0_2 t186 _ ?side1 ?side2 A5.out).mono ?_
             (case side1 => exact zm')
             (case side2 => exact zh3')
             rintro e w16 ⟨v187, rfl, ho0, hb⟩
             refine ⟨_, rfl, ?_⟩
             have n0_ := am (Kd.R_elder' zi' (Kd.R_base ho0) hb); have n1_ := am (Kd.R_elder' zs' (Kd.R_base ho0) hb); have n2_ := am (Kd.R_lower (Kd.R_new' (Kd.R_new' ho0 (Kd.R_lt zi')) (Kd.R_lt zs')) (below_size zc')); have n3_ := am (blk_below (g := gb178) (o := o0') zg' hb); have n4_ := am (blk_below (g := gb179) (o := o1') zh' hb); have n5_ := am (below_step zc' hb); clear HO182; clear HO185; clear BK178; clear BK179; clear HB; have HO182 := n0_; have HO185 := n1_; have HO188 := n2_; have BK178 := n3_; have BK179 := n4_; have HB := n5_; clear n0_ n1_ n2_ n3_ n4_ n5_; (try clear hb); (try clear hb2); (try clear hk); (try clear hi); (try clear ho0); obtain ⟨Ao17, co17, eo17⟩ := Kd.R_slice HO188.out
             (first | subst eo17 | (injection eo17 with f1_ f2_ f3_; have f4_ := f1_.symm; have f5_ := f3_.symm; clear f1_ f2_ f3_; subst f4_; subst f5_))
             obtain ⟨Ao18, co18, eo18⟩ := Kd.R_slice HO185.out
             (first | subst eo18 | (injection eo18 with f1_ f2_ f3_; have f4_ := f1_.symm; have f5_ := f3_.symm; clear f1_ f2_ f3_; subst f4_; subst f5_))
             obtain ⟨Ao19, co19, eo19⟩ := Kd.R_slice HO182.out
             (first | subst eo19 | (injection eo19 with f1_ f2_ f3_; have f4_ := f1_.symm; have f5_ := f3_.symm; clear f1_ f2_ f3_; subst f4_; subst f5_))
             refine hK.out _ _ ⟨(blk_cell BK178.out 0).trans rfl, (blk_cell BK178.out 1).trans rfl, (blk_cell BK178.out 2).trans rfl, (blk_cell BK178.out 3).trans rfl, (blk_cell BK178.out 4).trans rfl⟩ (fun hHeld => ?_)
             clear hK K
             refine norm_ (a' := ?_) ?_ ?_
             rotate_left
             ·show Act.put _ (some 19) _ = _
              simp only [Act.put, s1, s2, s3, i64_w, i32_w]
              rfl
             refine pure_ (i := 13) (N := some 24) (v := ?_) (a' := ?_) #[Y,Y,Y,Y,Y,Y,Y,Y,Y,Y,Y,Y,Y,Y,Y,Z,Z,Z,Z] rfl rfl (any_of HT_.out (by kernel_rfl)) (fun _ _ _ h => h) (Or.inl ⟨by rfl, ?_⟩) ?_ ?_
             rotate_left
             ·intro w'
              go_simp
              with_reducible rfl
             rotate_left
             ·simp only [Act.put, s1, s2, s3, i64_w, i32_w]
              rfl
             exact norm_ zo' (hJ2_5_8 (.slice Ao19 t180.length co19, .slice Ao18 t183.length co18, .slice Ao17 t186.length co17) _ ⟨hHeld, zi', zs', zy2', zg', zh', zc'⟩)
            ·skip
             refine Kd.S_make_step (Kd.slice 3 (Kd.int .i64)) _ 22 (by rfl) (N := 26) rfl 37 _ _ rfl (l0_0.length : Int) rfl rfl Try.underlying37 (.slice none 0 0) 24 info22 rfl (by decide) (by omega) [] (ok := fun _ => True) (okp := fun _ => True) ⟨_, rfl, Kd.R_nil _ _ _ _ _⟩ (fun _ hk => hk) trivial odt (Nat.le_trans (Nat.mul_le_mul_right _ (odt : (l0_0.length : Int).toNat ≤ 11728124029610)) (by omega)) (Below.refl _ _) (Nat.le_refl _) ?_
             intro v190 w16 ho17 hb hg_ hnew_
             clear hg_ hnew_
             (first | rw [← Ny189.out] at ho17 | (simp only [Int.reduceToNat] at ho17; rw [← Ny189.out] at ho17))
             have n0_ := am (Kd.R_below zi' hb); have n1_ := am (Kd.R_below zs' hb); have n2_ := am (Kd.S_lower (Kd.S_new' (Kd.S_new' ho17 (Kd.R_lt zi')) (Kd.R_lt zs')) (below_size zc')); have n3_ := am (blk_below (g := gb178) (o := o0') zg' hb); have n4_ := am (blk_below (g := gb179) (o := o1') zh' hb); have n5_ := am (below_step zc' hb); clear HO182; clear HO185; clear BK178; clear BK179; clear HB; have HO182 := n0_; have HO185 := n1_; have HO191 := n2_; have BK178 := n3_; have BK179 := n4_; have HB := n5_; clear n0_ n1_ n2_ n3_ n4_ n5_; clear hb ho17
             refine hK.out _ _ ⟨(blk_cell BK178.out 0).trans rfl, (blk_cell BK178.out 1).trans rfl, (blk_cell BK178.out 2).trans rfl, (blk_cell BK178.out 3).trans rfl, (blk_cell BK178.out 4).trans rfl⟩ (fun hHeld => ?_)
             clear hK K
             refine norm_ (a' := ?_) ?_ ?_
             rotate_left
             ·show Act.put _ (some 26) _ = _
              simp only [Act.put, s1, s2, s3, i64_w, i32_w]
              rfl
             exact norm_ zo' (hJ2_5_15 (v181, v184, v190) _ ⟨hHeld, zi', zs', ze5', zg', zh', zc'⟩)
            ·skip
             refine box_step ?hg (N := 6) ?hd (cs := #[.slice none 0 0, .slice none 0 0, .slice none 0 0, .int .i64 0, .int .i64 0, .slice none 0 0, .slice none 0 0, .slice none 0 0, .int .i64 0, .int .i64 0, .int .i64 0]) (t := 44) ?hr ?_; (case hd => rfl); (case hg => rfl); (case hr => exact zq')
             intro gb192 hg w16 hbox hb
             have n0_ := am (Kd.R_below zi' hb); have n1_ := am (Kd.R_below zs' hb); have n2_ := am (blk_below (g := gb178) (o := o0') zg' hb); have n3_ := am (blk_below (g := gb179) (o := o1') zh' hb); have n4_ := am (below_step zc' hb); have n5_ := am (hbox); have n6_ := am ((by rw [hg]; exact (below_size zc') : w.heap.size ≤ gb192)); have n7_ := am ((by rw [hg]; exact (below_size zc') : w.heap.size ≤ gb192)); have n8_ := am ((by rw [hg]; exact Nat.ne_of_lt (blk_lt (g := gb178) (o := o0') zg') : gb178 ≠ gb192)); have n9_ := am ((by rw [hg]; exact Nat.ne_of_gt (blk_lt (g := gb178) (o := o0') zg') : gb192 ≠ gb178)); have n10_ := am ((by rw [hg]; exact Nat.ne_of_lt (blk_lt (g := gb179) (o := o1') zh') : gb179 ≠ gb192)); have n11_ := am ((by rw [hg]; exact Nat.ne_of_gt (blk_lt (g := gb179) (o := o1') zh') : gb192 ≠ gb179)); clear HO182; clear HO185; clear BK178; clear BK179; clear HB; have HO182 := n0_; have HO185 := n1_; have BK178 := n2_; have BK179 := n3_; have HB := n4_; have BK192 := n5_; have GW192 := n6_; have GE192 := n7_; have NB178_192 := n8_; have NB192_178 := n9_; have NB179_192 := n10_; have NB192_179 := n11_; clear n0_ n1_ n2_ n3_ n4_ n5_ n6_ n7_ n8_ n9_ n10_ n11_; clear hb hbox hg
             refine hK.out _ _ ⟨(blk_cell BK178.out 0).trans rfl, (blk_cell BK178.out 1).trans rfl, (blk_cell BK178.out 2).trans rfl, (blk_cell BK178.out 3).trans rfl, (blk_cell BK178.out 4).trans rfl⟩ (fun hHeld => ?_)
             clear hK K
             refine norm_ (a' := ?_) ?_ ?_
             rotate_left
             ·show Act.put _ (some 6) _ = _
              simp only [Act.put, s1, s2, s3, i64_w, i32_w]
              rfl
             exact norm_ zo' (hJ2_5_17 (v181, v184, gb192) _ ⟨hHeld, zi', zs', zg', zh', za1', GW192.out, GE192.out, NB178_192.out, NB192_178.out, NB179_192.out, NB192_179.out, zd'⟩)
          ·skip
           rintro ⟨v181, v190, gb192⟩ w17 ⟨hS_, h0_, h1_, h2_, h3_, h4_, h5_, h6_, h7_, h8_, h9_, h10_, h11_⟩
           have n0_ : Aside0 (Kd.R (Kd.int .i64) 3 w17 w.heap.size (fun _ => True) v181 t180) := ⟨h0_⟩; have n1_ : Aside0 (Kd.S (Kd.slice 3 (Kd.int .i64)) 22 w17 w.heap.size (fun k_ => some k_ ≠ (v181 : Value).ownBlock) v190 y189) := ⟨h1_⟩; have n2_ : Aside0 (w17.heap[gb178]? = some (.cells #[.slice A0_0 l0_0.length c0_0, .slice A0_1 l0_1.length c0_1, .slice A0_2 l0_2.length c0_2, .int .i64 a0_3, .int .i64 a0_4] 27 (0, 0))) := ⟨h2_⟩; have n3_ : Aside0 (w17.heap[gb179]? = some (.cells #[.slice none 0 0, .slice none 0 0, .slice none 0 0, .int .i64 0, .int .i64 0, .slice none 0 0, .slice none 0 0, .slice none 0 0, .int .i64 0, .int .i64 0, .int .i64 0] 44 (0, 0))) := ⟨h3_⟩; have n4_ : Aside0 (w17.heap[gb192]? = some (.cells #[.slice none 0 0, .slice none 0 0, .slice none 0 0, .int .i64 0, .int .i64 0, .slice none 0 0, .slice none 0 0, .slice none 0 0, .int .i64 0, .int .i64 0, .int .i64 0] 44 (0, 0))) := ⟨h4_⟩; have n5_ : Aside0 (w.heap.size ≤ gb192) := ⟨h5_⟩; have n6_ : Aside0 (w.heap.size ≤ gb192) := ⟨h6_⟩; have n7_ : Aside0 (gb178 ≠ gb192) := ⟨h7_⟩; have n8_ : Aside0 (gb192 ≠ gb178) := ⟨h8_⟩; have n9_ : Aside0 (gb179 ≠ gb192) := ⟨h9_⟩; have n10_ : Aside0 (gb192 ≠ gb179) := ⟨h10_⟩; have n11_ : Aside0 (Below w.heap.size w w17) := ⟨h11_⟩; clear BK178; clear BK179; clear HB; clear h0_ h1_ h2_ h3_ h4_ h5_ h6_ h7_ h8_ h9_ h10_ h11_; have HO182 := n0_; have HO191 := n1_; have BK178 := n2_; have BK179 := n3_; have BK192 := n4_; have GW192 := n5_; have GE192 := n6_; have NB178_192 := n7_; have NB192_178 := n8_
           have NB179_192 := n9_; have NB192_179 := n10_; have HB := n11_; clear n0_ n1_ n2_ n3_ n4_ n5_ n6_ n7_ n8_ n9_ n10_ n11_; have hHeld : w17.cell? ⟨gb178, 0, none⟩ = some (.slice A0_0 l0_0.length c0_0) ∧ w17.cell? ⟨gb178, 1, none⟩ = some (.slice A0_1 l0_1.length c0_1) ∧ w17.cell? ⟨gb178, 2, none⟩ = some (.slice A0_2 l0_2.length c0_2) ∧ w17.cell? ⟨gb178, 3, none⟩ = some (.int .i64 a0_3) ∧ w17.cell? ⟨gb178, 4, none⟩ = some (.int .i64 a0_4) := hS_
           refine norm_ (a' := ?_) ?_ ?_
           rotate_left
           ·simp only [putAll, Act.put, s1, s2, s3]
            rfl
           refine one_ (i := 5) (N := some 16) #[Y,Y,Y,Y,Y,Y,Y,Y,Z,Y,Y,Y,Y,Z,Y,Y,Z,Y,Z] rfl rfl (one_of HT_.out (by kernel_rfl)) (by decide) (fun K hK => ?_)
           refine goes_ Try.func106 (by kernel_rfl) rfl #[.slice A0_1 l0_1.length c0_1] (by rfl) rfl rfl zb' ?_
           with_reducible refine (spec_l1Own.calls _ _ l0_1 t183 _ ?side1 ?side2 A4.out).mono ?_
           (case side1 => exact zl')
           (case side2 => exact zb3')
           rintro e w18 ⟨v184, rfl, ho0, hb⟩
           refine ⟨_, rfl, ?_⟩
           have n0_ := am (Kd.R_elder' zi' (Kd.R_base ho0) hb); have n1_ := am (Kd.S_elder' zg1' (Kd.R_base ho0) hb); have n2_ := am (Kd.R_lower (Kd.R_new' ho0 (Kd.R_lt zi')) (below_size zd')); have n3_ := am (blk_below (g := gb178) (o := o0') zg' hb); have n4_ := am (blk_below (g := gb179) (o := o1') zh' hb); have n5_ := am (blk_below (g := gb192) (o := o1') za1' hb); have n6_ := am (below_step zd' hb); clear HO182; clear HO191; clear BK178; clear BK179; clear BK192; clear HB; have HO182 := n0_; have HO191 := n1_; have HO185 := n2_; have BK178 := n3_; have BK179 := n4_; have BK192 := n5_; have HB := n6_; clear n0_ n1_ n2_ n3_ n4_ n5_ n6_; (try clear hb); (try clear hb2); (try clear hk); (try clear hi); (try clear ho0)
           refine hK.out _ _ ⟨(blk_cell BK178.out 0).trans rfl, (blk_cell BK178.out 1).trans rfl, (blk_cell BK178.out 2).trans rfl, (blk_cell BK178.out 3).trans rfl, (blk_cell BK178.out 4).trans rfl⟩ (fun hHeld => ?_)
           clear hK K
           refine norm_ (a' := ?_) ?_ ?_
           rotate_left
           ·show Act.put _ (some 16) _ = _
            simp only [Act.put, s1, s2, s3, i64_w, i32_w]
            rfl
           exact norm_ zo' (hJ2_5_15_17 (v181, v184, v190, gb192) _ ⟨hHeld, ze3', zf3', zg1', zg', zh', za1', GW192.out, GE192.out, NB178_192.out, NB192_178.out, NB179_192.out, NB192_179.out, zd'⟩)
         ·skip
          rintro ⟨v181, v184, gb192⟩ w16 ⟨hS_, h0_, h1_, h2_, h3_, h4_, h5_, h6_, h7_, h8_, h9_, h10_, h11_⟩
          have n0_ : Aside0 (Kd.R (Kd.int .i64) 3 w16 w.heap.size (fun k_ => some k_ ≠ (v184 : Value).ownBlock) v181 t180) := ⟨h0_⟩; have n1_ : Aside0 (Kd.R (Kd.int .i64) 3 w16 w.heap.size (fun k_ => some k_ ≠ (v181 : Value).ownBlock) v184 t183) := ⟨h1_⟩; have n2_ : Aside0 (w16.heap[gb178]? = some (.cells #[.slice A0_0 l0_0.length c0_0, .slice A0_1 l0_1.length c0_1, .slice A0_2 l0_2.length c0_2, .int .i64 a0_3, .int .i64 a0_4] 27 (0, 0))) := ⟨h2_⟩; have n3_ : Aside0 (w16.heap[gb179]? = some (.cells #[.slice none 0 0, .slice none 0 0, .slice none 0 0, .int .i64 0, .int .i64 0, .slice none 0 0, .slice none 0 0, .slice none 0 0, .int .i64 0, .int .i64 0, .int .i64 0] 44 (0, 0))) := ⟨h3_⟩; have n4_ : Aside0 (w16.heap[gb192]? = some (.cells #[.slice none 0 0, .slice none 0 0, .slice none 0 0, .int .i64 0, .int .i64 0, .slice none 0 0, .slice none 0 0, .slice none 0 0, .int .i64 0, .int .i64 0, .int .i64 0] 44 (0, 0))) := ⟨h4_⟩; have n5_ : Aside0 (w.heap.size ≤ gb192) := ⟨h5_⟩; have n6_ : Aside0 (w.heap.size ≤ gb192) := ⟨h6_⟩; have n7_ : Aside0 (gb178 ≠ gb192) := ⟨h7_⟩; have n8_ : Aside0 (gb192 ≠ gb178) := ⟨h8_⟩; have n9_ : Aside0 (gb179 ≠ gb192) := ⟨h9_⟩; have n10_ : Aside0 (gb192 ≠ gb179) := ⟨h10_⟩; have n11_ : Aside0 (Below w.heap.size w w16) := ⟨h11_⟩; clear BK178; clear BK179; clear HB; clear h0_ h1_ h2_ h3_ h4_ h5_ h6_ h7_ h8_ h9_ h10_ h11_; have HO182 := n0_; have HO185 := n1_; have BK178 := n2_; have BK179 := n3_; have BK192 := n4_; have GW192 := n5_; have GE192 := n6_; have NB178_192 := n7_
          have NB192_178 := n8_; have NB179_192 := n9_; have NB192_179 := n10_; have HB := n11_; clear n0_ n1_ n2_ n3_ n4_ n5_ n6_ n7_ n8_ n9_ n10_ n11_; have hHeld : w16.cell? ⟨gb178, 0, none⟩ = some (.slice A0_0 l0_0.length c0_0) ∧ w16.cell? ⟨gb178, 1, none⟩ = some (.slice A0_1 l0_1.length c0_1) ∧ w16.cell? ⟨gb178, 2, none⟩ = some (.slice A0_2 l0_2.length c0_2) ∧ w16.cell? ⟨gb178, 3, none⟩ = some (.int .i64 a0_3) ∧ w16.cell? ⟨gb178, 4, none⟩ = some (.int .i64 a0_4) := hS_
          refine norm_ (a' := ?_) ?_ ?_
          rotate_left
          ·simp only [putAll, Act.put, s1, s2, s3]
           rfl
          refine two_ (i := 8) (j := 15) (Ni := some 19) (Nj := some 26) #[Y,Y,Y,Y,Y,Y,Y,Y,Y,Y,Y,Y,Y,Z,Y,Z,Z,Y,Z] #[Y,Y,Y,Y,Y,Y,Y,Y,Z,Y,Y,Y,Y,Z,Y,Y,Z,Y,Z] rfl rfl rfl rfl (two_of HT_.out (by kernel_rfl)) (by decide) (by decide) (fun K hK => ?_) (fun K hK => ?_)
          ·skip
           refine goes_ Try.func106 (by kernel_rfl) rfl #[.slice A0_2 l0_2.length c0_2] (by rfl) rfl rfl zb' ?_
           with_reducible refine (spec_l1Own.calls _ _ l0_2 t186 _ ?side1 ?side2 A5.out).mono ?_
           (case side1 => exact zm')
           (case side2 => exact zh3')
           rintro e w17 ⟨v187, rfl, ho0, hb⟩
           refine ⟨_, rfl, ?_⟩
           have n0_ := am (Kd.R_elder' zi' (Kd.R_base ho0) hb); have n1_ := am (Kd.R_elder' zs' (Kd.R_base ho0) hb); have n2_ := am (Kd.R_lower (Kd.R_new' (Kd.R_new' ho0 (Kd.R_lt zi')) (Kd.R_lt zs')) (below_size zd')); have n3_ := am (blk_below (g := gb178) (o := o0') zg' hb); have n4_ := am (blk_below (g := gb179) (o := o1') zh' hb); have n5_ := am (blk_below (g := gb192) (o := o1') za1' hb); have n6_ := am (below_step zd' hb); clear HO182; clear HO185; clear BK178; clear BK179; clear BK192; clear HB; have HO182 := n0_; have HO185 := n1_; have HO188 := n2_; have BK178 := n3_; have BK179 := n4_; have BK192 := n5_; have HB := n6_; clear n0_ n1_ n2_ n3_ n4_ n5_ n6_; (try clear hb); (try clear hb2); (try clear hk); (try clear hi); (try clear ho0); obtain ⟨Ao18, co18, eo18⟩ := Kd.R_slice HO188.out
           (first | subst eo18 | (injection eo18 with f1_ f2_ f3_; have f4_ := f1_.symm; have f5_ := f3_.symm; clear f1_ f2_ f3_; subst f4_; subst f5_))
           obtain ⟨Ao19, co19, eo19⟩ := Kd.R_slice HO185.out
           (first | subst eo19 | (injection eo19 with f1_ f2_ f3_; have f4_ := f1_.symm; have f5_ := f3_.symm; clear f1_ f2_ f3_; subst f4_; subst f5_))
           obtain ⟨Ao20, co20, eo20⟩ := Kd.R_slice HO182.out
           (first | subst eo20 | (injection eo20 with f1_ f2_ f3_; have f4_ := f1_.symm; have f5_ := f3_.symm; clear f1_ f2_ f3_; subst f4_; subst f5_))
           refine hK.out _ _ ⟨(blk_cell BK178.out 0).trans rfl, (blk_cell BK178.out 1).trans rfl, (blk_cell BK178.out 2).trans rfl, (blk_cell BK178.out 3).trans rfl, (blk_cell BK178.out 4).trans rfl⟩ (fun hHeld => ?_)
           clear hK K
           refine norm_ (a' := ?_) ?_ ?_
           rotate_left
           ·show Act.put _ (some 19) _ = _
            simp only [Act.put, s1, s2, s3, i64_w, i32_w]
            rfl
           refine pure_ (i := 13) (N := some 24) (v := ?_) (a' := ?_) #[Y,Y,Y,Y,Y,Y,Y,Y,Y,Y,Y,Y,Y,Y,Y,Z,Z,Y,Z] rfl rfl (any_of HT_.out (by kernel_rfl)) (fun _ _ _ h => h) (Or.inl ⟨by rfl, ?_⟩) ?_ ?_
           rotate_left
           ·intro w'
            go_simp
            with_reducible rfl
           rotate_left
           ·simp only [Act.put, s1, s2, s3, i64_w, i32_w]
            rfl
           exact norm_ zo' (hJ2_5_8_17 (.slice Ao20 t180.length co20, .slice Ao19 t183.length co19, .slice Ao18 t186.length co18, gb192) _ ⟨hHeld, zi', zs', zy2', zg', zh', za1', GW192.out, GE192.out, NB178_192.out, NB192_178.out, NB179_192.out, NB192_179.out, zd'⟩)
          ·skip
           refine Kd.S_make_step (Kd.slice 3 (Kd.int .i64)) _ 22 (by rfl) (N := 26) rfl 37 _ _ rfl (l0_0.length : Int) rfl rfl Try.underlying37 (.slice none 0 0) 24 info22 rfl (by decide) (by omega) [] (ok := fun _ => True) (okp := fun _ => True) ⟨_, rfl, Kd.R_nil _ _ _ _ _⟩ (fun _ hk => hk) trivial odt (Nat.le_trans (Nat.mul_le_mul_right _ (odt : (l0_0.length : Int).toNat ≤ 11728124029610)) (by omega)) (Below.refl _ _) (Nat.le_refl _) ?_
           intro v190 w17 ho18 hb hg_ hnew_
           clear hg_ hnew_
           (first | rw [← Ny189.out] at ho18 | (simp only [Int.reduceToNat] at ho18; rw [← Ny189.out] at ho18))
           have n0_ := am (Kd.R_below zi' hb); have n1_ := am (Kd.R_below zs' hb); have n2_ := am (Kd.S_lower (Kd.S_new' (Kd.S_new' ho18 (Kd.R_lt zi')) (Kd.R_lt zs')) (below_size zd')); have n3_ := am (blk_below (g := gb178) (o := o0') zg' hb); have n4_ := am (blk_below (g := gb179) (o := o1') zh' hb); have n5_ := am (blk_below (g := gb192) (o := o1') za1' hb); have n6_ := am (below_step zd' hb); clear HO182; clear HO185; clear BK178; clear BK179; clear BK192; clear HB; have HO182 := n0_; have HO185 := n1_; have HO191 := n2_; have BK178 := n3_; have BK179 := n4_; have BK192 := n5_; have HB := n6_; clear n0_ n1_ n2_ n3_ n4_ n5_ n6_; clear hb ho18
           refine hK.out _ _ ⟨(blk_cell BK178.out 0).trans rfl, (blk_cell BK178.out 1).trans rfl, (blk_cell BK178.out 2).trans rfl, (blk_cell BK178.out 3).trans rfl, (blk_cell BK178.out 4).trans rfl⟩ (fun hHeld => ?_)
           clear hK K
           refine norm_ (a' := ?_) ?_ ?_
           rotate_left
           ·show Act.put _ (some 26) _ = _
            simp only [Act.put, s1, s2, s3, i64_w, i32_w]
            rfl
           exact norm_ zo' (hJ2_5_15_17 (v181, v184, v190, gb192) _ ⟨hHeld, zi', zs', ze5', zg', zh', za1', GW192.out, GE192.out, NB178_192.out, NB192_178.out, NB179_192.out, NB192_179.out, zd'⟩)
        ·skip
         rintro ⟨v181, v184, v190⟩ w17 ⟨hS_, h0_, h1_, h2_, h3_, h4_, h5_⟩
         have n0_ : Aside0 (Kd.R (Kd.int .i64) 3 w17 w.heap.size (fun k_ => some k_ ≠ (v184 : Value).ownBlock) v181 t180) := ⟨h0_⟩; have n1_ : Aside0 (Kd.R (Kd.int .i64) 3 w17 w.heap.size (fun k_ => some k_ ≠ (v181 : Value).ownBlock) v184 t183) := ⟨h1_⟩; have n2_ : Aside0 (Kd.S (Kd.slice 3 (Kd.int .i64)) 22 w17 w.heap.size (fun k_ => some k_ ≠ (v181 : Value).ownBlock ∧ some k_ ≠ (v184 : Value).ownBlock) v190 y189) := ⟨h2_⟩; have n3_ : Aside0 (w17.heap[gb178]? = some (.cells #[.slice A0_0 l0_0.length c0_0, .slice A0_1 l0_1.length c0_1, .slice A0_2 l0_2.length c0_2, .int .i64 a0_3, .int .i64 a0_4] 27 (0, 0))) := ⟨h3_⟩; have n4_ : Aside0 (w17.heap[gb179]? = some (.cells #[.slice none 0 0, .slice none 0 0, .slice none 0 0, .int .i64 0, .int .i64 0, .slice none 0 0, .slice none 0 0, .slice none 0 0, .int .i64 0, .int .i64 0, .int .i64 0] 44 (0, 0))) := ⟨h4_⟩; have n5_ : Aside0 (Below w.heap.size w w17) := ⟨h5_⟩; clear BK178; clear BK179; clear HB; clear h0_ h1_ h2_ h3_ h4_ h5_; have HO182 := n0_; have HO185 := n1_; have HO191 := n2_; have BK178 := n3_; have BK179 := n4_; have HB := n5_; clear n0_ n1_ n2_ n3_ n4_ n5_; have hHeld : w17.cell? ⟨gb178, 0, none⟩ = some (.slice A0_0 l0_0.length c0_0) ∧ w17.cell? ⟨gb178, 1, none⟩ = some (.slice A0_1 l0_1.length c0_1) ∧ w17.cell? ⟨gb178, 2, none⟩ = some (.slice A0_2 l0_2.length c0_2) ∧ w17.cell? ⟨gb178, 3, none⟩ = some (.int .i64 a0_3) ∧ w17.cell? ⟨gb178, 4, none⟩ = some (.int .i64 a0_4) := hS_
         refine norm_ (a' := ?_) ?_ ?_
         rotate_left
         ·simp only [putAll, Act.put, s1, s2, s3]
          rfl
         refine two_ (i := 8) (j := 17) (Ni := some 19) (Nj := some 6) #[Y,Y,Y,Y,Y,Y,Y,Y,Y,Y,Y,Y,Y,Z,Y,Y,Z,Z,Z] #[Y,Y,Y,Y,Y,Y,Y,Y,Z,Y,Y,Y,Y,Z,Y,Y,Z,Y,Z] rfl rfl rfl rfl (two_of HT_.out (by kernel_rfl)) (by decide) (by decide) (fun K hK => ?_) (fun K hK => ?_)
         ·skip
          refine goes_ Try.func106 (by kernel_rfl) rfl #[.slice A0_2 l0_2.length c0_2] (by rfl) rfl rfl zb' ?_
          with_reducible refine (spec_l1Own.calls _ _ l0_2 t186 _ ?side1 ?side2 A5.out).mono ?_
          (case side1 => exact zm')
          (case side2 => exact zh3')
          rintro e w18 ⟨v187, rfl, ho0, hb⟩
          refine ⟨_, rfl, ?_⟩
          have n0_ := am (Kd.R_elder' zi' (Kd.R_base ho0) hb); have n1_ := am (Kd.R_elder' zs' (Kd.R_base ho0) hb); have n2_ := am (Kd.S_elder' zg1' (Kd.R_base ho0) hb); have n3_ := am (Kd.R_lower (Kd.R_new' (Kd.R_new' ho0 (Kd.R_lt zi')) (Kd.R_lt zs')) (below_size zc')); have n4_ := am (blk_below (g := gb178) (o := o0') zg' hb); have n5_ := am (blk_below (g := gb179) (o := o1') zh' hb); have n6_ := am (below_step zc' hb); clear HO182; clear HO185; clear HO191; clear BK178; clear BK179; clear HB; have HO182 := n0_; have HO185 := n1_; have HO191 := n2_; have HO188 := n3_; have BK178 := n4_; have BK179 := n5_; have HB := n6_; clear n0_ n1_ n2_ n3_ n4_ n5_ n6_; (try clear hb); (try clear hb2); (try clear hk); (try clear hi); (try clear ho0); obtain ⟨Ao19, co19, eo19⟩ := Kd.R_slice HO188.out
          (first | subst eo19 | (injection eo19 with f1_ f2_ f3_; have f4_ := f1_.symm; have f5_ := f3_.symm; clear f1_ f2_ f3_; subst f4_; subst f5_))
          obtain ⟨Ao20, co20, eo20⟩ := Kd.R_slice HO185.out
          (first | subst eo20 | (injection eo20 with f1_ f2_ f3_; have f4_ := f1_.symm; have f5_ := f3_.symm; clear f1_ f2_ f3_; subst f4_; subst f5_))
          obtain ⟨Ao21, co21, eo21⟩ := Kd.R_slice HO182.out
          (first | subst eo21 | (injection eo21 with f1_ f2_ f3_; have f4_ := f1_.symm; have f5_ := f3_.symm; clear f1_ f2_ f3_; subst f4_; subst f5_))
          obtain ⟨Ao22, co22, eo22⟩ := Kd.S_slice HO191.out
          (first | subst eo22 | (injection eo22 with f1_ f2_ f3_; have f4_ := f1_.symm; have f5_ := f3_.symm; clear f1_ f2_ f3_; subst f4_; subst f5_))
          refine hK.out _ _ ⟨(blk_cell BK178.out 0).trans rfl, (blk_cell BK178.out 1).trans rfl, (blk_cell BK178.out 2).trans rfl, (blk_cell BK178.out 3).trans rfl, (blk_cell BK178.out 4).trans rfl⟩ (fun hHeld => ?_)
          clear hK K
          refine norm_ (a' := ?_) ?_ ?_
          rotate_left
          ·show Act.put _ (some 19) _ = _
           simp only [Act.put, s1, s2, s3, i64_w, i32_w]
           rfl
          refine pure_ (i := 13) (N := some 24) (v := ?_) (a' := ?_) #[Y,Y,Y,Y,Y,Y,Y,Y,Y,Y,Y,Y,Y,Y,Y,Y,Z,Z,Z] rfl rfl (any_of HT_.out (by kernel_rfl)) (fun _ _ _ h => h) (Or.inl ⟨by rfl, ?_⟩) ?_ ?_
          rotate_left
          ·intro w'
           go_simp
           with_reducible rfl
          rotate_left
          ·simp only [Act.put, s1, s2, s3, i64_w, i32_w]
           rfl
          refine pure_ (i := 16) (N := some 27) (v := ?_) (a' := ?_) #[Y,Y,Y,Y,Y,Y,Y,Y,Y,Y,Y,Y,Y,Y,Y,Y,Y,Z,Z] rfl rfl (any_of HT_.out (by kernel_rfl)) (fun _ _ _ h => h) (Or.inl ⟨by rfl, ?_⟩) ?_ ?_
          rotate_left
          ·intro w'
           go_simp
           with_reducible rfl
          rotate_left
          ·simp only [Act.put, s1, s2, s3, i64_w, i32_w]
           rfl
          exact norm_ zo' (hJ2_5_8_15 (.slice Ao21 t180.length co21, .slice Ao20 t183.length co20, .slice Ao19 t186.length co19, .slice Ao22 y189.length co22) _ ⟨hHeld, zi', zs', zy2', zb5', zg', zh', zc'⟩)
         ·skip
          refine box_step ?hg (N := 6) ?hd (cs := #[.slice none 0 0, .slice none 0 0, .slice none 0 0, .int .i64 0, .int .i64 0, .slice none 0 0, .slice none 0 0, .slice none 0 0, .int .i64 0, .int .i64 0, .int .i64 0]) (t := 44) ?hr ?_; (case hd => rfl); (case hg => rfl); (case hr => exact zq')
          intro gb192 hg w18 hbox hb
          have n0_ := am (Kd.R_below zi' hb); have n1_ := am (Kd.R_below zs' hb); have n2_ := am (Kd.S_below zg1' hb); have n3_ := am (blk_below (g := gb178) (o := o0') zg' hb); have n4_ := am (blk_below (g := gb179) (o := o1') zh' hb); have n5_ := am (below_step zc' hb); have n6_ := am (hbox); have n7_ := am ((by rw [hg]; exact (below_size zc') : w.heap.size ≤ gb192)); have n8_ := am ((by rw [hg]; exact (below_size zc') : w.heap.size ≤ gb192)); have n9_ := am ((by rw [hg]; exact Nat.ne_of_lt (blk_lt (g := gb178) (o := o0') zg') : gb178 ≠ gb192)); have n10_ := am ((by rw [hg]; exact Nat.ne_of_gt (blk_lt (g := gb178) (o := o0') zg') : gb192 ≠ gb178)); have n11_ := am ((by rw [hg]; exact Nat.ne_of_lt (blk_lt (g := gb179) (o := o1') zh') : gb179 ≠ gb192)); have n12_ := am ((by rw [hg]; exact Nat.ne_of_gt (blk_lt (g := gb179) (o := o1') zh') : gb192 ≠ gb179)); clear HO182; clear HO185; clear HO191; clear BK178; clear BK179; clear HB; have HO182 := n0_; have HO185 := n1_; have HO191 := n2_; have BK178 := n3_; have BK179 := n4_; have HB := n5_; have BK192 := n6_; have GW192 := n7_; have GE192 := n8_; have NB178_192 := n9_; have NB192_178 := n10_; have NB179_192 := n11_; have NB192_179 := n12_; clear n0_ n1_ n2_ n3_ n4_ n5_ n6_ n7_ n8_ n9_ n10_ n11_ n12_; clear hb hbox hg
          refine hK.out _ _ ⟨(blk_cell BK178.out 0).trans rfl, (blk_cell BK178.out 1).trans rfl, (blk_cell BK178.out 2).trans rfl, (blk_cell BK178.out 3).trans rfl, (blk_cell BK178.out 4).trans rfl⟩ (fun hHeld => ?_)
          clear hK K
          refine norm_ (a' := ?_) ?_ ?_
          rotate_left
          ·show Act.put _ (some 6) _ = _
           simp only [Act.put, s1, s2, s3, i64_w, i32_w]
           rfl
          exact norm_ zo' (hJ2_5_15_17 (v181, v184, v190, gb192) _ ⟨hHeld, zi', zs', zg1', zg', zh', za1', GW192.out, GE192.out, NB178_192.out, NB192_178.out, NB179_192.out, NB192_179.out, zd'⟩)
       ·skip
        rintro ⟨v181, v184, v187⟩ w19 ⟨hS_, h0_, h1_, h2_, h3_, h4_, h5_⟩
        have n0_ : Aside0 (Kd.R (Kd.int .i64) 3 w19 w.heap.size (fun k_ => some k_ ≠ (v184 : Value).ownBlock ∧ some k_ ≠ (v187 : Value).ownBlock) v181 t180) := ⟨h0_⟩; have n1_ : Aside0 (Kd.R (Kd.int .i64) 3 w19 w.heap.size (fun k_ => some k_ ≠ (v181 : Value).ownBlock ∧ some k_ ≠ (v187 : Value).ownBlock) v184 t183) := ⟨h1_⟩; have n2_ : Aside0 (Kd.R (Kd.int .i64) 3 w19 w.heap.size (fun k_ => some k_ ≠ (v181 : Value).ownBlock ∧ some k_ ≠ (v184 : Value).ownBlock) v187 t186) := ⟨h2_⟩; have n3_ : Aside0 (w19.heap[gb178]? = some (.cells #[.slice A0_0 l0_0.length c0_0, .slice A0_1 l0_1.length c0_1, .slice A0_2 l0_2.length c0_2, .int .i64 a0_3, .int .i64 a0_4] 27 (0, 0))) := ⟨h3_⟩; have n4_ : Aside0 (w19.heap[gb179]? = some (.cells #[.slice none 0 0, .slice none 0 0, .slice none 0 0, .int .i64 0, .int .i64 0, .slice none 0 0, .slice none 0 0, .slice none 0 0, .int .i64 0, .int .i64 0, .int .i64 0] 44 (0, 0))) := ⟨h4_⟩; have n5_ : Aside0 (Below w.heap.size w w19) := ⟨h5_⟩; clear BK178; clear BK179; clear HB; clear h0_ h1_ h2_ h3_ h4_ h5_; have HO182 := n0_; have HO185 := n1_; have HO188 := n2_; have BK178 := n3_; have BK179 := n4_; have HB := n5_; clear n0_ n1_ n2_ n3_ n4_ n5_; have hHeld : w19.cell? ⟨gb178, 0, none⟩ = some (.slice A0_0 l0_0.length c0_0) ∧ w19.cell? ⟨gb178, 1, none⟩ = some (.slice A0_1 l0_1.length c0_1) ∧ w19.cell? ⟨gb178, 2, none⟩ = some (.slice A0_2 l0_2.length c0_2) ∧ w19.cell? ⟨gb178, 3, none⟩ = some (.int .i64 a0_3) ∧ w19.cell? ⟨gb178, 4, none⟩ = some (.int .i64 a0_4) := hS_
        obtain ⟨Ao20, co20, eo20⟩ := Kd.R_slice HO188.out
        (first | subst eo20 | (injection eo20 with f1_ f2_ f3_; have f4_ := f1_.symm; have f5_ := f3_.symm; clear f1_ f2_ f3_; subst f4_; subst f5_))
        obtain ⟨Ao21, co21, eo21⟩ := Kd.R_slice HO185.out
        (first | subst eo21 | (injection eo21 with f1_ f2_ f3_; have f4_ := f1_.symm; have f5_ := f3_.symm; clear f1_ f2_ f3_; subst f4_; subst f5_))
        obtain ⟨Ao22, co22, eo22⟩ := Kd.R_slice HO182.out
        (first | subst eo22 | (injection eo22 with f1_ f2_ f3_; have f4_ := f1_.symm; have f5_ := f3_.symm; clear f1_ f2_ f3_; subst f4_; subst f5_))
        refine norm_ (a' := ?_) ?_ ?_
        rotate_left
        ·simp only [putAll, Act.put, s1, s2, s3]
         rfl
        refine two_ (i := 15) (j := 17) (Ni := some 26) (Nj := some 6) #[Y,Y,Y,Y,Y,Y,Y,Y,Y,Y,Y,Y,Y,Y,Y,Y,Z,Z,Z] #[Y,Y,Y,Y,Y,Y,Y,Y,Y,Y,Y,Y,Y,Y,Y,Z,Z,Y,Z] rfl rfl rfl rfl (two_of HT_.out (by kernel_rfl)) (by decide) (by decide) (fun K hK => ?_) (fun K hK => ?_)
        ·skip
         refine Kd.S_make_step (Kd.slice 3 (Kd.int .i64)) _ 22 (by rfl) (N := 26) rfl 37 _ _ rfl (l0_0.length : Int) rfl rfl Try.underlying37 (.slice none 0 0) 24 info22 rfl (by decide) (by omega) [] (ok := fun _ => True) (okp := fun _ => True) ⟨_, rfl, Kd.R_nil _ _ _ _ _⟩ (fun _ hk => hk) trivial odt (Nat.le_trans (Nat.mul_le_mul_right _ (odt : (l0_0.length : Int).toNat ≤ 11728124029610)) (by omega)) (Below.refl _ _) (Nat.le_refl _) ?_
         intro v190 w23 ho24 hb hg_ hnew_
         clear hg_ hnew_
         (first | rw [← Ny189.out] at ho24 | (simp only [Int.reduceToNat] at ho24; rw [← Ny189.out] at ho24))
         have n0_ := am (Kd.R_below zi' hb); have n1_ := am (Kd.R_below zs' hb); have n2_ := am (Kd.R_below za2' hb); have n3_ := am (Kd.S_lower (Kd.S_new' (Kd.S_new' (Kd.S_new' ho24 (Kd.R_lt zi')) (Kd.R_lt zs')) (Kd.R_lt za2')) (below_size zc')); have n4_ := am (blk_below (g := gb178) (o := o0') zg' hb); have n5_ := am (blk_below (g := gb179) (o := o1') zh' hb); have n6_ := am (below_step zc' hb); clear HO182; clear HO185; clear HO188; clear BK178; clear BK179; clear HB; have HO182 := n0_; have HO185 := n1_; have HO188 := n2_; have HO191 := n3_; have BK178 := n4_; have BK179 := n5_; have HB := n6_; clear n0_ n1_ n2_ n3_ n4_ n5_ n6_; clear hb ho24; obtain ⟨Ao25, co25, eo25⟩ := Kd.S_slice HO191.out
         (first | subst eo25 | (injection eo25 with f1_ f2_ f3_; have f4_ := f1_.symm; have f5_ := f3_.symm; clear f1_ f2_ f3_; subst f4_; subst f5_))
         refine hK.out _ _ ⟨(blk_cell BK178.out 0).trans rfl, (blk_cell BK178.out 1).trans rfl, (blk_cell BK178.out 2).trans rfl, (blk_cell BK178.out 3).trans rfl, (blk_cell BK178.out 4).trans rfl⟩ (fun hHeld => ?_)
         clear hK K
         refine norm_ (a' := ?_) ?_ ?_
         rotate_left
         ·show Act.put _ (some 26) _ = _
          simp only [Act.put, s1, s2, s3, i64_w, i32_w]
          rfl
         refine pure_ (i := 16) (N := some 27) (v := ?_) (a' := ?_) #[Y,Y,Y,Y,Y,Y,Y,Y,Y,Y,Y,Y,Y,Y,Y,Y,Y,Z,Z] rfl rfl (any_of HT_.out (by kernel_rfl)) (fun _ _ _ h => h) (Or.inl ⟨by rfl, ?_⟩) ?_ ?_
         rotate_left
         ·intro w'
          go_simp
          with_reducible rfl
         rotate_left
         ·simp only [Act.put, s1, s2, s3, i64_w, i32_w]
          rfl
         exact norm_ zo' (hJ2_5_8_15 (.slice Ao22 t180.length co22, .slice Ao21 t183.length co21, .slice Ao20 t186.length co20, .slice Ao25 y189.length co25) _ ⟨hHeld, zi', zs', za2', za5', zg', zh', zc'⟩)
        ·skip
         refine box_step ?hg (N := 6) ?hd (cs := #[.slice none 0 0, .slice none 0 0, .slice none 0 0, .int .i64 0, .int .i64 0, .slice none 0 0, .slice none 0 0, .slice none 0 0, .int .i64 0, .int .i64 0, .int .i64 0]) (t := 44) ?hr ?_; (case hd => rfl); (case hg => rfl); (case hr => exact zq')
         intro gb192 hg w23 hbox hb
         have n0_ := am (Kd.R_below zi' hb); have n1_ := am (Kd.R_below zs' hb); have n2_ := am (Kd.R_below za2' hb); have n3_ := am (blk_below (g := gb178) (o := o0') zg' hb); have n4_ := am (blk_below (g := gb179) (o := o1') zh' hb); have n5_ := am (below_step zc' hb); have n6_ := am (hbox); have n7_ := am ((by rw [hg]; exact (below_size zc') : w.heap.size ≤ gb192)); have n8_ := am ((by rw [hg]; exact (below_size zc') : w.heap.size ≤ gb192)); have n9_ := am ((by rw [hg]; exact Nat.ne_of_lt (blk_lt (g := gb178) (o := o0') zg') : gb178 ≠ gb192)); have n10_ := am ((by rw [hg]; exact Nat.ne_of_gt (blk_lt (g := gb178) (o := o0') zg') : gb192 ≠ gb178)); have n11_ := am ((by rw [hg]; exact Nat.ne_of_lt (blk_lt (g := gb179) (o := o1') zh') : gb179 ≠ gb192)); have n12_ := am ((by rw [hg]; exact Nat.ne_of_gt (blk_lt (g := gb179) (o := o1') zh') : gb192 ≠ gb179)); clear HO182; clear HO185; clear HO188; clear BK178; clear BK179; clear HB; have HO182 := n0_; have HO185 := n1_; have HO188 := n2_; have BK178 := n3_; have BK179 := n4_; have HB := n5_; have BK192 := n6_; have GW192 := n7_; have GE192 := n8_; have NB178_192 := n9_; have NB192_178 := n10_; have NB179_192 := n11_; have NB192_179 := n12_; clear n0_ n1_ n2_ n3_ n4_ n5_ n6_ n7_ n8_ n9_ n10_ n11_ n12_; clear hb hbox hg
         refine hK.out _ _ ⟨(blk_cell BK178.out 0).trans rfl, (blk_cell BK178.out 1).trans rfl, (blk_cell BK178.out 2).trans rfl, (blk_cell BK178.out 3).trans rfl, (blk_cell BK178.out 4).trans rfl⟩ (fun hHeld => ?_)
         clear hK K
         refine norm_ (a' := ?_) ?_ ?_
         rotate_left
         ·show Act.put _ (some 6) _ = _
          simp only [Act.put, s1, s2, s3, i64_w, i32_w]
          rfl
         exact norm_ zo' (hJ2_5_8_17 (.slice Ao22 t180.length co22, .slice Ao21 t183.length co21, .slice Ao20 t186.length co20, gb192) _ ⟨hHeld, zi', zs', za2', zg', zh', za1', GW192.out, GE192.out, NB178_192.out, NB192_178.out, NB179_192.out, NB192_179.out, zd'⟩)
      ·skip
       rintro ⟨v181, v184, v190, gb192⟩ w18 ⟨hS_, h0_, h1_, h2_, h3_, h4_, h5_, h6_, h7_, h8_, h9_, h10_, h11_, h12_⟩
       have n0_ : Aside0 (Kd.R (Kd.int .i64) 3 w18 w.heap.size (fun k_ => some k_ ≠ (v184 : Value).ownBlock) v181 t180) := ⟨h0_⟩; have n1_ : Aside0 (Kd.R (Kd.int .i64) 3 w18 w.heap.size (fun k_ => some k_ ≠ (v181 : Value).ownBlock) v184 t183) := ⟨h1_⟩; have n2_ : Aside0 (Kd.S (Kd.slice 3 (Kd.int .i64)) 22 w18 w.heap.size (fun k_ => some k_ ≠ (v181 : Value).ownBlock ∧ some k_ ≠ (v184 : Value).ownBlock) v190 y189) := ⟨h2_⟩; have n3_ : Aside0 (w18.heap[gb178]? = some (.cells #[.slice A0_0 l0_0.length c0_0, .slice A0_1 l0_1.length c0_1, .slice A0_2 l0_2.length c0_2, .int .i64 a0_3, .int .i64 a0_4] 27 (0, 0))) := ⟨h3_⟩; have n4_ : Aside0 (w18.heap[gb179]? = some (.cells #[.slice none 0 0, .slice none 0 0, .slice none 0 0, .int .i64 0, .int .i64 0, .slice none 0 0, .slice none 0 0, .slice none 0 0, .int .i64 0, .int .i64 0, .int .i64 0] 44 (0, 0))) := ⟨h4_⟩; have n5_ : Aside0 (w18.heap[gb192]? = some (.cells #[.slice none 0 0, .slice none 0 0, .slice none 0 0, .int .i64 0, .int .i64 0, .slice none 0 0, .slice none 0 0, .slice none 0 0, .int .i64 0, .int .i64 0, .int .i64 0] 44 (0, 0))) := ⟨h5_⟩; have n6_ : Aside0 (w.heap.size ≤ gb192) := ⟨h6_⟩; have n7_ : Aside0 (w.heap.size ≤ gb192) := ⟨h7_⟩; have n8_ : Aside0 (gb178 ≠ gb192) := ⟨h8_⟩; have n9_ : Aside0 (gb192 ≠ gb178) := ⟨h9_⟩; have n10_ : Aside0 (gb179 ≠ gb192) := ⟨h10_⟩; have n11_ : Aside0 (gb192 ≠ gb179) := ⟨h11_⟩; have n12_ : Aside0 (Below w.heap.size w w18) := ⟨h12_⟩; clear BK178; clear BK179; clear HB; clear h0_ h1_ h2_ h3_ h4_ h5_ h6_ h7_ h8_ h9_ h10_ h11_ h12_
       have HO182 := n0_; have HO185 := n1_; have HO191 := n2_; have BK178 := n3_; have BK179 := n4_; have BK192 := n5_; have GW192 := n6_; have GE192 := n7_; have NB178_192 := n8_; have NB192_178 := n9_; have NB179_192 := n10_; have NB192_179 := n11_; have HB := n12_; clear n0_ n1_ n2_ n3_ n4_ n5_ n6_ n7_ n8_ n9_ n10_ n11_ n12_; have hHeld : w18.cell? ⟨gb178, 0, none⟩ = some (.slice A0_0 l0_0.length c0_0) ∧ w18.cell? ⟨gb178, 1, none⟩ = some (.slice A0_1 l0_1.length c0_1) ∧ w18.cell? ⟨gb178, 2, none⟩ = some (.slice A0_2 l0_2.length c0_2) ∧ w18.cell? ⟨gb178, 3, none⟩ = some (.int .i64 a0_3) ∧ w18.cell? ⟨gb178, 4, none⟩ = some (.int .i64 a0_4) := hS_
       refine norm_ (a' := ?_) ?_ ?_
       rotate_left
       ·simp only [putAll, Act.put, s1, s2, s3]
        rfl
       refine one_ (i := 8) (N := some 19) #[Y,Y,Y,Y,Y,Y,Y,Y,Y,Y,Y,Y,Y,Z,Y,Y,Z,Y,Z] rfl rfl (one_of HT_.out (by kernel_rfl)) (by decide) (fun K hK => ?_)
       refine goes_ Try.func106 (by kernel_rfl) rfl #[.slice A0_2 l0_2.length c0_2] (by rfl) rfl rfl zb' ?_
       with_reducible refine (spec_l1Own.calls _ _ l0_2 t186 _ ?side1 ?side2 A5.out).mono ?_
       (case side1 => exact zm')
       (case side2 => exact zh3')
       rintro e w19 ⟨v187, rfl, ho0, hb⟩
       refine ⟨_, rfl, ?_⟩
       have n0_ := am (Kd.R_elder' zi' (Kd.R_base ho0) hb); have n1_ := am (Kd.R_elder' zs' (Kd.R_base ho0) hb); have n2_ := am (Kd.S_elder' zg1' (Kd.R_base ho0) hb); have n3_ := am (Kd.R_lower (Kd.R_new' (Kd.R_new' ho0 (Kd.R_lt zi')) (Kd.R_lt zs')) (below_size zd')); have n4_ := am (blk_below (g := gb178) (o := o0') zg' hb); have n5_ := am (blk_below (g := gb179) (o := o1') zh' hb); have n6_ := am (blk_below (g := gb192) (o := o1') za1' hb); have n7_ := am (below_step zd' hb); clear HO182; clear HO185; clear HO191; clear BK178; clear BK179; clear BK192; clear HB; have HO182 := n0_; have HO185 := n1_; have HO191 := n2_; have HO188 := n3_; have BK178 := n4_; have BK179 := n5_; have BK192 := n6_; have HB := n7_; clear n0_ n1_ n2_ n3_ n4_ n5_ n6_ n7_; (try clear hb); (try clear hb2); (try clear hk); (try clear hi); (try clear ho0); obtain ⟨Ao20, co20, eo20⟩ := Kd.R_slice HO188.out
       (first | subst eo20 | (injection eo20 with f1_ f2_ f3_; have f4_ := f1_.symm; have f5_ := f3_.symm; clear f1_ f2_ f3_; subst f4_; subst f5_))
       obtain ⟨Ao21, co21, eo21⟩ := Kd.R_slice HO185.out
       (first | subst eo21 | (injection eo21 with f1_ f2_ f3_; have f4_ := f1_.symm; have f5_ := f3_.symm; clear f1_ f2_ f3_; subst f4_; subst f5_))
       obtain ⟨Ao22, co22, eo22⟩ := Kd.R_slice HO182.out
       (first | subst eo22 | (injection eo22 with f1_ f2_ f3_; have f4_ := f1_.symm; have f5_ := f3_.symm; clear f1_ f2_ f3_; subst f4_; subst f5_))
       obtain ⟨Ao23, co23, eo23⟩ := Kd.S_slice HO191.out
       (first | subst eo23 | (injection eo23 with f1_ f2_ f3_; have f4_ := f1_.symm; have f5_ := f3_.symm; clear f1_ f2_ f3_; subst f4_; subst f5_))
       refine hK.out _ _ ⟨(blk_cell BK178.out 0).trans rfl, (blk_cell BK178.out 1).trans rfl, (blk_cell BK178.out 2).trans rfl, (blk_cell BK178.out 3).trans rfl, (blk_cell BK178.out 4).trans rfl⟩ (fun hHeld => ?_)
       clear hK K
       refine norm_ (a' := ?_) ?_ ?_
       rotate_left
       ·show Act.put _ (some 19) _ = _
        simp only [Act.put, s1, s2, s3, i64_w, i32_w]
        rfl
       refine pure_ (i := 13) (N := some 24) (v := ?_) (a' := ?_) #[Y,Y,Y,Y,Y,Y,Y,Y,Y,Y,Y,Y,Y,Y,Y,Y,Z,Y,Z] rfl rfl (any_of HT_.out (by kernel_rfl)) (fun _ _ _ h => h) (Or.inl ⟨by rfl, ?_⟩) ?_ ?_
       rotate_left
       ·intro w'
        go_simp
        with_reducible rfl
       rotate_left
       ·simp only [Act.put, s1, s2, s3, i64_w, i32_w]
        rfl
       refine pure_ (i := 16) (N := some 27) (v := ?_) (a' := ?_) #[Y,Y,Y,Y,Y,Y,Y,Y,Y,Y,Y,Y,Y,Y,Y,Y,Y,Y,Z] rfl rfl (any_of HT_.out (by kernel_rfl)) (fun _ _ _ h => h) (Or.inl ⟨by rfl, ?_⟩) ?_ ?_
       rotate_left
       ·intro w'
        go_simp
        with_reducible rfl
       rotate_left
       ·simp only [Act.put, s1, s2, s3, i64_w, i32_w]
        rfl
       exact norm_ zo' (hJ2_5_8_15_17 (.slice Ao22 t180.length co22, .slice Ao21 t183.length co21, .slice Ao20 t186.length co20, .slice Ao23 y189.length co23, gb192) _ ⟨hHeld, zi', zs', zy2', zb5', zg', zh', za1', GW192.out, GE192.out, NB178_192.out, NB192_178.out, NB179_192.out, NB192_179.out, zd'⟩)
     ·skip
      rintro ⟨v181, v184, v187, gb192⟩ w20 ⟨hS_, h0_, h1_, h2_, h3_, h4_, h5_, h6_, h7_, h8_, h9_, h10_, h11_, h12_⟩
      have n0_ : Aside0 (Kd.R (Kd.int .i64) 3 w20 w.heap.size (fun k_ => some k_ ≠ (v184 : Value).ownBlock ∧ some k_ ≠ (v187 : Value).ownBlock) v181 t180) := ⟨h0_⟩; have n1_ : Aside0 (Kd.R (Kd.int .i64) 3 w20 w.heap.size (fun k_ => some k_ ≠ (v181 : Value).ownBlock ∧ some k_ ≠ (v187 : Value).ownBlock) v184 t183) := ⟨h1_⟩; have n2_ : Aside0 (Kd.R (Kd.int .i64) 3 w20 w.heap.size (fun k_ => some k_ ≠ (v181 : Value).ownBlock ∧ some k_ ≠ (v184 : Value).ownBlock) v187 t186) := ⟨h2_⟩; have n3_ : Aside0 (w20.heap[gb178]? = some (.cells #[.slice A0_0 l0_0.length c0_0, .slice A0_1 l0_1.length c0_1, .slice A0_2 l0_2.length c0_2, .int .i64 a0_3, .int .i64 a0_4] 27 (0, 0))) := ⟨h3_⟩; have n4_ : Aside0 (w20.heap[gb179]? = some (.cells #[.slice none 0 0, .slice none 0 0, .slice none 0 0, .int .i64 0, .int .i64 0, .slice none 0 0, .slice none 0 0, .slice none 0 0, .int .i64 0, .int .i64 0, .int .i64 0] 44 (0, 0))) := ⟨h4_⟩; have n5_ : Aside0 (w20.heap[gb192]? = some (.cells #[.slice none 0 0, .slice none 0 0, .slice none 0 0, .int .i64 0, .int .i64 0, .slice none 0 0, .slice none 0 0, .slice none 0 0, .int .i64 0, .int .i64 0, .int .i64 0] 44 (0, 0))) := ⟨h5_⟩; have n6_ : Aside0 (w.heap.size ≤ gb192) := ⟨h6_⟩; have n7_ : Aside0 (w.heap.size ≤ gb192) := ⟨h7_⟩; have n8_ : Aside0 (gb178 ≠ gb192) := ⟨h8_⟩; have n9_ : Aside0 (gb192 ≠ gb178) := ⟨h9_⟩; have n10_ : Aside0 (gb179 ≠ gb192) := ⟨h10_⟩; have n11_ : Aside0 (gb192 ≠ gb179) := ⟨h11_⟩; have n12_ : Aside0 (Below w.heap.size w w20) := ⟨h12_⟩; clear BK178
      clear BK179; clear HB; clear h0_ h1_ h2_ h3_ h4_ h5_ h6_ h7_ h8_ h9_ h10_ h11_ h12_; have HO182 := n0_; have HO185 := n1_; have HO188 := n2_; have BK178 := n3_; have BK179 := n4_; have BK192 := n5_; have GW192 := n6_; have GE192 := n7_; have NB178_192 := n8_; have NB192_178 := n9_; have NB179_192 := n10_; have NB192_179 := n11_; have HB := n12_; clear n0_ n1_ n2_ n3_ n4_ n5_ n6_ n7_ n8_ n9_ n10_ n11_ n12_; have hHeld : w20.cell? ⟨gb178, 0, none⟩ = some (.slice A0_0 l0_0.length c0_0) ∧ w20.cell? ⟨gb178, 1, none⟩ = some (.slice A0_1 l0_1.length c0_1) ∧ w20.cell? ⟨gb178, 2, none⟩ = some (.slice A0_2 l0_2.length c0_2) ∧ w20.cell? ⟨gb178, 3, none⟩ = some (.int .i64 a0_3) ∧ w20.cell? ⟨gb178, 4, none⟩ = some (.int .i64 a0_4) := hS_; obtain ⟨Ao21, co21, eo21⟩ := Kd.R_slice HO188.out
      (first | subst eo21 | (injection eo21 with f1_ f2_ f3_; have f4_ := f1_.symm; have f5_ := f3_.symm; clear f1_ f2_ f3_; subst f4_; subst f5_))
      obtain ⟨Ao22, co22, eo22⟩ := Kd.R_slice HO185.out
      (first | subst eo22 | (injection eo22 with f1_ f2_ f3_; have f4_ := f1_.symm; have f5_ := f3_.symm; clear f1_ f2_ f3_; subst f4_; subst f5_))
      obtain ⟨Ao23, co23, eo23⟩ := Kd.R_slice HO182.out
      (first | subst eo23 | (injection eo23 with f1_ f2_ f3_; have f4_ := f1_.symm; have f5_ := f3_.symm; clear f1_ f2_ f3_; subst f4_; subst f5_))
      refine norm_ (a' := ?_) ?_ ?_
      rotate_left
      ·simp only [putAll, Act.put, s1, s2, s3]
       rfl
      refine one_ (i := 15) (N := some 26) #[Y,Y,Y,Y,Y,Y,Y,Y,Y,Y,Y,Y,Y,Y,Y,Y,Z,Y,Z] rfl rfl (one_of HT_.out (by kernel_rfl)) (by decide) (fun K hK => ?_)
      refine Kd.S_make_step (Kd.slice 3 (Kd.int .i64)) _ 22 (by rfl) (N := 26) rfl 37 _ _ rfl (l0_0.length : Int) rfl rfl Try.underlying37 (.slice none 0 0) 24 info22 rfl (by decide) (by omega) [] (ok := fun _ => True) (okp := fun _ => True) ⟨_, rfl, Kd.R_nil _ _ _ _ _⟩ (fun _ hk => hk) trivial odt (Nat.le_trans (Nat.mul_le_mul_right _ (odt : (l0_0.length : Int).toNat ≤ 11728124029610)) (by omega)) (Below.refl _ _) (Nat.le_refl _) ?_
      intro v190 w24 ho25 hb hg_ hnew_
      clear hg_ hnew_
      (first | rw [← Ny189.out] at ho25 | (simp only [Int.reduceToNat] at ho25; rw [← Ny189.out] at ho25))
      have n0_ := am (Kd.R_below zi' hb); have n1_ := am (Kd.R_below zs' hb); have n2_ := am (Kd.R_below za2' hb); have n3_ := am (Kd.S_lower (Kd.S_new' (Kd.S_new' (Kd.S_new' ho25 (Kd.R_lt zi')) (Kd.R_lt zs')) (Kd.R_lt za2')) (below_size zd')); have n4_ := am (blk_below (g := gb178) (o := o0') zg' hb); have n5_ := am (blk_below (g := gb179) (o := o1') zh' hb); have n6_ := am (blk_below (g := gb192) (o := o1') za1' hb); have n7_ := am (below_step zd' hb); clear HO182; clear HO185; clear HO188; clear BK178; clear BK179; clear BK192; clear HB; have HO182 := n0_; have HO185 := n1_; have HO188 := n2_; have HO191 := n3_; have BK178 := n4_; have BK179 := n5_; have BK192 := n6_; have HB := n7_; clear n0_ n1_ n2_ n3_ n4_ n5_ n6_ n7_; clear hb ho25; obtain ⟨Ao26, co26, eo26⟩ := Kd.S_slice HO191.out
      (first | subst eo26 | (injection eo26 with f1_ f2_ f3_; have f4_ := f1_.symm; have f5_ := f3_.symm; clear f1_ f2_ f3_; subst f4_; subst f5_))
      refine hK.out _ _ ⟨(blk_cell BK178.out 0).trans rfl, (blk_cell BK178.out 1).trans rfl, (blk_cell BK178.out 2).trans rfl, (blk_cell BK178.out 3).trans rfl, (blk_cell BK178.out 4).trans rfl⟩ (fun hHeld => ?_)
      clear hK K
      refine norm_ (a' := ?_) ?_ ?_
      rotate_left
      ·show Act.put _ (some 26) _ = _
       simp only [Act.put, s1, s2, s3, i64_w, i32_w]
       rfl
      refine pure_ (i := 16) (N := some 27) (v := ?_) (a' := ?_) #[Y,Y,Y,Y,Y,Y,Y,Y,Y,Y,Y,Y,Y,Y,Y,Y,Y,Y,Z] rfl rfl (any_of HT_.out (by kernel_rfl)) (fun _ _ _ h => h) (Or.inl ⟨by rfl, ?_⟩) ?_ ?_
      rotate_left
      ·intro w'
       go_simp
       with_reducible rfl
      rotate_left
      ·simp only [Act.put, s1, s2, s3, i64_w, i32_w]
       rfl
      exact norm_ zo' (hJ2_5_8_15_17 (.slice Ao23 t180.length co23, .slice Ao22 t183.length co22, .slice Ao21 t186.length co21, .slice Ao26 y189.length co26, gb192) _ ⟨hHeld, zi', zs', za2', za5', zg', zh', za1', GW192.out, GE192.out, NB178_192.out, NB192_178.out, NB179_192.out, NB192_179.out, zd'⟩)
    ·skip
     rintro ⟨v181, v184, v187, v190⟩ w22 ⟨hS_, h0_, h1_, h2_, h3_, h4_, h5_, h6_⟩
     have n0_ : Aside0 (Kd.R (Kd.int .i64) 3 w22 w.heap.size (fun k_ => some k_ ≠ (v184 : Value).ownBlock ∧ some k_ ≠ (v187 : Value).ownBlock) v181 t180) := ⟨h0_⟩; have n1_ : Aside0 (Kd.R (Kd.int .i64) 3 w22 w.heap.size (fun k_ => some k_ ≠ (v181 : Value).ownBlock ∧ some k_ ≠ (v187 : Value).ownBlock) v184 t183) := ⟨h1_⟩; have n2_ : Aside0 (Kd.R (Kd.int .i64) 3 w22 w.heap.size (fun k_ => some k_ ≠ (v181 : Value).ownBlock ∧ some k_ ≠ (v184 : Value).ownBlock) v187 t186) := ⟨h2_⟩; have n3_ : Aside0 (Kd.S (Kd.slice 3 (Kd.int .i64)) 22 w22 w.heap.size (fun k_ => some k_ ≠ (v181 : Value).ownBlock ∧ some k_ ≠ (v184 : Value).ownBlock ∧ some k_ ≠ (v187 : Value).ownBlock) v190 y189) := ⟨h3_⟩; have n4_ : Aside0 (w22.heap[gb178]? = some (.cells #[.slice A0_0 l0_0.length c0_0, .slice A0_1 l0_1.length c0_1, .slice A0_2 l0_2.length c0_2, .int .i64 a0_3, .int .i64 a0_4] 27 (0, 0))) := ⟨h4_⟩; have n5_ : Aside0 (w22.heap[gb179]? = some (.cells #[.slice none 0 0, .slice none 0 0, .slice none 0 0, .int .i64 0, .int .i64 0, .slice none 0 0, .slice none 0 0, .slice none 0 0, .int .i64 0, .int .i64 0, .int .i64 0] 44 (0, 0))) := ⟨h5_⟩; have n6_ : Aside0 (Below w.heap.size w w22) := ⟨h6_⟩; clear BK178; clear BK179; clear HB; clear h0_ h1_ h2_ h3_ h4_ h5_ h6_; have HO182 := n0_; have HO185 := n1_; have HO188 := n2_; have HO191 := n3_; have BK178 := n4_; have BK179 := n5_; have HB := n6_; clear n0_ n1_ n2_ n3_ n4_ n5_ n6_; have hHeld : w22.cell? ⟨gb178, 0, none⟩ = some (.slice A0_0 l0_0.length c0_0) ∧ w22.cell? ⟨gb178, 1, none⟩ = some (.slice A0_1 l0_1.length c0_1) ∧ w22.cell? ⟨gb178, 2, none⟩ = some (.slice A0_2 l0_2.length c0_2) ∧ w22.cell? ⟨gb178, 3, none⟩ = some (.int .i64 a0_3) ∧ w22.cell? ⟨gb178, 4, none⟩ = some (.int .i64 a0_4) := hS_
     obtain ⟨Ao23, co23, eo23⟩ := Kd.R_slice HO188.out
     (first | subst eo23 | (injection eo23 with f1_ f2_ f3_; have f4_ := f1_.symm; have f5_ := f3_.symm; clear f1_ f2_ f3_; subst f4_; subst f5_))
     obtain ⟨Ao24, co24, eo24⟩ := Kd.R_slice HO185.out
     (first | subst eo24 | (injection eo24 with f1_ f2_ f3_; have f4_ := f1_.symm; have f5_ := f3_.symm; clear f1_ f2_ f3_; subst f4_; subst f5_))
     obtain ⟨Ao25, co25, eo25⟩ := Kd.R_slice HO182.out
     (first | subst eo25 | (injection eo25 with f1_ f2_ f3_; have f4_ := f1_.symm; have f5_ := f3_.symm; clear f1_ f2_ f3_; subst f4_; subst f5_))
     obtain ⟨Ao26, co26, eo26⟩ := Kd.S_slice HO191.out
     (first | subst eo26 | (injection eo26 with f1_ f2_ f3_; have f4_ := f1_.symm; have f5_ := f3_.symm; clear f1_ f2_ f3_; subst f4_; subst f5_))
     refine norm_ (a' := ?_) ?_ ?_
     rotate_left
     ·simp only [putAll, Act.put, s1, s2, s3]
      rfl
     refine one_ (i := 17) (N := some 6) #[Y,Y,Y,Y,Y,Y,Y,Y,Y,Y,Y,Y,Y,Y,Y,Y,Y,Y,Z] rfl rfl (one_of HT_.out (by kernel_rfl)) (by decide) (fun K hK => ?_)
     refine box_step ?hg (N := 6) ?hd (cs := #[.slice none 0 0, .slice none 0 0, .slice none 0 0, .int .i64 0, .int .i64 0, .slice none 0 0, .slice none 0 0, .slice none 0 0, .int .i64 0, .int .i64 0, .int .i64 0]) (t := 44) ?hr ?_; (case hd => rfl); (case hg => rfl); (case hr => exact zq')
     intro gb192 hg w27 hbox hb
     have n0_ := am (Kd.R_below zi' hb); have n1_ := am (Kd.R_below zs' hb); have n2_ := am (Kd.R_below za2' hb); have n3_ := am (Kd.S_below zg1' hb); have n4_ := am (blk_below (g := gb178) (o := o0') zg' hb); have n5_ := am (blk_below (g := gb179) (o := o1') zh' hb); have n6_ := am (below_step zc' hb); have n7_ := am (hbox); have n8_ := am ((by rw [hg]; exact (below_size zc') : w.heap.size ≤ gb192)); have n9_ := am ((by rw [hg]; exact (below_size zc') : w.heap.size ≤ gb192)); have n10_ := am ((by rw [hg]; exact Nat.ne_of_lt (blk_lt (g := gb178) (o := o0') zg') : gb178 ≠ gb192)); have n11_ := am ((by rw [hg]; exact Nat.ne_of_gt (blk_lt (g := gb178) (o := o0') zg') : gb192 ≠ gb178)); have n12_ := am ((by rw [hg]; exact Nat.ne_of_lt (blk_lt (g := gb179) (o := o1') zh') : gb179 ≠ gb192)); have n13_ := am ((by rw [hg]; exact Nat.ne_of_gt (blk_lt (g := gb179) (o := o1') zh') : gb192 ≠ gb179)); clear HO182; clear HO185; clear HO188; clear HO191; clear BK178; clear BK179; clear HB; have HO182 := n0_; have HO185 := n1_; have HO188 := n2_; have HO191 := n3_; have BK178 := n4_; have BK179 := n5_; have HB := n6_; have BK192 := n7_; have GW192 := n8_; have GE192 := n9_; have NB178_192 := n10_; have NB192_178 := n11_; have NB179_192 := n12_; have NB192_179 := n13_; clear n0_ n1_ n2_ n3_ n4_ n5_ n6_ n7_ n8_ n9_ n10_ n11_ n12_ n13_; clear hb hbox hg
     refine hK.out _ _ ⟨(blk_cell BK178.out 0).trans rfl, (blk_cell BK178.out 1).trans rfl, (blk_cell BK178.out 2).trans rfl, (blk_cell BK178.out 3).trans rfl, (blk_cell BK178.out 4).trans rfl⟩ (fun hHeld => ?_)
     clear hK K
     refine norm_ (a' := ?_) ?_ ?_
     rotate_left
     ·show Act.put _ (some 6) _ = _
      simp only [Act.put, s1, s2, s3, i64_w, i32_w]
      rfl
     exact norm_ zo' (hJ2_5_8_15_17 (.slice Ao25 t180.length co25, .slice Ao24 t183.length co24, .slice Ao23 t186.length co23, .slice Ao26 y189.length co26, gb192) _ ⟨hHeld, zi', zs', za2', zg1', zg', zh', za1', GW192.out, GE192.out, NB178_192.out, NB192_178.out, NB179_192.out, NB192_179.out, zd'⟩)
   rintro ⟨v181, v184, v187, v190, gb192⟩ w23 ⟨hS_, h0_, h1_, h2_, h3_, h4_, h5_, h6_, h7_, h8_, h9_, h10_, h11_, h12_, h13_⟩
   have n0_ : Aside0 (Kd.R (Kd.int .i64) 3 w23 w.heap.size (fun k_ => some k_ ≠ (v184 : Value).ownBlock ∧ some k_ ≠ (v187 : Value).ownBlock) v181 t180) := ⟨h0_⟩; have n1_ : Aside0 (Kd.R (Kd.int .i64) 3 w23 w.heap.size (fun k_ => some k_ ≠ (v181 : Value).ownBlock ∧ some k_ ≠ (v187 : Value).ownBlock) v184 t183) := ⟨h1_⟩; have n2_ : Aside0 (Kd.R (Kd.int .i64) 3 w23 w.heap.size (fun k_ => some k_ ≠ (v181 : Value).ownBlock ∧ some k_ ≠ (v184 : Value).ownBlock) v187 t186) := ⟨h2_⟩; have n3_ : Aside0 (Kd.S (Kd.slice 3 (Kd.int .i64)) 22 w23 w.heap.size (fun k_ => some k_ ≠ (v181 : Value).ownBlock ∧ some k_ ≠ (v184 : Value).ownBlock ∧ some k_ ≠ (v187 : Value).ownBlock) v190 y189) := ⟨h3_⟩; have n4_ : Aside0 (w23.heap[gb178]? = some (.cells #[.slice A0_0 l0_0.length c0_0, .slice A0_1 l0_1.length c0_1, .slice A0_2 l0_2.length c0_2, .int .i64 a0_3, .int .i64 a0_4] 27 (0, 0))) := ⟨h4_⟩; have n5_ : Aside0 (w23.heap[gb179]? = some (.cells #[.slice none 0 0, .slice none 0 0, .slice none 0 0, .int .i64 0, .int .i64 0, .slice none 0 0, .slice none 0 0, .slice none 0 0, .int .i64 0, .int .i64 0, .int .i64 0] 44 (0, 0))) := ⟨h5_⟩; have n6_ : Aside0 (w23.heap[gb192]? = some (.cells #[.slice none 0 0, .slice none 0 0, .slice none 0 0, .int .i64 0, .int .i64 0, .slice none 0 0, .slice none 0 0, .slice none 0 0, .int .i64 0, .int .i64 0, .int .i64 0] 44 (0, 0))) := ⟨h6_⟩; have n7_ : Aside0 (w.heap.size ≤ gb192) := ⟨h7_⟩; have n8_ : Aside0 (w.heap.size ≤ gb192) := ⟨h8_⟩; have n9_ : Aside0 (gb178 ≠ gb192) := ⟨h9_⟩
   have n10_ : Aside0 (gb192 ≠ gb178) := ⟨h10_⟩; have n11_ : Aside0 (gb179 ≠ gb192) := ⟨h11_⟩; have n12_ : Aside0 (gb192 ≠ gb179) := ⟨h12_⟩; have n13_ : Aside0 (Below w.heap.size w w23) := ⟨h13_⟩; clear BK178; clear BK179; clear HB; clear h0_ h1_ h2_ h3_ h4_ h5_ h6_ h7_ h8_ h9_ h10_ h11_ h12_ h13_; have HO182 := n0_; have HO185 := n1_; have HO188 := n2_; have HO191 := n3_; have BK178 := n4_; have BK179 := n5_; have BK192 := n6_; have GW192 := n7_; have GE192 := n8_; have NB178_192 := n9_; have NB192_178 := n10_; have NB179_192 := n11_; have NB192_179 := n12_; have HB := n13_; clear n0_ n1_ n2_ n3_ n4_ n5_ n6_ n7_ n8_ n9_ n10_ n11_ n12_ n13_; have hHeld : w23.cell? ⟨gb178, 0, none⟩ = some (.slice A0_0 l0_0.length c0_0) ∧ w23.cell? ⟨gb178, 1, none⟩ = some (.slice A0_1 l0_1.length c0_1) ∧ w23.cell? ⟨gb178, 2, none⟩ = some (.slice A0_2 l0_2.length c0_2) ∧ w23.cell? ⟨gb178, 3, none⟩ = some (.int .i64 a0_3) ∧ w23.cell? ⟨gb178, 4, none⟩ = some (.int .i64 a0_4) := hS_; obtain ⟨Ao24, co24, eo24⟩ := Kd.R_slice HO188.out
   (first | subst eo24 | (injection eo24 with f1_ f2_ f3_; have f4_ := f1_.symm; have f5_ := f3_.symm; clear f1_ f2_ f3_; subst f4_; subst f5_))
   obtain ⟨Ao25, co25, eo25⟩ := Kd.R_slice HO185.out
   (first | subst eo25 | (injection eo25 with f1_ f2_ f3_; have f4_ := f1_.symm; have f5_ := f3_.symm; clear f1_ f2_ f3_; subst f4_; subst f5_))
   obtain ⟨Ao26, co26, eo26⟩ := Kd.R_slice HO182.out
   (first | subst eo26 | (injection eo26 with f1_ f2_ f3_; have f4_ := f1_.symm; have f5_ := f3_.symm; clear f1_ f2_ f3_; subst f4_; subst f5_))
   obtain ⟨Ao27, co27, eo27⟩ := Kd.S_slice HO191.out
   (first | subst eo27 | (injection eo27 with f1_ f2_ f3_; have f4_ := f1_.symm; have f5_ := f3_.symm; clear f1_ f2_ f3_; subst f4_; subst f5_))
   refine norm_ (a' := ?_) ?_ ?_
   rotate_left
   ·simp only [putAll, Act.put, s1, s2, s3]
    rfl
   refine one_ (i := 18) (N := none) #[Y,Y,Y,Y,Y,Y,Y,Y,Y,Y,Y,Y,Y,Y,Y,Y,Y,Y,Y] rfl rfl (one_of HT_.out (by kernel_rfl)) (by decide) (fun K hK => ?_)
   have hs28 : w23.cell? ⟨gb192, 0, none⟩ = some (.slice none 0 0) := (blk_cell BK192.out 0).trans rfl; have hfs28 := blk_frozen BK192.out 0; have hns28_0 := NB178_192.out; have hns28_1 := NB179_192.out; have hms28_0 := NB192_178.out; have hms28_1 := NB192_179.out; have hs29 : w23.cell? ⟨gb192, 1, none⟩ = some (.slice none 0 0) := (blk_cell BK192.out 1).trans rfl; have hfs29 := blk_frozen BK192.out 1; have hns29_0 := NB178_192.out; have hns29_1 := NB179_192.out; have hms29_0 := NB192_178.out; have hms29_1 := NB192_179.out; have hs30 : w23.cell? ⟨gb192, 2, none⟩ = some (.slice none 0 0) := (blk_cell BK192.out 2).trans rfl; have hfs30 := blk_frozen BK192.out 2; have hns30_0 := NB178_192.out; have hns30_1 := NB179_192.out; have hms30_0 := NB192_178.out; have hms30_1 := NB192_179.out; have hs31 : w23.cell? ⟨gb192, 3, none⟩ = some (.int .i64 0) := (blk_cell BK192.out 3).trans rfl; have hfs31 := blk_frozen BK192.out 3; have hns31_0 := NB178_192.out; have hns31_1 := NB179_192.out; have hms31_0 := NB192_178.out; have hms31_1 := NB192_179.out; have hs32 : w23.cell? ⟨gb192, 4, none⟩ = some (.int .i64 0) := (blk_cell BK192.out 4).trans rfl; have hfs32 := blk_frozen BK192.out 4; have hns32_0 := NB178_192.out; have hns32_1 := NB179_192.out; have hms32_0 := NB192_178.out; have hms32_1 := NB192_179.out; have hs33 : w23.cell? ⟨gb192, 5, none⟩ = some (.slice none 0 0) := (blk_cell BK192.out 5).trans rfl; have hfs33 := blk_frozen BK192.out 5; have hns33_0 := NB178_192.out; have hns33_1 := NB179_192.out
   have hms33_0 := NB192_178.out; have hms33_1 := NB192_179.out; have hs34 : w23.cell? ⟨gb192, 6, none⟩ = some (.slice none 0 0) := (blk_cell BK192.out 6).trans rfl; have hfs34 := blk_frozen BK192.out 6; have hns34_0 := NB178_192.out; have hns34_1 := NB179_192.out; have hms34_0 := NB192_178.out; have hms34_1 := NB192_179.out; have hs35 : w23.cell? ⟨gb192, 7, none⟩ = some (.slice none 0 0) := (blk_cell BK192.out 7).trans rfl; have hfs35 := blk_frozen BK192.out 7; have hns35_0 := NB178_192.out; have hns35_1 := NB179_192.out; have hms35_0 := NB192_178.out; have hms35_1 := NB192_179.out; have hs36 : w23.cell? ⟨gb192, 8, none⟩ = some (.int .i64 0) := (blk_cell BK192.out 8).trans rfl; have hfs36 := blk_frozen BK192.out 8; have hns36_0 := NB178_192.out; have hns36_1 := NB179_192.out; have hms36_0 := NB192_178.out; have hms36_1 := NB192_179.out; have hs37 : w23.cell? ⟨gb192, 9, none⟩ = some (.int .i64 0) := (blk_cell BK192.out 9).trans rfl; have hfs37 := blk_frozen BK192.out 9; have hns37_0 := NB178_192.out; have hns37_1 := NB179_192.out; have hms37_0 := NB192_178.out; have hms37_1 := NB192_179.out; have hs38 : w23.cell? ⟨gb192, 10, none⟩ = some (.int .i64 0) := (blk_cell BK192.out 10).trans rfl; have hfs38 := blk_frozen BK192.out 10; have hns38_0 := NB178_192.out; have hns38_1 := NB179_192.out; have hms38_0 := NB192_178.out; have hms38_1 := NB192_179.out
   refine skip_ (w1 := ?_) (by rfl) rfl ?_ ?_
   rotate_left
   ·go_simp
    rfl
   refine hK.out _ _ ⟨((cell_far (p := ⟨gb192, _, none⟩) NB178_192.out _).trans (((cell_far (p := ⟨gb192, _, none⟩) NB178_192.out _).trans (((cell_far (p := ⟨gb192, _, none⟩) NB178_192.out _).trans (((cell_far (p := ⟨gb192, _, none⟩) NB178_192.out _).trans (((cell_far (p := ⟨gb192, _, none⟩) NB178_192.out _).trans (((cell_far (p := ⟨gb192, _, none⟩) NB178_192.out _).trans (((cell_far (p := ⟨gb192, _, none⟩) NB178_192.out _).trans (((cell_far (p := ⟨gb192, _, none⟩) NB178_192.out _).trans (((cell_far (p := ⟨gb192, _, none⟩) NB178_192.out _).trans (((cell_far (p := ⟨gb192, _, none⟩) NB178_192.out _).trans (((cell_far (p := ⟨gb192, _, none⟩) NB178_192.out _).trans (hHeld.1)))))))))))))))))))))), ((cell_far (p := ⟨gb192, _, none⟩) NB178_192.out _).trans (((cell_far (p := ⟨gb192, _, none⟩) NB178_192.out _).trans (((cell_far (p := ⟨gb192, _, none⟩) NB178_192.out _).trans (((cell_far (p := ⟨gb192, _, none⟩) NB178_192.out _).trans (((cell_far (p := ⟨gb192, _, none⟩) NB178_192.out _).trans (((cell_far (p := ⟨gb192, _, none⟩) NB178_192.out _).trans (((cell_far (p := ⟨gb192, _, none⟩) NB178_192.out _).trans (((cell_far (p := ⟨gb192, _, none⟩) NB178_192.out _).trans (((cell_far (p := ⟨gb192, _, none⟩) NB178_192.out _).trans (((cell_far (p := ⟨gb192, _, none⟩) NB178_192.out _).trans (((cell_far (p := ⟨gb192, _, none⟩) NB178_192.out _).trans (hHeld.2.1)))))))))))))))))))))), ((cell_far (p := ⟨gb192, _, none⟩) NB178_192.out _).trans (((cell_far (p := ⟨gb192, _, none⟩) NB178_192.out _).trans (((cell_far (p := ⟨gb192, _, none⟩) NB178_192.out _).trans (((cell_far (p := ⟨gb192, _, none⟩) NB178_192.out _).trans (((cell_far (p := ⟨gb192, _, none⟩) NB178_192.out _).trans (((cell_far (p := ⟨gb192, _, none⟩) NB178_192.out _).trans (((cell_far (p := ⟨gb192, _, none⟩) NB178_192.out _).trans (((cell_far (p := ⟨gb192, _, none⟩) NB178_192.out _).trans (((cell_far (p := ⟨gb192, _, none⟩) NB178_192.out _).trans (((cell_far (p := ⟨gb192, _, none⟩) NB178_192.out _).trans (((cell_far (p := ⟨gb192, _, none⟩) NB178_192.out _).trans (hHeld.2.2.1)))))))))))))))))))))), ((cell_far (p := ⟨gb192, _, none⟩) NB178_192.out _).trans (((cell_far (p := ⟨gb192, _, none⟩) NB178_192.out _).trans (((cell_far (p := ⟨gb192, _, none⟩) NB178_192.out _).trans (((cell_far (p := ⟨gb192, _, none⟩) NB178_192.out _).trans (((cell_far (p := ⟨gb192, _, none⟩) NB178_192.out _).trans (((cell_far (p := ⟨gb192, _, none⟩) NB178_192.out _).trans (((cell_far (p := ⟨gb192, _, none⟩) NB178_192.out _).trans (((cell_far (p := ⟨gb192, _, none⟩) NB178_192.out _).trans (((cell_far (p := ⟨gb192, _, none⟩) NB178_192.out _).trans (((cell_far (p := ⟨gb192, _, none⟩) NB178_192.out _).trans (((cell_far (p := ⟨gb192, _, none⟩) NB178_192.out _).trans (hHeld.2.2.2.1)))))))))))))))))))))), ((cell_far (p := ⟨gb192, _, none⟩) NB178_192.out _).trans (((cell_far (p := ⟨gb192, _, none⟩) NB178_192.out _).trans (((cell_far (p := ⟨gb192, _, none⟩) NB178_192.out _).trans (((cell_far (p := ⟨gb192, _, none⟩) NB178_192.out _).trans (((cell_far (p := ⟨gb192, _, none⟩) NB178_192.out _).trans (((cell_far (p := ⟨gb192, _, none⟩) NB178_192.out _).trans (((cell_far (p := ⟨gb192, _, none⟩) NB178_192.out _).trans (((cell_far (p := ⟨gb192, _, none⟩) NB178_192.out _).trans (((cell_far (p := ⟨gb192, _, none⟩) NB178_192.out _).trans (((cell_far (p := ⟨gb192, _, none⟩) NB178_192.out _).trans (((cell_far (p := ⟨gb192, _, none⟩) NB178_192.out _).trans (hHeld.2.2.2.2))))))))))))))))))))))⟩ (fun hHeld => ?_)
   clear hK K
   refine done_ (done_of HT_.out (by kernel_rfl)) ?_
   try go_wp2
   go_loopg [7] k (fun kq v7 w' => ∃ (x7_1 : Int) (x193005_1 : List (S80)) (x193006_1 : List (List Int)) (u193005 : Value) (u193006 : Value), v7 = .int .i64 x7_1 ∧ Aside0 (spec_flNew.l0 kq a1 (l0_0.length : Int) x7_1 t180 t183 t186 a0_3 a0_4 x193005_1 x193006_1 0 0 0 = some (r1, r2, r3, r4, r5, r6, r7, r8, r9, r10, r11)) ∧ Aside0 (kq ≤ k) ∧ Aside0 (Kd.R (Kd.int .i64) 3 w' w.heap.size (fun k_ => some k_ ≠ ((.slice Ao25 t183.length co25) : Value).ownBlock ∧ some k_ ≠ ((.slice Ao24 t186.length co24) : Value).ownBlock) (.slice Ao26 t180.length co26) t180) ∧ Aside0 (Kd.R (Kd.int .i64) 3 w' w.heap.size (fun k_ => some k_ ≠ ((.slice Ao26 t180.length co26) : Value).ownBlock ∧ some k_ ≠ ((.slice Ao24 t186.length co24) : Value).ownBlock) (.slice Ao25 t183.length co25) t183) ∧ Aside0 (Kd.R (Kd.int .i64) 3 w' w.heap.size (fun k_ => some k_ ≠ ((.slice Ao26 t180.length co26) : Value).ownBlock ∧ some k_ ≠ ((.slice Ao25 t183.length co25) : Value).ownBlock) (.slice Ao24 t186.length co24) t186) ∧ Aside0 (Kd.R k80 80 w' w.heap.size (fun _ => True) u193005 x193005_1) ∧ Aside0 (Kd.S (Kd.slice 3 (Kd.int .i64)) 22 w' w.heap.size (fun k_ => some k_ ≠ ((.slice Ao26 t180.length co26) : Value).ownBlock ∧ some k_ ≠ ((.slice Ao25 t183.length co25) : Value).ownBlock ∧ some k_ ≠ ((.slice Ao24 t186.length co24) : Value).ownBlock) u193006 x193006_1) ∧ Aside0 (w'.heap[gb178]? = some (.cells #[(.slice A0_0 l0_0.length c0_0), (.slice A0_1 l0_1.length c0_1), (.slice A0_2 l0_2.length c0_2), .int .i64 a0_3, .int .i64 a0_4] 27 (0, 0))) ∧ Aside0 (w'.heap[gb179]? = some (.cells #[(.slice none 0 0), (.slice none 0 0), (.slice none 0 0), .int .i64 0, .int .i64 0, (.slice none 0 0), (.slice none 0 0), (.slice none 0 0), .int .i64 0, .int .i64 0, .int .i64 0] 44 (0, 0))) ∧ Aside0 (w'.heap[gb192]? = some (.cells #[(.slice Ao26 t180.length co26), (.slice Ao25 t183.length co25), (.slice Ao24 t186.length co24), .int .i64 a0_3, .int .i64 a0_4, u193005, u193006, (.slice none 0 0), .int .i64 0, .int .i64 0, .int .i64 0] 44 (0, 0))) ∧ Aside0 (Below w.heap.size w w'))
   case atStart => exact ⟨(0), (([] : List (S80))), (y189), (.slice none 0 0), (.slice Ao27 y189.length co27), ze1', H', ⟨Nat.le_refl _⟩, ⟨by (with_reducible repeat (first | apply Kd.R_alloc | apply Kd.R_drewN | apply Kd.R_drew)); exact Kd.R_mono (Kd.R_far (p := ⟨gb192, 10, none⟩) (Kd.R_far (p := ⟨gb192, 9, none⟩) (Kd.R_far (p := ⟨gb192, 8, none⟩) (Kd.R_far (p := ⟨gb192, 7, none⟩) (Kd.R_far (p := ⟨gb192, 6, none⟩) (Kd.R_far (p := ⟨gb192, 5, none⟩) (Kd.R_far (p := ⟨gb192, 4, none⟩) (Kd.R_far (p := ⟨gb192, 3, none⟩) (Kd.R_far (p := ⟨gb192, 2, none⟩) (Kd.R_far (p := ⟨gb192, 1, none⟩) (Kd.R_far (p := ⟨gb192, 0, none⟩) (Kd.R_types HO182.out BK192.out (by decide)) (fun _ hk => hk.2) (.slice Ao26 t180.length co26)) (fun _ hk => hk.2) (.slice Ao25 t183.length co25)) (fun _ hk => hk.2) (.slice Ao24 t186.length co24)) (fun _ hk => hk.2) (.int .i64 a0_3)) (fun _ hk => hk.2) (.int .i64 a0_4)) (fun _ hk => hk.2) (.slice none 0 0)) (fun _ hk => hk.2) (.slice Ao27 y189.length co27)) (fun _ hk => hk.2) (.slice none 0 0)) (fun _ hk => hk.2) (.int .i64 0)) (fun _ hk => hk.2) (.int .i64 0)) (fun _ hk => hk.2) (.int .i64 0)) (fun _ hk => ⟨hk.1.1, hk.1.2⟩)⟩, ⟨by (with_reducible repeat (first | apply Kd.R_alloc | apply Kd.R_drewN | apply Kd.R_drew)); exact Kd.R_mono (Kd.R_far (p := ⟨gb192, 10, none⟩) (Kd.R_far (p := ⟨gb192, 9, none⟩) (Kd.R_far (p := ⟨gb192, 8, none⟩) (Kd.R_far (p := ⟨gb192, 7, none⟩) (Kd.R_far (p := ⟨gb192, 6, none⟩) (Kd.R_far (p := ⟨gb192, 5, none⟩) (Kd.R_far (p := ⟨gb192, 4, none⟩) (Kd.R_far (p := ⟨gb192, 3, none⟩) (Kd.R_far (p := ⟨gb192, 2, none⟩) (Kd.R_far (p := ⟨gb192, 1, none⟩) (Kd.R_far (p := ⟨gb192, 0, none⟩) (Kd.R_types HO185.out BK192.out (by decide)) (fun _ hk => hk.2) (.slice Ao26 t180.length co26)) (fun _ hk => hk.2) (.slice Ao25 t183.length co25)) (fun _ hk => hk.2) (.slice Ao24 t186.length co24)) (fun _ hk => hk.2) (.int .i64 a0_3)) (fun _ hk => hk.2) (.int .i64 a0_4)) (fun _ hk => hk.2) (.slice none 0 0)) (fun _ hk => hk.2) (.slice Ao27 y189.length co27)) (fun _ hk => hk.2) (.slice none 0 0)) (fun _ hk => hk.2) (.int .i64 0)) (fun _ hk => hk.2) (.int .i64 0)) (fun _ hk => hk.2) (.int .i64 0)) (fun _ hk => ⟨hk.1.1, hk.1.2⟩)⟩, ⟨by (with_reducible repeat (first | apply Kd.R_alloc | apply Kd.R_drewN | apply Kd.R_drew)); exact Kd.R_mono (Kd.R_far (p := ⟨gb192, 10, none⟩) (Kd.R_far (p := ⟨gb192, 9, none⟩) (Kd.R_far (p := ⟨gb192, 8, none⟩) (Kd.R_far (p := ⟨gb192, 7, none⟩) (Kd.R_far (p := ⟨gb192, 6, none⟩) (Kd.R_far (p := ⟨gb192, 5, none⟩) (Kd.R_far (p := ⟨gb192, 4, none⟩) (Kd.R_far (p := ⟨gb192, 3, none⟩) (Kd.R_far (p := ⟨gb192, 2, none⟩) (Kd.R_far (p := ⟨gb192, 1, none⟩) (Kd.R_far (p := ⟨gb192, 0, none⟩) (Kd.R_types HO188.out BK192.out (by decide)) (fun _ hk => hk.2) (.slice Ao26 t180.length co26)) (fun _ hk => hk.2) (.slice Ao25 t183.length co25)) (fun _ hk => hk.2) (.slice Ao24 t186.length co24)) (fun _ hk => hk.2) (.int .i64 a0_3)) (fun _ hk => hk.2) (.int .i64 a0_4)) (fun _ hk => hk.2) (.slice none 0 0)) (fun _ hk => hk.2) (.slice Ao27 y189.length co27)) (fun _ hk => hk.2) (.slice none 0 0)) (fun _ hk => hk.2) (.int .i64 0)) (fun _ hk => hk.2) (.int .i64 0)) (fun _ hk => hk.2) (.int .i64 0)) (fun _ hk => ⟨hk.1.1, hk.1.2⟩)⟩, ⟨zf5'⟩, ⟨by (with_reducible repeat (first | apply Kd.S_alloc | apply Kd.S_drewN | apply Kd.S_drew)); exact Kd.S_mono (Kd.S_far (p := ⟨gb192, 10, none⟩) (Kd.S_far (p := ⟨gb192, 9, none⟩) (Kd.S_far (p := ⟨gb192, 8, none⟩) (Kd.S_far (p := ⟨gb192, 7, none⟩) (Kd.S_far (p := ⟨gb192, 6, none⟩) (Kd.S_far (p := ⟨gb192, 5, none⟩) (Kd.S_far (p := ⟨gb192, 4, none⟩) (Kd.S_far (p := ⟨gb192, 3, none⟩) (Kd.S_far (p := ⟨gb192, 2, none⟩) (Kd.S_far (p := ⟨gb192, 1, none⟩) (Kd.S_far (p := ⟨gb192, 0, none⟩) (Kd.S_types HO191.out BK192.out (by decide)) (fun _ hk => hk.2) (.slice Ao26 t180.length co26)) (fun _ hk => hk.2) (.slice Ao25 t183.length co25)) (fun _ hk => hk.2) (.slice Ao24 t186.length co24)) (fun _ hk => hk.2) (.int .i64 a0_3)) (fun _ hk => hk.2) (.int .i64 a0_4)) (fun _ hk => hk.2) (.slice none 0 0)) (fun _ hk => hk.2) (.slice Ao27 y189.length co27)) (fun _ hk => hk.2) (.slice none 0 0)) (fun _ hk => hk.2) (.int .i64 0)) (fun _ hk => hk.2) (.int .i64 0)) (fun _ hk => hk.2) (.int .i64 0)) (fun _ hk => ⟨hk.1.1, ⟨hk.1.2.1, hk.1.2.2⟩⟩)⟩, ⟨by (with_reducible repeat (first | apply kn | apply kd | apply ka)); refine blk_far ?_ NB178_192.out _; (with_reducible repeat (first | apply kn | apply kd | apply ka)); refine blk_far ?_ NB178_192.out _; (with_reducible repeat (first | apply kn | apply kd | apply ka)); refine blk_far ?_ NB178_192.out _; (with_reducible repeat (first | apply kn | apply kd | apply ka)); refine blk_far ?_ NB178_192.out _; (with_reducible repeat (first | apply kn | apply kd | apply ka)); refine blk_far ?_ NB178_192.out _; (with_reducible repeat (first | apply kn | apply kd | apply ka)); refine blk_far ?_ NB178_192.out _; (with_reducible repeat (first | apply kn | apply kd | apply ka)); refine blk_far ?_ NB178_192.out _; (with_reducible repeat (first | apply kn | apply kd | apply ka)); refine blk_far ?_ NB178_192.out _; (with_reducible repeat (first | apply kn | apply kd | apply ka)); refine blk_far ?_ NB178_192.out _; (with_reducible repeat (first | apply kn | apply kd | apply ka)); refine blk_far ?_ NB178_192.out _; (with_reducible repeat (first | apply kn | apply kd | apply ka)); refine blk_far ?_ NB178_192.out _; (with_reducible repeat (first | apply kn | apply kd | apply ka)); exact BK178.out⟩, ⟨by (with_reducible repeat (first | apply kn | apply kd | apply ka)); refine blk_far ?_ NB179_192.out _; (with_reducible repeat (first | apply kn | apply kd | apply ka)); refine blk_far ?_ NB179_192.out _; (with_reducible repeat (first | apply kn | apply kd | apply ka)); refine blk_far ?_ NB179_192.out _; (with_reducible repeat (first | apply kn | apply kd | apply ka)); refine blk_far ?_ NB179_192.out _; (with_reducible repeat (first | apply kn | apply kd | apply ka)); refine blk_far ?_ NB179_192.out _; (with_reducible repeat (first | apply kn | apply kd | apply ka)); refine blk_far ?_ NB179_192.out _; (with_reducible repeat (first | apply kn | apply kd | apply ka)); refine blk_far ?_ NB179_192.out _; (with_reducible repeat (first | apply kn | apply kd | apply ka)); refine blk_far ?_ NB179_192.out _; (with_reducible repeat (first | apply kn | apply kd | apply ka)); refine blk_far ?_ NB179_192.out _; (with_reducible repeat (first | apply kn | apply kd | apply ka)); refine blk_far ?_ NB179_192.out _; (with_reducible repeat (first | apply kn | apply kd | apply ka)); refine blk_far ?_ NB179_192.out _; (with_reducible repeat (first | apply kn | apply kd | apply ka)); exact BK179.out⟩, ⟨by (with_reducible repeat (first | apply kn | apply kd | apply ka)); refine blk_put (cs := #[.slice Ao26 t180.length co26, .slice Ao25 t183.length co25, .slice Ao24 t186.length co24, .int .i64 a0_3, .int .i64 a0_4, .slice none 0 0, .slice Ao27 y189.length co27, .slice none 0 0, .int .i64 0, .int .i64 0, .int .i64 0]) ?_ 10 _ rfl; (with_reducible repeat (first | apply kn | apply kd | apply ka)); refine blk_put (cs := #[.slice Ao26 t180.length co26, .slice Ao25 t183.length co25, .slice Ao24 t186.length co24, .int .i64 a0_3, .int .i64 a0_4, .slice none 0 0, .slice Ao27 y189.length co27, .slice none 0 0, .int .i64 0, .int .i64 0, .int .i64 0]) ?_ 9 _ rfl; (with_reducible repeat (first | apply kn | apply kd | apply ka)); refine blk_put (cs := #[.slice Ao26 t180.length co26, .slice Ao25 t183.length co25, .slice Ao24 t186.length co24, .int .i64 a0_3, .int .i64 a0_4, .slice none 0 0, .slice Ao27 y189.length co27, .slice none 0 0, .int .i64 0, .int .i64 0, .int .i64 0]) ?_ 8 _ rfl; (with_reducible repeat (first | apply kn | apply kd | apply ka)); refine blk_put (cs := #[.slice Ao26 t180.length co26, .slice Ao25 t183.length co25, .slice Ao24 t186.length co24, .int .i64 a0_3, .int .i64 a0_4, .slice none 0 0, .slice Ao27 y189.length co27, .slice none 0 0, .int .i64 0, .int .i64 0, .int .i64 0]) ?_ 7 _ rfl; (with_reducible repeat (first | apply kn | apply kd | apply ka)); refine blk_put (cs := #[.slice Ao26 t180.length co26, .slice Ao25 t183.length co25, .slice Ao24 t186.length co24, .int .i64 a0_3, .int .i64 a0_4, .slice none 0 0, .slice none 0 0, .slice none 0 0, .int .i64 0, .int .i64 0, .int .i64 0]) ?_ 6 _ rfl; (with_reducible repeat (first | apply kn | apply kd | apply ka)); refine blk_put (cs := #[.slice Ao26 t180.length co26, .slice Ao25 t183.length co25, .slice Ao24 t186.length co24, .int .i64 a0_3, .int .i64 a0_4, .slice none 0 0, .slice none 0 0, .slice none 0 0, .int .i64 0, .int .i64 0, .int .i64 0]) ?_ 5 _ rfl; (with_reducible repeat (first | apply kn | apply kd | apply ka)); refine blk_put (cs := #[.slice Ao26 t180.length co26, .slice Ao25 t183.length co25, .slice Ao24 t186.length co24, .int .i64 a0_3, .int .i64 0, .slice none 0 0, .slice none 0 0, .slice none 0 0, .int .i64 0, .int .i64 0, .int .i64 0]) ?_ 4 _ rfl; (with_reducible repeat (first | apply kn | apply kd | apply ka)); refine blk_put (cs := #[.slice Ao26 t180.length co26, .slice Ao25 t183.length co25, .slice Ao24 t186.length co24, .int .i64 0, .int .i64 0, .slice none 0 0, .slice none 0 0, .slice none 0 0, .int .i64 0, .int .i64 0, .int .i64 0]) ?_ 3 _ rfl; (with_reducible repeat (first | apply kn | apply kd | apply ka)); refine blk_put (cs := #[.slice Ao26 t180.length co26, .slice Ao25 t183.length co25, .slice none 0 0, .int .i64 0, .int .i64 0, .slice none 0 0, .slice none 0 0, .slice none 0 0, .int .i64 0, .int .i64 0, .int .i64 0]) ?_ 2 _ rfl; (with_reducible repeat (first | apply kn | apply kd | apply ka)); refine blk_put (cs := #[.slice Ao26 t180.length co26, .slice none 0 0, .slice none 0 0, .int .i64 0, .int .i64 0, .slice none 0 0, .slice none 0 0, .slice none 0 0, .int .i64 0, .int .i64 0, .int .i64 0]) ?_ 1 _ rfl; (with_reducible repeat (first | apply kn | apply kd | apply ka)); refine blk_put (cs := #[.slice none 0 0, .slice none 0 0, .slice none 0 0, .int .i64 0, .int .i64 0, .slice none 0 0, .slice none 0 0, .slice none 0 0, .int .i64 0, .int .i64 0, .int .i64 0]) ?_ 0 _ rfl; (with_reducible repeat (first | apply kn | apply kd | apply ka)); exact BK192.out⟩, ⟨zd'⟩⟩
   case round =>
    clear H'; (try clear c1); (try clear p2); (try clear c10); obtain ⟨x7_1, x193005_1, x193006_1, u193005, u193006, rfl, HA, HK1, HO_193000, HO_193001, HO_193002, HO_193005, HO_193006, BK178, BK179, BK192, HB⟩ := hrel
    cases gk with
    | zero => exact absurd HA.out (by simp [spec_flNew.l0])
    | succ k1 =>
     have H := HA.out; clear HA; simp only [spec_flNew.l0] at H
     by_cases c39 : x7_1 < a1
     ·rw [if_pos c39] at H
      have c39b0 : decide (x7_1 < a1) = true := decide_eq_true c39; clear c39
      by_cases c40 : (l0_0.length : Int) = 0
      ·rw [if_pos c40] at H
       exact absurd H (by simp)
      ·rw [if_neg c40] at H
       have c40b0 : ((l0_0.length : Int) == 0) = false := beq_eq_false_iff_ne.mpr c40; have c40b1 : ((l0_0.length : Int) != 0) = true := bne_iff_ne.mpr c40
       have c40b2 : ¬ (l0_0 = []) := fun h_ => c40 (by rw [h_]; rfl)
       by_cases c41 : x193005_1.length < 5864062014805
       ·rw [if_pos c41] at H
        have LMc41 := Aside0.mk c41; clear c41
        obtain ⟨y193, hy193⟩ : ∃ y_ : List (S80), y_ = (x193005_1 ++ [(⟨0, Int.tmod x7_1 (l0_0.length : Int), 0⟩ : S80)]) := ⟨_, rfl⟩
        replace H : (if 0 ≤ (Int.tmod x7_1 (l0_0.length : Int)) then (if (Int.tmod x7_1 (l0_0.length : Int)) < (x193006_1.length : Int) then (if (rd_L2 x193006_1 (Int.tmod x7_1 (l0_0.length : Int))).length < 17592186044416 then (spec_flNew.l0 k1 a1 (l0_0.length : Int) (wrap64 (x7_1 + 1)) t180 t183 t186 a0_3 a0_4 y193 (x193006_1.set ((Int.tmod x7_1 (l0_0.length : Int)) : Int).toNat ((rd_L2 x193006_1 (Int.tmod x7_1 (l0_0.length : Int))) ++ [x7_1])) 0 0 0) else (none)) else (none)) else (none)) = some (r1, r2, r3, r4, r5, r6, r7, r8, r9, r10, r11) := by first | (rw [hy193]; with_reducible exact H) | (have H2_ := (Option.bind_some _ _).symm.trans H; rw [hy193]; with_reducible exact H2_) | (have H2_ := (Option.bind_some _ _).symm.trans H; with_reducible exact H2_) | with_reducible exact H | (rw [hy193]; exact H) | exact H
        have Ny193 := Aside0.mk hy193; clear hy193
        obtain ⟨ji42, hji42⟩ : ∃ j_ : Int, (Int.tmod x7_1 (l0_0.length : Int)) = j_ := ⟨_, rfl⟩
        replace H : (if 0 ≤ (ji42) then (if (ji42) < (x193006_1.length : Int) then (if (rd_L2 x193006_1 (ji42)).length < 17592186044416 then (spec_flNew.l0 k1 a1 (l0_0.length : Int) (wrap64 (x7_1 + 1)) t180 t183 t186 a0_3 a0_4 y193 (x193006_1.set ((ji42) : Int).toNat ((rd_L2 x193006_1 (ji42)) ++ [x7_1])) 0 0 0) else (none)) else (none)) else (none)) = some (r1, r2, r3, r4, r5, r6, r7, r8, r9, r10, r11) := by first | (rw [hji42] at H; exact H) | (simp only [hji42] at H ⊢; exact H)
        (try rw [hji42] at Ny193); (try rw [hji42] at Ny193)
        by_cases c43 : 0 ≤ (ji42)
        ·rw [if_pos c43] at H
         have c43b0 : decide (0 ≤ (ji42)) = true := decide_eq_true c43; clear c43
         by_cases c44 : (ji42) < (x193006_1.length : Int)
         ·rw [if_pos c44] at H
          have c44b0 : decide ((ji42) < (x193006_1.length : Int)) = true := decide_eq_true c44; clear c44
          by_cases c45 : (rd_L2 x193006_1 (ji42)).length < 17592186044416
          ·rw [if_pos c45] at H
           have LMc45 := Aside0.mk c45; clear c45
           obtain ⟨y197, hy197⟩ : ∃ y_ : List Int, y_ = ((rd_L2 x193006_1 (ji42)) ++ [x7_1]) := ⟨_, rfl⟩
           replace H : (spec_flNew.l0 k1 a1 (l0_0.length : Int) (wrap64 (x7_1 + 1)) t180 t183 t186 a0_3 a0_4 y193 (x193006_1.set ((ji42) : Int).toNat y197) 0 0 0) = some (r1, r2, r3, r4, r5, r6, r7, r8, r9, r10, r11) := by first | (rw [hy197]; with_reducible exact H) | (have H2_ := (Option.bind_some _ _).symm.trans H; rw [hy197]; with_reducible exact H2_) | (have H2_ := (Option.bind_some _ _).symm.trans H; with_reducible exact H2_) | with_reducible exact H | (rw [hy197]; exact H) | exact H
           have Ny197 := Aside0.mk hy197; clear hy197
           obtain ⟨y200, hy200⟩ : ∃ y_ : List (List Int), y_ = (x193006_1.set ((ji42) : Int).toNat y197) := ⟨_, rfl⟩
           replace H : (spec_flNew.l0 k1 a1 (l0_0.length : Int) (wrap64 (x7_1 + 1)) t180 t183 t186 a0_3 a0_4 y193 y200 0 0 0) = some (r1, r2, r3, r4, r5, r6, r7, r8, r9, r10, r11) := by first | (rw [hy200]; with_reducible exact H) | (have H2_ := (Option.bind_some _ _).symm.trans H; rw [hy200]; with_reducible exact H2_) | (have H2_ := (Option.bind_some _ _).symm.trans H; with_reducible exact H2_) | with_reducible exact H | (rw [hy200]; exact H) | exact H
           have Ny200 := Aside0.mk hy200; clear hy200; have H' := Aside0.mk H; clear H
           try go_wp2
           have n0_ := am (Kd.R_drew HO_193000.out); have n1_ := am (Kd.R_drew HO_193001.out); have n2_ := am (Kd.R_drew HO_193002.out); have n3_ := am (Kd.R_drew HO_193005.out); have n4_ := am (Kd.S_drew HO_193006.out); have n5_ := am (blk_drew BK178.out); have n6_ := am (blk_drew BK179.out); have n7_ := am (blk_drew BK192.out); have n8_ := am (below_drew1 HB.out); clear HO_193000; clear HO_193001; clear HO_193002; clear HO_193005; clear HO_193006; clear BK178; clear BK179; clear BK192; clear HB; have HO_193000 := n0_; have HO_193001 := n1_; have HO_193002 := n2_; have HO_193005 := n3_; have HO_193006 := n4_; have BK178 := n5_; have BK179 := n6_; have BK192 := n7_; have HB := n8_; clear n0_ n1_ n2_ n3_ n4_ n5_ n6_ n7_ n8_
           refine start_ (n := 10) (S := fun w' => w'.cell? ⟨gb192, 0, none⟩ = some (.slice Ao26 t180.length co26) ∧ w'.cell? ⟨gb192, 1, none⟩ = some (.slice Ao25 t183.length co25) ∧ w'.cell? ⟨gb192, 2, none⟩ = some (.slice Ao24 t186.length co24) ∧ w'.cell? ⟨gb192, 3, none⟩ = some (.int .i64 a0_3) ∧ w'.cell? ⟨gb192, 4, none⟩ = some (.int .i64 a0_4) ∧ w'.cell? ⟨gb192, 5, none⟩ = some (u193005) ∧ w'.cell? ⟨gb192, 6, none⟩ = some (u193006) ∧ w'.cell? ⟨gb192, 7, none⟩ = some (.slice none 0 0) ∧ w'.cell? ⟨gb192, 8, none⟩ = some (.int .i64 0) ∧ w'.cell? ⟨gb192, 9, none⟩ = some (.int .i64 0) ∧ w'.cell? ⟨gb192, 10, none⟩ = some (.int .i64 0)) (ds := [9]) #[Z,Z,Z,Z,Z,Z,Z,Z,Z,Z] (by kernel_rfl) rfl rfl ⟨(blk_cell BK192.out 0).trans rfl, (blk_cell BK192.out 1).trans rfl, (blk_cell BK192.out 2).trans rfl, (blk_cell BK192.out 3).trans rfl, (blk_cell BK192.out 4).trans rfl, (blk_cell BK192.out 5).trans rfl, (blk_cell BK192.out 6).trans rfl, (blk_cell BK192.out 7).trans rfl, (blk_cell BK192.out 8).trans rfl, (blk_cell BK192.out 9).trans rfl, (blk_cell BK192.out 10).trans rfl⟩ (fun hHeld => ?_); refine with_tabW spec_flNew.tab6 spec_flNew.bits6 (fun HT_ HW_ => ?_)
           generalize wr.drew = w47 at HO_193000 HO_193001 HO_193002 HO_193005 HO_193006 BK178 BK179 BK192 HB hHeld ⊢
           refine pure_ (i := 0) (N := some 33) (v := ?_) (a' := ?_) #[Y,Z,Z,Z,Z,Z,Z,Z,Z,Z] rfl rfl (any_of HT_.out (by kernel_rfl)) (fun _ _ _ h => h) (Or.inl ⟨by rfl, ?_⟩) ?_ ?_
           rotate_left
           ·intro w'
            go_simp
            with_reducible rfl
           rotate_left
           ·simp only [Act.put, s1, s2, s3, i64_w, i32_w]
            rfl
           refine pure_ (i := 2) (N := some 35) (v := ?_) (a' := ?_) #[Y,Z,Y,Z,Z,Z,Z,Z,Z,Z] rfl rfl (any_of HT_.out (by kernel_rfl)) (fun _ _ _ h => h) (Or.inl ⟨by rfl, ?_⟩) ?_ ?_
           rotate_left
           ·intro w'
            go_simp
            with_reducible rfl
           rotate_left
           ·simp only [Act.put, s1, s2, s3, i64_w, i32_w]
            rfl
           refine pure_ (i := 3) (N := some 36) (v := ?_) (a' := ?_) #[Y,Z,Y,Y,Z,Z,Z,Z,Z,Z] rfl rfl (any_of HT_.out (by kernel_rfl)) (fun _ _ _ h => h) (Or.inl ⟨by rfl, ?_⟩) ?_ ?_
           rotate_left
           ·intro w'
            go_simp
            with_reducible rfl
           rotate_left
           ·simp only [Act.put, s1, s2, s3, i64_w, i32_w]
            rfl
           refine pure_ (i := 4) (N := some 37) (v := ?_) (a' := ?_) #[Y,Z,Y,Y,Y,Z,Z,Z,Z,Z] rfl rfl (any_of HT_.out (by kernel_rfl)) (fun _ _ _ h => h) (Or.inl ⟨by rfl, ?_⟩) ?_ ?_
           rotate_left
           ·intro w'
            go_simp
            with_reducible rfl
           rotate_left
           ·simp only [Act.put, s1, s2, s3, i64_w, i32_w]
            rfl
           refine pure_ (i := 5) (N := some 38) (v := ?_) (a' := ?_) #[Y,Z,Y,Y,Y,Y,Z,Z,Z,Z] rfl rfl (any_of HT_.out (by kernel_rfl)) (fun _ _ _ h => h) (Or.inl ⟨by rfl, ?_⟩) ?_ ?_
           rotate_left
           ·intro w'
            go_simp
            with_reducible rfl
           rotate_left
           ·simp only [Act.put, s1, s2, s3, i64_w, i32_w]
            rfl
           refine take_ (i := 1) (N := some 34) (v := ?_) (a' := ?_) #[Y,Y,Y,Y,Y,Y,Z,Z,Z,Z] rfl rfl (take_ofW HT_.out HW_.out (by kernel_rfl)) (fun _ _ _ h => h) (Or.inl ⟨by rfl, ?_⟩) hHeld ?_ ?_
           rotate_left
           ·rintro w' ⟨s0, s1, s2, s3, s4, s5, s6, s7, s8, s9, s10⟩
            go_simp
            with_reducible rfl
           rotate_left
           ·simp only [Act.put, s1, s2, s3, i64_w, i32_w]
            rfl
           refine one_ (i := 6) (N := some 39) #[Y,Y,Y,Y,Y,Y,Y,Z,Z,Z] rfl rfl (one_of HT_.out (by kernel_rfl)) (by decide) (fun K hK => ?_)
           refine value_ (w1 := ?_) (v := ?_) (by rfl) rfl ?_ ?_
           rotate_left 2
           ·go_simp
            constructor
            ·rfl
            ·rfl
           refine hK.out _ _ ⟨(blk_cell (blk_alloc BK192.out _) 0).trans rfl, (blk_cell (blk_alloc BK192.out _) 1).trans rfl, (blk_cell (blk_alloc BK192.out _) 2).trans rfl, (blk_cell (blk_alloc BK192.out _) 3).trans rfl, (blk_cell (blk_alloc BK192.out _) 4).trans rfl, (blk_cell (blk_alloc BK192.out _) 5).trans rfl, (blk_cell (blk_alloc BK192.out _) 6).trans rfl, (blk_cell (blk_alloc BK192.out _) 7).trans rfl, (blk_cell (blk_alloc BK192.out _) 8).trans rfl, (blk_cell (blk_alloc BK192.out _) 9).trans rfl, (blk_cell (blk_alloc BK192.out _) 10).trans rfl⟩ (fun hHeld => ?_)
           clear hK K
           refine norm_ (a' := ?_) ?_ ?_
           rotate_left
           ·show Act.put _ (some 39) _ = _
            simp only [Act.put, s1, s2, s3, i64_w, i32_w]
            rfl
           refine one_ (i := 7) (N := some 40) #[Y,Y,Y,Y,Y,Y,Y,Y,Z,Z] rfl rfl (one_of HT_.out (by kernel_rfl)) (by decide) (fun K hK => ?_)
           refine Kd.R_append_step k80 (w0 := w) w.heap.size (by rfl) (.tmp 34) (.tmp 39) 42 80 (.agg #[(.int .i64 0), (.int .i64 0), (.int .i64 0)]) 24 rfl Try.underlying42 info80 rfl (by decide) (by omega) u193005 x193005_1 (⟨0, ji42, 0⟩ : S80) [.int .i64 0, .int .i64 ji42, .int .i64 0] (fun _ => True) (fun _ => False) rfl rfl ?aP (fun _ hk => hk.elim) ?aF ?aO ?aB ?aS ?aL ?_
           (case aP => exact k80_mkM _ _ _ (⟨0, ji42, 0⟩ : S80))
           (case aB => exact zd')
           (case aF => exact (fun _ _ => trivial))
           (case aO => exact zz2')
           (case aS => exact (below_size zd'))
           (case aL => have := LMc41.out; omega)
           intro v194 w48 ho hb hg hat
           rw [← Ny193.out] at ho; have n0_ := am (Kd.R_over' zm4' (Kd.R_typed zz2') (by decide) hg); have n1_ := am (Kd.R_over' zn4' (Kd.R_typed zz2') (by decide) hg); have n2_ := am (Kd.R_over' zo4' (Kd.R_typed zz2') (by decide) hg); have n3_ := am (Kd.S_over' (by (with_reducible repeat (first | apply Kd.S_alloc | apply Kd.S_drewN | apply Kd.S_drew)); exact HO_193006.out) (Kd.R_typed zz2') (by decide) hg); have n4_ := am (blk_grown (g := gb178) (o := o0') zg' hg (Kd.R_ne HO_193005.out BK178.out (by decide))); have n5_ := am (blk_grown (g := gb179) (o := o1') zh' hg (Kd.R_ne HO_193005.out BK179.out (by decide))); have n6_ := am (blk_grown (g := gb192) (o := .cells #[.slice Ao26 t180.length co26, .slice Ao25 t183.length co25, .slice Ao24 t186.length co24, .int .i64 a0_3, .int .i64 a0_4, u193005, u193006, .slice none 0 0, .int .i64 0, .int .i64 0, .int .i64 0] 44 (0, 0)) za1' hg (Kd.R_ne HO_193005.out BK192.out (by decide))); have n7_ := am (hb); have n8_ := am (ho); clear HO_193000; clear HO_193001; clear HO_193002; clear HO_193006; clear BK178; clear BK179; clear BK192; clear HB; clear HO_193005; have HO_193000 := n0_; have HO_193001 := n1_; have HO_193002 := n2_; have HO_193006 := n3_; have BK178 := n4_; have BK179 := n5_; have BK192 := n6_; have HB := n7_; have HO195 := n8_; clear n0_ n1_ n2_ n3_ n4_ n5_ n6_ n7_ n8_; clear ho hb hg hat; obtain ⟨Ao49, co49, eo49⟩ := Kd.R_slice HO195.out
           (first | subst eo49 | (injection eo49 with f1_ f2_ f3_; have f4_ := f1_.symm; have f5_ := f3_.symm; clear f1_ f2_ f3_; subst f4_; subst f5_))
           refine hK.out _ _ ⟨(blk_cell BK192.out 0).trans rfl, (blk_cell BK192.out 1).trans rfl, (blk_cell BK192.out 2).trans rfl, (blk_cell BK192.out 3).trans rfl, (blk_cell BK192.out 4).trans rfl, (blk_cell BK192.out 5).trans rfl, (blk_cell BK192.out 6).trans rfl, (blk_cell BK192.out 7).trans rfl, (blk_cell BK192.out 8).trans rfl, (blk_cell BK192.out 9).trans rfl, (blk_cell BK192.out 10).trans rfl⟩ (fun hHeld => ?_)
           clear hK K
           refine norm_ (a' := ?_) ?_ ?_
           rotate_left
           ·show Act.put _ (some 40) _ = _
            simp only [Act.put, s1, s2, s3, i64_w, i32_w]
            rfl
           refine pure_ (i := 8) (N := some 41) (v := ?_) (a' := ?_) #[Y,Y,Y,Y,Y,Y,Y,Y,Y,Z] rfl rfl (any_of HT_.out (by kernel_rfl)) (fun _ _ _ h => h) (Or.inl ⟨by rfl, ?_⟩) ?_ ?_
           rotate_left
           ·intro w'
            go_simp
            with_reducible rfl
           rotate_left
           ·simp only [Act.put, s1, s2, s3, i64_w, i32_w]
            rfl
           refine last_ (i := 9) (N := none) #[Y,Y,Y,Y,Y,Y,Y,Y,Y,Y] rfl rfl (one_of HT_.out (by kernel_rfl)) (by decide) (fun K hK => ?_)
           have hs50 : w48.cell? ⟨gb192, 5, none⟩ = some (u193005) := (blk_cell BK192.out 5).trans rfl; have hfs50 := blk_frozen BK192.out 5; have hns50_0 := NB178_192.out; have hns50_1 := NB179_192.out; have hms50_0 := NB192_178.out; have hms50_1 := NB192_179.out
           refine skip_ (w1 := ?_) (by rfl) rfl ?_ ?_
           rotate_left
           ·go_simp
            rfl
           refine hK.out _ _ ?_
           clear hK K
           refine done_ (done_of HT_.out (by kernel_rfl)) ?_
           try go_wp2
           have n0_ : Aside0 (Kd.R (Kd.int .i64) 3 (w48.setCell ⟨gb192, 5, none⟩ (.slice Ao49 y193.length co49)) w.heap.size (fun k_ => some k_ ≠ (.slice Ao25 t183.length co25 : Value).ownBlock ∧ some k_ ≠ (.slice Ao24 t186.length co24 : Value).ownBlock) (.slice Ao26 t180.length co26) t180) := ⟨by (with_reducible repeat (first | apply Kd.R_alloc | apply Kd.R_drewN | apply Kd.R_drew)); exact Kd.R_mono (Kd.R_far (p := ⟨gb192, 5, none⟩) (Kd.R_types HO_193000.out BK192.out (by decide)) (fun _ hk => hk.2) (.slice Ao49 y193.length co49)) (fun _ hk => ⟨hk.1.1, hk.1.2⟩)⟩; have n1_ : Aside0 (Kd.R (Kd.int .i64) 3 (w48.setCell ⟨gb192, 5, none⟩ (.slice Ao49 y193.length co49)) w.heap.size (fun k_ => some k_ ≠ (.slice Ao26 t180.length co26 : Value).ownBlock ∧ some k_ ≠ (.slice Ao24 t186.length co24 : Value).ownBlock) (.slice Ao25 t183.length co25) t183) := ⟨by (with_reducible repeat (first | apply Kd.R_alloc | apply Kd.R_drewN | apply Kd.R_drew)); exact Kd.R_mono (Kd.R_far (p := ⟨gb192, 5, none⟩) (Kd.R_types HO_193001.out BK192.out (by decide)) (fun _ hk => hk.2) (.slice Ao49 y193.length co49)) (fun _ hk => ⟨hk.1.1, hk.1.2⟩)⟩; have n2_ : Aside0 (Kd.R (Kd.int .i64) 3 (w48.setCell ⟨gb192, 5, none⟩ (.slice Ao49 y193.length co49)) w.heap.size (fun k_ => some k_ ≠ (.slice Ao26 t180.length co26 : Value).ownBlock ∧ some k_ ≠ (.slice Ao25 t183.length co25 : Value).ownBlock) (.slice Ao24 t186.length co24) t186) := ⟨by (with_reducible repeat (first | apply Kd.R_alloc | apply Kd.R_drewN | apply Kd.R_drew)); exact Kd.R_mono (Kd.R_far (p := ⟨gb192, 5, none⟩) (Kd.R_types HO_193002.out BK192.out (by decide)) (fun _ hk => hk.2) (.slice Ao49 y193.length co49)) (fun _ hk => ⟨hk.1.1, hk.1.2⟩)⟩
           have n3_ : Aside0 (Kd.S (Kd.slice 3 (Kd.int .i64)) 22 (w48.setCell ⟨gb192, 5, none⟩ (.slice Ao49 y193.length co49)) w.heap.size (fun k_ => some k_ ≠ (.slice Ao26 t180.length co26 : Value).ownBlock ∧ some k_ ≠ (.slice Ao25 t183.length co25 : Value).ownBlock ∧ some k_ ≠ (.slice Ao24 t186.length co24 : Value).ownBlock) u193006 x193006_1) := ⟨by (with_reducible repeat (first | apply Kd.S_alloc | apply Kd.S_drewN | apply Kd.S_drew)); exact Kd.S_mono (Kd.S_far (p := ⟨gb192, 5, none⟩) (Kd.S_types HO_193006.out BK192.out (by decide)) (fun _ hk => hk.2) (.slice Ao49 y193.length co49)) (fun _ hk => ⟨hk.1.1, ⟨hk.1.2.1, hk.1.2.2⟩⟩)⟩; have n4_ : Aside0 (Kd.R k80 80 (w48.setCell ⟨gb192, 5, none⟩ (.slice Ao49 y193.length co49)) w.heap.size (fun _ => True) (.slice Ao49 y193.length co49) y193) := ⟨by (with_reducible repeat (first | apply Kd.R_alloc | apply Kd.R_drewN | apply Kd.R_drew)); exact Kd.R_mono (Kd.R_far (p := ⟨gb192, 5, none⟩) (Kd.R_types HO195.out BK192.out (by decide)) (fun _ hk => hk.2) (.slice Ao49 y193.length co49)) (fun _ hk => trivial)⟩; have n5_ : Aside0 ((w48.setCell ⟨gb192, 5, none⟩ (.slice Ao49 y193.length co49)).heap[gb178]? = some (.cells #[.slice A0_0 l0_0.length c0_0, .slice A0_1 l0_1.length c0_1, .slice A0_2 l0_2.length c0_2, .int .i64 a0_3, .int .i64 a0_4] 27 (0, 0))) := ⟨by (with_reducible repeat (first | apply kn | apply kd | apply ka)); refine blk_far ?_ NB178_192.out _; (with_reducible repeat (first | apply kn | apply kd | apply ka)); exact BK178.out⟩; have n6_ : Aside0 ((w48.setCell ⟨gb192, 5, none⟩ (.slice Ao49 y193.length co49)).heap[gb179]? = some (.cells #[.slice none 0 0, .slice none 0 0, .slice none 0 0, .int .i64 0, .int .i64 0, .slice none 0 0, .slice none 0 0, .slice none 0 0, .int .i64 0, .int .i64 0, .int .i64 0] 44 (0, 0))) := ⟨by (with_reducible repeat (first | apply kn | apply kd | apply ka)); refine blk_far ?_ NB179_192.out _; (with_reducible repeat (first | apply kn | apply kd | apply ka)); exact BK179.out⟩
           have n7_ : Aside0 ((w48.setCell ⟨gb192, 5, none⟩ (.slice Ao49 y193.length co49)).heap[gb192]? = some (.cells #[.slice Ao26 t180.length co26, .slice Ao25 t183.length co25, .slice Ao24 t186.length co24, .int .i64 a0_3, .int .i64 a0_4, .slice Ao49 y193.length co49, u193006, .slice none 0 0, .int .i64 0, .int .i64 0, .int .i64 0] 44 (0, 0))) := ⟨by (with_reducible repeat (first | apply kn | apply kd | apply ka)); refine blk_put (cs := #[.slice Ao26 t180.length co26, .slice Ao25 t183.length co25, .slice Ao24 t186.length co24, .int .i64 a0_3, .int .i64 a0_4, u193005, u193006, .slice none 0 0, .int .i64 0, .int .i64 0, .int .i64 0]) ?_ 5 _ rfl; (with_reducible repeat (first | apply kn | apply kd | apply ka)); exact BK192.out⟩; have n8_ : Aside0 (Below w.heap.size w (w48.setCell ⟨gb192, 5, none⟩ (.slice Ao49 y193.length co49))) := ⟨zd'⟩; (try clear HO_193000); (try clear HO_193001); (try clear HO_193002); (try clear HO_193006); (try clear HO195); (try clear BK178); (try clear BK179); (try clear BK192); (try clear HB); generalize (w48.setCell ⟨gb192, 5, none⟩ (.slice Ao49 y193.length co49)) = w51 at n0_ n1_ n2_ n3_ n4_ n5_ n6_ n7_ n8_ ⊢; have HO_193000 := n0_; have HO_193001 := n1_; have HO_193002 := n2_; have HO_193006 := n3_; have HO195 := n4_; have BK178 := n5_; have BK179 := n6_; have BK192 := n7_; have HB := n8_; clear n0_ n1_ n2_ n3_ n4_ n5_ n6_ n7_ n8_; have n0_ := am (Kd.R_drew HO_193000.out); have n1_ := am (Kd.R_drew HO_193001.out); have n2_ := am (Kd.R_drew HO_193002.out); have n3_ := am (Kd.S_drew HO_193006.out)
           have n4_ := am (Kd.R_drew HO195.out); have n5_ := am (blk_drew BK178.out); have n6_ := am (blk_drew BK179.out); have n7_ := am (blk_drew BK192.out); have n8_ := am (below_drew1 HB.out); clear HO_193000; clear HO_193001; clear HO_193002; clear HO_193006; clear HO195; clear BK178; clear BK179; clear BK192; clear HB; have HO_193000 := n0_; have HO_193001 := n1_; have HO_193002 := n2_; have HO_193006 := n3_; have HO195 := n4_; have BK178 := n5_; have BK179 := n6_; have BK192 := n7_; have HB := n8_; clear n0_ n1_ n2_ n3_ n4_ n5_ n6_ n7_ n8_; obtain ⟨Ao53, co53, eo53⟩ := Kd.S_slice HO_193006.out
           (first | subst eo53 | (injection eo53 with f1_ f2_ f3_; have f4_ := f1_.symm; have f5_ := f3_.symm; clear f1_ f2_ f3_; subst f4_; subst f5_))
           have p196 : 0 ≤ ((ji42) : Int) := odt; have q196 : (ji42) < (x193006_1.length : Int) := odt; obtain ⟨ad196, A196_0, c196_0, e196, hx196_0, hl196_0, hi196_0⟩ := at_L2 (Kd.S_reads' HO_193006.out).2.2 (ji42) p196 q196; cases e196; obtain ⟨ce196, hce196, hMe196, hcc196⟩ := Kd.S_get HO_193006.out [] (ji42) p196 (by first | exact q196 | exact odt | (have e_ := (Kd.S_reads' HO_193006.out).1; omega)); obtain ⟨ve196_0, rfl, ge196_0⟩ := hMe196; have hv196_0 := hcc196 0 _ rfl; rw [Nat.add_zero, show ((Kd.slice 3 (Kd.int .i64))).sz = 1 from rfl, Nat.mul_one] at hv196_0; replace hv196_0 := Option.some.inj (hv196_0.symm.trans hx196_0); rw [hv196_0] at ge196_0; have HL196_0 := am (show Kd.R (Kd.int .i64) 3 _ _ _ _ (rd_L2 x193006_1 (ji42)) from ge196_0); clear hv196_0 ge196_0; have HX196_0 := Aside0.mk hx196_0; clear hcc196 hce196; have HR196_0 := Aside0.mk hi196_0; have HC196_0 := Aside0.mk hl196_0; clear hi196_0 hl196_0; replace p196 := eq_true p196; replace q196 := eq_true q196; obtain ⟨go54, co54, eo54, gb54, gl54, cl54, HG54⟩ := Kd.S_form HO_193006.out (by have h_ : ((ji42) : Int) < ((x193006_1.length : Int) : Int) := odt; have h2_ : 0 ≤ ((ji42) : Int) := odt; omega)
           (first | cases eo54 | (injection eo54 with ea_ en_ ec_; (first | subst ea_ | (injection ea_ with ea_; subst ea_)); subst ec_; clear en_))
           have GB54 := Aside0.mk gb54; have GG54 := Aside0.mk HG54; clear gb54 gl54 HG54
           (first | simp only [add_plain] at hx196_0 | skip)
           obtain ⟨oki54, ce54, hcl54, hM54, hcc54, _, _, hH54⟩ := Kd.S_elem HO_193006.out [] ((ji42) : Int) odt (by have h_ : ((ji42) : Int) < ((x193006_1.length : Int) : Int) := odt; first | exact h_ | (have e_ := (Kd.S_reads' HO_193006.out).1; omega) | simpa using h_); obtain ⟨ve54_0, rfl, ge54_0⟩ := hM54; have hv54 := hcc54 0 _ rfl; have hX54 := HX196_0.out; (try simp only [add_plain] at hX54); (try simp only [Nat.add_zero] at hv54); (try rw [show ((Kd.slice 3 (Kd.int .i64))).sz = 1 from rfl, Nat.mul_one] at hv54); replace hv54 := Option.some.inj (hv54.symm.trans hX54); subst hv54; clear hX54 hcc54 hcl54; have UU54 := am (show Kd.R (Kd.int .i64) 3 _ w.heap.size oki54 (.slice A196_0 (rd_L2 x193006_1 (ji42)).length c196_0) (rd_L2 x193006_1 (ji42)) from ge54_0); have HH54 := Aside0.mk hH54; have HN54 := am (Kd.S_reads' HO_193006.out).1; clear hH54 ge54_0
           refine start_ (n := 17) (S := fun w' => w'.cell? ⟨gb192, 0, none⟩ = some (.slice Ao26 t180.length co26) ∧ w'.cell? ⟨gb192, 1, none⟩ = some (.slice Ao25 t183.length co25) ∧ w'.cell? ⟨gb192, 2, none⟩ = some (.slice Ao24 t186.length co24) ∧ w'.cell? ⟨gb192, 3, none⟩ = some (.int .i64 a0_3) ∧ w'.cell? ⟨gb192, 4, none⟩ = some (.int .i64 a0_4) ∧ w'.cell? ⟨gb192, 5, none⟩ = some (.slice Ao49 y193.length co49) ∧ w'.cell? ⟨gb192, 6, none⟩ = some (.slice (some ⟨go54, 0, none⟩) x193006_1.length co53) ∧ w'.cell? ⟨gb192, 7, none⟩ = some (.slice none 0 0) ∧ w'.cell? ⟨gb192, 8, none⟩ = some (.int .i64 0) ∧ w'.cell? ⟨gb192, 9, none⟩ = some (.int .i64 0) ∧ w'.cell? ⟨gb192, 10, none⟩ = some (.int .i64 0) ∧ w'.cell? ⟨go54, ((ji42)).toNat, none⟩ = some (.slice A196_0 (rd_L2 x193006_1 (ji42)).length c196_0)) (ds := [16]) #[Z,Z,Z,Z,Z,Z,Z,Z,Z,Z,Z,Z,Z,Z,Z,Z,Z] (by kernel_rfl) rfl rfl ⟨(blk_cell BK192.out 0).trans rfl, (blk_cell BK192.out 1).trans rfl, (blk_cell BK192.out 2).trans rfl, (blk_cell BK192.out 3).trans rfl, (blk_cell BK192.out 4).trans rfl, (blk_cell BK192.out 5).trans rfl, (blk_cell BK192.out 6).trans rfl, (blk_cell BK192.out 7).trans rfl, (blk_cell BK192.out 8).trans rfl, (blk_cell BK192.out 9).trans rfl, (blk_cell BK192.out 10).trans rfl, hx196_0⟩ (fun hHeld => ?_); refine with_tabW spec_flNew.tab7 spec_flNew.bits7 (fun HT_ HW_ => ?_)
           generalize w51.drew = w52 at HO_193000 HO_193001 HO_193002 HO_193006 HO195 BK178 BK179 BK192 HB GG54 HH54 HL196_0 HR196_0 HX196_0 UU54 hx196_0 hHeld ⊢
           refine pure_ (i := 0) (N := some 42) (v := ?_) (a' := ?_) #[Y,Z,Z,Z,Z,Z,Z,Z,Z,Z,Z,Z,Z,Z,Z,Z,Z] rfl rfl (any_of HT_.out (by kernel_rfl)) (fun _ _ _ h => h) (Or.inl ⟨by rfl, ?_⟩) ?_ ?_
           rotate_left
           ·intro w'
            go_simp
            with_reducible rfl
           rotate_left
           ·simp only [Act.put, s1, s2, s3, i64_w, i32_w]
            rfl
           refine pure_ (i := 2) (N := some 44) (v := ?_) (a' := ?_) #[Y,Z,Y,Z,Z,Z,Z,Z,Z,Z,Z,Z,Z,Z,Z,Z,Z] rfl rfl (any_of HT_.out (by kernel_rfl)) (fun _ _ _ h => h) (Or.inl ⟨by rfl, ?_⟩) ?_ ?_
           rotate_left
           ·intro w'
            go_simp
            with_reducible rfl
           rotate_left
           ·simp only [Act.put, s1, s2, s3, i64_w, i32_w]
            rfl
           refine pure_ (i := 3) (N := some 45) (v := ?_) (a' := ?_) #[Y,Z,Y,Y,Z,Z,Z,Z,Z,Z,Z,Z,Z,Z,Z,Z,Z] rfl rfl (any_of HT_.out (by kernel_rfl)) (fun _ _ _ h => h) (Or.inl ⟨by rfl, ?_⟩) ?_ ?_
           rotate_left
           ·intro w'
            go_simp
            with_reducible rfl
           rotate_left
           ·simp only [Act.put, s1, s2, s3, i64_w, i32_w]
            rfl
           refine pure_ (i := 4) (N := some 46) (v := ?_) (a' := ?_) #[Y,Z,Y,Y,Y,Z,Z,Z,Z,Z,Z,Z,Z,Z,Z,Z,Z] rfl rfl (any_of HT_.out (by kernel_rfl)) (fun _ _ _ h => h) (Or.inl ⟨by rfl, ?_⟩) ?_ ?_
           rotate_left
           ·intro w'
            go_simp
            with_reducible rfl
           rotate_left
           ·simp only [Act.put, s1, s2, s3, i64_w, i32_w]
            rfl
           refine pure_ (i := 5) (N := some 47) (v := ?_) (a' := ?_) #[Y,Z,Y,Y,Y,Y,Z,Z,Z,Z,Z,Z,Z,Z,Z,Z,Z] rfl rfl (any_of HT_.out (by kernel_rfl)) (fun _ _ _ h => h) (Or.inl ⟨by rfl, ?_⟩) ?_ ?_
           rotate_left
           ·intro w'
            go_simp
            with_reducible rfl
           rotate_left
           ·simp only [Act.put, s1, s2, s3, i64_w, i32_w]
            rfl
           refine pure_ (i := 7) (N := some 49) (v := ?_) (a' := ?_) #[Y,Z,Y,Y,Y,Y,Z,Y,Z,Z,Z,Z,Z,Z,Z,Z,Z] rfl rfl (any_of HT_.out (by kernel_rfl)) (fun _ _ _ h => h) (Or.inl ⟨by rfl, ?_⟩) ?_ ?_
           rotate_left
           ·intro w'
            go_simp
            with_reducible rfl
           rotate_left
           ·simp only [Act.put, s1, s2, s3, i64_w, i32_w]
            rfl
           refine pure_ (i := 8) (N := some 50) (v := ?_) (a' := ?_) #[Y,Z,Y,Y,Y,Y,Z,Y,Y,Z,Z,Z,Z,Z,Z,Z,Z] rfl rfl (any_of HT_.out (by kernel_rfl)) (fun _ _ _ h => h) (Or.inl ⟨by rfl, ?_⟩) ?_ ?_
           rotate_left
           ·intro w'
            go_simp
            with_reducible rfl
           rotate_left
           ·simp only [Act.put, s1, s2, s3, i64_w, i32_w]
            rfl
           refine pure_ (i := 9) (N := some 51) (v := ?_) (a' := ?_) #[Y,Z,Y,Y,Y,Y,Z,Y,Y,Y,Z,Z,Z,Z,Z,Z,Z] rfl rfl (any_of HT_.out (by kernel_rfl)) (fun _ _ _ h => h) (Or.inl ⟨by rfl, ?_⟩) ?_ ?_
           rotate_left
           ·intro w'
            go_simp
            with_reducible rfl
           rotate_left
           ·simp only [Act.put, s1, s2, s3, i64_w, i32_w]
            rfl
           refine pure_ (i := 12) (N := some 54) (v := ?_) (a' := ?_) #[Y,Z,Y,Y,Y,Y,Z,Y,Y,Y,Z,Z,Y,Z,Z,Z,Z] rfl rfl (any_of HT_.out (by kernel_rfl)) (fun _ _ _ h => h) (Or.inl ⟨by rfl, ?_⟩) ?_ ?_
           rotate_left
           ·intro w'
            go_simp
            with_reducible rfl
           rotate_left
           ·simp only [Act.put, s1, s2, s3, i64_w, i32_w]
            rfl
           refine take_ (i := 1) (N := some 43) (v := ?_) (a' := ?_) #[Y,Y,Y,Y,Y,Y,Z,Y,Y,Y,Z,Z,Y,Z,Z,Z,Z] rfl rfl (take_ofW HT_.out HW_.out (by kernel_rfl)) (fun _ _ _ h => h) (Or.inl ⟨by rfl, ?_⟩) hHeld ?_ ?_
           rotate_left
           ·rintro w' ⟨s0, s1, s2, s3, s4, s5, s6, s7, s8, s9, s10, s11⟩
            go_simp
            with_reducible rfl
           rotate_left
           ·simp only [Act.put, s1, s2, s3, i64_w, i32_w]
            rfl
           refine take_ (i := 6) (N := some 48) (v := ?_) (a' := ?_) #[Y,Y,Y,Y,Y,Y,Y,Y,Y,Y,Z,Z,Y,Z,Z,Z,Z] rfl rfl (take_ofW HT_.out HW_.out (by kernel_rfl)) (fun _ _ _ h => h) (Or.inl ⟨by rfl, ?_⟩) hHeld ?_ ?_
           rotate_left
           ·rintro w' ⟨s0, s1, s2, s3, s4, s5, s6, s7, s8, s9, s10, s11⟩
            go_simp
            with_reducible rfl
           rotate_left
           ·simp only [Act.put, s1, s2, s3, i64_w, i32_w]
            rfl
           refine pure_ (i := 10) (N := some 52) (v := ?_) (a' := ?_) #[Y,Y,Y,Y,Y,Y,Y,Y,Y,Y,Y,Z,Y,Z,Z,Z,Z] rfl rfl (any_of HT_.out (by kernel_rfl)) (fun _ _ _ h => h) (Or.inl ⟨by rfl, ?_⟩) ?_ ?_
           rotate_left
           ·intro w'
            go_simp
            with_reducible rfl
           rotate_left
           ·simp only [Act.put, s1, s2, s3, i64_w, i32_w]
            rfl
           refine take_ (i := 11) (N := some 53) (v := ?_) (a' := ?_) #[Y,Y,Y,Y,Y,Y,Y,Y,Y,Y,Y,Y,Y,Z,Z,Z,Z] rfl rfl (take_ofW HT_.out HW_.out (by kernel_rfl)) (fun _ _ _ h => h) (Or.inl ⟨by rfl, ?_⟩) hHeld ?_ ?_
           rotate_left
           ·rintro w' ⟨s0, s1, s2, s3, s4, s5, s6, s7, s8, s9, s10, s11⟩
            go_simp
            with_reducible rfl
           rotate_left
           ·simp only [Act.put, s1, s2, s3, i64_w, i32_w]
            rfl
           refine one_ (i := 13) (N := some 55) #[Y,Y,Y,Y,Y,Y,Y,Y,Y,Y,Y,Y,Y,Y,Z,Z,Z] rfl rfl (one_of HT_.out (by kernel_rfl)) (by decide) (fun K hK => ?_)
           refine value_ (w1 := ?_) (v := ?_) (by rfl) rfl ?_ ?_
           rotate_left 2
           ·go_simp
            constructor
            ·rfl
            ·rfl
           refine hK.out _ _ ⟨(blk_cell (blk_alloc BK192.out _) 0).trans rfl, (blk_cell (blk_alloc BK192.out _) 1).trans rfl, (blk_cell (blk_alloc BK192.out _) 2).trans rfl, (blk_cell (blk_alloc BK192.out _) 3).trans rfl, (blk_cell (blk_alloc BK192.out _) 4).trans rfl, (blk_cell (blk_alloc BK192.out _) 5).trans rfl, (blk_cell (blk_alloc BK192.out _) 6).trans rfl, (blk_cell (blk_alloc BK192.out _) 7).trans rfl, (blk_cell (blk_alloc BK192.out _) 8).trans rfl, (blk_cell (blk_alloc BK192.out _) 9).trans rfl, (blk_cell (blk_alloc BK192.out _) 10).trans rfl, (World.cell?_alloc_lt _ _ _ (World.block_lt_of_cell? _ _ (hHeld.2.2.2.2.2.2.2.2.2.2.2))).trans (hHeld.2.2.2.2.2.2.2.2.2.2.2)⟩ (fun hHeld => ?_)
           clear hK K
           refine norm_ (a' := ?_) ?_ ?_
           rotate_left
           ·show Act.put _ (some 55) _ = _
            simp only [Act.put, s1, s2, s3, i64_w, i32_w]
            rfl
           refine one_ (i := 14) (N := some 56) #[Y,Y,Y,Y,Y,Y,Y,Y,Y,Y,Y,Y,Y,Y,Y,Z,Z] rfl rfl (one_of HT_.out (by kernel_rfl)) (by decide) (fun K hK => ?_)
           refine Kd.R_append_step (Kd.int .i64) (w0 := w) w.heap.size (by rfl) (.tmp 53) (.tmp 55) 22 3 (.int .i64 0) 8 rfl Try.underlying22 info3 rfl (by decide) (by omega) (.slice A196_0 (rd_L2 x193006_1 (ji42)).length c196_0) (rd_L2 x193006_1 (ji42)) x7_1 [.int .i64 x7_1] (fun k_ => oki54 k_ ∨ ((fun k_ => some k_ ≠ (.slice Ao26 t180.length co26 : Value).ownBlock ∧ some k_ ≠ (.slice Ao25 t183.length co25 : Value).ownBlock ∧ some k_ ≠ (.slice Ao24 t186.length co24 : Value).ownBlock)) k_ ∧ w52.heap.size ≤ k_) (fun _ => False) rfl rfl ?aP (fun _ hk => hk.elim) ?aF ?aO ?aB ?aS ?aL ?_
           (case aP => exact rfl)
           (case aB => exact zd')
           (case aF => exact (fun k_ hk => .inr ⟨⟨Kd.fresh' (Kd.R_lt zm4') k_ hk, Kd.fresh' (Kd.R_lt zn4') k_ hk, Kd.fresh' (Kd.R_lt zo4') k_ hk⟩, hk⟩))
           (case aO => exact (by (with_reducible repeat (first | apply Kd.R_alloc | apply Kd.R_drewN | apply Kd.R_drew)); exact Kd.R_mono UU54.out (fun _ hk => .inl hk)))
           (case aS => exact (below_size zd'))
           (case aL => have := LMc45.out; omega)
           intro v198 w55 ho hb hg hat
           (first | have HS11_ := cell_grown hg (hHeld.2.2.2.2.2.2.2.2.2.2.2) ze4' | have HS11_ := cell_grown hg (cell_unalloc (hHeld.2.2.2.2.2.2.2.2.2.2.2) (by first | (rw [add_block]; exact Kd.S_lt HO_193006.out _ rfl) | (show (Addr.add _ _).block < _; rw [add_block]; exact Kd.S_lt HO_193006.out _ rfl) | exact Kd.S_lt HO_193006.out _ rfl)) ze4')
           rw [← Ny197.out] at ho; have n0_ := am (Kd.R_grown2 zm4' rfl hg (fun k_ e_ => (HL196_0.out.1 k_ e_).1.1)); have n1_ := am (Kd.R_grown2 zn4' rfl hg (fun k_ e_ => (HL196_0.out.1 k_ e_).1.2.1)); have n2_ := am (Kd.R_grown2 zo4' rfl hg (fun k_ e_ => (HL196_0.out.1 k_ e_).1.2.2)); have n3_ := am (blk_grown (g := gb178) (o := o0') zg' hg (Kd.R_ne HL196_0.out BK178.out (by decide))); have n4_ := am (blk_grown (g := gb179) (o := o1') zh' hg (Kd.R_ne HL196_0.out BK179.out (by decide))); have n5_ := am (blk_grown (g := gb192) (o := .cells #[.slice Ao26 t180.length co26, .slice Ao25 t183.length co25, .slice Ao24 t186.length co24, .int .i64 a0_3, .int .i64 a0_4, .slice Ao49 y193.length co49, .slice (some ⟨go54, 0, none⟩) x193006_1.length co53, .slice none 0 0, .int .i64 0, .int .i64 0, .int .i64 0] 44 (0, 0)) za1' hg (Kd.R_ne HL196_0.out BK192.out (by decide))); have n6_ := am (Kd.R_over' (v := (.slice A196_0 (rd_L2 x193006_1 (ji42)).length c196_0)) (by (with_reducible repeat (first | apply Kd.R_alloc | apply Kd.R_drewN | apply Kd.R_drew)); exact HO195.out) (Kd.R_typed HL196_0.out) (by decide) hg); have n7_ := am (hb); have n8_ := am (Kd.H_grown (Kd.H_widen (by repeat (first | exact HH54.out | refine Kd.H_alloc ?_ _ | refine Kd.H_drewN ?_ _ | refine Kd.H_drew ?_))) hg (fun k_ e_ => .inl (UU54.out.1 k_ e_))); have n9_ := am (ho); clear HO_193000; clear HO_193001; clear HO_193002; clear BK178; clear BK179; clear BK192; clear HO195; clear HB; clear HH54; clear HO_193006; clear UU54; clear HL196_0
           have HO_193000 := n0_; have HO_193001 := n1_; have HO_193002 := n2_; have BK178 := n3_; have BK179 := n4_; have BK192 := n5_; have HO195 := n6_; have HB := n7_; have HH54 := n8_; have HO199 := n9_; clear n0_ n1_ n2_ n3_ n4_ n5_ n6_ n7_ n8_ n9_; clear ho hb hg hat; have p46 : 0 ≤ ((ji42) : Int) := odt; have q46 : ((ji42) : Int) < ((x193006_1.length : Int) : Int) := odt; replace p46 := eq_true p46; replace q46 := eq_true q46; obtain ⟨Ao58, co58, eo58⟩ := Kd.R_slice HO199.out
           (first | subst eo58 | (injection eo58 with f1_ f2_ f3_; have f4_ := f1_.symm; have f5_ := f3_.symm; clear f1_ f2_ f3_; subst f4_; subst f5_))
           obtain ⟨_, _, hraw56, _, _, hcc56, _⟩ := Kd.H_raw HH54.out odt (by have h_ : ((ji42) : Int) < ((x193006_1.length : Int) : Int) := odt; first | exact h_ | (have e_ := (HN54.out); omega) | simpa using h_); obtain ⟨_, hfr56⟩ := Kd.H_at HH54.out odt (by have h_ : ((ji42) : Int) < ((x193006_1.length : Int) : Int) := odt; first | exact h_ | (have e_ := (HN54.out); omega) | simpa using h_); have hx56_0 := hcc56 0 _ rfl; have hf56_0 := hfr56 0; (try simp only [Nat.add_zero] at hx56_0 hf56_0); (try rw [show ((Kd.slice 3 (Kd.int .i64))).sz = 1 from rfl, Nat.mul_one] at hx56_0); (try rw [show ((Kd.slice 3 (Kd.int .i64))).sz = 1 from rfl, Nat.mul_one] at hf56_0); have HP56 := Kd.S_seg0 HH54.out odt (by have h_ : ((ji42) : Int) < ((x193006_1.length : Int) : Int) := odt; first | exact h_ | (have e_ := (HN54.out); omega) | simpa using h_) (seg := [.slice Ao58 y197.length co58]) (j := 0) (show 1 ≤ 1 from by decide) (x' := y197) (Kd.M_row HO199.out) (fun _ hk => hk); (try simp only [show ((Kd.slice 3 (Kd.int .i64))).sz = 1 from rfl, Nat.mul_one, Nat.add_zero] at HP56); clear hcc56 hfr56; have HNB178_go54 := am (show gb178 ≠ go54 from by have h_ := Kd.R_ne hraw56 BK178.out (by decide); intro e_; exact h_ (by rw [e_]; rfl)); have HNB179_go54 := am (show gb179 ≠ go54 from by have h_ := Kd.R_ne hraw56 BK179.out (by decide); intro e_; exact h_ (by rw [e_]; rfl)); have HNB192_go54 := am (show gb192 ≠ go54 from by have h_ := Kd.R_ne hraw56 BK192.out (by decide); intro e_; exact h_ (by rw [e_]; rfl))
           have HS56 := HP56.1; rw [← Ny200.out] at HS56; have HQ56 := Aside0.mk HS56; obtain ⟨_, hgg56⟩ := Kd.R_typed hraw56 go54 rfl; have GG56_ := Aside0.mk hgg56; clear HP56 HS56 hgg56
           refine hK.out _ _ ⟨(blk_cell BK192.out 0).trans rfl, (blk_cell BK192.out 1).trans rfl, (blk_cell BK192.out 2).trans rfl, (blk_cell BK192.out 3).trans rfl, (blk_cell BK192.out 4).trans rfl, (blk_cell BK192.out 5).trans rfl, (blk_cell BK192.out 6).trans rfl, (blk_cell BK192.out 7).trans rfl, (blk_cell BK192.out 8).trans rfl, (blk_cell BK192.out 9).trans rfl, (blk_cell BK192.out 10).trans rfl, HS11_⟩ (fun hHeld => ?_)
           clear hK K
           refine norm_ (a' := ?_) ?_ ?_
           rotate_left
           ·show Act.put _ (some 56) _ = _
            simp only [Act.put, s1, s2, s3, i64_w, i32_w]
            rfl
           refine pure_ (i := 15) (N := some 57) (v := ?_) (a' := ?_) #[Y,Y,Y,Y,Y,Y,Y,Y,Y,Y,Y,Y,Y,Y,Y,Y,Z] rfl rfl (any_of HT_.out (by kernel_rfl)) (fun _ _ _ h => h) (Or.inl ⟨by rfl, ?_⟩) ?_ ?_
           rotate_left
           ·intro w'
            go_simp
            with_reducible rfl
           rotate_left
           ·simp only [Act.put, s1, s2, s3, i64_w, i32_w]
            rfl
           refine last_ (i := 16) (N := none) #[Y,Y,Y,Y,Y,Y,Y,Y,Y,Y,Y,Y,Y,Y,Y,Y,Y] rfl rfl (one_of HT_.out (by kernel_rfl)) (by decide) (fun K hK => ?_)
           refine skip_ (w1 := ?_) (by rfl) rfl ?_ ?_
           rotate_left
           ·go_simp
            rfl
           refine hK.out _ _ ?_
           clear hK K
           refine done_ (done_of HT_.out (by kernel_rfl)) ?_
           try go_wp2
           go_roundg k1
           case measure => have := HK1.out; omega
           case rel => exact ⟨(wrap64 (x7_1 + 1)), (y193), (y200), (.slice Ao49 y193.length co49), (.slice (some ⟨go54, 0, none⟩) x193006_1.length co53), ze1', H', ⟨zv4'⟩, ⟨by (with_reducible repeat (first | apply Kd.R_alloc | apply Kd.R_drewN | apply Kd.R_drew)); exact Kd.R_mono (Kd.R_far (p := ⟨go54, ((ji42) : Int).toNat, none⟩) (Kd.R_types HO_193000.out GG56_.out (by decide)) (fun _ hk => hk.2) (.slice Ao58 y197.length co58)) (fun _ hk => ⟨hk.1.1, hk.1.2⟩)⟩, ⟨by (with_reducible repeat (first | apply Kd.R_alloc | apply Kd.R_drewN | apply Kd.R_drew)); exact Kd.R_mono (Kd.R_far (p := ⟨go54, ((ji42) : Int).toNat, none⟩) (Kd.R_types HO_193001.out GG56_.out (by decide)) (fun _ hk => hk.2) (.slice Ao58 y197.length co58)) (fun _ hk => ⟨hk.1.1, hk.1.2⟩)⟩, ⟨by (with_reducible repeat (first | apply Kd.R_alloc | apply Kd.R_drewN | apply Kd.R_drew)); exact Kd.R_mono (Kd.R_far (p := ⟨go54, ((ji42) : Int).toNat, none⟩) (Kd.R_types HO_193002.out GG56_.out (by decide)) (fun _ hk => hk.2) (.slice Ao58 y197.length co58)) (fun _ hk => ⟨hk.1.1, hk.1.2⟩)⟩, ⟨by (with_reducible repeat (first | apply Kd.R_alloc | apply Kd.R_drewN | apply Kd.R_drew)); exact Kd.R_mono (Kd.R_far (p := ⟨go54, ((ji42) : Int).toNat, none⟩) (Kd.R_types HO195.out GG56_.out (by decide)) (fun _ hk => hk.2) (.slice Ao58 y197.length co58)) (fun _ hk => trivial)⟩, ⟨by (with_reducible repeat (first | apply Kd.S_alloc | apply Kd.S_drewN | apply Kd.S_drew)); exact HQ56.out⟩, ⟨by (with_reducible repeat (first | apply kn | apply kd | apply ka)); refine blk_far ?_ HNB178_go54.out _; (with_reducible repeat (first | apply kn | apply kd | apply ka)); exact BK178.out⟩, ⟨by (with_reducible repeat (first | apply kn | apply kd | apply ka)); refine blk_far ?_ HNB179_go54.out _; (with_reducible repeat (first | apply kn | apply kd | apply ka)); exact BK179.out⟩, ⟨by (with_reducible repeat (first | apply kn | apply kd | apply ka)); refine blk_far ?_ HNB192_go54.out _; (with_reducible repeat (first | apply kn | apply kd | apply ka)); exact BK192.out⟩, ⟨by repeat (first | (with_reducible first | exact HB.out | apply ba | apply bn | apply below_drew1 | refine below_set ?_ GB54.out | refine below_set ?_ GE178.out | refine below_set ?_ GE179.out | refine below_set ?_ GE192.out) | exact HB.out)⟩⟩
          ·rw [if_neg c45] at H
           exact absurd H (by simp)
         ·rw [if_neg c44] at H
          exact absurd H (by simp)
        ·rw [if_neg c43] at H
         exact absurd H (by simp)
       ·rw [if_neg c41] at H
        exact absurd H (by simp)
     ·rw [if_neg c39] at H
      have c39b0 : decide (x7_1 < a1) = false := decide_eq_false c39; clear c39; simp only [Option.some.injEq, Prod.mk.injEq] at H; obtain ⟨rfl, rfl, rfl, rfl, rfl, rfl, rfl, rfl, rfl, rfl, rfl⟩ := H; have hnb59 := NB192_178.out; have hnc59 := NB178_192.out; have hnb60 := NB192_179.out; have hnc60 := NB179_192.out; have hcz61_0 : wr.cell? ⟨gb192, 0, none⟩ = some (.slice Ao26 t180.length co26) := (blk_cell BK192.out 0).trans rfl; have hcz61_1 : wr.cell? ⟨gb192, 1, none⟩ = some (.slice Ao25 t183.length co25) := (blk_cell BK192.out 1).trans rfl; have hcz61_2 : wr.cell? ⟨gb192, 2, none⟩ = some (.slice Ao24 t186.length co24) := (blk_cell BK192.out 2).trans rfl; have hcz61_3 : wr.cell? ⟨gb192, 3, none⟩ = some (.int .i64 a0_3) := (blk_cell BK192.out 3).trans rfl; have hcz61_4 : wr.cell? ⟨gb192, 4, none⟩ = some (.int .i64 a0_4) := (blk_cell BK192.out 4).trans rfl; have hcz61_5 : wr.cell? ⟨gb192, 5, none⟩ = some (u193005) := (blk_cell BK192.out 5).trans rfl; have hcz61_6 : wr.cell? ⟨gb192, 6, none⟩ = some (u193006) := (blk_cell BK192.out 6).trans rfl; have hcz61_7 : wr.cell? ⟨gb192, 7, none⟩ = some (.slice none 0 0) := (blk_cell BK192.out 7).trans rfl; have hcz61_8 : wr.cell? ⟨gb192, 8, none⟩ = some (.int .i64 0) := (blk_cell BK192.out 8).trans rfl; have hcz61_9 : wr.cell? ⟨gb192, 9, none⟩ = some (.int .i64 0) := (blk_cell BK192.out 9).trans rfl; have hcz61_10 : wr.cell? ⟨gb192, 10, none⟩ = some (.int .i64 0) := (blk_cell BK192.out 10).trans rfl; have hfz61_0 := blk_frozen BK192.out 0; have hfz61_1 := blk_frozen BK192.out 1
      have hfz61_2 := blk_frozen BK192.out 2; have hfz61_3 := blk_frozen BK192.out 3; have hfz61_4 := blk_frozen BK192.out 4; have hfz61_5 := blk_frozen BK192.out 5; have hfz61_6 := blk_frozen BK192.out 6; have hfz61_7 := blk_frozen BK192.out 7; have hfz61_8 := blk_frozen BK192.out 8; have hfz61_9 := blk_frozen BK192.out 9; have hfz61_10 := blk_frozen BK192.out 10; have hnb62 := NB179_178.out; have hnc62 := NB178_179.out; have hcz63_0 : wr.cell? ⟨gb179, 0, none⟩ = some (.slice none 0 0) := (blk_cell BK179.out 0).trans rfl; have hcz63_1 : wr.cell? ⟨gb179, 1, none⟩ = some (.slice none 0 0) := (blk_cell BK179.out 1).trans rfl; have hcz63_2 : wr.cell? ⟨gb179, 2, none⟩ = some (.slice none 0 0) := (blk_cell BK179.out 2).trans rfl; have hcz63_3 : wr.cell? ⟨gb179, 3, none⟩ = some (.int .i64 0) := (blk_cell BK179.out 3).trans rfl; have hcz63_4 : wr.cell? ⟨gb179, 4, none⟩ = some (.int .i64 0) := (blk_cell BK179.out 4).trans rfl; have hcz63_5 : wr.cell? ⟨gb179, 5, none⟩ = some (.slice none 0 0) := (blk_cell BK179.out 5).trans rfl; have hcz63_6 : wr.cell? ⟨gb179, 6, none⟩ = some (.slice none 0 0) := (blk_cell BK179.out 6).trans rfl; have hcz63_7 : wr.cell? ⟨gb179, 7, none⟩ = some (.slice none 0 0) := (blk_cell BK179.out 7).trans rfl; have hcz63_8 : wr.cell? ⟨gb179, 8, none⟩ = some (.int .i64 0) := (blk_cell BK179.out 8).trans rfl; have hcz63_9 : wr.cell? ⟨gb179, 9, none⟩ = some (.int .i64 0) := (blk_cell BK179.out 9).trans rfl; have hcz63_10 : wr.cell? ⟨gb179, 10, none⟩ = some (.int .i64 0) := (blk_cell BK179.out 10).trans rfl
      have hfz63_0 := blk_frozen BK179.out 0; have hfz63_1 := blk_frozen BK179.out 1; have hfz63_2 := blk_frozen BK179.out 2; have hfz63_3 := blk_frozen BK179.out 3; have hfz63_4 := blk_frozen BK179.out 4; have hfz63_5 := blk_frozen BK179.out 5; have hfz63_6 := blk_frozen BK179.out 6; have hfz63_7 := blk_frozen BK179.out 7; have hfz63_8 := blk_frozen BK179.out 8; have hfz63_9 := blk_frozen BK179.out 9; have hfz63_10 := blk_frozen BK179.out 10; obtain ⟨Ao64, co64, eo64⟩ := Kd.R_slice HO_193005.out; subst eo64; obtain ⟨Ao65, co65, eo65⟩ := Kd.S_slice HO_193006.out; subst eo65
      go_wp2
      refine bodyPost_ret (results_cell_row rfl _ _ gb179 44 #[.slice Ao26 t180.length co26, .slice Ao25 t183.length co25, .slice Ao24 t186.length co24, .int .i64 a0_3, .int .i64 a0_4, .slice Ao64 x193005_1.length co64, .slice Ao65 x193006_1.length co65, .slice none 0 0, .int .i64 0, .int .i64 0, .int .i64 0] (0, 0) _ rfl (by (with_reducible repeat (first | apply kn | apply kd | apply ka)); refine blk_put (cs := #[.slice Ao26 t180.length co26, .slice Ao25 t183.length co25, .slice Ao24 t186.length co24, .int .i64 a0_3, .int .i64 a0_4, .slice Ao64 x193005_1.length co64, .slice Ao65 x193006_1.length co65, .slice none 0 0, .int .i64 0, .int .i64 0, .int .i64 0]) ?_ 10 _ rfl; (with_reducible repeat (first | apply kn | apply kd | apply ka)); refine blk_put (cs := #[.slice Ao26 t180.length co26, .slice Ao25 t183.length co25, .slice Ao24 t186.length co24, .int .i64 a0_3, .int .i64 a0_4, .slice Ao64 x193005_1.length co64, .slice Ao65 x193006_1.length co65, .slice none 0 0, .int .i64 0, .int .i64 0, .int .i64 0]) ?_ 9 _ rfl; (with_reducible repeat (first | apply kn | apply kd | apply ka)); refine blk_put (cs := #[.slice Ao26 t180.length co26, .slice Ao25 t183.length co25, .slice Ao24 t186.length co24, .int .i64 a0_3, .int .i64 a0_4, .slice Ao64 x193005_1.length co64, .slice Ao65 x193006_1.length co65, .slice none 0 0, .int .i64 0, .int .i64 0, .int .i64 0]) ?_ 8 _ rfl; (with_reducible repeat (first | apply kn | apply kd | apply ka)); refine blk_put (cs := #[.slice Ao26 t180.length co26, .slice Ao25 t183.length co25, .slice Ao24 t186.length co24, .int .i64 a0_3, .int .i64 a0_4, .slice Ao64 x193005_1.length co64, .slice Ao65 x193006_1.length co65, .slice none 0 0, .int .i64 0, .int .i64 0, .int .i64 0]) ?_ 7 _ rfl; (with_reducible repeat (first | apply kn | apply kd | apply ka)); refine blk_put (cs := #[.slice Ao26 t180.length co26, .slice Ao25 t183.length co25, .slice Ao24 t186.length co24, .int .i64 a0_3, .int .i64 a0_4, .slice Ao64 x193005_1.length co64, .slice none 0 0, .slice none 0 0, .int .i64 0, .int .i64 0, .int .i64 0]) ?_ 6 _ rfl; (with_reducible repeat (first | apply kn | apply kd | apply ka)); refine blk_put (cs := #[.slice Ao26 t180.length co26, .slice Ao25 t183.length co25, .slice Ao24 t186.length co24, .int .i64 a0_3, .int .i64 a0_4, .slice none 0 0, .slice none 0 0, .slice none 0 0, .int .i64 0, .int .i64 0, .int .i64 0]) ?_ 5 _ rfl; (with_reducible repeat (first | apply kn | apply kd | apply ka)); refine blk_put (cs := #[.slice Ao26 t180.length co26, .slice Ao25 t183.length co25, .slice Ao24 t186.length co24, .int .i64 a0_3, .int .i64 0, .slice none 0 0, .slice none 0 0, .slice none 0 0, .int .i64 0, .int .i64 0, .int .i64 0]) ?_ 4 _ rfl; (with_reducible repeat (first | apply kn | apply kd | apply ka)); refine blk_put (cs := #[.slice Ao26 t180.length co26, .slice Ao25 t183.length co25, .slice Ao24 t186.length co24, .int .i64 0, .int .i64 0, .slice none 0 0, .slice none 0 0, .slice none 0 0, .int .i64 0, .int .i64 0, .int .i64 0]) ?_ 3 _ rfl; (with_reducible repeat (first | apply kn | apply kd | apply ka)); refine blk_put (cs := #[.slice Ao26 t180.length co26, .slice Ao25 t183.length co25, .slice none 0 0, .int .i64 0, .int .i64 0, .slice none 0 0, .slice none 0 0, .slice none 0 0, .int .i64 0, .int .i64 0, .int .i64 0]) ?_ 2 _ rfl; (with_reducible repeat (first | apply kn | apply kd | apply ka)); refine blk_put (cs := #[.slice Ao26 t180.length co26, .slice none 0 0, .slice none 0 0, .int .i64 0, .int .i64 0, .slice none 0 0, .slice none 0 0, .slice none 0 0, .int .i64 0, .int .i64 0, .int .i64 0]) ?_ 1 _ rfl; (with_reducible repeat (first | apply kn | apply kd | apply ka)); refine blk_put (cs := #[.slice none 0 0, .slice none 0 0, .slice none 0 0, .int .i64 0, .int .i64 0, .slice none 0 0, .slice none 0 0, .slice none 0 0, .int .i64 0, .int .i64 0, .int .i64 0]) ?_ 0 _ rfl; (with_reducible repeat (first | apply kn | apply kd | apply ka)); exact BK179.out) Try.underlying44 rfl (by kernel_rfl)) rfl ?_
      exact ⟨_, _, _, _, _, _, by first | rfl | (simp [errW_none, errW_some] <;> rfl) | (simp [*, errW_none, errW_some] <;> rfl), by (with_reducible repeat (first | apply Kd.R_alloc | apply Kd.R_drewN | apply Kd.R_drew)); exact Kd.R_mono (Kd.R_far (p := ⟨gb179, 10, none⟩) (Kd.R_far (p := ⟨gb179, 9, none⟩) (Kd.R_far (p := ⟨gb179, 8, none⟩) (Kd.R_far (p := ⟨gb179, 7, none⟩) (Kd.R_far (p := ⟨gb179, 6, none⟩) (Kd.R_far (p := ⟨gb179, 5, none⟩) (Kd.R_far (p := ⟨gb179, 4, none⟩) (Kd.R_far (p := ⟨gb179, 3, none⟩) (Kd.R_far (p := ⟨gb179, 2, none⟩) (Kd.R_far (p := ⟨gb179, 1, none⟩) (Kd.R_far (p := ⟨gb179, 0, none⟩) (Kd.R_types HO_193000.out BK179.out (by decide)) (fun _ hk => hk.2) (.slice Ao26 t180.length co26)) (fun _ hk => hk.2) (.slice Ao25 t183.length co25)) (fun _ hk => hk.2) (.slice Ao24 t186.length co24)) (fun _ hk => hk.2) (.int .i64 a0_3)) (fun _ hk => hk.2) (.int .i64 a0_4)) (fun _ hk => hk.2) (.slice Ao64 x193005_1.length co64)) (fun _ hk => hk.2) (.slice Ao65 x193006_1.length co65)) (fun _ hk => hk.2) (.slice none 0 0)) (fun _ hk => hk.2) (.int .i64 0)) (fun _ hk => hk.2) (.int .i64 0)) (fun _ hk => hk.2) (.int .i64 0)) (fun _ hk => ⟨hk.1.1, ⟨hk.1.2, zi5'⟩⟩), by (with_reducible repeat (first | apply Kd.R_alloc | apply Kd.R_drewN | apply Kd.R_drew)); exact Kd.R_mono (Kd.R_far (p := ⟨gb179, 10, none⟩) (Kd.R_far (p := ⟨gb179, 9, none⟩) (Kd.R_far (p := ⟨gb179, 8, none⟩) (Kd.R_far (p := ⟨gb179, 7, none⟩) (Kd.R_far (p := ⟨gb179, 6, none⟩) (Kd.R_far (p := ⟨gb179, 5, none⟩) (Kd.R_far (p := ⟨gb179, 4, none⟩) (Kd.R_far (p := ⟨gb179, 3, none⟩) (Kd.R_far (p := ⟨gb179, 2, none⟩) (Kd.R_far (p := ⟨gb179, 1, none⟩) (Kd.R_far (p := ⟨gb179, 0, none⟩) (Kd.R_types HO_193001.out BK179.out (by decide)) (fun _ hk => hk.2) (.slice Ao26 t180.length co26)) (fun _ hk => hk.2) (.slice Ao25 t183.length co25)) (fun _ hk => hk.2) (.slice Ao24 t186.length co24)) (fun _ hk => hk.2) (.int .i64 a0_3)) (fun _ hk => hk.2) (.int .i64 a0_4)) (fun _ hk => hk.2) (.slice Ao64 x193005_1.length co64)) (fun _ hk => hk.2) (.slice Ao65 x193006_1.length co65)) (fun _ hk => hk.2) (.slice none 0 0)) (fun _ hk => hk.2) (.int .i64 0)) (fun _ hk => hk.2) (.int .i64 0)) (fun _ hk => hk.2) (.int .i64 0)) (fun _ hk => ⟨hk.1.1, ⟨hk.1.2, zi5'⟩⟩), by (with_reducible repeat (first | apply Kd.R_alloc | apply Kd.R_drewN | apply Kd.R_drew)); exact Kd.R_mono (Kd.R_far (p := ⟨gb179, 10, none⟩) (Kd.R_far (p := ⟨gb179, 9, none⟩) (Kd.R_far (p := ⟨gb179, 8, none⟩) (Kd.R_far (p := ⟨gb179, 7, none⟩) (Kd.R_far (p := ⟨gb179, 6, none⟩) (Kd.R_far (p := ⟨gb179, 5, none⟩) (Kd.R_far (p := ⟨gb179, 4, none⟩) (Kd.R_far (p := ⟨gb179, 3, none⟩) (Kd.R_far (p := ⟨gb179, 2, none⟩) (Kd.R_far (p := ⟨gb179, 1, none⟩) (Kd.R_far (p := ⟨gb179, 0, none⟩) (Kd.R_types HO_193002.out BK179.out (by decide)) (fun _ hk => hk.2) (.slice Ao26 t180.length co26)) (fun _ hk => hk.2) (.slice Ao25 t183.length co25)) (fun _ hk => hk.2) (.slice Ao24 t186.length co24)) (fun _ hk => hk.2) (.int .i64 a0_3)) (fun _ hk => hk.2) (.int .i64 a0_4)) (fun _ hk => hk.2) (.slice Ao64 x193005_1.length co64)) (fun _ hk => hk.2) (.slice Ao65 x193006_1.length co65)) (fun _ hk => hk.2) (.slice none 0 0)) (fun _ hk => hk.2) (.int .i64 0)) (fun _ hk => hk.2) (.int .i64 0)) (fun _ hk => hk.2) (.int .i64 0)) (fun _ hk => ⟨hk.1.1, ⟨hk.1.2, zi5'⟩⟩), by (with_reducible repeat (first | apply Kd.R_alloc | apply Kd.R_drewN | apply Kd.R_drew)); exact Kd.R_mono (Kd.R_far (p := ⟨gb179, 10, none⟩) (Kd.R_far (p := ⟨gb179, 9, none⟩) (Kd.R_far (p := ⟨gb179, 8, none⟩) (Kd.R_far (p := ⟨gb179, 7, none⟩) (Kd.R_far (p := ⟨gb179, 6, none⟩) (Kd.R_far (p := ⟨gb179, 5, none⟩) (Kd.R_far (p := ⟨gb179, 4, none⟩) (Kd.R_far (p := ⟨gb179, 3, none⟩) (Kd.R_far (p := ⟨gb179, 2, none⟩) (Kd.R_far (p := ⟨gb179, 1, none⟩) (Kd.R_far (p := ⟨gb179, 0, none⟩) (Kd.R_types HO_193005.out BK179.out (by decide)) (fun _ hk => hk.2) (.slice Ao26 t180.length co26)) (fun _ hk => hk.2) (.slice Ao25 t183.length co25)) (fun _ hk => hk.2) (.slice Ao24 t186.length co24)) (fun _ hk => hk.2) (.int .i64 a0_3)) (fun _ hk => hk.2) (.int .i64 a0_4)) (fun _ hk => hk.2) (.slice Ao64 x193005_1.length co64)) (fun _ hk => hk.2) (.slice Ao65 x193006_1.length co65)) (fun _ hk => hk.2) (.slice none 0 0)) (fun _ hk => hk.2) (.int .i64 0)) (fun _ hk => hk.2) (.int .i64 0)) (fun _ hk => hk.2) (.int .i64 0)) (fun _ hk => trivial), by (with_reducible repeat (first | apply Kd.S_alloc | apply Kd.S_drewN | apply Kd.S_drew)); exact Kd.S_mono (Kd.S_far (p := ⟨gb179, 10, none⟩) (Kd.S_far (p := ⟨gb179, 9, none⟩) (Kd.S_far (p := ⟨gb179, 8, none⟩) (Kd.S_far (p := ⟨gb179, 7, none⟩) (Kd.S_far (p := ⟨gb179, 6, none⟩) (Kd.S_far (p := ⟨gb179, 5, none⟩) (Kd.S_far (p := ⟨gb179, 4, none⟩) (Kd.S_far (p := ⟨gb179, 3, none⟩) (Kd.S_far (p := ⟨gb179, 2, none⟩) (Kd.S_far (p := ⟨gb179, 1, none⟩) (Kd.S_far (p := ⟨gb179, 0, none⟩) (Kd.S_types HO_193006.out BK179.out (by decide)) (fun _ hk => hk.2) (.slice Ao26 t180.length co26)) (fun _ hk => hk.2) (.slice Ao25 t183.length co25)) (fun _ hk => hk.2) (.slice Ao24 t186.length co24)) (fun _ hk => hk.2) (.int .i64 a0_3)) (fun _ hk => hk.2) (.int .i64 a0_4)) (fun _ hk => hk.2) (.slice Ao64 x193005_1.length co64)) (fun _ hk => hk.2) (.slice Ao65 x193006_1.length co65)) (fun _ hk => hk.2) (.slice none 0 0)) (fun _ hk => hk.2) (.int .i64 0)) (fun _ hk => hk.2) (.int .i64 0)) (fun _ hk => hk.2) (.int .i64 0)) (fun _ hk => ⟨hk.1.1, ⟨hk.1.2.1, ⟨hk.1.2.2, zi5'⟩⟩⟩), by first | exact Kd.R_nil _ _ _ _ _ | exact Kd.N_nil _ _ _ _ _ | exact Kd.V_nil _ _ _ _ _ | exact Kd.Q_nil _ _ _ _ _ | exact Kd.S_nil _ _ _ _ _, by repeat (first | (with_reducible first | exact HB.out | apply ba | apply bn | apply below_drew1 | refine below_set ?_ GE178.out | refine below_set ?_ GE179.out | refine below_set ?_ GE192.out) | exact HB.out)⟩
  ·rw [if_neg c7] at H
   exact absurd H (by simp)
 ·rw [if_neg c6] at H
  exact absurd H (by simp)

end Go.Proofs.Ytikbfnbfbpnmjaa.PFnExactNewYard
