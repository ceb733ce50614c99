/- Text written by a program for this claim: contracts of the functions of one law. -/
import Derived.Test.YtjipboafhakjfaaPFnStablex0
import Derived.Test.YtjipboafhakjfaaPFnStablex10
namespace Go.Proofs.Ytjipboafhakjfaa.PFnStable
open Go.RowKit Go.Proofs.YtjipboafhakjfaaW.PrintWords Go.Proofs.YtjipboafhakjfaaW.PrintLast Go.Proofs.YtjipboafhakjfaaW.PrintMore
attribute [local go_sem] max2_int min2_int max_two min_two max_three min_three max_four min_four   -- for this text's walks alone
set_option linter.unusedVariables false
set_option linter.unusedSimpArgs false
open ShortPFnStable0

/-! ### spec_l1Cur_permuted: function 90 -/
/-- A permutation is drawn: each number is put in at a drawn place. -/
def spec_l1Cur_permuted.go (s0 : List Int) : Nat → Nat → List Int → Int → Int → Option (List Int × Int × Int)
 | 0, _, l, p, s => some (l, p, s)
 | d + 1, i, l, p, s => (spec_l1Cur_pick.f s0 p s ((i : Int) + 1)).bind fun b => if 0 ≤ b.1 ∧ b.1 ≤ (l.length : Int) then spec_l1Cur_permuted.go s0 d (i + 1) (l.take b.1.toNat ++ [(i : Int)] ++ l.drop b.1.toNat) b.2.1 b.2.2 else none
def spec_l1Cur_permuted.f (s0 : List Int) (p s n : Int) : Option (List Int × Int × Int) := if n ≤ 1000000 then spec_l1Cur_permuted.go s0 n.toNat 0 [] p s else none
set_option maxHeartbeats 8000000 in
set_option maxRecDepth 100000 in
theorem spec_l1Cur_permuted.calls (g : Nat) (s0_0 : List Int) (s0_1 s0_2 a1 : Int) (r1 : List Int) (r2 r3 : Int) (w0 w : World) (hI : IsS69 w0 w g s0_0 s0_1 s0_2) (hB : Below w0.heap.size w0 w) (h : spec_l1Cur_permuted.f s0_0 s0_1 s0_2 a1 = some (r1, r2, r3)) :
  Calls Try.prog 90 #[.pointer (some ⟨g, 0, none⟩), .int .i64 a1] w fun e w' => ∃ v0_ : Value, e = .returned (v0_) ∧ Kd.R (Kd.int .i64) 3 w' w.heap.size (fun _ => True) v0_ r1 ∧ IsS69 w0 w' g s0_0 r2 r3 ∧ Below w0.heap.size w0 w' ∧ KeepBut w w' g none := by
 have HI := Aside0.mk hI
 have HB := Aside0.mk hB
 have HK := am (KeepBut.refl w g none)
 have BS0 := Aside0.mk hB.size
 clear hI hB
 unfold spec_l1Cur_permuted.f at h
 by_cases hn : a1 ≤ 1000000
 ·rw [if_pos hn] at h
  have H' := Aside0.mk h
  have HN := Aside0.mk hn
  clear h hn
  go_enter Try.func90, Try.ntmps90
  go_wp2
  go_loopg [5, 6] a1.toNat (fun kq v5 v6 w' => ∃ (l : List Int) (i : Nat) (p s : Int), v6 = .int .i64 (i : Int) ∧ Aside0 (Kd.R (Kd.int .i64) 3 w' w.heap.size (fun _ => True) v5 l) ∧ Aside0 (kq + i = a1.toNat) ∧ Aside0 (l.length = i) ∧ Aside0 (spec_l1Cur_permuted.go s0_0 kq i l p s = some (r1, r2, r3)) ∧ Aside0 (IsS69 w0 w' g s0_0 p s) ∧ Aside0 (Below w0.heap.size w0 w') ∧ Aside0 (KeepBut w w' g none))
  case atStart => exact ⟨[], 0, s0_1, s0_2, rfl, ⟨Kd.R_nil _ _ _ _ _⟩, ⟨rfl⟩, ⟨rfl⟩, H', HI, HB, HK⟩
  case round =>
   clear H' HI HB HK; obtain ⟨l, i, p, s, rfl, HO, HE, HL, HA, HI, HB, HK⟩ := hrel
   cases gk with
   | zero =>
    have H := HA.out; simp only [spec_l1Cur_permuted.go, Option.some.injEq, Prod.mk.injEq] at H; obtain ⟨rfl, rfl, rfl⟩ := H; have c0 : decide ((i : Int) < a1) = false := decide_eq_false (by have := HE.out; omega)
    go_wp2
    go_ret
    exact ⟨_, rfl, HO.out, HI.out, HB.out, HK.out⟩
   | succ k1 =>
    have H := HA.out; simp only [spec_l1Cur_permuted.go] at H; obtain ⟨⟨b1, b2, b3⟩, hp, H⟩ := Option.bind_eq_some_iff.1 H
    by_cases hc : 0 ≤ b1 ∧ b1 ≤ (l.length : Int)
    ·rw [if_pos hc] at H
     obtain ⟨q, hq⟩ := Int.eq_ofNat_of_zero_le hc.1; have hq' : b1 = (q : Int) := hq; subst hq'; have HP := Aside0.mk hp; have HQ : Aside0 (q ≤ l.length) := ⟨by omega⟩; have HIN : Aside0 ((i : Int) < a1 ∧ a1 ≤ 1000000) := ⟨by have := HE.out; have := HN.out; omega⟩; have HLE : Aside0 (l.length = i ∧ i ≤ 1000000) := ⟨by have := HL.out; have := HIN.out; omega⟩; simp only [Int.toNat_natCast] at H; clear HA HL; have HA := Aside0.mk H; have c0 : decide ((i : Int) < a1) = true := decide_eq_true HIN.out.1
     have hi : (i : Int) ≤ 1000000 := by have := HIN.out; omega
     clear H hp hc hq; obtain ⟨A, c, e_⟩ := Kd.R_slice HO.out; subst e_
     go_wp2_with fail
     refine (spec_l1Cur_pick.calls g s0_0 p s ((i : Int) + 1) (q : Int) b2 b3 w0 _ HI.out HB.out HP.out).mono ?_
     rintro e w1 ⟨rfl, hI, hB, hk⟩
     have t_HO := am (Kd.R_mono (Kd.R_keep (IsS69.apart HI.out HO.out (by decide)) hk (fun _ h => h.2)) (fun _ h => h.1)); have t_HK := am (KeepBut.trans HK.out hk (.inl rfl)); clear HO HI HB HK hk HP; have HO := t_HO; have HK := t_HK; have HI := Aside0.mk hI; have HB := Aside0.mk hB; clear t_HO t_HK hI hB; obtain ⟨i3, hi3, hz3⟩ := Option.map_eq_some_iff.1 info3; simp only [Prod.mk.injEq] at hz3; have hcap := (Kd.R_reads' HO.out).2.1; have ct := cut_to (P := Try.prog) 27 3 .i64 Try.underlying27 hi3 A l.length c (q : Int) (by omega) (by have := HQ.out; omega) hcap; have cf := cut_from (P := Try.prog) 27 3 .i64 Try.underlying27 hi3 1 hz3.2.1 A l.length c (q : Int) (by omega) (by have := HQ.out; omega); simp only [Int.toNat_natCast] at ct cf
     have x1 : (l.take q).length = q := by have := HQ.out; simp; omega
     have x2 : (l.drop q).length = l.length - q := by simp
     have c1 : Kd.C (Kd.int .i64) w1 A q (l.take q) := by have h := Kd.C_take (Kd.R_reads' HO.out).2.2 HQ.out; rwa [x1] at h
     have c2 : Kd.C (Kd.int .i64) w1 (if c = q then A else A.map (·.add (q * 1))) (l.length - q) (l.drop q) := by have h := Kd.C_drop (c := c) (Kd.R_reads' HO.out).2.2 HQ.out; rw [x2] at h; exact h hcap
     generalize (if c = q then A else A.map (·.add (q * 1))) = B at cf c2; have C1 := Aside0.mk c1; have C2 := Aside0.mk c2; clear c1 c2 x1 x2 hz3 hi3 hcap
     go_wp2
     have t_C1 := am (Kd.C_below C1.out (below_drew1 (Below.refl _ _))); have t_C2 := am (Kd.C_below C2.out (below_drew1 (Below.refl _ _))); have t_HI := am (IsS69.drew HI.out); have t_HB := am (below_drew1 HB.out); have t_HK := am (keep_drew HK.out); have t_SZ := Aside0.mk HK.out.1; clear HO C1 C2 HI HB HK
     refine start_ (n := 13) (S := fun _ => True) (ds := []) #[Z,Z,Z,Z,Z,Z,Z,Z,Z,Z,Z,Z,Z] (by kernel_rfl) rfl rfl trivial (fun _ => ?_)
     have t_SZ2 : Aside0 (w.heap.size ≤ w1.drew.heap.size) := t_SZ; generalize w1.drew = w2 at t_C1 t_C2 t_HI t_HB t_HK t_SZ2 ⊢; have C1 := t_C1; have C2 := t_C2; have HI := t_HI; have HB := t_HB; have HK := t_HK; have SZ := t_SZ2; have BS := Aside0.mk HB.out.size; clear t_C1 t_C2 t_HI t_HB t_HK t_SZ t_SZ2; have HR := am (Below.refl w2.heap.size w2)
     refine pure_ (i := 1) (N := some 18) (v := ?_) (a' := ?_) #[Z,Y,Z,Z,Z,Z,Z,Z,Z,Z,Z,Z,Z] rfl rfl (by kernel_rfl) (fun _ _ _ h => h) (Or.inl ⟨by rfl, ?_⟩) ?_ ?_
     rotate_left
     ·intro w'
      go_simp
      with_reducible rfl
     rotate_left
     ·simp only [Act.put, s1, s2, s3, i64_w, i32_w]
      rfl
     refine pure_ (i := 2) (N := some 19) (v := ?_) (a' := ?_) #[Z,Y,Y,Z,Z,Z,Z,Z,Z,Z,Z,Z,Z] rfl rfl (by kernel_rfl) (fun _ _ _ h => h) (Or.inl ⟨by rfl, ?_⟩) ?_ ?_
     rotate_left
     ·intro w'
      go_simp
      with_reducible rfl
     rotate_left
     ·simp only [Act.put, s1, s2, s3, i64_w, i32_w]
      rfl
     refine pure_ (i := 3) (N := some 20) (v := ?_) (a' := ?_) #[Z,Y,Y,Y,Z,Z,Z,Z,Z,Z,Z,Z,Z] rfl rfl (by kernel_rfl) (fun _ _ _ h => h) (Or.inl ⟨by rfl, ?_⟩) ?_ ?_
     rotate_left
     ·intro w'
      go_simp
      with_reducible rfl
     rotate_left
     ·simp only [Act.put, s1, s2, s3, i64_w, i32_w]
      rfl
     refine pure_ (i := 5) (N := some 22) (v := ?_) (a' := ?_) #[Z,Y,Y,Y,Z,Y,Z,Z,Z,Z,Z,Z,Z] rfl rfl (by kernel_rfl) (fun _ _ _ h => h) (Or.inl ⟨by rfl, ?_⟩) ?_ ?_
     rotate_left
     ·intro w'
      go_simp
      with_reducible rfl
     rotate_left
     ·simp only [Act.put, s1, s2, s3, i64_w, i32_w]
      rfl
     refine pure_ (i := 8) (N := some 25) (v := ?_) (a' := ?_) #[Z,Y,Y,Y,Z,Y,Z,Z,Y,Z,Z,Z,Z] rfl rfl (by kernel_rfl) (fun _ _ _ h => h) (Or.inl ⟨by rfl, ?_⟩) ?_ ?_
     rotate_left
     ·intro w'
      go_simp
      with_reducible rfl
     rotate_left
     ·simp only [Act.put, s1, s2, s3, i64_w, i32_w]
      rfl
     refine pure_ (i := 9) (N := some 26) (v := ?_) (a' := ?_) #[Z,Y,Y,Y,Z,Y,Z,Z,Y,Y,Z,Z,Z] rfl rfl (by kernel_rfl) (fun _ _ _ h => h) (Or.inl ⟨by rfl, ?_⟩) ?_ ?_
     rotate_left
     ·intro w'
      go_simp
      with_reducible rfl
     rotate_left
     ·simp only [Act.put, s1, s2, s3, i64_w, i32_w]
      rfl
     refine pure_ (i := 10) (N := some 27) (v := ?_) (a' := ?_) #[Z,Y,Y,Y,Z,Y,Z,Z,Y,Y,Y,Z,Z] rfl rfl (by kernel_rfl) (fun _ _ _ h => h) (Or.inl ⟨by rfl, ?_⟩) ?_ ?_
     rotate_left
     ·intro w'
      go_simp
      with_reducible rfl
     rotate_left
     ·simp only [Act.put, s1, s2, s3, i64_w, i32_w]
      rfl
     clear ct cf
     refine two_ (i := 0) (j := 6) (Ni := some 17) (Nj := some 23) #[Y,Y,Y,Y,Z,Y,Z,Z,Y,Y,Y,Z,Z] #[Z,Y,Y,Y,Z,Y,Y,Z,Y,Y,Y,Z,Z] rfl rfl rfl rfl (by kernel_rfl) (by decide) (by decide) (fun K hK => ?_) (fun K hK => ?_)
     ·skip
      refine Kd.R_lit_step (Kd.int .i64) (w0 := w2) w2.heap.size 3 (by rfl) (N := 17) rfl (xs := ([] : List Int)) (inner := []) (ok := fun _ => True) (okp := fun _ => True) ?hr (Reps.none _ _) (fun _ h => h) trivial (Below.refl _ _) (Nat.le_refl _) (by simp) ?_
      case hr => first | (go_simp; done) | (go_simp; rfl)
      intro v17 w2n ho hb hg hn
      have t_O17 := am (Kd.R_lower ho HR.out.size); have t_HR := am (below_step HR.out hb); clear HR ho hb hg hn; have HR := t_HR; have O17 := t_O17; clear t_HR t_O17
      refine hK.out _ _ trivial (fun _ => ?_)
      clear hK K
      refine norm_ (a' := ?_) ?_ ?_
      rotate_left
      ·show Act.put _ (some 17) _ = _
       simp only [Act.put, s1, s2, s3, i64_w, i32_w]
       rfl
      refine two_ (i := 4) (j := 6) (Ni := some 21) (Nj := some 23) #[Y,Y,Y,Y,Y,Y,Z,Z,Y,Y,Y,Z,Z] #[Y,Y,Y,Y,Z,Y,Y,Z,Y,Y,Y,Z,Z] rfl rfl rfl rfl (by kernel_rfl) (by decide) (by decide) (fun K hK => ?_) (fun K hK => ?_)
      ·skip
       have hrd := Kd.C_below C1.out HR.out
       refine Kd.R_append_rows_step (Kd.int .i64) (w0 := w2) w2.heap.size (by rfl) (.tmp 17) (.tmp 20) 27 3 (.int .i64 0) 8 rfl Try.underlying27 info3 rfl (by decide) (by omega) v17 ([] : List Int) (l.take q) A q c (fun _ => True) (fun _ => False) rfl rfl O17.out hrd (fun _ _ h => h) (fun _ h => h.elim) (fun _ _ => trivial) HR.out HR.out.size ?hl ?_
       case hl => have := HQ.out; have := HLE.out; simp; omega
       intro v21 w2nn ho hb hg hat
       have t_O21 := Aside0.mk ho; have t_HR := Aside0.mk hb; clear HR hrd ho hb hg hat O17; have HR := t_HR; have O21 := t_O21; clear t_HR t_O21
       refine hK.out _ _ trivial (fun _ => ?_)
       clear hK K
       refine norm_ (a' := ?_) ?_ ?_
       rotate_left
       ·show Act.put _ (some 21) _ = _
        simp only [Act.put, s1, s2, s3, i64_w, i32_w]
        rfl
       refine one_ (i := 6) (N := some 23) #[Y,Y,Y,Y,Y,Y,Y,Z,Y,Y,Y,Z,Z] rfl rfl (by kernel_rfl) (by decide) (fun K hK => ?_)
       refine Kd.R_lit_step (Kd.int .i64) (w0 := w2nn) w2nn.heap.size 3 (by rfl) (N := 23) rfl (xs := ([(i : Int)] : List Int)) (inner := [.int .i64 (i : Int)]) (ok := fun _ => True) (okp := fun _ => True) ?hr (Reps.one (show Kd.M (Kd.int .i64) _ _ _ (i : Int) [.int .i64 (i : Int)] from rfl) (Reps.none _ _)) (fun _ h => h) trivial (Below.refl _ _) (Nat.le_refl _) (by simp) ?_
       case hr => first | (go_simp; done) | (go_simp; rfl)
       intro v23 w2nnn ho hb hg hn
       have t_O21 := am (Kd.R_below O21.out hb); have t_O23 := am (Kd.R_lower ho HR.out.size); have t_HR := am (below_step HR.out hb); clear HR ho hb hg hn O21; have HR := t_HR; have O21 := t_O21; have O23 := t_O23; clear t_HR t_O21 t_O23
       refine hK.out _ _ trivial (fun _ => ?_)
       clear hK K
       refine norm_ (a' := ?_) ?_ ?_
       rotate_left
       ·show Act.put _ (some 23) _ = _
        simp only [Act.put, s1, s2, s3, i64_w, i32_w]
        rfl
       refine one_ (i := 7) (N := some 24) #[Y,Y,Y,Y,Y,Y,Y,Y,Y,Y,Y,Z,Z] rfl rfl (by kernel_rfl) (by decide) (fun K hK => ?_)
       obtain ⟨A23, c23, e_⟩ := Kd.R_slice O23.out; subst e_; have hrd : Kd.C (Kd.int .i64) w2nnn A23 1 [(i : Int)] := (Kd.R_reads' O23.out).2.2
       refine Kd.R_append_rows_step (Kd.int .i64) (w0 := w2) w2.heap.size (by rfl) (.tmp 21) (.tmp 23) 27 3 (.int .i64 0) 8 rfl Try.underlying27 info3 rfl (by decide) (by omega) v21 (l.take q) ([(i : Int)] : List Int) A23 1 c23 (fun _ => True) (fun _ => False) rfl rfl O21.out hrd (fun _ _ h => h) (fun _ h => h.elim) (fun _ _ => trivial) HR.out HR.out.size ?hl ?_
       case hl => have := HQ.out; have := HLE.out; simp; omega
       intro v24 w2nnnn ho hb hg hat
       have t_O24 := Aside0.mk ho; have t_HR := Aside0.mk hb; clear HR hrd ho hb hg hat O21 O23; have HR := t_HR; have O24 := t_O24; clear t_HR t_O24
       refine hK.out _ _ trivial (fun _ => ?_)
       clear hK K
       refine norm_ (a' := ?_) ?_ ?_
       rotate_left
       ·show Act.put _ (some 24) _ = _
        simp only [Act.put, s1, s2, s3, i64_w, i32_w]
        rfl
       refine one_ (i := 11) (N := some 28) #[Y,Y,Y,Y,Y,Y,Y,Y,Y,Y,Y,Y,Z] rfl rfl (by kernel_rfl) (by decide) (fun K hK => ?_)
       have hrd := Kd.C_below C2.out HR.out
       refine Kd.R_append_rows_step (Kd.int .i64) (w0 := w2) w2.heap.size (by rfl) (.tmp 24) (.tmp 27) 27 3 (.int .i64 0) 8 rfl Try.underlying27 info3 rfl (by decide) (by omega) v24 (l.take q ++ [(i : Int)]) (l.drop q) B (l.length - q) (c - q) (fun _ => True) (fun _ => False) rfl rfl O24.out hrd (fun _ _ h => h) (fun _ h => h.elim) (fun _ _ => trivial) HR.out HR.out.size ?hl ?_
       case hl => have := HQ.out; have := HLE.out; simp; omega
       intro v28 w2nnnnn ho hb hg hat
       have t_O28 := Aside0.mk ho; have t_HR := Aside0.mk hb; clear HR hrd ho hb hg hat O24; have HR := t_HR; have O28 := t_O28; clear t_HR t_O28
       refine hK.out _ _ trivial (fun _ => ?_)
       clear hK K
       refine norm_ (a' := ?_) ?_ ?_
       rotate_left
       ·show Act.put _ (some 28) _ = _
        simp only [Act.put, s1, s2, s3, i64_w, i32_w]
        rfl
       refine pure_ (i := 12) (N := some 5) (v := ?_) (a' := ?_) #[Y,Y,Y,Y,Y,Y,Y,Y,Y,Y,Y,Y,Y] rfl rfl (by kernel_rfl) (fun _ _ _ h => h) (Or.inl ⟨by rfl, ?_⟩) ?_ ?_
       rotate_left
       ·intro w'
        go_simp
        with_reducible rfl
       rotate_left
       ·simp only [Act.put, s1, s2, s3, i64_w, i32_w]
        rfl
       refine done_ (by kernel_rfl) ?_
       have FO := am (Kd.R_lower (Kd.R_mono O28.out (fun _ _ => trivial)) SZ.out); have FI := am (IsS69.below HI.out HR.out); have FB := am (below_then HB.out BS.out HR.out); have FK := am (KeepBut.trans HK.out (KeepBut.of_below HR.out g none) (.inl rfl))
       have hi1 : (i : Int) ≤ 1000000 := by have := HIN.out; omega
       clear HI HB HK HR O28 BS
       go_wp2
       go_roundg k1
       case measure => omega
       case rel => exact ⟨_, i + 1, _, _, by go_num, FO, ⟨by have := HE.out; omega⟩, ⟨by have := HLE.out; have := HQ.out; simp; omega⟩, HA, FI, FB, FK⟩
      ·skip
       refine Kd.R_lit_step (Kd.int .i64) (w0 := w2n) w2n.heap.size 3 (by rfl) (N := 23) rfl (xs := ([(i : Int)] : List Int)) (inner := [.int .i64 (i : Int)]) (ok := fun _ => True) (okp := fun _ => True) ?hr (Reps.one (show Kd.M (Kd.int .i64) _ _ _ (i : Int) [.int .i64 (i : Int)] from rfl) (Reps.none _ _)) (fun _ h => h) trivial (Below.refl _ _) (Nat.le_refl _) (by simp) ?_
       case hr => first | (go_simp; done) | (go_simp; rfl)
       intro v23 w2nn ho hb hg hn
       have t_O17 := am (Kd.R_below O17.out hb); have t_O23 := am (Kd.R_lower (Kd.R_mono (Kd.R_new' (u := v17) ho (fun k e => Kd.R_lt O17.out k e)) (fun _ h => h.2)) HR.out.size); have t_HR := am (below_step HR.out hb); clear HR ho hb hg hn O17; have HR := t_HR; have O17 := t_O17; have O23 := t_O23; clear t_HR t_O17 t_O23
       refine hK.out _ _ trivial (fun _ => ?_)
       clear hK K
       refine norm_ (a' := ?_) ?_ ?_
       rotate_left
       ·show Act.put _ (some 23) _ = _
        simp only [Act.put, s1, s2, s3, i64_w, i32_w]
        rfl
       refine one_ (i := 4) (N := some 21) #[Y,Y,Y,Y,Y,Y,Y,Z,Y,Y,Y,Z,Z] rfl rfl (by kernel_rfl) (by decide) (fun K hK => ?_)
       have hrd := Kd.C_below C1.out HR.out
       refine Kd.R_append_rows_step (Kd.int .i64) (w0 := w2) w2.heap.size (by rfl) (.tmp 17) (.tmp 20) 27 3 (.int .i64 0) 8 rfl Try.underlying27 info3 rfl (by decide) (by omega) v17 ([] : List Int) (l.take q) A q c (fun _ => True) (fun _ => False) rfl rfl O17.out hrd (fun _ _ h => h) (fun _ h => h.elim) (fun _ _ => trivial) HR.out HR.out.size ?hl ?_
       case hl => have := HQ.out; have := HLE.out; simp; omega
       intro v21 w2nnn ho hb hg hat
       have t_O21 := Aside0.mk ho; have t_O23 := am (Kd.R_mono (Kd.R_grown O23.out hg (fun k h => h)) (fun _ h => h)); have t_HR := Aside0.mk hb; clear HR hrd ho hb hg hat O17 O23; have HR := t_HR; have O23 := t_O23; have O21 := t_O21; clear t_HR t_O23 t_O21
       refine hK.out _ _ trivial (fun _ => ?_)
       clear hK K
       refine norm_ (a' := ?_) ?_ ?_
       rotate_left
       ·show Act.put _ (some 21) _ = _
        simp only [Act.put, s1, s2, s3, i64_w, i32_w]
        rfl
       refine one_ (i := 7) (N := some 24) #[Y,Y,Y,Y,Y,Y,Y,Y,Y,Y,Y,Z,Z] rfl rfl (by kernel_rfl) (by decide) (fun K hK => ?_)
       obtain ⟨A23, c23, e_⟩ := Kd.R_slice O23.out; subst e_; have hrd : Kd.C (Kd.int .i64) w2nnn A23 1 [(i : Int)] := (Kd.R_reads' O23.out).2.2
       refine Kd.R_append_rows_step (Kd.int .i64) (w0 := w2) w2.heap.size (by rfl) (.tmp 21) (.tmp 23) 27 3 (.int .i64 0) 8 rfl Try.underlying27 info3 rfl (by decide) (by omega) v21 (l.take q) ([(i : Int)] : List Int) A23 1 c23 (fun _ => True) (fun _ => False) rfl rfl O21.out hrd (fun _ _ h => h) (fun _ h => h.elim) (fun _ _ => trivial) HR.out HR.out.size ?hl ?_
       case hl => have := HQ.out; have := HLE.out; simp; omega
       intro v24 w2nnnn ho hb hg hat
       have t_O24 := Aside0.mk ho; have t_HR := Aside0.mk hb; clear HR hrd ho hb hg hat O23 O21; have HR := t_HR; have O24 := t_O24; clear t_HR t_O24
       refine hK.out _ _ trivial (fun _ => ?_)
       clear hK K
       refine norm_ (a' := ?_) ?_ ?_
       rotate_left
       ·show Act.put _ (some 24) _ = _
        simp only [Act.put, s1, s2, s3, i64_w, i32_w]
        rfl
       refine one_ (i := 11) (N := some 28) #[Y,Y,Y,Y,Y,Y,Y,Y,Y,Y,Y,Y,Z] rfl rfl (by kernel_rfl) (by decide) (fun K hK => ?_)
       have hrd := Kd.C_below C2.out HR.out
       refine Kd.R_append_rows_step (Kd.int .i64) (w0 := w2) w2.heap.size (by rfl) (.tmp 24) (.tmp 27) 27 3 (.int .i64 0) 8 rfl Try.underlying27 info3 rfl (by decide) (by omega) v24 (l.take q ++ [(i : Int)]) (l.drop q) B (l.length - q) (c - q) (fun _ => True) (fun _ => False) rfl rfl O24.out hrd (fun _ _ h => h) (fun _ h => h.elim) (fun _ _ => trivial) HR.out HR.out.size ?hl ?_
       case hl => have := HQ.out; have := HLE.out; simp; omega
       intro v28 w2nnnnn ho hb hg hat
       have t_O28 := Aside0.mk ho; have t_HR := Aside0.mk hb; clear HR hrd ho hb hg hat O24; have HR := t_HR; have O28 := t_O28; clear t_HR t_O28
       refine hK.out _ _ trivial (fun _ => ?_)
       clear hK K
       refine norm_ (a' := ?_) ?_ ?_
       rotate_left
       ·show Act.put _ (some 28) _ = _
        simp only [Act.put, s1, s2, s3, i64_w, i32_w]
        rfl
       refine pure_ (i := 12) (N := some 5) (v := ?_) (a' := ?_) #[Y,Y,Y,Y,Y,Y,Y,Y,Y,Y,Y,Y,Y] rfl rfl (by kernel_rfl) (fun _ _ _ h => h) (Or.inl ⟨by rfl, ?_⟩) ?_ ?_
       rotate_left
       ·intro w'
        go_simp
        with_reducible rfl
       rotate_left
       ·simp only [Act.put, s1, s2, s3, i64_w, i32_w]
        rfl
       refine done_ (by kernel_rfl) ?_
       have FO := am (Kd.R_lower (Kd.R_mono O28.out (fun _ _ => trivial)) SZ.out); have FI := am (IsS69.below HI.out HR.out); have FB := am (below_then HB.out BS.out HR.out); have FK := am (KeepBut.trans HK.out (KeepBut.of_below HR.out g none) (.inl rfl))
       have hi1 : (i : Int) ≤ 1000000 := by have := HIN.out; omega
       clear HI HB HK HR O28 BS
       go_wp2
       go_roundg k1
       case measure => omega
       case rel => exact ⟨_, i + 1, _, _, by go_num, FO, ⟨by have := HE.out; omega⟩, ⟨by have := HLE.out; have := HQ.out; simp; omega⟩, HA, FI, FB, FK⟩
     ·skip
      refine Kd.R_lit_step (Kd.int .i64) (w0 := w2) w2.heap.size 3 (by rfl) (N := 23) rfl (xs := ([(i : Int)] : List Int)) (inner := [.int .i64 (i : Int)]) (ok := fun _ => True) (okp := fun _ => True) ?hr (Reps.one (show Kd.M (Kd.int .i64) _ _ _ (i : Int) [.int .i64 (i : Int)] from rfl) (Reps.none _ _)) (fun _ h => h) trivial (Below.refl _ _) (Nat.le_refl _) (by simp) ?_
      case hr => first | (go_simp; done) | (go_simp; rfl)
      intro v23 w2n ho hb hg hn
      have t_O23 := am (Kd.R_lower ho HR.out.size); have t_HR := am (below_step HR.out hb); clear HR ho hb hg hn; have HR := t_HR; have O23 := t_O23; clear t_HR t_O23
      refine hK.out _ _ trivial (fun _ => ?_)
      clear hK K
      refine norm_ (a' := ?_) ?_ ?_
      rotate_left
      ·show Act.put _ (some 23) _ = _
       simp only [Act.put, s1, s2, s3, i64_w, i32_w]
       rfl
      refine one_ (i := 0) (N := some 17) #[Y,Y,Y,Y,Z,Y,Y,Z,Y,Y,Y,Z,Z] rfl rfl (by kernel_rfl) (by decide) (fun K hK => ?_)
      refine Kd.R_lit_step (Kd.int .i64) (w0 := w2n) w2n.heap.size 3 (by rfl) (N := 17) rfl (xs := ([] : List Int)) (inner := []) (ok := fun _ => True) (okp := fun _ => True) ?hr (Reps.none _ _) (fun _ h => h) trivial (Below.refl _ _) (Nat.le_refl _) (by simp) ?_
      case hr => first | (go_simp; done) | (go_simp; rfl)
      intro v17 w2nn ho hb hg hn
      have t_O23 := am (Kd.R_below O23.out hb); have t_O17 := am (Kd.R_lower ho HR.out.size); have u_O23 := am (Kd.R_mono (Kd.R_elder' (v := v17) O23.out (fun k e => by obtain ⟨b, e1, e2⟩ := hn; rw [e1] at e; cases e; exact e2) hb) (fun _ h => h.2)); clear t_O23; have t_O23 := u_O23; clear u_O23; have t_HR := am (below_step HR.out hb); clear HR ho hb hg hn O23; have HR := t_HR; have O23 := t_O23; have O17 := t_O17; clear t_HR t_O23 t_O17
      refine hK.out _ _ trivial (fun _ => ?_)
      clear hK K
      refine norm_ (a' := ?_) ?_ ?_
      rotate_left
      ·show Act.put _ (some 17) _ = _
       simp only [Act.put, s1, s2, s3, i64_w, i32_w]
       rfl
      refine one_ (i := 4) (N := some 21) #[Y,Y,Y,Y,Y,Y,Y,Z,Y,Y,Y,Z,Z] rfl rfl (by kernel_rfl) (by decide) (fun K hK => ?_)
      have hrd := Kd.C_below C1.out HR.out
      refine Kd.R_append_rows_step (Kd.int .i64) (w0 := w2) w2.heap.size (by rfl) (.tmp 17) (.tmp 20) 27 3 (.int .i64 0) 8 rfl Try.underlying27 info3 rfl (by decide) (by omega) v17 ([] : List Int) (l.take q) A q c (fun _ => True) (fun _ => False) rfl rfl O17.out hrd (fun _ _ h => h) (fun _ h => h.elim) (fun _ _ => trivial) HR.out HR.out.size ?hl ?_
      case hl => have := HQ.out; have := HLE.out; simp; omega
      intro v21 w2nnn ho hb hg hat
      have t_O21 := Aside0.mk ho; have t_O23 := am (Kd.R_mono (Kd.R_grown O23.out hg (fun k h => h)) (fun _ h => h)); have t_HR := Aside0.mk hb; clear HR hrd ho hb hg hat O23 O17; have HR := t_HR; have O23 := t_O23; have O21 := t_O21; clear t_HR t_O23 t_O21
      refine hK.out _ _ trivial (fun _ => ?_)
      clear hK K
      refine norm_ (a' := ?_) ?_ ?_
      rotate_left
      ·show Act.put _ (some 21) _ = _
       simp only [Act.put, s1, s2, s3, i64_w, i32_w]
       rfl
      refine one_ (i := 7) (N := some 24) #[Y,Y,Y,Y,Y,Y,Y,Y,Y,Y,Y,Z,Z] rfl rfl (by kernel_rfl) (by decide) (fun K hK => ?_)
      obtain ⟨A23, c23, e_⟩ := Kd.R_slice O23.out; subst e_; have hrd : Kd.C (Kd.int .i64) w2nnn A23 1 [(i : Int)] := (Kd.R_reads' O23.out).2.2
      refine Kd.R_append_rows_step (Kd.int .i64) (w0 := w2) w2.heap.size (by rfl) (.tmp 21) (.tmp 23) 27 3 (.int .i64 0) 8 rfl Try.underlying27 info3 rfl (by decide) (by omega) v21 (l.take q) ([(i : Int)] : List Int) A23 1 c23 (fun _ => True) (fun _ => False) rfl rfl O21.out hrd (fun _ _ h => h) (fun _ h => h.elim) (fun _ _ => trivial) HR.out HR.out.size ?hl ?_
      case hl => have := HQ.out; have := HLE.out; simp; omega
      intro v24 w2nnnn ho hb hg hat
      have t_O24 := Aside0.mk ho; have t_HR := Aside0.mk hb; clear HR hrd ho hb hg hat O23 O21; have HR := t_HR; have O24 := t_O24; clear t_HR t_O24
      refine hK.out _ _ trivial (fun _ => ?_)
      clear hK K
      refine norm_ (a' := ?_) ?_ ?_
      rotate_left
      ·show Act.put _ (some 24) _ = _
       simp only [Act.put, s1, s2, s3, i64_w, i32_w]
       rfl
      refine one_ (i := 11) (N := some 28) #[Y,Y,Y,Y,Y,Y,Y,Y,Y,Y,Y,Y,Z] rfl rfl (by kernel_rfl) (by decide) (fun K hK => ?_)
      have hrd := Kd.C_below C2.out HR.out
      refine Kd.R_append_rows_step (Kd.int .i64) (w0 := w2) w2.heap.size (by rfl) (.tmp 24) (.tmp 27) 27 3 (.int .i64 0) 8 rfl Try.underlying27 info3 rfl (by decide) (by omega) v24 (l.take q ++ [(i : Int)]) (l.drop q) B (l.length - q) (c - q) (fun _ => True) (fun _ => False) rfl rfl O24.out hrd (fun _ _ h => h) (fun _ h => h.elim) (fun _ _ => trivial) HR.out HR.out.size ?hl ?_
      case hl => have := HQ.out; have := HLE.out; simp; omega
      intro v28 w2nnnnn ho hb hg hat
      have t_O28 := Aside0.mk ho; have t_HR := Aside0.mk hb; clear HR hrd ho hb hg hat O24; have HR := t_HR; have O28 := t_O28; clear t_HR t_O28
      refine hK.out _ _ trivial (fun _ => ?_)
      clear hK K
      refine norm_ (a' := ?_) ?_ ?_
      rotate_left
      ·show Act.put _ (some 28) _ = _
       simp only [Act.put, s1, s2, s3, i64_w, i32_w]
       rfl
      refine pure_ (i := 12) (N := some 5) (v := ?_) (a' := ?_) #[Y,Y,Y,Y,Y,Y,Y,Y,Y,Y,Y,Y,Y] rfl rfl (by kernel_rfl) (fun _ _ _ h => h) (Or.inl ⟨by rfl, ?_⟩) ?_ ?_
      rotate_left
      ·intro w'
       go_simp
       with_reducible rfl
      rotate_left
      ·simp only [Act.put, s1, s2, s3, i64_w, i32_w]
       rfl
      refine done_ (by kernel_rfl) ?_
      have FO := am (Kd.R_lower (Kd.R_mono O28.out (fun _ _ => trivial)) SZ.out); have FI := am (IsS69.below HI.out HR.out); have FB := am (below_then HB.out BS.out HR.out); have FK := am (KeepBut.trans HK.out (KeepBut.of_below HR.out g none) (.inl rfl))
      have hi1 : (i : Int) ≤ 1000000 := by have := HIN.out; omega
      clear HI HB HK HR O28 BS
      go_wp2
      go_roundg k1
      case measure => omega
      case rel => exact ⟨_, i + 1, _, _, by go_num, FO, ⟨by have := HE.out; omega⟩, ⟨by have := HLE.out; have := HQ.out; simp; omega⟩, HA, FI, FB, FK⟩
    ·rw [if_neg hc] at H
     exact absurd H (by simp)
 ·rw [if_neg hn] at h
  exact absurd h (by simp)


end Go.Proofs.Ytjipboafhakjfaa.PFnStable
