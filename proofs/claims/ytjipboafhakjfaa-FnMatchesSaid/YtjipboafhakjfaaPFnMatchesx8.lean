/- Text written by a program for this claim: contracts of the functions of one law. -/
import Derived.Test.YtjipboafhakjfaaPFnMatchesx0
import Derived.Test.YtjipboafhakjfaaPFnMatchesx6
import Derived.Test.YtjipboafhakjfaaPFnMatchesx7
namespace Go.Proofs.Ytjipboafhakjfaa.PFnMatches
open Go.RowKit Go.Proofs.YtjipboafhakjfaaW.PrintWords Go.Proofs.YtjipboafhakjfaaW.PrintLast Go.Proofs.YtjipboafhakjfaaW.PrintMore
attribute [local go_sem] max2_int min2_int max_two min_two max_three min_three max_four min_four   -- for this text's walks alone
set_option linter.unusedVariables false
set_option linter.unusedSimpArgs false
open ShortPFnMatches0

/-! ### spec_l1Cur_permuted: function 90 -/
/-- A permutation is drawn: each number is put in at a drawn place. -/
def spec_l1Cur_permuted.go (s0 : List Int) : Nat → Nat → List Int → Int → Int → Option (List Int × Int × Int)
 | 0, _, l, p, s => some (l, p, s)
 | d + 1, i, l, p, s => (spec_l1Cur_pick.f s0 p s ((i : Int) + 1)).bind fun b => if 0 ≤ b.1 ∧ b.1 ≤ (l.length : Int) then spec_l1Cur_permuted.go s0 d (i + 1) (l.take b.1.toNat ++ [(i : Int)] ++ l.drop b.1.toNat) b.2.1 b.2.2 else none
def spec_l1Cur_permuted.f (s0 : List Int) (p s n : Int) : Option (List Int × Int × Int) := if n ≤ 1000000 then spec_l1Cur_permuted.go s0 n.toNat 0 [] p s else none
set_option maxHeartbeats 8000000 in
set_option maxRecDepth 100000 in
theorem spec_l1Cur_permuted.calls (g : Nat) (s0_0 : List Int) (s0_1 s0_2 a1 : Int) (r1 : List Int) (r2 r3 : Int) (w0 w : World) (hI : IsS69 w0 w g s0_0 s0_1 s0_2) (hB : Below w0.heap.size w0 w) (h : spec_l1Cur_permuted.f s0_0 s0_1 s0_2 a1 = some (r1, r2, r3)) :
  Calls Try.prog 90 #[.pointer (some ⟨g, 0, none⟩), .int .i64 a1] w fun e w' => ∃ v0_ : Value, e = .returned (v0_) ∧ Kd.R (Kd.int .i64) 3 w' w.heap.size (fun _ => True) v0_ r1 ∧ IsS69 w0 w' g s0_0 r2 r3 ∧ Below w0.heap.size w0 w' ∧ KeepBut w w' g none := by
 have HI := Aside0.mk hI
 have HB := Aside0.mk hB
 have HK := am (KeepBut.refl w g none)
 have BS0 := Aside0.mk hB.size
 clear hI hB
 unfold spec_l1Cur_permuted.f at h
 by_cases hn : a1 ≤ 1000000
 ·rw [if_pos hn] at h
  have H' := Aside0.mk h
  have HN := Aside0.mk hn
  clear h hn
  go_enter Try.func90, Try.ntmps90
  go_wp2
  go_loopg [5, 6] a1.toNat (fun kq v5 v6 w' => ∃ (l : List Int) (i : Nat) (p s : Int), v6 = .int .i64 (i : Int) ∧ Aside0 (Kd.R (Kd.int .i64) 3 w' w.heap.size (fun _ => True) v5 l) ∧ Aside0 (kq + i = a1.toNat) ∧ Aside0 (l.length = i) ∧ Aside0 (spec_l1Cur_permuted.go s0_0 kq i l p s = some (r1, r2, r3)) ∧ Aside0 (IsS69 w0 w' g s0_0 p s) ∧ Aside0 (Below w0.heap.size w0 w') ∧ Aside0 (KeepBut w w' g none))
  case atStart => exact ⟨[], 0, s0_1, s0_2, rfl, ⟨Kd.R_nil _ _ _ _ _⟩, ⟨rfl⟩, ⟨rfl⟩, H', HI, HB, HK⟩
  case round =>
   clear H' HI HB HK; obtain ⟨l, i, p, s, rfl, HO, HE, HL, HA, HI, HB, HK⟩ := hrel
   cases gk with
   | zero =>
    have H := HA.out; simp only [spec_l1Cur_permuted.go, Option.some.injEq, Prod.mk.injEq] at H; obtain ⟨rfl, rfl, rfl⟩ := H; have c0 : decide ((i : Int) < a1) = false := decide_eq_false (by have := HE.out; omega)
    go_wp2
    go_ret
    exact ⟨_, rfl, HO.out, HI.out, HB.out, HK.out⟩
   | succ k1 =>
    have H := HA.out; simp only [spec_l1Cur_permuted.go] at H; obtain ⟨⟨b1, b2, b3⟩, hp, H⟩ := Option.bind_eq_some_iff.1 H
    by_cases hc : 0 ≤ b1 ∧ b1 ≤ (l.length : Int)
    ·rw [if_pos hc] at H
     obtain ⟨q, hq⟩ := Int.eq_ofNat_of_zero_le hc.1; have hq' : b1 = (q : Int) := hq; subst hq'; have HP := Aside0.mk hp; have HQ : Aside0 (q ≤ l.length) := ⟨by omega⟩; have HIN : Aside0 ((i : Int) < a1 ∧ a1 ≤ 1000000) := ⟨by have := HE.out; have := HN.out; omega⟩; have HLE : Aside0 (l.length = i ∧ i ≤ 1000000) := ⟨by have := HL.out; have := HIN.out; omega⟩; simp only [Int.toNat_natCast] at H; clear HA HL; have HA := Aside0.mk H; have c0 : decide ((i : Int) < a1) = true := decide_eq_true HIN.out.1
     have hi : (i : Int) ≤ 1000000 := by have := HIN.out; omega
     clear H hp hc hq; obtain ⟨A, c, e_⟩ := Kd.R_slice HO.out; subst e_
     go_wp2_with fail
     refine (spec_l1Cur_pick.calls g s0_0 p s ((i : Int) + 1) (q : Int) b2 b3 w0 _ HI.out HB.out HP.out).mono ?_
     rintro e w1 ⟨rfl, hI, hB, hk⟩
     have t_HO := am (Kd.R_mono (Kd.R_keep (IsS69.apart HI.out HO.out (by decide)) hk (fun _ h => h.2)) (fun _ h => h.1)); have t_HK := am (KeepBut.trans HK.out hk (.inl rfl)); clear HO HI HB HK hk HP; have HO := t_HO; have HK := t_HK; have HI := Aside0.mk hI; have HB := Aside0.mk hB; clear t_HO t_HK hI hB; obtain ⟨i3, hi3, hz3⟩ := Option.map_eq_some_iff.1 info3; simp only [Prod.mk.injEq] at hz3; have hcap := (Kd.R_reads' HO.out).2.1; have ct := cut_to (P := Try.prog) 27 3 .i64 Try.underlying27 hi3 A l.length c (q : Int) (by omega) (by have := HQ.out; omega) hcap; have cf := cut_from (P := Try.prog) 27 3 .i64 Try.underlying27 hi3 1 hz3.2.1 A l.length c (q : Int) (by omega) (by have := HQ.out; omega); simp only [Int.toNat_natCast] at ct cf
     have x1 : (l.take q).length = q := by have := HQ.out; simp; omega
     have x2 : (l.drop q).length = l.length - q := by simp
     have c1 : Kd.C (Kd.int .i64) w1 A q (l.take q) := by have h := Kd.C_take (Kd.R_reads' HO.out).2.2 HQ.out; rwa [x1] at h
     have c2 : Kd.C (Kd.int .i64) w1 (if c = q then A else A.map (·.add (q * 1))) (l.length - q) (l.drop q) := by have h := Kd.C_drop (c := c) (Kd.R_reads' HO.out).2.2 HQ.out; rw [x2] at h; exact h hcap
     generalize (if c = q then A else A.map (·.add (q * 1))) = B at cf c2; have C1 := Aside0.mk c1; have C2 := Aside0.mk c2; clear c1 c2 x1 x2 hz3 hi3 hcap
     go_wp2
     have t_C1 := am (Kd.C_below C1.out (below_drew1 (Below.refl _ _))); have t_C2 := am (Kd.C_below C2.out (below_drew1 (Below.refl _ _))); have t_HI := am (IsS69.drew HI.out); have t_HB := am (below_drew1 HB.out); have t_HK := am (keep_drew HK.out); have t_SZ := Aside0.mk HK.out.1; clear HO C1 C2 HI HB HK
     refine start_ (n := 13) (S := fun _ => True) (ds := []) #[Z,Z,Z,Z,Z,Z,Z,Z,Z,Z,Z,Z,Z] (by kernel_rfl) rfl rfl trivial (fun _ => ?_)
     have t_SZ2 : Aside0 (w.heap.size ≤ w1.drew.heap.size) := t_SZ; generalize w1.drew = w2 at t_C1 t_C2 t_HI t_HB t_HK t_SZ2 ⊢; have C1 := t_C1; have C2 := t_C2; have HI := t_HI; have HB := t_HB; have HK := t_HK; have SZ := t_SZ2; have BS := Aside0.mk HB.out.size; clear t_C1 t_C2 t_HI t_HB t_HK t_SZ t_SZ2; have HR := am (Below.refl w2.heap.size w2)
     refine pure_ (i := 1) (N := some 18) (v := ?_) (a' := ?_) #[Z,Y,Z,Z,Z,Z,Z,Z,Z,Z,Z,Z,Z] rfl rfl (by kernel_rfl) (fun _ _ _ h => h) (Or.inl ⟨by rfl, ?_⟩) ?_ ?_
     rotate_left
     ·intro w'
      go_simp
      with_reducible rfl
     rotate_left
     ·simp only [Act.put, s1, s2, s3, i64_w, i32_w]
      rfl
     refine pure_ (i := 2) (N := some 19) (v := ?_) (a' := ?_) #[Z,Y,Y,Z,Z,Z,Z,Z,Z,Z,Z,Z,Z] rfl rfl (by kernel_rfl) (fun _ _ _ h => h) (Or.inl ⟨by rfl, ?_⟩) ?_ ?_
     rotate_left
     ·intro w'
      go_simp
      with_reducible rfl
     rotate_left
     ·simp only [Act.put, s1, s2, s3, i64_w, i32_w]
      rfl
     refine pure_ (i := 3) (N := some 20) (v := ?_) (a' := ?_) #[Z,Y,Y,Y,Z,Z,Z,Z,Z,Z,Z,Z,Z] rfl rfl (by kernel_rfl) (fun _ _ _ h => h) (Or.inl ⟨by rfl, ?_⟩) ?_ ?_
     rotate_left
     ·intro w'
      go_simp
      with_reducible rfl
     rotate_left
     ·simp only [Act.put, s1, s2, s3, i64_w, i32_w]
      rfl
     refine pure_ (i := 5) (N := some 22) (v := ?_) (a' := ?_) #[Z,Y,Y,Y,Z,Y,Z,Z,Z,Z,Z,Z,Z] rfl rfl (by kernel_rfl) (fun _ _ _ h => h) (Or.inl ⟨by rfl, ?_⟩) ?_ ?_
     rotate_left
     ·intro w'
      go_simp
      with_reducible rfl
     rotate_left
     ·simp only [Act.put, s1, s2, s3, i64_w, i32_w]
      rfl
     refine pure_ (i := 8) (N := some 25) (v := ?_) (a' := ?_) #[Z,Y,Y,Y,Z,Y,Z,Z,Y,Z,Z,Z,Z] rfl rfl (by kernel_rfl) (fun _ _ _ h => h) (Or.inl ⟨by rfl, ?_⟩) ?_ ?_
     rotate_left
     ·intro w'
      go_simp
      with_reducible rfl
     rotate_left
     ·simp only [Act.put, s1, s2, s3, i64_w, i32_w]
      rfl
     refine pure_ (i := 9) (N := some 26) (v := ?_) (a' := ?_) #[Z,Y,Y,Y,Z,Y,Z,Z,Y,Y,Z,Z,Z] rfl rfl (by kernel_rfl) (fun _ _ _ h => h) (Or.inl ⟨by rfl, ?_⟩) ?_ ?_
     rotate_left
     ·intro w'
      go_simp
      with_reducible rfl
     rotate_left
     ·simp only [Act.put, s1, s2, s3, i64_w, i32_w]
      rfl
     refine pure_ (i := 10) (N := some 27) (v := ?_) (a' := ?_) #[Z,Y,Y,Y,Z,Y,Z,Z,Y,Y,Y,Z,Z] rfl rfl (by kernel_rfl) (fun _ _ _ h => h) (Or.inl ⟨by rfl, ?_⟩) ?_ ?_
     rotate_left
     ·intro w'
      go_simp
      with_reducible rfl
     rotate_left
     ·simp only [Act.put, s1, s2, s3, i64_w, i32_w]
      rfl
     clear ct cf
     refine two_ (i := 0) (j := 6) (Ni := some 17) (Nj := some 23) #[Y,Y,Y,Y,Z,Y,Z,Z,Y,Y,Y,Z,Z] #[Z,Y,Y,Y,Z,Y,Y,Z,Y,Y,Y,Z,Z] rfl rfl rfl rfl (by kernel_rfl) (by decide) (by decide) (fun K hK => ?_) (fun K hK => ?_)
     ·skip
      refine Kd.R_lit_step (Kd.int .i64) (w0 := w2) w2.heap.size 3 (by rfl) (N := 17) rfl (xs := ([] : List Int)) (inner := []) (ok := fun _ => True) (okp := fun _ => True) ?hr (Reps.none _ _) (fun _ h => h) trivial (Below.refl _ _) (Nat.le_refl _) (by simp) ?_
      case hr => first | (go_simp; done) | (go_simp; rfl)
      intro v17 w2n ho hb hg hn
      have t_O17 := am (Kd.R_lower ho HR.out.size); have t_HR := am (below_step HR.out hb); clear HR ho hb hg hn; have HR := t_HR; have O17 := t_O17; clear t_HR t_O17
      refine hK.out _ _ trivial (fun _ => ?_)
      clear hK K
      refine norm_ (a' := ?_) ?_ ?_
      rotate_left
      ·show Act.put _ (some 17) _ = _
       simp only [Act.put, s1, s2, s3, i64_w, i32_w]
       rfl
      refine two_ (i := 4) (j := 6) (Ni := some 21) (Nj := some 23) #[Y,Y,Y,Y,Y,Y,Z,Z,Y,Y,Y,Z,Z] #[Y,Y,Y,Y,Z,Y,Y,Z,Y,Y,Y,Z,Z] rfl rfl rfl rfl (by kernel_rfl) (by decide) (by decide) (fun K hK => ?_) (fun K hK => ?_)
      ·skip
       have hrd := Kd.C_below C1.out HR.out
       refine Kd.R_append_rows_step (Kd.int .i64) (w0 := w2) w2.heap.size (by rfl) (.tmp 17) (.tmp 20) 27 3 (.int .i64 0) 8 rfl Try.underlying27 info3 rfl (by decide) (by omega) v17 ([] : List Int) (l.take q) A q c (fun _ => True) (fun _ => False) rfl rfl O17.out hrd (fun _ _ h => h) (fun _ h => h.elim) (fun _ _ => trivial) HR.out HR.out.size ?hl ?_
       case hl => have := HQ.out; have := HLE.out; simp; omega
       intro v21 w2nn ho hb hg hat
       have t_O21 := Aside0.mk ho; have t_HR := Aside0.mk hb; clear HR hrd ho hb hg hat O17; have HR := t_HR; have O21 := t_O21; clear t_HR t_O21
       refine hK.out _ _ trivial (fun _ => ?_)
       clear hK K
       refine norm_ (a' := ?_) ?_ ?_
       rotate_left
       ·show Act.put _ (some 21) _ = _
        simp only [Act.put, s1, s2, s3, i64_w, i32_w]
        rfl
       refine one_ (i := 6) (N := some 23) #[Y,Y,Y,Y,Y,Y,Y,Z,Y,Y,Y,Z,Z] rfl rfl (by kernel_rfl) (by decide) (fun K hK => ?_)
       refine Kd.R_lit_step (Kd.int .i64) (w0 := w2nn) w2nn.heap.size 3 (by rfl) (N := 23) rfl (xs := ([(i : Int)] : List Int)) (inner := [.int .i64 (i : Int)]) (ok := fun _ => True) (okp := fun _ => True) ?hr (Reps.one (show Kd.M (Kd.int .i64) _ _ _ (i : Int) [.int .i64 (i : Int)] from rfl) (Reps.none _ _)) (fun _ h => h) trivial (Below.refl _ _) (Nat.le_refl _) (by simp) ?_
       case hr => first | (go_simp; done) | (go_simp; rfl)
       intro v23 w2nnn ho hb hg hn
       have t_O21 := am (Kd.R_below O21.out hb); have t_O23 := am (Kd.R_lower ho HR.out.size); have t_HR := am (below_step HR.out hb); clear HR ho hb hg hn O21; have HR := t_HR; have O21 := t_O21; have O23 := t_O23; clear t_HR t_O21 t_O23
       refine hK.out _ _ trivial (fun _ => ?_)
       clear hK K
       refine norm_ (a' := ?_) ?_ ?_
       rotate_left
       ·show Act.put _ (some 23) _ = _
        simp only [Act.put, s1, s2, s3, i64_w, i32_w]
        rfl
       refine one_ (i := 7) (N := some 24) #[Y,Y,Y,Y,Y,Y,Y,Y,Y,Y,Y,Z,Z] rfl rfl (by kernel_rfl) (by decide) (fun K hK => ?_)
       obtain ⟨A23, c23, e_⟩ := Kd.R_slice O23.out; subst e_; have hrd : Kd.C (Kd.int .i64) w2nnn A23 1 [(i : Int)] := (Kd.R_reads' O23.out).2.2
       refine Kd.R_append_rows_step (Kd.int .i64) (w0 := w2) w2.heap.size (by rfl) (.tmp 21) (.tmp 23) 27 3 (.int .i64 0) 8 rfl Try.underlying27 info3 rfl (by decide) (by omega) v21 (l.take q) ([(i : Int)] : List Int) A23 1 c23 (fun _ => True) (fun _ => False) rfl rfl O21.out hrd (fun _ _ h => h) (fun _ h => h.elim) (fun _ _ => trivial) HR.out HR.out.size ?hl ?_
       case hl => have := HQ.out; have := HLE.out; simp; omega
       intro v24 w2nnnn ho hb hg hat
       have t_O24 := Aside0.mk ho; have t_HR := Aside0.mk hb; clear HR hrd ho hb hg hat O21 O23; have HR := t_HR; have O24 := t_O24; clear t_HR t_O24
       refine hK.out _ _ trivial (fun _ => ?_)
       clear hK K
       refine norm_ (a' := ?_) ?_ ?_
       rotate_left
       ·show Act.put _ (some 24) _ = _
        simp only [Act.put, s1, s2, s3, i64_w, i32_w]
        rfl
       refine one_ (i := 11) (N := some 28) #[Y,Y,Y,Y,Y,Y,Y,Y,Y,Y,Y,Y,Z] rfl rfl (by kernel_rfl) (by decide) (fun K hK => ?_)
       have hrd := Kd.C_below C2.out HR.out
       refine Kd.R_append_rows_step (Kd.int .i64) (w0 := w2) w2.heap.size (by rfl) (.tmp 24) (.tmp 27) 27 3 (.int .i64 0) 8 rfl Try.underlying27 info3 rfl (by decide) (by omega) v24 (l.take q ++ [(i : Int)]) (l.drop q) B (l.length - q) (c - q) (fun _ => True) (fun _ => False) rfl rfl O24.out hrd (fun _ _ h => h) (fun _ h => h.elim) (fun _ _ => trivial) HR.out HR.out.size ?hl ?_
       case hl => have := HQ.out; have := HLE.out; simp; omega
       intro v28 w2nnnnn ho hb hg hat
       have t_O28 := Aside0.mk ho; have t_HR := Aside0.mk hb; clear HR hrd ho hb hg hat O24; have HR := t_HR; have O28 := t_O28; clear t_HR t_O28
       refine hK.out _ _ trivial (fun _ => ?_)
       clear hK K
       refine norm_ (a' := ?_) ?_ ?_
       rotate_left
       ·show Act.put _ (some 28) _ = _
        simp only [Act.put, s1, s2, s3, i64_w, i32_w]
        rfl
       refine pure_ (i := 12) (N := some 5) (v := ?_) (a' := ?_) #[Y,Y,Y,Y,Y,Y,Y,Y,Y,Y,Y,Y,Y] rfl rfl (by kernel_rfl) (fun _ _ _ h => h) (Or.inl ⟨by rfl, ?_⟩) ?_ ?_
       rotate_left
       ·intro w'
        go_simp
        with_reducible rfl
       rotate_left
       ·simp only [Act.put, s1, s2, s3, i64_w, i32_w]
        rfl
       refine done_ (by kernel_rfl) ?_
       have FO := am (Kd.R_lower (Kd.R_mono O28.out (fun _ _ => trivial)) SZ.out); have FI := am (IsS69.below HI.out HR.out); have FB := am (below_then HB.out BS.out HR.out); have FK := am (KeepBut.trans HK.out (KeepBut.of_below HR.out g none) (.inl rfl))
       have hi1 : (i : Int) ≤ 1000000 := by have := HIN.out; omega
       clear HI HB HK HR O28 BS
       go_wp2
       go_roundg k1
       case measure => omega
       case rel => exact ⟨_, i + 1, _, _, by go_num, FO, ⟨by have := HE.out; omega⟩, ⟨by have := HLE.out; have := HQ.out; simp; omega⟩, HA, FI, FB, FK⟩
      ·skip
       refine Kd.R_lit_step (Kd.int .i64) (w0 := w2n) w2n.heap.size 3 (by rfl) (N := 23) rfl (xs := ([(i : Int)] : List Int)) (inner := [.int .i64 (i : Int)]) (ok := fun _ => True) (okp := fun _ => True) ?hr (Reps.one (show Kd.M (Kd.int .i64) _ _ _ (i : Int) [.int .i64 (i : Int)] from rfl) (Reps.none _ _)) (fun _ h => h) trivial (Below.refl _ _) (Nat.le_refl _) (by simp) ?_
       case hr => first | (go_simp; done) | (go_simp; rfl)
       intro v23 w2nn ho hb hg hn
       have t_O17 := am (Kd.R_below O17.out hb); have t_O23 := am (Kd.R_lower (Kd.R_mono (Kd.R_new' (u := v17) ho (fun k e => Kd.R_lt O17.out k e)) (fun _ h => h.2)) HR.out.size); have t_HR := am (below_step HR.out hb); clear HR ho hb hg hn O17; have HR := t_HR; have O17 := t_O17; have O23 := t_O23; clear t_HR t_O17 t_O23
       refine hK.out _ _ trivial (fun _ => ?_)
       clear hK K
       refine norm_ (a' := ?_) ?_ ?_
       rotate_left
       ·show Act.put _ (some 23) _ = _
        simp only [Act.put, s1, s2, s3, i64_w, i32_w]
        rfl
       refine one_ (i := 4) (N := some 21) #[Y,Y,Y,Y,Y,Y,Y,Z,Y,Y,Y,Z,Z] rfl rfl (by kernel_rfl) (by decide) (fun K hK => ?_)
       have hrd := Kd.C_below C1.out HR.out
       refine Kd.R_append_rows_step (Kd.int .i64) (w0 := w2) w2.heap.size (by rfl) (.tmp 17) (.tmp 20) 27 3 (.int .i64 0) 8 rfl Try.underlying27 info3 rfl (by decide) (by omega) v17 ([] : List Int) (l.take q) A q c (fun _ => True) (fun _ => False) rfl rfl O17.out hrd (fun _ _ h => h) (fun _ h => h.elim) (fun _ _ => trivial) HR.out HR.out.size ?hl ?_
       case hl => have := HQ.out; have := HLE.out; simp; omega
       intro v21 w2nnn ho hb hg hat
       have t_O21 := Aside0.mk ho; have t_O23 := am (Kd.R_mono (Kd.R_grown O23.out hg (fun k h => h)) (fun _ h => h)); have t_HR := Aside0.mk hb; clear HR hrd ho hb hg hat O17 O23; have HR := t_HR; have O23 := t_O23; have O21 := t_O21; clear t_HR t_O23 t_O21
       refine hK.out _ _ trivial (fun _ => ?_)
       clear hK K
       refine norm_ (a' := ?_) ?_ ?_
       rotate_left
       ·show Act.put _ (some 21) _ = _
        simp only [Act.put, s1, s2, s3, i64_w, i32_w]
        rfl
       refine one_ (i := 7) (N := some 24) #[Y,Y,Y,Y,Y,Y,Y,Y,Y,Y,Y,Z,Z] rfl rfl (by kernel_rfl) (by decide) (fun K hK => ?_)
       obtain ⟨A23, c23, e_⟩ := Kd.R_slice O23.out; subst e_; have hrd : Kd.C (Kd.int .i64) w2nnn A23 1 [(i : Int)] := (Kd.R_reads' O23.out).2.2
       refine Kd.R_append_rows_step (Kd.int .i64) (w0 := w2) w2.heap.size (by rfl) (.tmp 21) (.tmp 23) 27 3 (.int .i64 0) 8 rfl Try.underlying27 info3 rfl (by decide) (by omega) v21 (l.take q) ([(i : Int)] : List Int) A23 1 c23 (fun _ => True) (fun _ => False) rfl rfl O21.out hrd (fun _ _ h => h) (fun _ h => h.elim) (fun _ _ => trivial) HR.out HR.out.size ?hl ?_
       case hl => have := HQ.out; have := HLE.out; simp; omega
       intro v24 w2nnnn ho hb hg hat
       have t_O24 := Aside0.mk ho; have t_HR := Aside0.mk hb; clear HR hrd ho hb hg hat O23 O21; have HR := t_HR; have O24 := t_O24; clear t_HR t_O24
       refine hK.out _ _ trivial (fun _ => ?_)
       clear hK K
       refine norm_ (a' := ?_) ?_ ?_
       rotate_left
       ·show Act.put _ (some 24) _ = _
        simp only [Act.put, s1, s2, s3, i64_w, i32_w]
        rfl
       refine one_ (i := 11) (N := some 28) #[Y,Y,Y,Y,Y,Y,Y,Y,Y,Y,Y,Y,Z] rfl rfl (by kernel_rfl) (by decide) (fun K hK => ?_)
       have hrd := Kd.C_below C2.out HR.out
       refine Kd.R_append_rows_step (Kd.int .i64) (w0 := w2) w2.heap.size (by rfl) (.tmp 24) (.tmp 27) 27 3 (.int .i64 0) 8 rfl Try.underlying27 info3 rfl (by decide) (by omega) v24 (l.take q ++ [(i : Int)]) (l.drop q) B (l.length - q) (c - q) (fun _ => True) (fun _ => False) rfl rfl O24.out hrd (fun _ _ h => h) (fun _ h => h.elim) (fun _ _ => trivial) HR.out HR.out.size ?hl ?_
       case hl => have := HQ.out; have := HLE.out; simp; omega
       intro v28 w2nnnnn ho hb hg hat
       have t_O28 := Aside0.mk ho; have t_HR := Aside0.mk hb; clear HR hrd ho hb hg hat O24; have HR := t_HR; have O28 := t_O28; clear t_HR t_O28
       refine hK.out _ _ trivial (fun _ => ?_)
       clear hK K
       refine norm_ (a' := ?_) ?_ ?_
       rotate_left
       ·show Act.put _ (some 28) _ = _
        simp only [Act.put, s1, s2, s3, i64_w, i32_w]
        rfl
       refine pure_ (i := 12) (N := some 5) (v := ?_) (a' := ?_) #[Y,Y,Y,Y,Y,Y,Y,Y,Y,Y,Y,Y,Y] rfl rfl (by kernel_rfl) (fun _ _ _ h => h) (Or.inl ⟨by rfl, ?_⟩) ?_ ?_
       rotate_left
       ·intro w'
        go_simp
        with_reducible rfl
       rotate_left
       ·simp only [Act.put, s1, s2, s3, i64_w, i32_w]
        rfl
       refine done_ (by kernel_rfl) ?_
       have FO := am (Kd.R_lower (Kd.R_mono O28.out (fun _ _ => trivial)) SZ.out); have FI := am (IsS69.below HI.out HR.out); have FB := am (below_then HB.out BS.out HR.out); have FK := am (KeepBut.trans HK.out (KeepBut.of_below HR.out g none) (.inl rfl))
       have hi1 : (i : Int) ≤ 1000000 := by have := HIN.out; omega
       clear HI HB HK HR O28 BS
       go_wp2
       go_roundg k1
       case measure => omega
       case rel => exact ⟨_, i + 1, _, _, by go_num, FO, ⟨by have := HE.out; omega⟩, ⟨by have := HLE.out; have := HQ.out; simp; omega⟩, HA, FI, FB, FK⟩
     ·skip
      refine Kd.R_lit_step (Kd.int .i64) (w0 := w2) w2.heap.size 3 (by rfl) (N := 23) rfl (xs := ([(i : Int)] : List Int)) (inner := [.int .i64 (i : Int)]) (ok := fun _ => True) (okp := fun _ => True) ?hr (Reps.one (show Kd.M (Kd.int .i64) _ _ _ (i : Int) [.int .i64 (i : Int)] from rfl) (Reps.none _ _)) (fun _ h => h) trivial (Below.refl _ _) (Nat.le_refl _) (by simp) ?_
      case hr => first | (go_simp; done) | (go_simp; rfl)
      intro v23 w2n ho hb hg hn
      have t_O23 := am (Kd.R_lower ho HR.out.size); have t_HR := am (below_step HR.out hb); clear HR ho hb hg hn; have HR := t_HR; have O23 := t_O23; clear t_HR t_O23
      refine hK.out _ _ trivial (fun _ => ?_)
      clear hK K
      refine norm_ (a' := ?_) ?_ ?_
      rotate_left
      ·show Act.put _ (some 23) _ = _
       simp only [Act.put, s1, s2, s3, i64_w, i32_w]
       rfl
      refine one_ (i := 0) (N := some 17) #[Y,Y,Y,Y,Z,Y,Y,Z,Y,Y,Y,Z,Z] rfl rfl (by kernel_rfl) (by decide) (fun K hK => ?_)
      refine Kd.R_lit_step (Kd.int .i64) (w0 := w2n) w2n.heap.size 3 (by rfl) (N := 17) rfl (xs := ([] : List Int)) (inner := []) (ok := fun _ => True) (okp := fun _ => True) ?hr (Reps.none _ _) (fun _ h => h) trivial (Below.refl _ _) (Nat.le_refl _) (by simp) ?_
      case hr => first | (go_simp; done) | (go_simp; rfl)
      intro v17 w2nn ho hb hg hn
      have t_O23 := am (Kd.R_below O23.out hb); have t_O17 := am (Kd.R_lower ho HR.out.size); have u_O23 := am (Kd.R_mono (Kd.R_elder' (v := v17) O23.out (fun k e => by obtain ⟨b, e1, e2⟩ := hn; rw [e1] at e; cases e; exact e2) hb) (fun _ h => h.2)); clear t_O23; have t_O23 := u_O23; clear u_O23; have t_HR := am (below_step HR.out hb); clear HR ho hb hg hn O23; have HR := t_HR; have O23 := t_O23; have O17 := t_O17; clear t_HR t_O23 t_O17
      refine hK.out _ _ trivial (fun _ => ?_)
      clear hK K
      refine norm_ (a' := ?_) ?_ ?_
      rotate_left
      ·show Act.put _ (some 17) _ = _
       simp only [Act.put, s1, s2, s3, i64_w, i32_w]
       rfl
      refine one_ (i := 4) (N := some 21) #[Y,Y,Y,Y,Y,Y,Y,Z,Y,Y,Y,Z,Z] rfl rfl (by kernel_rfl) (by decide) (fun K hK => ?_)
      have hrd := Kd.C_below C1.out HR.out
      refine Kd.R_append_rows_step (Kd.int .i64) (w0 := w2) w2.heap.size (by rfl) (.tmp 17) (.tmp 20) 27 3 (.int .i64 0) 8 rfl Try.underlying27 info3 rfl (by decide) (by omega) v17 ([] : List Int) (l.take q) A q c (fun _ => True) (fun _ => False) rfl rfl O17.out hrd (fun _ _ h => h) (fun _ h => h.elim) (fun _ _ => trivial) HR.out HR.out.size ?hl ?_
      case hl => have := HQ.out; have := HLE.out; simp; omega
      intro v21 w2nnn ho hb hg hat
      have t_O21 := Aside0.mk ho; have t_O23 := am (Kd.R_mono (Kd.R_grown O23.out hg (fun k h => h)) (fun _ h => h)); have t_HR := Aside0.mk hb; clear HR hrd ho hb hg hat O23 O17; have HR := t_HR; have O23 := t_O23; have O21 := t_O21; clear t_HR t_O23 t_O21
      refine hK.out _ _ trivial (fun _ => ?_)
      clear hK K
      refine norm_ (a' := ?_) ?_ ?_
      rotate_left
      ·show Act.put _ (some 21) _ = _
       simp only [Act.put, s1, s2, s3, i64_w, i32_w]
       rfl
      refine one_ (i := 7) (N := some 24) #[Y,Y,Y,Y,Y,Y,Y,Y,Y,Y,Y,Z,Z] rfl rfl (by kernel_rfl) (by decide) (fun K hK => ?_)
      obtain ⟨A23, c23, e_⟩ := Kd.R_slice O23.out; subst e_; have hrd : Kd.C (Kd.int .i64) w2nnn A23 1 [(i : Int)] := (Kd.R_reads' O23.out).2.2
      refine Kd.R_append_rows_step (Kd.int .i64) (w0 := w2) w2.heap.size (by rfl) (.tmp 21) (.tmp 23) 27 3 (.int .i64 0) 8 rfl Try.underlying27 info3 rfl (by decide) (by omega) v21 (l.take q) ([(i : Int)] : List Int) A23 1 c23 (fun _ => True) (fun _ => False) rfl rfl O21.out hrd (fun _ _ h => h) (fun _ h => h.elim) (fun _ _ => trivial) HR.out HR.out.size ?hl ?_
      case hl => have := HQ.out; have := HLE.out; simp; omega
      intro v24 w2nnnn ho hb hg hat
      have t_O24 := Aside0.mk ho; have t_HR := Aside0.mk hb; clear HR hrd ho hb hg hat O23 O21; have HR := t_HR; have O24 := t_O24; clear t_HR t_O24
      refine hK.out _ _ trivial (fun _ => ?_)
      clear hK K
      refine norm_ (a' := ?_) ?_ ?_
      rotate_left
      ·show Act.put _ (some 24) _ = _
       simp only [Act.put, s1, s2, s3, i64_w, i32_w]
       rfl
      refine one_ (i := 11) (N := some 28) #[Y,Y,Y,Y,Y,Y,Y,Y,Y,Y,Y,Y,Z] rfl rfl (by kernel_rfl) (by decide) (fun K hK => ?_)
      have hrd := Kd.C_below C2.out HR.out
      refine Kd.R_append_rows_step (Kd.int .i64) (w0 := w2) w2.heap.size (by rfl) (.tmp 24) (.tmp 27) 27 3 (.int .i64 0) 8 rfl Try.underlying27 info3 rfl (by decide) (by omega) v24 (l.take q ++ [(i : Int)]) (l.drop q) B (l.length - q) (c - q) (fun _ => True) (fun _ => False) rfl rfl O24.out hrd (fun _ _ h => h) (fun _ h => h.elim) (fun _ _ => trivial) HR.out HR.out.size ?hl ?_
      case hl => have := HQ.out; have := HLE.out; simp; omega
      intro v28 w2nnnnn ho hb hg hat
      have t_O28 := Aside0.mk ho; have t_HR := Aside0.mk hb; clear HR hrd ho hb hg hat O24; have HR := t_HR; have O28 := t_O28; clear t_HR t_O28
      refine hK.out _ _ trivial (fun _ => ?_)
      clear hK K
      refine norm_ (a' := ?_) ?_ ?_
      rotate_left
      ·show Act.put _ (some 28) _ = _
       simp only [Act.put, s1, s2, s3, i64_w, i32_w]
       rfl
      refine pure_ (i := 12) (N := some 5) (v := ?_) (a' := ?_) #[Y,Y,Y,Y,Y,Y,Y,Y,Y,Y,Y,Y,Y] rfl rfl (by kernel_rfl) (fun _ _ _ h => h) (Or.inl ⟨by rfl, ?_⟩) ?_ ?_
      rotate_left
      ·intro w'
       go_simp
       with_reducible rfl
      rotate_left
      ·simp only [Act.put, s1, s2, s3, i64_w, i32_w]
       rfl
      refine done_ (by kernel_rfl) ?_
      have FO := am (Kd.R_lower (Kd.R_mono O28.out (fun _ _ => trivial)) SZ.out); have FI := am (IsS69.below HI.out HR.out); have FB := am (below_then HB.out BS.out HR.out); have FK := am (KeepBut.trans HK.out (KeepBut.of_below HR.out g none) (.inl rfl))
      have hi1 : (i : Int) ≤ 1000000 := by have := HIN.out; omega
      clear HI HB HK HR O28 BS
      go_wp2
      go_roundg k1
      case measure => omega
      case rel => exact ⟨_, i + 1, _, _, by go_num, FO, ⟨by have := HE.out; omega⟩, ⟨by have := HLE.out; have := HQ.out; simp; omega⟩, HA, FI, FB, FK⟩
    ·rw [if_neg hc] at H
     exact absurd H (by simp)
 ·rw [if_neg hn] at h
  exact absurd h (by simp)


/-! ### spec_l1Cur_matchOf: function 75 -/
def spec_l1Cur_matchOf.f (s0_0 : List Int) (s0_1 : Int) (s0_2 : Int) (a1 : Int) : Option (List Int × Int × Int) := (spec_l1Cur_permuted.f s0_0 s0_1 s0_2 a1).bind fun bt344 => ((spec_l1Cur_pick.f s0_0 bt344.2.1 bt344.2.2 24).bind fun bt349 => (if bt349.1 = 0 then (if bt344.1.length < 17592186044416 then (some ((bt344.1 ++ [a1]), bt349.2.1, bt349.2.2)) else (none)) else (if bt349.1 = 1 then (if a1 > 1 then (if 1 < (bt344.1.length : Int) then (if 0 < (bt344.1.length : Int) then (some ((bt344.1.set (0 : Int).toNat (rd bt344.1 1)), bt349.2.1, bt349.2.2)) else (none)) else (none)) else (some (bt344.1, bt349.2.1, bt349.2.2))) else (some (bt344.1, bt349.2.1, bt349.2.2)))))
set_option maxHeartbeats 8000000 in
set_option maxRecDepth 100000 in
theorem spec_l1Cur_matchOf.calls (g : Nat) (s0_0 : List Int) (s0_1 : Int) (s0_2 : Int) (a1 : Int) (r1 : List Int) (r2 : Int) (r3 : Int) (w0 w : World) (hI : IsS69 w0 w g s0_0 s0_1 s0_2) (hB : Below w0.heap.size w0 w) (h : spec_l1Cur_matchOf.f s0_0 s0_1 s0_2 a1 = some (r1, r2, r3)) :
  Calls Try.prog 75 #[.pointer (some ⟨g, 0, none⟩), .int .i64 a1] w fun e w' => ∃ v0_ : Value, e = .returned (v0_) ∧ Kd.R (Kd.int .i64) 3 w' w.heap.size (fun _ => True) v0_ r1 ∧ IsS69 w0 w' g s0_0 r2 r3 ∧ Below w0.heap.size w0 w' ∧ KeepBut w w' g none := by
 have HI0 := Aside0.mk hI
 have HK := am (KeepBut.refl w g none)
 have HL := Aside0.mk hB.size
 clear hI
 have HW0 := Aside0.mk hB.size
 have HB := Aside0.mk hB
 clear hB
 have H : ((spec_l1Cur_permuted.f s0_0 s0_1 s0_2 a1).bind fun bt344 => ((spec_l1Cur_pick.f s0_0 bt344.2.1 bt344.2.2 24).bind fun bt349 => (if bt349.1 = 0 then (if bt344.1.length < 17592186044416 then (some ((bt344.1 ++ [a1]), bt349.2.1, bt349.2.2)) else (none)) else (if bt349.1 = 1 then (if a1 > 1 then (if 1 < (bt344.1.length : Int) then (if 0 < (bt344.1.length : Int) then (some ((bt344.1.set (0 : Int).toNat (rd bt344.1 1)), bt349.2.1, bt349.2.2)) else (none)) else (none)) else (some (bt344.1, bt349.2.1, bt349.2.2))) else (some (bt344.1, bt349.2.1, bt349.2.2)))))) = some (r1, r2, r3) := h
 clear h
 replace H := Option.bind_eq_some_iff.mp H
 obtain ⟨⟨t344, t347, t348⟩, A30, H⟩ := H
 replace H : ((spec_l1Cur_pick.f s0_0 t347 t348 24).bind fun bt349 => (if bt349.1 = 0 then (if t344.length < 17592186044416 then (some ((t344 ++ [a1]), bt349.2.1, bt349.2.2)) else (none)) else (if bt349.1 = 1 then (if a1 > 1 then (if 1 < (t344.length : Int) then (if 0 < (t344.length : Int) then (some ((t344.set (0 : Int).toNat (rd t344 1)), bt349.2.1, bt349.2.2)) else (none)) else (none)) else (some (t344, bt349.2.1, bt349.2.2))) else (some (t344, bt349.2.1, bt349.2.2))))) = some (r1, r2, r3) := H
 have A3 := Aside0.mk A30
 clear A30
 replace H := Option.bind_eq_some_iff.mp H
 obtain ⟨⟨t349, t350, t351⟩, A40, H⟩ := H
 replace H : (if t349 = 0 then (if t344.length < 17592186044416 then (some ((t344 ++ [a1]), t350, t351)) else (none)) else (if t349 = 1 then (if a1 > 1 then (if 1 < (t344.length : Int) then (if 0 < (t344.length : Int) then (some ((t344.set (0 : Int).toNat (rd t344 1)), t350, t351)) else (none)) else (none)) else (some (t344, t350, t351))) else (some (t344, t350, t351)))) = some (r1, r2, r3) := H
 have A4 := Aside0.mk A40
 clear A40
 by_cases c5 : t349 = 0
 ·rw [if_pos c5] at H
  have c5b0 : (t349 == 0) = true := beq_iff_eq.mpr c5
  have c5b1 : (t349 != 0) = false := bne_eq_false_iff_eq.mpr c5
  clear c5
  by_cases c6 : t344.length < 17592186044416
  ·rw [if_pos c6] at H
   have LMc6 := Aside0.mk c6; clear c6
   obtain ⟨y352, hy352⟩ : ∃ y_ : List Int, y_ = (t344 ++ [a1]) := ⟨_, rfl⟩
   replace H : (some (y352, t350, t351)) = some (r1, r2, r3) := by first | (rw [hy352]; with_reducible exact H) | (have H2_ := (Option.bind_some _ _).symm.trans H; rw [hy352]; with_reducible exact H2_) | (have H2_ := (Option.bind_some _ _).symm.trans H; with_reducible exact H2_) | with_reducible exact H | (rw [hy352]; exact H) | exact H
   have Ny352 := Aside0.mk hy352; clear hy352; simp only [Option.some.injEq, Prod.mk.injEq] at H; obtain ⟨rfl, rfl, rfl⟩ := H
   go_enter Try.func75, Try.ntmps75
   go_wp2_with (first | ((with_reducible refine gate_callee (f := 90) rfl ?_); refine goesL_ (some 8) rfl rfl Try.func90 (by kernel_rfl) rfl #[.pointer (some ⟨g, 0, none⟩), .int .i64 a1] rfl zb' ?_; (with_reducible refine (spec_l1Cur_permuted.calls g s0_0 s0_1 s0_2 a1 t344 t347 t348 w0 _ ?side1 ?side2 A3.out).mono ?_); (case side1 => exact zd'); (case side2 => exact ze'); rintro e w7 ⟨v345, rfl, ho0, hi, hb, hk⟩; refine ⟨_, rfl, ?_⟩; have n0_ := am (Kd.R_lower ho0 (keep_size (w := w) (g := g) (row := none) zc')); have n1_ := am (KeepBut.trans zc' hk (.inl rfl)); have n2_ := am (hb); have n3_ := am (hi); clear HK; clear HB; clear HI0; have HO346 := n0_; have HK := n1_; have HB := n2_; have HI0 := n3_; clear n0_ n1_ n2_ n3_; (try clear hb); (try clear hb2); (try clear hk); (try clear hi); (try clear ho0)) | ((with_reducible refine gate_callee (f := 79) rfl ?_); refine goesL_ (some 10) rfl rfl Try.func79 (by kernel_rfl) rfl #[.pointer (some ⟨g, 0, none⟩), .int .i64 24] rfl zb' ?_; (with_reducible refine (spec_l1Cur_pick.calls g s0_0 t347 t348 24 t349 t350 t351 w0 _ ?side1 ?side2 A4.out).mono ?_); (case side1 => exact zd'); (case side2 => exact ze'); rintro e w8 ⟨rfl, hi, hb, hk⟩; refine ⟨_, rfl, ?_⟩; have n0_ := am (Kd.R_mono (Kd.R_keep (IsS69.apart (show IsS69 w0 _ g s0_0 t347 t348 from by repeat (first | (with_reducible first | exact HI0.out | apply IsS69.alloc | apply IsS69.drewN | apply IsS69.drew | apply IsS69.set_1 | apply IsS69.set_2) | exact HI0.out)) zc1' (by decide)) hk (fun _ h => h.2)) (fun _ h => h.1)); have n1_ := am (KeepBut.trans zc' hk (.inl rfl)); have n2_ := am (hb); have n3_ := am (hi); clear HO346; clear HK; clear HB; clear HI0; have HO346 := n0_; have HK := n1_; have HB := n2_; have HI0 := n3_; clear n0_ n1_ n2_ n3_; (try clear hb); (try clear hb2); (try clear hk); (try clear hi)) | ((with_reducible refine gate_builtin (b := .append) (xs := #[.tmp 13, .tmp 15]) rfl ?_); at_builtin; refine Kd.R_append (Kd.int .i64) w.heap.size rfl (.tmp 13) (.tmp 15) 27 3 (.int .i64 0) 8 rfl Try.underlying27 info3 rfl (by decide) (by omega) v345 t344 a1 [.int .i64 a1] (fun _ => True) (fun _ => False) rfl rfl ?aP (fun _ hk => hk.elim) ?aF ?aO (Below.refl _ _) ?aS ?aL ?_; (case aP => exact rfl); (case aF => exact zg2'); (case aO => exact zc1'); (case aS => exact zc2'); (case aL => have := LMc6.out; omega); intro v353 w9 ho hb hg hat; rw [← Ny352.out] at ho; have n0_ := am (IsS69.grown zd' hg (IsS69.own_ne HI0.out HO346.out (by decide))); have n1_ := am (below_weaken ze' HL.out hb); have n2_ := am (KeepBut.trans zc' (KeepBut.of_grown hg g) (Kd.R_base2 HO346.out)); have n3_ := am (ho); clear HI0; clear HB; clear HK; clear HO346; have HI0 := n0_; have HB := n1_; have HK := n2_; have HO354 := n3_; clear n0_ n1_ n2_ n3_; clear ho hb hg hat))
   go_ret
   exact ⟨_, by first | rfl | (simp [errW_none, errW_some] <;> rfl) | (simp [*, errW_none, errW_some] <;> rfl), by (with_reducible repeat (first | apply Kd.R_alloc | apply Kd.R_drewN | apply Kd.R_drew)); exact HO354.out, by repeat (first | (with_reducible first | exact HI0.out | apply IsS69.alloc | apply IsS69.drewN | apply IsS69.drew | apply IsS69.set_1 | apply IsS69.set_2) | exact HI0.out), by repeat (first | (with_reducible first | exact HB.out | apply ba | apply bn | apply below_drew1 | refine below_set ?_ (IsS69.ge HI0.out)) | exact HB.out), by repeat (first | (with_reducible first | exact HK.out | apply KeepBut.set_ | apply keep_drewN | apply keep_drew | apply keep_alloc) | exact HK.out)⟩
  ·rw [if_neg c6] at H
   exact absurd H (by simp)
 ·rw [if_neg c5] at H
  have c5b0 : (t349 == 0) = false := beq_eq_false_iff_ne.mpr c5
  have c5b1 : (t349 != 0) = true := bne_iff_ne.mpr c5
  by_cases c10 : t349 = 1
  ·rw [if_pos c10] at H
   have c10b0 : (t349 == 1) = true := beq_iff_eq.mpr c10; have c10b1 : (t349 != 1) = false := bne_eq_false_iff_eq.mpr c10; clear c10
   by_cases c11 : a1 > 1
   ·rw [if_pos c11] at H
    have c11b0 : decide (1 < a1) = true := decide_eq_true c11; clear c11
    by_cases c12 : 1 < (t344.length : Int)
    ·rw [if_pos c12] at H
     have c12b0 : decide (1 < (t344.length : Int)) = true := decide_eq_true c12; have c12b1 : decide (1 < t344.length) = true := decide_eq_true (by omega); clear c12
     by_cases c13 : 0 < (t344.length : Int)
     ·rw [if_pos c13] at H
      have c13b0 : decide (0 < (t344.length : Int)) = true := decide_eq_true c13; have c13b1 : decide (0 < t344.length) = true := decide_eq_true (by omega); clear c13
      obtain ⟨y356, hy356⟩ : ∃ y_ : List Int, y_ = (t344.set (0 : Int).toNat (rd t344 1)) := ⟨_, rfl⟩
      replace H : (some (y356, t350, t351)) = some (r1, r2, r3) := by first | (rw [hy356]; with_reducible exact H) | (have H2_ := (Option.bind_some _ _).symm.trans H; rw [hy356]; with_reducible exact H2_) | (have H2_ := (Option.bind_some _ _).symm.trans H; with_reducible exact H2_) | with_reducible exact H | (rw [hy356]; exact H) | exact H
      have Ny356 := Aside0.mk hy356; clear hy356; simp only [Option.some.injEq, Prod.mk.injEq] at H; obtain ⟨rfl, rfl, rfl⟩ := H
      go_enter Try.func75, Try.ntmps75
      go_wp2_with (first | ((with_reducible refine gate_callee (f := 90) rfl ?_); refine goesL_ (some 8) rfl rfl Try.func90 (by kernel_rfl) rfl #[.pointer (some ⟨g, 0, none⟩), .int .i64 a1] rfl zb' ?_; (with_reducible refine (spec_l1Cur_permuted.calls g s0_0 s0_1 s0_2 a1 t344 t347 t348 w0 _ ?side1 ?side2 A3.out).mono ?_); (case side1 => exact zd'); (case side2 => exact ze'); rintro e w15 ⟨v345, rfl, ho0, hi, hb, hk⟩; refine ⟨_, rfl, ?_⟩; have n0_ := am (Kd.R_lower ho0 (keep_size (w := w) (g := g) (row := none) zc')); have n1_ := am (KeepBut.trans zc' hk (.inl rfl)); have n2_ := am (hb); have n3_ := am (hi); clear HK; clear HB; clear HI0; have HO346 := n0_; have HK := n1_; have HB := n2_; have HI0 := n3_; clear n0_ n1_ n2_ n3_; (try clear hb); (try clear hb2); (try clear hk); (try clear hi); (try clear ho0)) | ((with_reducible refine gate_callee (f := 79) rfl ?_); refine goesL_ (some 10) rfl rfl Try.func79 (by kernel_rfl) rfl #[.pointer (some ⟨g, 0, none⟩), .int .i64 24] rfl zb' ?_; (with_reducible refine (spec_l1Cur_pick.calls g s0_0 t347 t348 24 t349 t350 t351 w0 _ ?side1 ?side2 A4.out).mono ?_); (case side1 => exact zd'); (case side2 => exact ze'); rintro e w16 ⟨rfl, hi, hb, hk⟩; refine ⟨_, rfl, ?_⟩; have n0_ := am (Kd.R_mono (Kd.R_keep (IsS69.apart (show IsS69 w0 _ g s0_0 t347 t348 from by repeat (first | (with_reducible first | exact HI0.out | apply IsS69.alloc | apply IsS69.drewN | apply IsS69.drew | apply IsS69.set_1 | apply IsS69.set_2) | exact HI0.out)) zc1' (by decide)) hk (fun _ h => h.2)) (fun _ h => h.1)); have n1_ := am (KeepBut.trans zc' hk (.inl rfl)); have n2_ := am (hb); have n3_ := am (hi); clear HO346; clear HK; clear HB; clear HI0; have HO346 := n0_; have HK := n1_; have HB := n2_; have HI0 := n3_; clear n0_ n1_ n2_ n3_; (try clear hb); (try clear hb2); (try clear hk); (try clear hi); obtain ⟨Ao17, co17, eo17⟩ := Kd.R_slice HO346.out; subst eo17; have p355 : 0 ≤ (1 : Int) := (by omega); have q355 : 1 < (t344.length : Int) := odt; obtain ⟨ad355, e355, hx355_0⟩ := Kd.at_int (Kd.R_reads' HO346.out).2.2 1 p355 q355; cases e355; (try simp only [show (1 : Int).toNat = 1 from rfl, Nat.reduceMul, Nat.reduceEqDiff, Go.Addr.add, ↓reduceIte] at hx355_0); have qi355 : (1 < t344.length) = True := eq_true (by omega); (try rw [show ((1 : Int)).toNat = 1 from rfl] at hx355_0); replace p355 := eq_true p355; replace q355 := eq_true q355; have p14 : 0 ≤ (0 : Int) := (by omega); have q14 : (0 : Int) < ((t344.length : Int) : Int) := odt; have qi14 : (0 < t344.length) = True := eq_true (by omega); obtain ⟨go14, co14, eo14, gb14, gl14, cl14, HG14⟩ := Kd.R_form HO346.out (by omega); (first | cases eo14 | (injection eo14 with ea_ en_ ec_; (first | subst ea_ | (injection ea_ with ea_; subst ea_)); subst ec_; clear en_)); have GB14 := Aside0.mk gb14; have GG14 := Aside0.mk HG14; clear gb14 gl14 HG14; (first | simp only [add_plain] at hx355_0 | skip); obtain ⟨hx14_0, hf14_0⟩ := Kd.R_celln 0 HO346.out (0 : Int) p14 q14; (try rw [show ((0 : Int)).toNat = 0 from rfl] at hx14_0); (try simp only [Nat.reduceMul, Nat.zero_mul, Nat.zero_add, Nat.reduceAdd] at hx14_0); (try rw [show ((0 : Int)).toNat = 0 from rfl] at hf14_0); (try simp only [Nat.reduceMul, Nat.zero_mul, Nat.zero_add, Nat.reduceAdd] at hf14_0); replace p14 := eq_true p14; replace q14 := eq_true q14; obtain ⟨hy18_, hz18_⟩ := Kd.R_celln 0 HO346.out (0 : Int) (by omega) odt; (try simp only [Int.reduceToNat, Int.toNat_zero, Int.toNat_ofNat, Nat.reduceMul, Nat.zero_mul, Nat.zero_add] at hy18_ hz18_); (try rw [show ((0 : Int)).toNat = 0 from rfl] at hy18_); (try rw [show ((0 : Int)).toNat = 0 from rfl] at hz18_); have HP18 := Kd.R_putg HO346.out (0 : Int) (rd t344 1)) | ((with_reducible refine gate_store (t := 3) (p := 25) rfl ?_); refine store_event (t := 3) (p := 25) (v := ?vo_w19) (w1 := (w16.setCell ⟨go14, (0 : Int).toNat, none⟩ (.int .i64 (rd t344 1)))) ?hg ?ho ?hn ?hr ?_; (case ho => rfl); (case hg => rfl); (case hn => rfl); (case hr => exact zw'); intro w19 hw; have hg : w16.grownBy w19 (some go14) := (by rw [hw]; exact HP18.2); have hp_ : Kd.R (Kd.int .i64) 3 w19 w.heap.size (fun _ => True) (.slice (some ⟨go14, 0, none⟩) t344.length co17) y356 := (by rw [hw, Ny356.out]; exact HP18.1); clear HP18; have n0_ := am (IsS69.grown zd' hg (IsS69.own_ne HI0.out HO346.out (by decide))); have n1_ := am (hp_); have n2_ := am ((by rw [hw]; exact below_set (HB.out) (Nat.le_trans HL.out GB14.out) : Below w0.heap.size w0 w19)); have n3_ := am (KeepBut.trans zc' (KeepBut.of_grown hg g) (Kd.R_base2 HO346.out)); clear HI0; clear HO346; clear HB; clear HK; have HI0 := n0_; have HO346 := n1_; have HB := n2_; have HK := n3_; clear n0_ n1_ n2_ n3_; clear hg hw hp_))
      go_ret
      exact ⟨_, by first | rfl | (simp [errW_none, errW_some] <;> rfl) | (simp [*, errW_none, errW_some] <;> rfl), by (with_reducible repeat (first | apply Kd.R_alloc | apply Kd.R_drewN | apply Kd.R_drew)); exact HO346.out, by repeat (first | (with_reducible first | exact HI0.out | apply IsS69.alloc | apply IsS69.drewN | apply IsS69.drew | apply IsS69.set_1 | apply IsS69.set_2) | exact HI0.out), by repeat (first | (with_reducible first | exact HB.out | apply ba | apply bn | apply below_drew1 | refine below_set ?_ (IsS69.ge HI0.out)) | exact HB.out), by repeat (first | (with_reducible first | exact HK.out | apply KeepBut.set_ | apply keep_drewN | apply keep_drew | apply keep_alloc) | exact HK.out)⟩
     ·rw [if_neg c13] at H
      exact absurd H (by simp)
    ·rw [if_neg c12] at H
     exact absurd H (by simp)
   ·rw [if_neg c11] at H
    have c11b0 : decide (1 < a1) = false := decide_eq_false c11; clear c11; simp only [Option.some.injEq, Prod.mk.injEq] at H; obtain ⟨rfl, rfl, rfl⟩ := H
    go_enter Try.func75, Try.ntmps75
    go_wp2_with (first | ((with_reducible refine gate_callee (f := 90) rfl ?_); refine goesL_ (some 8) rfl rfl Try.func90 (by kernel_rfl) rfl #[.pointer (some ⟨g, 0, none⟩), .int .i64 a1] rfl zb' ?_; (with_reducible refine (spec_l1Cur_permuted.calls g s0_0 s0_1 s0_2 a1 t344 t347 t348 w0 _ ?side1 ?side2 A3.out).mono ?_); (case side1 => exact zd'); (case side2 => exact ze'); rintro e w20 ⟨v345, rfl, ho0, hi, hb, hk⟩; refine ⟨_, rfl, ?_⟩; have n0_ := am (Kd.R_lower ho0 (keep_size (w := w) (g := g) (row := none) zc')); have n1_ := am (KeepBut.trans zc' hk (.inl rfl)); have n2_ := am (hb); have n3_ := am (hi); clear HK; clear HB; clear HI0; have HO346 := n0_; have HK := n1_; have HB := n2_; have HI0 := n3_; clear n0_ n1_ n2_ n3_; (try clear hb); (try clear hb2); (try clear hk); (try clear hi); (try clear ho0)) | ((with_reducible refine gate_callee (f := 79) rfl ?_); refine goesL_ (some 10) rfl rfl Try.func79 (by kernel_rfl) rfl #[.pointer (some ⟨g, 0, none⟩), .int .i64 24] rfl zb' ?_; (with_reducible refine (spec_l1Cur_pick.calls g s0_0 t347 t348 24 t349 t350 t351 w0 _ ?side1 ?side2 A4.out).mono ?_); (case side1 => exact zd'); (case side2 => exact ze'); rintro e w21 ⟨rfl, hi, hb, hk⟩; refine ⟨_, rfl, ?_⟩; have n0_ := am (Kd.R_mono (Kd.R_keep (IsS69.apart (show IsS69 w0 _ g s0_0 t347 t348 from by repeat (first | (with_reducible first | exact HI0.out | apply IsS69.alloc | apply IsS69.drewN | apply IsS69.drew | apply IsS69.set_1 | apply IsS69.set_2) | exact HI0.out)) zc1' (by decide)) hk (fun _ h => h.2)) (fun _ h => h.1)); have n1_ := am (KeepBut.trans zc' hk (.inl rfl)); have n2_ := am (hb); have n3_ := am (hi); clear HO346; clear HK; clear HB; clear HI0; have HO346 := n0_; have HK := n1_; have HB := n2_; have HI0 := n3_; clear n0_ n1_ n2_ n3_; (try clear hb); (try clear hb2); (try clear hk); (try clear hi)))
    go_ret
    exact ⟨_, by first | rfl | (simp [errW_none, errW_some] <;> rfl) | (simp [*, errW_none, errW_some] <;> rfl), by (with_reducible repeat (first | apply Kd.R_alloc | apply Kd.R_drewN | apply Kd.R_drew)); exact HO346.out, by repeat (first | (with_reducible first | exact HI0.out | apply IsS69.alloc | apply IsS69.drewN | apply IsS69.drew | apply IsS69.set_1 | apply IsS69.set_2) | exact HI0.out), by repeat (first | (with_reducible first | exact HB.out | apply ba | apply bn | apply below_drew1 | refine below_set ?_ (IsS69.ge HI0.out)) | exact HB.out), by repeat (first | (with_reducible first | exact HK.out | apply KeepBut.set_ | apply keep_drewN | apply keep_drew | apply keep_alloc) | exact HK.out)⟩
  ·rw [if_neg c10] at H
   have c10b0 : (t349 == 1) = false := beq_eq_false_iff_ne.mpr c10; have c10b1 : (t349 != 1) = true := bne_iff_ne.mpr c10; simp only [Option.some.injEq, Prod.mk.injEq] at H; obtain ⟨rfl, rfl, rfl⟩ := H
   go_enter Try.func75, Try.ntmps75
   go_wp2_with (first | ((with_reducible refine gate_callee (f := 90) rfl ?_); refine goesL_ (some 8) rfl rfl Try.func90 (by kernel_rfl) rfl #[.pointer (some ⟨g, 0, none⟩), .int .i64 a1] rfl zb' ?_; (with_reducible refine (spec_l1Cur_permuted.calls g s0_0 s0_1 s0_2 a1 t344 t347 t348 w0 _ ?side1 ?side2 A3.out).mono ?_); (case side1 => exact zd'); (case side2 => exact ze'); rintro e w22 ⟨v345, rfl, ho0, hi, hb, hk⟩; refine ⟨_, rfl, ?_⟩; have n0_ := am (Kd.R_lower ho0 (keep_size (w := w) (g := g) (row := none) zc')); have n1_ := am (KeepBut.trans zc' hk (.inl rfl)); have n2_ := am (hb); have n3_ := am (hi); clear HK; clear HB; clear HI0; have HO346 := n0_; have HK := n1_; have HB := n2_; have HI0 := n3_; clear n0_ n1_ n2_ n3_; (try clear hb); (try clear hb2); (try clear hk); (try clear hi); (try clear ho0)) | ((with_reducible refine gate_callee (f := 79) rfl ?_); refine goesL_ (some 10) rfl rfl Try.func79 (by kernel_rfl) rfl #[.pointer (some ⟨g, 0, none⟩), .int .i64 24] rfl zb' ?_; (with_reducible refine (spec_l1Cur_pick.calls g s0_0 t347 t348 24 t349 t350 t351 w0 _ ?side1 ?side2 A4.out).mono ?_); (case side1 => exact zd'); (case side2 => exact ze'); rintro e w23 ⟨rfl, hi, hb, hk⟩; refine ⟨_, rfl, ?_⟩; have n0_ := am (Kd.R_mono (Kd.R_keep (IsS69.apart (show IsS69 w0 _ g s0_0 t347 t348 from by repeat (first | (with_reducible first | exact HI0.out | apply IsS69.alloc | apply IsS69.drewN | apply IsS69.drew | apply IsS69.set_1 | apply IsS69.set_2) | exact HI0.out)) zc1' (by decide)) hk (fun _ h => h.2)) (fun _ h => h.1)); have n1_ := am (KeepBut.trans zc' hk (.inl rfl)); have n2_ := am (hb); have n3_ := am (hi); clear HO346; clear HK; clear HB; clear HI0; have HO346 := n0_; have HK := n1_; have HB := n2_; have HI0 := n3_; clear n0_ n1_ n2_ n3_; (try clear hb); (try clear hb2); (try clear hk); (try clear hi)))
   go_ret
   exact ⟨_, by first | rfl | (simp [errW_none, errW_some] <;> rfl) | (simp [*, errW_none, errW_some] <;> rfl), by (with_reducible repeat (first | apply Kd.R_alloc | apply Kd.R_drewN | apply Kd.R_drew)); exact HO346.out, by repeat (first | (with_reducible first | exact HI0.out | apply IsS69.alloc | apply IsS69.drewN | apply IsS69.drew | apply IsS69.set_1 | apply IsS69.set_2) | exact HI0.out), by repeat (first | (with_reducible first | exact HB.out | apply ba | apply bn | apply below_drew1 | refine below_set ?_ (IsS69.ge HI0.out)) | exact HB.out), by repeat (first | (with_reducible first | exact HK.out | apply KeepBut.set_ | apply keep_drewN | apply keep_drew | apply keep_alloc) | exact HK.out)⟩

/-! ### spec_DrawMatchCost: function 45 -/
def spec_DrawMatchCost.q (k : Nat) (s0_0 : List Int) (s0_1 : Int) (s0_2 : Int) : Option ((List (List Int)) × List Int × Int × Int) := (spec_l1Cur_costs.f k s0_0 s0_1 s0_2).bind fun bt359 => ((spec_l1Cur_matchOf.f s0_0 bt359.2.1 bt359.2.2 (bt359.1.length : Int)).bind fun bt364 => (some (bt359.1, bt364.1, bt364.2.1, bt364.2.2)))
def spec_DrawMatchCost.f (k : Nat) (l0 : List Int) : Option ((List (List Int)) × List Int) := (spec_DrawMatchCost.q k l0 0 0).bind fun q => some (q.1, q.2.1)
set_option maxHeartbeats 8000000 in
set_option maxRecDepth 100000 in
theorem spec_DrawMatchCost.calls (k : Nat) (A0 : Option Addr) (c0 : Nat) (l0 : List Int) (z1 : List (List Int)) (z2 : List Int) (w0 : World) (hr0 : Kd.C (Kd.int .u8) w0 A0 l0.length l0) (hc0 : l0.length ≤ c0) (h : spec_DrawMatchCost.f k l0 = some (z1, z2)) :
  Calls Try.prog 45 #[.slice A0 l0.length c0] w0 fun e w' => ∃ v0_ v1_ : Value, e = .returned (.tuple #[v0_, v1_]) ∧ Kd.S (Kd.slice 3 (Kd.int .i64)) 27 w' w0.heap.size (fun k_ => some k_ ≠ (v1_ : Value).ownBlock) v0_ z1 ∧ Kd.R (Kd.int .i64) 3 w' w0.heap.size (fun _ => True) v1_ z2 ∧ Below w0.heap.size w0 w' := by
 suffices H_ : Calls Try.prog 45 #[.slice A0 l0.length c0] w0 fun e w' => ∃ b_ : Nat, w0.heap.size ≤ b_ ∧ ∃ v0_ v1_ : Value, e = .returned (.tuple #[v0_, v1_]) ∧ Kd.S (Kd.slice 3 (Kd.int .i64)) 27 w' b_ (fun k_ => some k_ ≠ (v1_ : Value).ownBlock) v0_ z1 ∧ Kd.R (Kd.int .i64) 3 w' b_ (fun _ => True) v1_ z2 ∧ Below w0.heap.size w0 w' from H_.mono (fun e w' h_ => by
  obtain ⟨b_, hb_, v0_, v1_, he, ho0, ho1, hbel⟩ := h_
  exact ⟨v0_, v1_, he, Kd.S_lower ho0 hb_, Kd.R_lower ho1 hb_, hbel⟩)
 obtain ⟨⟨r1, r2, r3, r4⟩, hq, hs⟩ := Option.bind_eq_some_iff.1 h
 simp only [Option.some.injEq, Prod.mk.injEq] at hs
 obtain ⟨rfl, rfl⟩ := hs
 have HR_ := Aside0.mk hr0
 have Hq_ := am hq
 clear hr0 hc0 hq h
 go_enter Try.func45, Try.ntmps45
 go_upto_region 2 with (first | ((with_reducible refine gate_dst (N := 8) rfl ?_); refine box_event ?hg (N := 8) ?hd (cs := #[.slice A0 l0.length c0, .int .i64 0, .int .u64 0]) (t := 69) ?hr ?_; (case hd => rfl); (case hg => rfl); (case hr => exact zw'); intro g hg w hbox hb; have BX_ := Aside0.mk hbox; have HG_ := Aside0.mk hg; have HB_ := Aside0.mk hb; clear hg hbox hb))
 have hI : IsS69 w0 w g l0 0 0 := ⟨A0, c0, BX_.out, Nat.le_of_eq HG_.out.symm, HR_.out⟩
 have hB : Below w0.heap.size w0 w := HB_.out
 have h := Hq_.out
 clear BX_ HG_ HB_ Hq_ HR_
 have HI0 := Aside0.mk hI
 have HK := am (KeepBut.refl w g none)
 have HL := Aside0.mk hB.size
 clear hI
 have HW0 := Aside0.mk hB.size
 have HB := Aside0.mk hB
 clear hB
 have H : ((spec_l1Cur_costs.f k l0 0 0).bind fun bt359 => ((spec_l1Cur_matchOf.f l0 bt359.2.1 bt359.2.2 (bt359.1.length : Int)).bind fun bt364 => (some (bt359.1, bt364.1, bt364.2.1, bt364.2.2)))) = some (r1, r2, r3, r4) := h
 clear h
 replace H := Option.bind_eq_some_iff.mp H
 obtain ⟨⟨t359, t362, t363⟩, A20, H⟩ := H
 replace H : ((spec_l1Cur_matchOf.f l0 t362 t363 (t359.length : Int)).bind fun bt364 => (some (t359, bt364.1, bt364.2.1, bt364.2.2))) = some (r1, r2, r3, r4) := H
 have A2 := Aside0.mk A20
 clear A20
 replace H := Option.bind_eq_some_iff.mp H
 obtain ⟨⟨t364, t367, t368⟩, A30, H⟩ := H
 replace H : (some (t359, t364, t367, t368)) = some (r1, r2, r3, r4) := H
 have A3 := Aside0.mk A30
 clear A30
 simp only [Option.some.injEq, Prod.mk.injEq] at H
 obtain ⟨rfl, rfl, rfl, rfl⟩ := H
 go_wp2_with (first | ((with_reducible refine gate_callee (f := 74) rfl ?_); refine goesL_ (some 10) rfl rfl Try.func74 (by kernel_rfl) rfl #[.pointer (some ⟨g, 0, none⟩)] rfl zb' ?_; (with_reducible refine (spec_l1Cur_costs.calls k g l0 0 0 t359 t362 t363 w0 _ ?side1 ?side2 A2.out).mono ?_); (case side1 => exact zd'); (case side2 => exact ze'); rintro e w4 ⟨v360, rfl, ho0, hi, hb, hk⟩; refine ⟨_, rfl, ?_⟩; have n0_ := am (Kd.S_lower ho0 (keep_size (w := w) (g := g) (row := none) zc')); have n1_ := am (KeepBut.trans zc' hk (.inl rfl)); have n2_ := am (hb); have n3_ := am (hi); clear HK; clear HB; clear HI0; have HO361 := n0_; have HK := n1_; have HB := n2_; have HI0 := n3_; clear n0_ n1_ n2_ n3_; (try clear hb); (try clear hb2); (try clear hk); (try clear hi); (try clear ho0); obtain ⟨Ao5, co5, eo5⟩ := Kd.S_slice HO361.out; subst eo5) | ((with_reducible refine gate_callee (f := 75) rfl ?_); refine goesL_ (some 15) rfl rfl Try.func75 (by kernel_rfl) rfl #[.pointer (some ⟨g, 0, none⟩), .int .i64 (t359.length : Int)] rfl zb' ?_; (with_reducible refine (spec_l1Cur_matchOf.calls g l0 t362 t363 (t359.length : Int) t364 t367 t368 w0 _ ?side1 ?side2 A3.out).mono ?_); (case side1 => exact zd'); (case side2 => exact ze'); rintro e w6 ⟨v365, rfl, ho0, hi, hb, hk⟩; refine ⟨_, rfl, ?_⟩; have n0_ := am (Kd.S_mono (Kd.S_told (Kd.S_oldK (IsS69.apartS (show IsS69 w0 _ g l0 t362 t363 from by repeat (first | (with_reducible first | exact HI0.out | apply IsS69.alloc | apply IsS69.drewN | apply IsS69.drew | apply IsS69.set_1 | apply IsS69.set_2) | exact HI0.out)) zl' (by decide)) hk) (Kd.R_base ho0)) (fun _ h_ => h_.1)); have n1_ := am (Kd.R_lower ho0 (keep_size (w := w) (g := g) (row := none) zc')); have n2_ := am (KeepBut.trans zc' hk (.inl rfl)); have n3_ := am (hb); have n4_ := am (hi); clear HO361; clear HK; clear HB; clear HI0; have HO361 := n0_; have HO366 := n1_; have HK := n2_; have HB := n3_; have HI0 := n4_; clear n0_ n1_ n2_ n3_ n4_; (try clear hb); (try clear hb2); (try clear hk); (try clear hi); (try clear ho0)))
 go_ret2
 exact ⟨w.heap.size, HL.out, _, _, by first | rfl | (simp [errW_none, errW_some] <;> rfl) | (simp [*, errW_none, errW_some] <;> rfl), by (with_reducible repeat (first | apply Kd.S_alloc | apply Kd.S_drewN | apply Kd.S_drew)); exact Kd.S_mono HO361.out (fun _ hk => hk.2), by (with_reducible repeat (first | apply Kd.R_alloc | apply Kd.R_drewN | apply Kd.R_drew)); exact HO366.out, by repeat (first | (with_reducible first | exact HB.out | apply ba | apply bn | apply below_drew1 | refine below_set ?_ (IsS69.ge HI0.out)) | exact HB.out)⟩


/-! ### spec_DrawSwapSides: function 46 -/
def spec_DrawSwapSides.q (s0_0 : List Int) (s0_1 : Int) (s0_2 : Int) : Option (List Int × Int × Int) := (spec_l1Cur_among.f s0_0 s0_1 s0_2 (([0, 1, 2, 3, 5, 7, 8] : List Int))).bind fun bt372 => ((spec_l1Cur_matchOf.f s0_0 bt372.2.1 bt372.2.2 bt372.1).bind fun bt375 => (some (bt375.1, bt375.2.1, bt375.2.2)))
def spec_DrawSwapSides.f (l0 : List Int) : Option (List Int) := (spec_DrawSwapSides.q l0 0 0).bind fun q => some (q.1)
set_option maxHeartbeats 8000000 in
set_option maxRecDepth 100000 in
theorem spec_DrawSwapSides.calls (A0 : Option Addr) (c0 : Nat) (l0 : List Int) (z1 : List Int) (w0 : World) (hr0 : Kd.C (Kd.int .u8) w0 A0 l0.length l0) (hc0 : l0.length ≤ c0) (h : spec_DrawSwapSides.f l0 = some (z1)) :
  Calls Try.prog 46 #[.slice A0 l0.length c0] w0 fun e w' => ∃ v0_ : Value, e = .returned (v0_) ∧ Kd.R (Kd.int .i64) 3 w' w0.heap.size (fun _ => True) v0_ z1 ∧ Below w0.heap.size w0 w' := by
 suffices H_ : Calls Try.prog 46 #[.slice A0 l0.length c0] w0 fun e w' => ∃ b_ : Nat, w0.heap.size ≤ b_ ∧ ∃ v0_ : Value, e = .returned (v0_) ∧ Kd.R (Kd.int .i64) 3 w' b_ (fun _ => True) v0_ z1 ∧ Below w0.heap.size w0 w' from H_.mono (fun e w' h_ => by
  obtain ⟨b_, hb_, v0_, he, ho0, hbel⟩ := h_
  exact ⟨v0_, he, Kd.R_lower ho0 hb_, hbel⟩)
 obtain ⟨⟨r1, r2, r3⟩, hq, hs⟩ := Option.bind_eq_some_iff.1 h
 simp only [Option.some.injEq, Prod.mk.injEq] at hs
 obtain rfl := hs
 have HR_ := Aside0.mk hr0
 have Hq_ := am hq
 clear hr0 hc0 hq h
 go_enter Try.func46, Try.ntmps46
 go_upto_region 2 with (first | ((with_reducible refine gate_dst (N := 6) rfl ?_); refine box_event ?hg (N := 6) ?hd (cs := #[.slice A0 l0.length c0, .int .i64 0, .int .u64 0]) (t := 69) ?hr ?_; (case hd => rfl); (case hg => rfl); (case hr => exact zw'); intro g hg w hbox hb; have BX_ := Aside0.mk hbox; have HG_ := Aside0.mk hg; have HB_ := Aside0.mk hb; clear hg hbox hb))
 have hI : IsS69 w0 w g l0 0 0 := ⟨A0, c0, BX_.out, Nat.le_of_eq HG_.out.symm, HR_.out⟩
 have hB : Below w0.heap.size w0 w := HB_.out
 have h := Hq_.out
 clear BX_ HG_ HB_ Hq_ HR_
 have HI0 := Aside0.mk hI
 have HK := am (KeepBut.refl w g none)
 have HL := Aside0.mk hB.size
 clear hI
 have HW0 := Aside0.mk hB.size
 have HB := Aside0.mk hB
 clear hB
 have H : ((spec_l1Cur_among.f l0 0 0 (([0, 1, 2, 3, 5, 7, 8] : List Int))).bind fun bt372 => ((spec_l1Cur_matchOf.f l0 bt372.2.1 bt372.2.2 bt372.1).bind fun bt375 => (some (bt375.1, bt375.2.1, bt375.2.2)))) = some (r1, r2, r3) := h
 clear h
 obtain ⟨y369, hy369⟩ : ∃ y_ : List Int, y_ = (([0, 1, 2, 3, 5, 7, 8] : List Int)) := ⟨_, rfl⟩
 replace H : ((spec_l1Cur_among.f l0 0 0 y369).bind fun bt372 => ((spec_l1Cur_matchOf.f l0 bt372.2.1 bt372.2.2 bt372.1).bind fun bt375 => (some (bt375.1, bt375.2.1, bt375.2.2)))) = some (r1, r2, r3) := by first | (rw [hy369]; with_reducible exact H) | (have H2_ := (Option.bind_some _ _).symm.trans H; rw [hy369]; with_reducible exact H2_) | (have H2_ := (Option.bind_some _ _).symm.trans H; with_reducible exact H2_) | with_reducible exact H | (rw [hy369]; exact H) | exact H
 have Ny369 := Aside0.mk hy369
 clear hy369
 replace H := Option.bind_eq_some_iff.mp H
 obtain ⟨⟨t372, t373, t374⟩, A20, H⟩ := H
 replace H : ((spec_l1Cur_matchOf.f l0 t373 t374 t372).bind fun bt375 => (some (bt375.1, bt375.2.1, bt375.2.2))) = some (r1, r2, r3) := H
 have A2 := Aside0.mk A20
 clear A20
 replace H := Option.bind_eq_some_iff.mp H
 obtain ⟨⟨t375, t378, t379⟩, A30, H⟩ := H
 replace H : (some (t375, t378, t379)) = some (r1, r2, r3) := H
 have A3 := Aside0.mk A30
 clear A30
 simp only [Option.some.injEq, Prod.mk.injEq] at H
 obtain ⟨rfl, rfl, rfl⟩ := H
 go_wp2_with (first | ((with_reducible refine gate_dst (N := 9) rfl ?_); refine Kd.R_lit (Kd.int .i64) _ 3 ?hg (N := 9) ?hd (xs := ([0, 1, 2, 3, 5, 7, 8] : List Int)) (inner := [.int .i64 0, .int .i64 1, .int .i64 2, .int .i64 3, .int .i64 5, .int .i64 7, .int .i64 8]) (ok := fun _ => True) (okp := fun _ => True) ?hr ?hp (fun _ hk => hk) trivial (Below.refl _ _) (Nat.le_refl _) (by simp) ?_; (case hd => rfl); (case hg => rfl); (case hr => exact zw'); (case hp => exact (Reps.one (show Kd.M (Kd.int .i64) _ _ _ 0 [.int .i64 0] from rfl) (Reps.one (show Kd.M (Kd.int .i64) _ _ _ 1 [.int .i64 1] from rfl) (Reps.one (show Kd.M (Kd.int .i64) _ _ _ 2 [.int .i64 2] from rfl) (Reps.one (show Kd.M (Kd.int .i64) _ _ _ 3 [.int .i64 3] from rfl) (Reps.one (show Kd.M (Kd.int .i64) _ _ _ 5 [.int .i64 5] from rfl) (Reps.one (show Kd.M (Kd.int .i64) _ _ _ 7 [.int .i64 7] from rfl) (Reps.one (show Kd.M (Kd.int .i64) _ _ _ 8 [.int .i64 8] from rfl) (Reps.none _ _))))))))); intro v370 w4 ho5 hb hg_ hnew_; clear hg_ hnew_; (first | rw [← Ny369.out] at ho5 | (simp only [Int.reduceToNat] at ho5; rw [← Ny369.out] at ho5)); have n0_ := am (Kd.R_lower ho5 (keep_size (w := w) (g := g) (row := none) zc')); have n1_ := am (IsS69.below zd' hb); have n2_ := am (KeepBut.trans zc' (KeepBut.of_below hb g none) (.inl rfl)); have n3_ := am (below_step ze' hb); clear HI0; clear HK; clear HB; have HO371 := n0_; have HI0 := n1_; have HK := n2_; have HB := n3_; clear n0_ n1_ n2_ n3_; clear hb ho5; obtain ⟨Ao6, co6, eo6⟩ := Kd.R_slice HO371.out; subst eo6) | ((with_reducible refine gate_callee (f := 76) rfl ?_); refine goesL_ (some 10) rfl rfl Try.func76 (by kernel_rfl) rfl #[.pointer (some ⟨g, 0, none⟩), .slice Ao6 y369.length co6] rfl zb' ?_; (with_reducible refine (spec_l1Cur_among.calls g l0 0 0 _ _ y369 t372 t373 t374 w0 _ ?side1 ?side2 ?side3 ?side4 ?side5 A2.out).mono ?_); (case side1 => exact zd'); (case side2 => exact ze'); (case side3 => repeat (first | exact (Kd.R_reads' HO371.out).2.2 | (with_reducible refine Kd.C_alloc ?_ _) | (with_reducible refine Kd.C_drewN ?_ _) | (with_reducible refine Kd.C_drew ?_))); (case side4 => exact (Kd.R_reads' HO371.out).2.1); (case side5 => exact far_slice (IsS69.own_ne HI0.out HO371.out (by decide))); rintro e w7 ⟨rfl, hi, hb, hk⟩; refine ⟨_, rfl, ?_⟩; have n0_ := am (Kd.R_mono (Kd.R_keep (IsS69.apart (show IsS69 w0 _ g l0 0 0 from by repeat (first | (with_reducible first | exact HI0.out | apply IsS69.alloc | apply IsS69.drewN | apply IsS69.drew | apply IsS69.set_1 | apply IsS69.set_2) | exact HI0.out)) zp1' (by decide)) hk (fun _ h => h.2)) (fun _ h => h.1)); have n1_ := am (KeepBut.trans zc' hk (.inl rfl)); have n2_ := am (hb); have n3_ := am (hi); clear HO371; clear HK; clear HB; clear HI0; have HO371 := n0_; have HK := n1_; have HB := n2_; have HI0 := n3_; clear n0_ n1_ n2_ n3_; (try clear hb); (try clear hb2); (try clear hk); (try clear hi)) | ((with_reducible refine gate_callee (f := 75) rfl ?_); refine goesL_ (some 11) rfl rfl Try.func75 (by kernel_rfl) rfl #[.pointer (some ⟨g, 0, none⟩), .int .i64 t372] rfl zb' ?_; (with_reducible refine (spec_l1Cur_matchOf.calls g l0 t373 t374 t372 t375 t378 t379 w0 _ ?side1 ?side2 A3.out).mono ?_); (case side1 => exact zd'); (case side2 => exact ze'); rintro e w8 ⟨v376, rfl, ho0, hi, hb, hk⟩; refine ⟨_, rfl, ?_⟩; have n0_ := am (Kd.R_mono (Kd.R_told (Kd.R_oldK (IsS69.apart (show IsS69 w0 _ g l0 t373 t374 from by repeat (first | (with_reducible first | exact HI0.out | apply IsS69.alloc | apply IsS69.drewN | apply IsS69.drew | apply IsS69.set_1 | apply IsS69.set_2) | exact HI0.out)) zp1' (by decide)) hk) (Kd.R_base ho0)) (fun _ h_ => h_.1)); have n1_ := am (Kd.R_lower (Kd.R_new' ho0 (Kd.R_lt zp1')) (keep_size (w := w) (g := g) (row := none) zc')); have n2_ := am (KeepBut.trans zc' hk (.inl rfl)); have n3_ := am (hb); have n4_ := am (hi); clear HO371; clear HK; clear HB; clear HI0; have HO371 := n0_; have HO377 := n1_; have HK := n2_; have HB := n3_; have HI0 := n4_; clear n0_ n1_ n2_ n3_ n4_; (try clear hb); (try clear hb2); (try clear hk); (try clear hi); (try clear ho0)))
 go_ret
 exact ⟨w.heap.size, HL.out, _, by first | rfl | (simp [errW_none, errW_some] <;> rfl) | (simp [*, errW_none, errW_some] <;> rfl), by (with_reducible repeat (first | apply Kd.R_alloc | apply Kd.R_drewN | apply Kd.R_drew)); exact Kd.R_mono HO377.out (fun _ hk => trivial), by repeat (first | (with_reducible first | exact HB.out | apply ba | apply bn | apply below_drew1 | refine below_set ?_ (IsS69.ge HI0.out)) | exact HB.out)⟩


/-! ### laws_qInts: function 47 -/
def laws_qInts.l0 : Nat → List Int → List Int → Int → Int → Option (Bool)
 | 0, _, _, _, _ => none
 | k + 1, x0, x1, x12, x13 => if x13 < x12 then (if 0 ≤ x13 then (if x13 < (x0.length : Int) then (if x13 < (x1.length : Int) then (if (rd x0 x13) = (rd x1 x13) then (laws_qInts.l0 k x0 x1 x12 (wrap64 (x13 + 1))) else (some false)) else (none)) else (none)) else (none)) else (some true)
def laws_qInts.f (k : Nat) (l0 : List Int) (l1 : List Int) : Option (Bool) := if (l0.length : Int) = (l1.length : Int) then (laws_qInts.l0 k l0 l1 (l0.length : Int) 0) else (some false)
set_option maxHeartbeats 8000000 in
set_option maxRecDepth 100000 in
theorem laws_qInts.calls (k : Nat) (A0 : Option Addr) (c0 : Nat) (l0 : List Int) (A1 : Option Addr) (c1 : Nat) (l1 : List Int) (r : Bool) (w : World) (hr0 : Kd.C (Kd.int .i64) w A0 l0.length l0) (hc0 : l0.length ≤ c0) (hr1 : Kd.C (Kd.int .i64) w A1 l1.length l1) (hc1 : l1.length ≤ c1) (h : laws_qInts.f k l0 l1 = some r) :
  Calls Try.prog 47 #[.slice A0 l0.length c0, .slice A1 l1.length c1] w fun e w' => e = .returned (.bool r) ∧ Drawn0 w w' := by
 have HR0 := Aside0.mk hr0
 have HC0 := Aside0.mk hc0
 clear hr0 hc0
 have HR1 := Aside0.mk hr1
 have HC1 := Aside0.mk hc1
 clear hr1 hc1
 have H : (if (l0.length : Int) = (l1.length : Int) then (laws_qInts.l0 k l0 l1 (l0.length : Int) 0) else (some false)) = some r := h
 clear h
 by_cases c3 : (l0.length : Int) = (l1.length : Int)
 ·rw [if_pos c3] at H
  have c3b0 : ((l0.length : Int) == (l1.length : Int)) = true := beq_iff_eq.mpr c3
  have c3b1 : ((l0.length : Int) != (l1.length : Int)) = false := bne_eq_false_iff_eq.mpr c3
  have c3b2 : (l0.length == l1.length) = true := by first | simpa using c3 | (simp at c3 ⊢; omega)
  clear c3
  have H' := Aside0.mk H
  clear H
  go_enter Try.func47, Try.ntmps47
  go_wp2
  repeat (go_quiet (fail); try go_wp2)
  go_loopg [13] k (fun kq v13 w' => ∃ (x13_1 : Int), v13 = .int .i64 x13_1 ∧ Aside0 (laws_qInts.l0 kq l0 l1 (l0.length : Int) x13_1 = some r) ∧ Aside0 (kq ≤ k) ∧ Drawn0 w w')
  case atStart => exact ⟨(0), zg', H', ⟨Nat.le_refl _⟩, by repeat (first | exact Drawn0.refl _ | apply Drawn0.step)⟩
  case round =>
   clear H'; (try clear c1); (try clear p2); (try clear c3); (try clear c3b0); (try clear c3b1); (try clear c3b2); obtain ⟨x13_1, rfl, HA, HK1, ⟨m1, rfl⟩⟩ := hrel
   cases gk with
   | zero => exact absurd HA.out (by simp [laws_qInts.l0])
   | succ k1 =>
    have H := HA.out; clear HA; simp only [laws_qInts.l0] at H
    by_cases c4 : x13_1 < (l0.length : Int)
    ·rw [if_pos c4] at H
     have c4b0 : decide (x13_1 < (l0.length : Int)) = true := decide_eq_true c4; clear c4
     by_cases c5 : 0 ≤ x13_1
     ·rw [if_pos c5] at H
      have c5b0 : decide (0 ≤ x13_1) = true := decide_eq_true c5; clear c5
      by_cases c6 : x13_1 < (l0.length : Int)
      ·rw [if_pos c6] at H
       have c6b0 : decide (x13_1 < (l0.length : Int)) = true := decide_eq_true c6; clear c6
       by_cases c7 : x13_1 < (l1.length : Int)
       ·rw [if_pos c7] at H
        have c7b0 : decide (x13_1 < (l1.length : Int)) = true := decide_eq_true c7; clear c7
        by_cases c8 : (rd l0 x13_1) = (rd l1 x13_1)
        ·rw [if_pos c8] at H
         have c8b0 : ((rd l0 x13_1) == (rd l1 x13_1)) = true := beq_iff_eq.mpr c8; have c8b1 : ((rd l0 x13_1) != (rd l1 x13_1)) = false := bne_eq_false_iff_eq.mpr c8; clear c8; have H' := Aside0.mk H; clear H; have p357 : 0 ≤ (x13_1 : Int) := odt; have q357 : x13_1 < (l0.length : Int) := odt; obtain ⟨ad357, e357, hx357_0⟩ := Kd.at_int HR0.out x13_1 p357 q357; cases e357; replace p357 := eq_true p357; replace q357 := eq_true q357; have p358 : 0 ≤ (x13_1 : Int) := odt; have q358 : x13_1 < (l1.length : Int) := odt; obtain ⟨ad358, e358, hx358_0⟩ := Kd.at_int HR1.out x13_1 p358 q358; cases e358; replace p358 := eq_true p358; replace q358 := eq_true q358
         go_wp2
         repeat (go_quiet (fail); try go_wp2)
         go_roundg k1
         case measure => have := HK1.out; omega
         case rel => exact ⟨(wrap64 (x13_1 + 1)), zg', H', ⟨zl1'⟩, by repeat (first | exact Drawn0.refl _ | apply Drawn0.step)⟩
        ·rw [if_neg c8] at H
         have c8b0 : ((rd l0 x13_1) == (rd l1 x13_1)) = false := beq_eq_false_iff_ne.mpr c8; have c8b1 : ((rd l0 x13_1) != (rd l1 x13_1)) = true := bne_iff_ne.mpr c8; obtain rfl := Option.some.inj H; have p357 : 0 ≤ (x13_1 : Int) := odt; have q357 : x13_1 < (l0.length : Int) := odt; obtain ⟨ad357, e357, hx357_0⟩ := Kd.at_int HR0.out x13_1 p357 q357; cases e357; replace p357 := eq_true p357; replace q357 := eq_true q357; have p358 : 0 ≤ (x13_1 : Int) := odt; have q358 : x13_1 < (l1.length : Int) := odt; obtain ⟨ad358, e358, hx358_0⟩ := Kd.at_int HR1.out x13_1 p358 q358; cases e358; replace p358 := eq_true p358; replace q358 := eq_true q358
         go_wp2
         repeat (go_quiet (fail); try go_wp2)
         go_ret
         exact ⟨by first | rfl | (simp; done) | (simp [*]; done), by repeat (first | exact Drawn0.refl _ | apply Drawn0.step)⟩
       ·rw [if_neg c7] at H
        exact absurd H (by simp)
      ·rw [if_neg c6] at H
       exact absurd H (by simp)
     ·rw [if_neg c5] at H
      exact absurd H (by simp)
    ·rw [if_neg c4] at H
     have c4b0 : decide (x13_1 < (l0.length : Int)) = false := decide_eq_false c4; clear c4; obtain rfl := Option.some.inj H
     go_wp2
     repeat (go_quiet (fail); try go_wp2)
     go_ret
     exact ⟨by first | rfl | (simp; done) | (simp [*]; done), by repeat (first | exact Drawn0.refl _ | apply Drawn0.step)⟩
 ·rw [if_neg c3] at H
  have c3b0 : ((l0.length : Int) == (l1.length : Int)) = false := beq_eq_false_iff_ne.mpr c3
  have c3b1 : ((l0.length : Int) != (l1.length : Int)) = true := bne_iff_ne.mpr c3
  have c3b2 : (l0.length == l1.length) = false := by first | simpa using c3 | (simp at c3 ⊢; omega)
  obtain rfl := Option.some.inj H
  go_enter Try.func47, Try.ntmps47
  go_wp2
  repeat (go_quiet (fail); try go_wp2)
  go_ret
  exact ⟨by first | rfl | (simp; done) | (simp [*]; done), by repeat (first | exact Drawn0.refl _ | apply Drawn0.step)⟩

end Go.Proofs.Ytjipboafhakjfaa.PFnMatches
