/- The walk of the law FnExactStableMatch: a line of calls, each by its contract; its slices of slices are marked by a contract of our own. -/
import Derived.Test.YtjipboafhakjfaaPFnExactStableMatchx
namespace Go.Proofs.Ytjipboafhakjfaa.MFnExactStableMatch
open Go.RowKit Go.Proofs.YtjipboafhakjfaaW.PrintWords Go.Proofs.YtjipboafhakjfaaW.PrintLast Go.Proofs.YtjipboafhakjfaaW.PrintMore Go.Proofs.Ytjipboafhakjfaa.PFnExactStableMatch
attribute [local go_sem] max2_int min2_int max_two min_two max_three min_three max_four min_four
set_option linter.unusedVariables false
set_option linter.unusedSimpArgs false
section
variable {α : Type} {d : Kd α} {e : Nat} {W W' : World} {v : Value} {xs : List α}
theorem ob_new {b : Nat} (h : d.R e W' b (fun _ => True) v xs) : d.R e W' b (fun k => k < W'.heap.size) v xs := Kd.R_mono (Kd.R_bound h) (fun k hk => hk.2.2.1)
theorem ob_kept {lo hi lo' hi' : Nat} (h : d.R e W lo (fun k => k < hi) v xs) (hk : Kept W W' (fun k => lo' ≤ k ∧ k < hi')) (hd : hi ≤ lo' ∨ hi' ≤ lo) : d.R e W' lo (fun k => k < hi) v xs :=
  Kd.R_mono (Kd.R_kept (Kd.R_bound h) hk (fun k h1 h2 => by have := h1.1; have := h1.2.1; omega)) (fun k h => h.1)
theorem ob_own {lo hi b : Nat} (h : d.R e W lo (fun k => k < hi) v xs) (hb : b ≤ lo) : d.R e W b (fun k => lo ≤ k ∧ k < hi) v xs := Kd.R_lower (Kd.R_mono (Kd.R_bound h) (fun k h => ⟨h.2.1, h.1⟩)) hb
theorem sb_new {b : Nat} (h : Kd.S d e W' b (fun _ => True) v xs) : Kd.S d e W' b (fun k => k < W'.heap.size) v xs := Kd.S_mono (Kd.S_bound h) (fun k hk => hk.2.2.1)
theorem sb_kept {lo hi lo' hi' : Nat} (h : Kd.S d e W lo (fun k => k < hi) v xs) (hk : Kept W W' (fun k => lo' ≤ k ∧ k < hi')) (hd : hi ≤ lo' ∨ hi' ≤ lo) : Kd.S d e W' lo (fun k => k < hi) v xs :=
  Kd.S_mono (Kd.S_kept (Kd.S_bound h) hk (fun k h1 h2 => by have := h1.1; have := h1.2.1; omega)) (fun k h => h.1)
theorem sb_own {lo hi b : Nat} (h : Kd.S d e W lo (fun k => k < hi) v xs) (hb : b ≤ lo) : Kd.S d e W b (fun k => lo ≤ k ∧ k < hi) v xs := Kd.S_lower (Kd.S_mono (Kd.S_bound h) (fun k h => ⟨h.2.1, h.1⟩)) hb
end
def laws_markIntSS.l0 : Nat → List (List Int) → Int → Int → Option (Int × List (List Int))
  | 0, _, _, _ => none
  | k + 1, x0, x1, x5 => if x5 < (x0.length : Int) then (if 0 ≤ x5 then ((laws_markIntS.f k (rd_L1 x0 x5) x1).bind fun bt => laws_markIntSS.l0 k (x0.set x5.toNat bt.2) bt.1 (wrap64 (x5 + 1))) else none) else some (x1, x0)
def laws_markIntSS.f (k : Nat) (l0 : List (List Int)) (a1 : Int) : Option (Int × List (List Int)) := laws_markIntSS.l0 k l0 a1 0
set_option maxHeartbeats 8000000 in
set_option maxRecDepth 100000 in
theorem laws_markIntSS.calls (k : Nat) (P0_ : Nat → Prop) (u : Value) (l0 : List (List Int)) (a1 r1 : Int) (r2 : List (List Int)) (w0 w : World) (hB : Below w0.heap.size w0 w) (ho0 : Kd.S (Kd.slice 3 (Kd.int .i64)) 27 w w0.heap.size P0_ u l0) (h : laws_markIntSS.f k l0 a1 = some (r1, r2)) :
    Calls Try.prog 32 #[u, .int .i64 a1] w fun e w' => e = .returned (.int .i64 r1) ∧ Kd.S (Kd.slice 3 (Kd.int .i64)) 27 w' w0.heap.size P0_ u r2 ∧ Below w0.heap.size w0 w' ∧ Kept w w' P0_ := by
  have HO0 := Aside0.mk ho0
  have HK := Aside0.mk (Kept.refl w P0_)
  have HB := Aside0.mk hB
  clear hB ho0
  have H' : Aside0 (laws_markIntSS.l0 k l0 a1 0 = some (r1, r2)) := ⟨h⟩
  clear h
  go_enter Try.func32, Try.ntmps32
  go_wp2
  go_loopg [1, 5] k (fun kq v1 v5 w' => ∃ (x0 : List (List Int)) (x1 x5 : Int), v1 = .int .i64 x1 ∧ v5 = .int .i64 x5 ∧ Aside0 (laws_markIntSS.l0 kq x0 x1 x5 = some (r1, r2)) ∧ Aside0 (kq ≤ k) ∧ Aside0 (Kd.S (Kd.slice 3 (Kd.int .i64)) 27 w' w0.heap.size P0_ u x0) ∧ Aside0 (Kept w w' P0_) ∧ Aside0 (Below w0.heap.size w0 w'))
  case atStart => exact ⟨l0, a1, 0, rfl, rfl, H', ⟨Nat.le_refl _⟩, HO0, HK, HB⟩
  case round =>
    clear H' HO0 HK HB
    obtain ⟨x0, x1, x5, rfl, rfl, HA, HK1, HO, HK, HB⟩ := hrel
    cases gk with
    | zero => exact absurd HA.out (by simp [laws_markIntSS.l0])
    | succ k1 =>
      have H := HA.out
      clear HA
      simp only [laws_markIntSS.l0] at H
      obtain ⟨Ao, co, eo⟩ := Kd.S_slice HO.out
      subst eo
      by_cases c3 : x5 < (x0.length : Int)
      · rw [if_pos c3] at H
        have c3b : decide (x5 < (x0.length : Int)) = true := decide_eq_true c3
        by_cases c4 : 0 ≤ x5
        · rw [if_pos c4] at H
          obtain ⟨⟨t1, t2⟩, A1, H⟩ := Option.bind_eq_some_iff.mp H
          have A2 := Aside0.mk A1
          have H' := Aside0.mk H
          clear A1
          obtain ⟨go, co', eo', gb, gl, cl, HG⟩ := Kd.S_form HO.out (by omega)
          (first | cases eo' | (injection eo' with ea_ en_ ec_; (first | subst ea_ | (injection ea_ with ea_; subst ea_)); subst ec_; clear en_))
          obtain ⟨oki, c, hcl, hM, hcc, hfr, hoki, hH⟩ := Kd.S_elem HO.out [] x5 c4 c3
          obtain ⟨ve, rfl, he⟩ := hM
          obtain ⟨Ae, ce, rfl⟩ := Kd.R_slice he
          have hX : x0.getD x5.toNat [] = rd_L1 x0 x5 := rfl
          have hx := hcc 0 _ rfl
          simp only [show (Kd.slice 3 (Kd.int .i64)).sz = 1 from rfl, Nat.mul_one, Nat.add_zero] at hx
          rw [hX] at he hx hH
          have HE := Aside0.mk he
          have HH := Aside0.mk hH
          have HI := Aside0.mk hoki
          clear he hH hoki hcc hcl hfr gb gl cl HG
          have p := eq_true c4
          have q := eq_true c3
          go_wp2_with fail
          refine (laws_markIntS.calls k1 oki _ (rd_L1 x0 x5) x1 t1 t2 w0 _ HB.out HE.out A2.out).mono ?_
          rintro e w1 ⟨rfl, hr, hb, hk⟩
          have HS := Aside0.mk (Kd.H_back (Kd.H_step HH.out (fun k _ hn hlt => hk.2 k hlt hn)) (x' := t2) (okp := fun k_ => some k_ = (Value.slice Ae (rd_L1 x0 x5).length ce).ownBlock) ⟨_, rfl, Kd.R_tight rfl hr⟩ (fun k hk_ => HE.out.1 k hk_.symm))
          have HK2 : Aside0 (Kept w w1 P0_) := ⟨Nat.le_trans HK.out.1 hk.1, fun i hi hn => (hk.2 i (Nat.lt_of_lt_of_le hi HK.out.1) (fun h => hn (HI.out i h).1)).trans (HK.out.2 i hi hn)⟩
          have HB2 := Aside0.mk hb
          clear hr hb hk HE HH HI HO HK HB hx
          go_wp2
          go_roundg k1
          case measure => have := HK1.out; omega
          case rel => exact ⟨x0.set x5.toNat t2, t1, wrap64 (x5 + 1), rfl, rfl, H', ⟨by have := HK1.out; omega⟩, HS, HK2, HB2⟩
        · rw [if_neg c4] at H
          exact absurd H (by simp)
      · rw [if_neg c3] at H
        have c3b0 : decide (x5 < (x0.length : Int)) = false := decide_eq_false c3
        clear c3
        simp only [Option.some.injEq, Prod.mk.injEq] at H
        obtain ⟨rfl, rfl⟩ := H
        go_wp2
        go_ret
        exact ⟨rfl, HO.out, HB.out, HK.out⟩
set_option maxHeartbeats 8000000 in
set_option maxRecDepth 100000 in
theorem law_calls (k : Nat) (A0 : Option Addr) (c0 : Nat) (l0 : List (List Int)) (A1 : Option Addr) (c1 : Nat) (l1 : List (List Int)) (g0 : List Int) (g1 : Bool) (z0 : Int) (z1 : Int) (m0 : Int) (y0 : List (List Int)) (m1 : Int) (y1 : List (List Int)) (n0 : Int) (h0 : List Int) (w : World) (hr0 : Kd.C (Kd.slice 3 (Kd.int .i64)) w A0 l0.length l0) (hc0 : l0.length ≤ c0) (hr1 : Kd.C (Kd.slice 3 (Kd.int .i64)) w A1 l1.length l1) (hc1 : l1.length ≤ c1) (qz0 : laws_szIntSS.f k l0 1048576 = some z0) (qz1 : laws_szIntSS.f k l1 z0 = some z1) (qt0 : laws_toIntSS.f k l0 = some l0) (qt1 : laws_toIntSS.f k l1 = some l1) (qs : spec_StableMatch.f k l0 l1 = some (g0, g1)) (qi : impl_StableMatch.f k l0 l1 = some (g0, g1)) (qe0 : laws_eqIntS.f k g0 g0 = some true) (qx0 : laws_eqIntSS.f k l0 l0 = some true) (qx1 : laws_eqIntSS.f k l1 l1 = some true) (qm0 : laws_markIntSS.f k l0 1 = some (m0, y0)) (qm1 : laws_markIntSS.f k l1 m0 = some (m1, y1)) (qn0 : laws_markIntS.f k g0 1 = some (n0, h0)) (qh0 : laws_heldIntS.f k h0 1 = some n0) (nz0 : ¬ z0 < 0) (nz1 : ¬ z1 < 0) (nk : ¬ m1 < 0) (nn0 : ¬ n0 < 0) :
    Calls Try.prog 9 #[.slice A0 l0.length c0, .slice A1 l1.length c1] w fun e w' => e = .returned (.bool true) ∧ Below w.heap.size w w' := by
  have HR0 := Aside0.mk hr0
  have HC0 := Aside0.mk hc0
  have HR1 := Aside0.mk hr1
  have HC1 := Aside0.mk hc1
  have Qz0 := Aside0.mk qz0
  have Qz1 := Aside0.mk qz1
  have Qt0 := Aside0.mk qt0
  have Qt1 := Aside0.mk qt1
  have Qs := Aside0.mk qs
  have Qi := Aside0.mk qi
  have Qe0 := Aside0.mk qe0
  have Qx0 := Aside0.mk qx0
  have Qx1 := Aside0.mk qx1
  have Qm0 := Aside0.mk qm0
  have Qm1 := Aside0.mk qm1
  have Qn0 := Aside0.mk qn0
  have Qh0 := Aside0.mk qh0
  have dnz0 : decide (z0 < 0) = false := decide_eq_false nz0
  have dnz1 : decide (z1 < 0) = false := decide_eq_false nz1
  have dnk : decide (m1 < 0) = false := decide_eq_false nk
  have dnn0 : decide (n0 < 0) = false := decide_eq_false nn0
  clear hr0 hc0 hr1 hc1 qz0 qz1 qt0 qt1 qs qi qe0 qx0 qx1 qm0 qm1 qn0 qh0 nz0 nz1 nk nn0
  have HB := Aside0.mk (Below.refl w.heap.size w)
  go_enter Try.func9, Try.ntmps9
  go_wp2_with fail
  refine (laws_szIntSS.calls k _ _ l0 _ z0 _ (Kd.C_below HR0.out HB.out) HC0.out Qz0.out).mono ?_
  rintro e w1 ⟨rfl, hd⟩
  have hb := hd.below
  have t_HB := Aside0.mk (below_step HB.out hb)
  have SZ1 := Aside0.mk hb.size
  clear HB 
  have HB := t_HB
  clear t_HB 
  clear hb hd
  go_wp2_with fail
  refine (laws_szIntSS.calls k _ _ l1 _ z1 _ (Kd.C_below HR1.out HB.out) HC1.out Qz1.out).mono ?_
  rintro e w2 ⟨rfl, hd⟩
  have hb := hd.below
  have t_HB := Aside0.mk (below_step HB.out hb)
  have SZ2 := Aside0.mk hb.size
  clear HB 
  have HB := t_HB
  clear t_HB 
  clear hb hd
  go_wp2_with fail
  refine (laws_toIntSS.calls k _ _ l0 l0 _ (Kd.C_below HR0.out HB.out) HC0.out Qt0.out).mono ?_
  rintro e w3 ⟨v_s0, rfl, ho, hb⟩
  have t_HB := Aside0.mk (below_step HB.out hb)
  have SZ3 := Aside0.mk hb.size
  clear HB 
  have HB := t_HB
  clear t_HB 
  obtain ⟨As0, cs0, rfl, hcs0, hCs0⟩ := Kd.S_reads ho
  have Cs0 := Aside0.mk hCs0
  have Ns0 := Aside0.mk hcs0
  clear hcs0 hCs0 ho
  clear hb
  go_wp2_with fail
  refine (laws_toIntSS.calls k _ _ l1 l1 _ (Kd.C_below HR1.out HB.out) HC1.out Qt1.out).mono ?_
  rintro e w4 ⟨v_s1, rfl, ho, hb⟩
  have t_Cs0 := Aside0.mk (Kd.C_below Cs0.out hb)
  have t_HB := Aside0.mk (below_step HB.out hb)
  have SZ4 := Aside0.mk hb.size
  clear HB Cs0
  have HB := t_HB
  have Cs0 := t_Cs0
  clear t_HB t_Cs0
  obtain ⟨As1, cs1, rfl, hcs1, hCs1⟩ := Kd.S_reads ho
  have Cs1 := Aside0.mk hCs1
  have Ns1 := Aside0.mk hcs1
  clear hcs1 hCs1 ho
  clear hb
  go_wp2_with fail
  refine (spec_StableMatch.calls k _ _ l0 _ _ l1 g0 g1 _ Cs0.out Ns0.out Cs1.out Ns1.out Qs.out).mono ?_
  rintro e w5 ⟨v_w0, rfl, ho0, hb⟩
  have t_Cs0 := Aside0.mk (Kd.C_below Cs0.out hb)
  have t_Cs1 := Aside0.mk (Kd.C_below Cs1.out hb)
  have t_HB := Aside0.mk (below_step HB.out hb)
  have SZ5 := Aside0.mk hb.size
  clear HB Cs0 Cs1
  have HB := t_HB
  have Cs0 := t_Cs0
  have Cs1 := t_Cs1
  clear t_HB t_Cs0 t_Cs1
  obtain ⟨Aw0, cw0, rfl, hcw0, hCw0⟩ := Kd.R_reads ho0
  have Cw0 := Aside0.mk hCw0
  have Nw0 := Aside0.mk hcw0
  have Ow0 := Aside0.mk (ob_new ho0)
  clear hcw0 hCw0 ho0
  clear hb
  clear Cs0
  clear Cs1
  go_wp2_with fail
  refine (laws_toIntSS.calls k _ _ l0 l0 _ (Kd.C_below HR0.out HB.out) HC0.out Qt0.out).mono ?_
  rintro e w6 ⟨v_x0, rfl, ho, hb⟩
  have t_Cw0 := Aside0.mk (Kd.C_below Cw0.out hb)
  have t_Ow0 := Aside0.mk (Kd.R_below Ow0.out hb)
  have t_HB := Aside0.mk (below_step HB.out hb)
  have SZ6 := Aside0.mk hb.size
  clear HB Cw0 Ow0
  have HB := t_HB
  have Cw0 := t_Cw0
  have Ow0 := t_Ow0
  clear t_HB t_Cw0 t_Ow0
  obtain ⟨Ax0, cx0, rfl, hcx0, hCx0⟩ := Kd.S_reads ho
  have Cx0 := Aside0.mk hCx0
  have Nx0 := Aside0.mk hcx0
  have Ox0 := Aside0.mk (sb_new ho)
  clear hcx0 hCx0 ho
  clear hb
  go_wp2_with fail
  refine (laws_toIntSS.calls k _ _ l1 l1 _ (Kd.C_below HR1.out HB.out) HC1.out Qt1.out).mono ?_
  rintro e w7 ⟨v_x1, rfl, ho, hb⟩
  have t_Cw0 := Aside0.mk (Kd.C_below Cw0.out hb)
  have t_Ow0 := Aside0.mk (Kd.R_below Ow0.out hb)
  have t_Cx0 := Aside0.mk (Kd.C_below Cx0.out hb)
  have t_Ox0 := Aside0.mk (Kd.S_below Ox0.out hb)
  have t_HB := Aside0.mk (below_step HB.out hb)
  have SZ7 := Aside0.mk hb.size
  clear HB Cw0 Ow0 Cx0 Ox0
  have HB := t_HB
  have Cw0 := t_Cw0
  have Ow0 := t_Ow0
  have Cx0 := t_Cx0
  have Ox0 := t_Ox0
  clear t_HB t_Cw0 t_Ow0 t_Cx0 t_Ox0
  obtain ⟨Ax1, cx1, rfl, hcx1, hCx1⟩ := Kd.S_reads ho
  have Cx1 := Aside0.mk hCx1
  have Nx1 := Aside0.mk hcx1
  have Ox1 := Aside0.mk (sb_new ho)
  clear hcx1 hCx1 ho
  clear hb
  go_wp2_with fail
  refine (impl_StableMatch.calls k _ _ l0 _ _ l1 g0 g1 _ Cx0.out Nx0.out Cx1.out Nx1.out Qi.out).mono ?_
  rintro e w8 ⟨v_g0, rfl, ho0, hb⟩
  have t_Cw0 := Aside0.mk (Kd.C_below Cw0.out hb)
  have t_Ow0 := Aside0.mk (Kd.R_below Ow0.out hb)
  have t_Cx0 := Aside0.mk (Kd.C_below Cx0.out hb)
  have t_Ox0 := Aside0.mk (Kd.S_below Ox0.out hb)
  have t_Cx1 := Aside0.mk (Kd.C_below Cx1.out hb)
  have t_Ox1 := Aside0.mk (Kd.S_below Ox1.out hb)
  have t_HB := Aside0.mk (below_step HB.out hb)
  have SZ8 := Aside0.mk hb.size
  clear HB Cw0 Ow0 Cx0 Ox0 Cx1 Ox1
  have HB := t_HB
  have Cw0 := t_Cw0
  have Ow0 := t_Ow0
  have Cx0 := t_Cx0
  have Ox0 := t_Ox0
  have Cx1 := t_Cx1
  have Ox1 := t_Ox1
  clear t_HB t_Cw0 t_Ow0 t_Cx0 t_Ox0 t_Cx1 t_Ox1
  obtain ⟨Ag0, cg0, rfl, hcg0, hCg0⟩ := Kd.R_reads ho0
  have Cg0 := Aside0.mk hCg0
  have Ng0 := Aside0.mk hcg0
  have Og0 := Aside0.mk (ob_new ho0)
  clear hcg0 hCg0 ho0
  clear hb
  go_wp2_with fail
  refine (laws_eqIntS.calls k _ _ g0 _ _ g0 true _ Cg0.out Ng0.out Cw0.out Nw0.out Qe0.out).mono ?_
  rintro e w9 ⟨rfl, hd⟩
  have hb := hd.below
  have t_Cw0 := Aside0.mk (Kd.C_below Cw0.out hb)
  have t_Ow0 := Aside0.mk (Kd.R_below Ow0.out hb)
  have t_Cx0 := Aside0.mk (Kd.C_below Cx0.out hb)
  have t_Ox0 := Aside0.mk (Kd.S_below Ox0.out hb)
  have t_Cx1 := Aside0.mk (Kd.C_below Cx1.out hb)
  have t_Ox1 := Aside0.mk (Kd.S_below Ox1.out hb)
  have t_Cg0 := Aside0.mk (Kd.C_below Cg0.out hb)
  have t_Og0 := Aside0.mk (Kd.R_below Og0.out hb)
  have t_HB := Aside0.mk (below_step HB.out hb)
  have SZ9 := Aside0.mk hb.size
  clear HB Cw0 Ow0 Cx0 Ox0 Cx1 Ox1 Cg0 Og0
  have HB := t_HB
  have Cw0 := t_Cw0
  have Ow0 := t_Ow0
  have Cx0 := t_Cx0
  have Ox0 := t_Ox0
  have Cx1 := t_Cx1
  have Ox1 := t_Ox1
  have Cg0 := t_Cg0
  have Og0 := t_Og0
  clear t_HB t_Cw0 t_Ow0 t_Cx0 t_Ox0 t_Cx1 t_Ox1 t_Cg0 t_Og0
  clear hb hd
  go_wp2_with fail
  refine (laws_toIntSS.calls k _ _ l0 l0 _ (Kd.C_below HR0.out HB.out) HC0.out Qt0.out).mono ?_
  rintro e w10 ⟨v_e0, rfl, ho, hb⟩
  have t_Cw0 := Aside0.mk (Kd.C_below Cw0.out hb)
  have t_Ow0 := Aside0.mk (Kd.R_below Ow0.out hb)
  have t_Cx0 := Aside0.mk (Kd.C_below Cx0.out hb)
  have t_Ox0 := Aside0.mk (Kd.S_below Ox0.out hb)
  have t_Cx1 := Aside0.mk (Kd.C_below Cx1.out hb)
  have t_Ox1 := Aside0.mk (Kd.S_below Ox1.out hb)
  have t_Cg0 := Aside0.mk (Kd.C_below Cg0.out hb)
  have t_Og0 := Aside0.mk (Kd.R_below Og0.out hb)
  have t_HB := Aside0.mk (below_step HB.out hb)
  have SZ10 := Aside0.mk hb.size
  clear HB Cw0 Ow0 Cx0 Ox0 Cx1 Ox1 Cg0 Og0
  have HB := t_HB
  have Cw0 := t_Cw0
  have Ow0 := t_Ow0
  have Cx0 := t_Cx0
  have Ox0 := t_Ox0
  have Cx1 := t_Cx1
  have Ox1 := t_Ox1
  have Cg0 := t_Cg0
  have Og0 := t_Og0
  clear t_HB t_Cw0 t_Ow0 t_Cx0 t_Ox0 t_Cx1 t_Ox1 t_Cg0 t_Og0
  obtain ⟨Ae0, ce0, rfl, hce0, hCe0⟩ := Kd.S_reads ho
  have Ce0 := Aside0.mk hCe0
  have Ne0 := Aside0.mk hce0
  clear hce0 hCe0 ho
  clear hb
  go_wp2_with fail
  refine (laws_eqIntSS.calls k _ _ l0 _ _ l0 true _ Cx0.out Nx0.out Ce0.out Ne0.out Qx0.out).mono ?_
  rintro e w11 ⟨rfl, hd⟩
  have hb := hd.below
  have t_Cw0 := Aside0.mk (Kd.C_below Cw0.out hb)
  have t_Ow0 := Aside0.mk (Kd.R_below Ow0.out hb)
  have t_Cx0 := Aside0.mk (Kd.C_below Cx0.out hb)
  have t_Ox0 := Aside0.mk (Kd.S_below Ox0.out hb)
  have t_Cx1 := Aside0.mk (Kd.C_below Cx1.out hb)
  have t_Ox1 := Aside0.mk (Kd.S_below Ox1.out hb)
  have t_Cg0 := Aside0.mk (Kd.C_below Cg0.out hb)
  have t_Og0 := Aside0.mk (Kd.R_below Og0.out hb)
  have t_Ce0 := Aside0.mk (Kd.C_below Ce0.out hb)
  have t_HB := Aside0.mk (below_step HB.out hb)
  have SZ11 := Aside0.mk hb.size
  clear HB Cw0 Ow0 Cx0 Ox0 Cx1 Ox1 Cg0 Og0 Ce0
  have HB := t_HB
  have Cw0 := t_Cw0
  have Ow0 := t_Ow0
  have Cx0 := t_Cx0
  have Ox0 := t_Ox0
  have Cx1 := t_Cx1
  have Ox1 := t_Ox1
  have Cg0 := t_Cg0
  have Og0 := t_Og0
  have Ce0 := t_Ce0
  clear t_HB t_Cw0 t_Ow0 t_Cx0 t_Ox0 t_Cx1 t_Ox1 t_Cg0 t_Og0 t_Ce0
  clear hb hd
  clear Ce0
  go_wp2_with fail
  refine (laws_toIntSS.calls k _ _ l1 l1 _ (Kd.C_below HR1.out HB.out) HC1.out Qt1.out).mono ?_
  rintro e w12 ⟨v_e1, rfl, ho, hb⟩
  have t_Cw0 := Aside0.mk (Kd.C_below Cw0.out hb)
  have t_Ow0 := Aside0.mk (Kd.R_below Ow0.out hb)
  have t_Cx0 := Aside0.mk (Kd.C_below Cx0.out hb)
  have t_Ox0 := Aside0.mk (Kd.S_below Ox0.out hb)
  have t_Cx1 := Aside0.mk (Kd.C_below Cx1.out hb)
  have t_Ox1 := Aside0.mk (Kd.S_below Ox1.out hb)
  have t_Cg0 := Aside0.mk (Kd.C_below Cg0.out hb)
  have t_Og0 := Aside0.mk (Kd.R_below Og0.out hb)
  have t_HB := Aside0.mk (below_step HB.out hb)
  have SZ12 := Aside0.mk hb.size
  clear HB Cw0 Ow0 Cx0 Ox0 Cx1 Ox1 Cg0 Og0
  have HB := t_HB
  have Cw0 := t_Cw0
  have Ow0 := t_Ow0
  have Cx0 := t_Cx0
  have Ox0 := t_Ox0
  have Cx1 := t_Cx1
  have Ox1 := t_Ox1
  have Cg0 := t_Cg0
  have Og0 := t_Og0
  clear t_HB t_Cw0 t_Ow0 t_Cx0 t_Ox0 t_Cx1 t_Ox1 t_Cg0 t_Og0
  obtain ⟨Ae1, ce1, rfl, hce1, hCe1⟩ := Kd.S_reads ho
  have Ce1 := Aside0.mk hCe1
  have Ne1 := Aside0.mk hce1
  clear hce1 hCe1 ho
  clear hb
  go_wp2_with fail
  refine (laws_eqIntSS.calls k _ _ l1 _ _ l1 true _ Cx1.out Nx1.out Ce1.out Ne1.out Qx1.out).mono ?_
  rintro e w13 ⟨rfl, hd⟩
  have hb := hd.below
  have t_Cw0 := Aside0.mk (Kd.C_below Cw0.out hb)
  have t_Ow0 := Aside0.mk (Kd.R_below Ow0.out hb)
  have t_Cx0 := Aside0.mk (Kd.C_below Cx0.out hb)
  have t_Ox0 := Aside0.mk (Kd.S_below Ox0.out hb)
  have t_Cx1 := Aside0.mk (Kd.C_below Cx1.out hb)
  have t_Ox1 := Aside0.mk (Kd.S_below Ox1.out hb)
  have t_Cg0 := Aside0.mk (Kd.C_below Cg0.out hb)
  have t_Og0 := Aside0.mk (Kd.R_below Og0.out hb)
  have t_Ce1 := Aside0.mk (Kd.C_below Ce1.out hb)
  have t_HB := Aside0.mk (below_step HB.out hb)
  have SZ13 := Aside0.mk hb.size
  clear HB Cw0 Ow0 Cx0 Ox0 Cx1 Ox1 Cg0 Og0 Ce1
  have HB := t_HB
  have Cw0 := t_Cw0
  have Ow0 := t_Ow0
  have Cx0 := t_Cx0
  have Ox0 := t_Ox0
  have Cx1 := t_Cx1
  have Ox1 := t_Ox1
  have Cg0 := t_Cg0
  have Og0 := t_Og0
  have Ce1 := t_Ce1
  clear t_HB t_Cw0 t_Ow0 t_Cx0 t_Ox0 t_Cx1 t_Ox1 t_Cg0 t_Og0 t_Ce1
  clear hb hd
  clear Ce1
  go_wp2_with fail
  refine (laws_markIntSS.calls k _ _ l0 1 m0 y0 w _ HB.out (sb_own Ox0.out (b := w.heap.size) (by have := SZ1.out; have := SZ2.out; have := SZ3.out; have := SZ4.out; have := SZ5.out; have := SZ6.out; have := SZ7.out; have := SZ8.out; have := SZ9.out; have := SZ10.out; have := SZ11.out; have := SZ12.out; have := SZ13.out; omega)) Qm0.out).mono ?_
  rintro e w14 ⟨rfl, hr, hb, hk⟩
  have SZ14 := Aside0.mk hk.1
  have t_Ow0 := Aside0.mk (ob_kept Ow0.out hk (by have := SZ1.out; have := SZ2.out; have := SZ3.out; have := SZ4.out; have := SZ5.out; have := SZ6.out; have := SZ7.out; have := SZ8.out; have := SZ9.out; have := SZ10.out; have := SZ11.out; have := SZ12.out; have := SZ13.out; omega))
  have t_Ox1 := Aside0.mk (sb_kept Ox1.out hk (by have := SZ1.out; have := SZ2.out; have := SZ3.out; have := SZ4.out; have := SZ5.out; have := SZ6.out; have := SZ7.out; have := SZ8.out; have := SZ9.out; have := SZ10.out; have := SZ11.out; have := SZ12.out; have := SZ13.out; omega))
  have t_Og0 := Aside0.mk (ob_kept Og0.out hk (by have := SZ1.out; have := SZ2.out; have := SZ3.out; have := SZ4.out; have := SZ5.out; have := SZ6.out; have := SZ7.out; have := SZ8.out; have := SZ9.out; have := SZ10.out; have := SZ11.out; have := SZ12.out; have := SZ13.out; omega))
  have t_HB := Aside0.mk hb
  clear HB Cw0 Ow0 Cx1 Ox1 Cg0 Og0 Ox0 Cx0
  have HB := t_HB
  clear t_HB
  have Ow0 := t_Ow0
  clear t_Ow0
  have Cw0 := Aside0.mk (Kd.R_reads' Ow0.out).2.2
  have Ox1 := t_Ox1
  clear t_Ox1
  have Cx1 := Aside0.mk (Kd.S_reads' Ox1.out).2.2
  have Og0 := t_Og0
  clear t_Og0
  have Cg0 := Aside0.mk (Kd.R_reads' Og0.out).2.2
  clear hr hb hk
  go_wp2_with fail
  refine (laws_markIntSS.calls k _ _ l1 m0 m1 y1 w _ HB.out (sb_own Ox1.out (b := w.heap.size) (by have := SZ1.out; have := SZ2.out; have := SZ3.out; have := SZ4.out; have := SZ5.out; have := SZ6.out; have := SZ7.out; have := SZ8.out; have := SZ9.out; have := SZ10.out; have := SZ11.out; have := SZ12.out; have := SZ13.out; have := SZ14.out; omega)) Qm1.out).mono ?_
  rintro e w15 ⟨rfl, hr, hb, hk⟩
  have SZ15 := Aside0.mk hk.1
  have t_Ow0 := Aside0.mk (ob_kept Ow0.out hk (by have := SZ1.out; have := SZ2.out; have := SZ3.out; have := SZ4.out; have := SZ5.out; have := SZ6.out; have := SZ7.out; have := SZ8.out; have := SZ9.out; have := SZ10.out; have := SZ11.out; have := SZ12.out; have := SZ13.out; have := SZ14.out; omega))
  have t_Og0 := Aside0.mk (ob_kept Og0.out hk (by have := SZ1.out; have := SZ2.out; have := SZ3.out; have := SZ4.out; have := SZ5.out; have := SZ6.out; have := SZ7.out; have := SZ8.out; have := SZ9.out; have := SZ10.out; have := SZ11.out; have := SZ12.out; have := SZ13.out; have := SZ14.out; omega))
  have t_HB := Aside0.mk hb
  clear HB Cw0 Ow0 Cg0 Og0 Ox1 Cx1
  have HB := t_HB
  clear t_HB
  have Ow0 := t_Ow0
  clear t_Ow0
  have Cw0 := Aside0.mk (Kd.R_reads' Ow0.out).2.2
  have Og0 := t_Og0
  clear t_Og0
  have Cg0 := Aside0.mk (Kd.R_reads' Og0.out).2.2
  clear hr hb hk
  go_wp2_with fail
  refine (laws_eqIntS.calls k _ _ g0 _ _ g0 true _ Cg0.out Ng0.out Cw0.out Nw0.out Qe0.out).mono ?_
  rintro e w16 ⟨rfl, hd⟩
  have hb := hd.below
  have t_Cw0 := Aside0.mk (Kd.C_below Cw0.out hb)
  have t_Ow0 := Aside0.mk (Kd.R_below Ow0.out hb)
  have t_Cg0 := Aside0.mk (Kd.C_below Cg0.out hb)
  have t_Og0 := Aside0.mk (Kd.R_below Og0.out hb)
  have t_HB := Aside0.mk (below_step HB.out hb)
  have SZ16 := Aside0.mk hb.size
  clear HB Cw0 Ow0 Cg0 Og0
  have HB := t_HB
  have Cw0 := t_Cw0
  have Ow0 := t_Ow0
  have Cg0 := t_Cg0
  have Og0 := t_Og0
  clear t_HB t_Cw0 t_Ow0 t_Cg0 t_Og0
  clear hb hd
  go_wp2_with fail
  refine (laws_markIntS.calls k _ _ g0 1 n0 h0 w _ HB.out (ob_own Og0.out (b := w.heap.size) (by have := SZ1.out; have := SZ2.out; have := SZ3.out; have := SZ4.out; have := SZ5.out; have := SZ6.out; have := SZ7.out; have := SZ8.out; have := SZ9.out; have := SZ10.out; have := SZ11.out; have := SZ12.out; have := SZ13.out; have := SZ14.out; have := SZ15.out; have := SZ16.out; omega)) Qn0.out).mono ?_
  rintro e w17 ⟨rfl, hr, hb, hk⟩
  have SZ17 := Aside0.mk hk.1
  have t_Ow0 := Aside0.mk (ob_kept Ow0.out hk (by have := SZ1.out; have := SZ2.out; have := SZ3.out; have := SZ4.out; have := SZ5.out; have := SZ6.out; have := SZ7.out; have := SZ8.out; have := SZ9.out; have := SZ10.out; have := SZ11.out; have := SZ12.out; have := SZ13.out; have := SZ14.out; have := SZ15.out; have := SZ16.out; omega))
  have t_HB := Aside0.mk hb
  clear HB Cw0 Ow0 Og0 Cg0
  have HB := t_HB
  clear t_HB
  have Ow0 := t_Ow0
  clear t_Ow0
  have Cw0 := Aside0.mk (Kd.R_reads' Ow0.out).2.2
  have Ch0 := Aside0.mk (Kd.R_reads' hr).2.2
  have LH0 := Aside0.mk (Kd.R_reads' hr).1
  have Nh0 := Aside0.mk (Nat.le_trans (Nat.le_of_eq LH0.out.symm) Ng0.out)
  clear hr hb hk
  have zc_ := laws_heldIntS.calls k _ _ h0 _ n0 _ Ch0.out Nh0.out Qh0.out
  rw [← LH0.out] at zc_
  go_wp2_with fail
  refine (zc_).mono ?_
  rintro e w18 ⟨rfl, hd⟩
  have hb := hd.below
  clear zc_
  have t_Cw0 := Aside0.mk (Kd.C_below Cw0.out hb)
  have t_Ow0 := Aside0.mk (Kd.R_below Ow0.out hb)
  have t_Ch0 := Aside0.mk (Kd.C_below Ch0.out hb)
  have t_HB := Aside0.mk (below_step HB.out hb)
  have SZ18 := Aside0.mk hb.size
  clear HB Cw0 Ow0 Ch0
  have HB := t_HB
  have Cw0 := t_Cw0
  have Ow0 := t_Ow0
  have Ch0 := t_Ch0
  clear t_HB t_Cw0 t_Ow0 t_Ch0
  clear hb hd
  go_wp2_with fail
  refine (laws_toIntSS.calls k _ _ l0 l0 _ (Kd.C_below HR0.out HB.out) HC0.out Qt0.out).mono ?_
  rintro e w19 ⟨v_u0, rfl, ho, hb⟩
  have t_Cw0 := Aside0.mk (Kd.C_below Cw0.out hb)
  have t_Ow0 := Aside0.mk (Kd.R_below Ow0.out hb)
  have t_Ch0 := Aside0.mk (Kd.C_below Ch0.out hb)
  have t_HB := Aside0.mk (below_step HB.out hb)
  have SZ19 := Aside0.mk hb.size
  clear HB Cw0 Ow0 Ch0
  have HB := t_HB
  have Cw0 := t_Cw0
  have Ow0 := t_Ow0
  have Ch0 := t_Ch0
  clear t_HB t_Cw0 t_Ow0 t_Ch0
  obtain ⟨Au0, cu0, rfl, hcu0, hCu0⟩ := Kd.S_reads ho
  have Cu0 := Aside0.mk hCu0
  have Nu0 := Aside0.mk hcu0
  clear hcu0 hCu0 ho
  clear hb
  go_wp2_with fail
  refine (laws_toIntSS.calls k _ _ l1 l1 _ (Kd.C_below HR1.out HB.out) HC1.out Qt1.out).mono ?_
  rintro e w20 ⟨v_u1, rfl, ho, hb⟩
  have t_Cw0 := Aside0.mk (Kd.C_below Cw0.out hb)
  have t_Ow0 := Aside0.mk (Kd.R_below Ow0.out hb)
  have t_Ch0 := Aside0.mk (Kd.C_below Ch0.out hb)
  have t_Cu0 := Aside0.mk (Kd.C_below Cu0.out hb)
  have t_HB := Aside0.mk (below_step HB.out hb)
  have SZ20 := Aside0.mk hb.size
  clear HB Cw0 Ow0 Ch0 Cu0
  have HB := t_HB
  have Cw0 := t_Cw0
  have Ow0 := t_Ow0
  have Ch0 := t_Ch0
  have Cu0 := t_Cu0
  clear t_HB t_Cw0 t_Ow0 t_Ch0 t_Cu0
  obtain ⟨Au1, cu1, rfl, hcu1, hCu1⟩ := Kd.S_reads ho
  have Cu1 := Aside0.mk hCu1
  have Nu1 := Aside0.mk hcu1
  clear hcu1 hCu1 ho
  clear hb
  go_wp2_with fail
  refine (impl_StableMatch.calls k _ _ l0 _ _ l1 g0 g1 _ Cu0.out Nu0.out Cu1.out Nu1.out Qi.out).mono ?_
  rintro e w21 ⟨v_p0, rfl, ho0, hb⟩
  have t_Cw0 := Aside0.mk (Kd.C_below Cw0.out hb)
  have t_Ow0 := Aside0.mk (Kd.R_below Ow0.out hb)
  have t_Ch0 := Aside0.mk (Kd.C_below Ch0.out hb)
  have t_Cu0 := Aside0.mk (Kd.C_below Cu0.out hb)
  have t_Cu1 := Aside0.mk (Kd.C_below Cu1.out hb)
  have t_HB := Aside0.mk (below_step HB.out hb)
  have SZ21 := Aside0.mk hb.size
  clear HB Cw0 Ow0 Ch0 Cu0 Cu1
  have HB := t_HB
  have Cw0 := t_Cw0
  have Ow0 := t_Ow0
  have Ch0 := t_Ch0
  have Cu0 := t_Cu0
  have Cu1 := t_Cu1
  clear t_HB t_Cw0 t_Ow0 t_Ch0 t_Cu0 t_Cu1
  obtain ⟨Ap0, cp0, rfl, hcp0, hCp0⟩ := Kd.R_reads ho0
  have Cp0 := Aside0.mk hCp0
  have Np0 := Aside0.mk hcp0
  clear hcp0 hCp0 ho0
  clear hb
  go_wp2_with fail
  refine (laws_eqIntS.calls k _ _ g0 _ _ g0 true _ Cp0.out Np0.out Cw0.out Nw0.out Qe0.out).mono ?_
  rintro e w22 ⟨rfl, hd⟩
  have hb := hd.below
  have t_Cw0 := Aside0.mk (Kd.C_below Cw0.out hb)
  have t_Ow0 := Aside0.mk (Kd.R_below Ow0.out hb)
  have t_Ch0 := Aside0.mk (Kd.C_below Ch0.out hb)
  have t_Cu0 := Aside0.mk (Kd.C_below Cu0.out hb)
  have t_Cu1 := Aside0.mk (Kd.C_below Cu1.out hb)
  have t_Cp0 := Aside0.mk (Kd.C_below Cp0.out hb)
  have t_HB := Aside0.mk (below_step HB.out hb)
  have SZ22 := Aside0.mk hb.size
  clear HB Cw0 Ow0 Ch0 Cu0 Cu1 Cp0
  have HB := t_HB
  have Cw0 := t_Cw0
  have Ow0 := t_Ow0
  have Ch0 := t_Ch0
  have Cu0 := t_Cu0
  have Cu1 := t_Cu1
  have Cp0 := t_Cp0
  clear t_HB t_Cw0 t_Ow0 t_Ch0 t_Cu0 t_Cu1 t_Cp0
  clear hb hd
  have zc_ := laws_heldIntS.calls k _ _ h0 _ n0 _ Ch0.out Nh0.out Qh0.out
  rw [← LH0.out] at zc_
  go_wp2_with fail
  refine (zc_).mono ?_
  rintro e w23 ⟨rfl, hd⟩
  have hb := hd.below
  clear zc_
  have t_Cw0 := Aside0.mk (Kd.C_below Cw0.out hb)
  have t_Ow0 := Aside0.mk (Kd.R_below Ow0.out hb)
  have t_Ch0 := Aside0.mk (Kd.C_below Ch0.out hb)
  have t_Cu0 := Aside0.mk (Kd.C_below Cu0.out hb)
  have t_Cu1 := Aside0.mk (Kd.C_below Cu1.out hb)
  have t_Cp0 := Aside0.mk (Kd.C_below Cp0.out hb)
  have t_HB := Aside0.mk (below_step HB.out hb)
  have SZ23 := Aside0.mk hb.size
  clear HB Cw0 Ow0 Ch0 Cu0 Cu1 Cp0
  have HB := t_HB
  have Cw0 := t_Cw0
  have Ow0 := t_Ow0
  have Ch0 := t_Ch0
  have Cu0 := t_Cu0
  have Cu1 := t_Cu1
  have Cp0 := t_Cp0
  clear t_HB t_Cw0 t_Ow0 t_Ch0 t_Cu0 t_Cu1 t_Cp0
  clear hb hd
  go_wp2
  go_ret
  exact ⟨rfl, HB.out⟩
set_option maxHeartbeats 8000000 in
set_option maxRecDepth 100000 in
theorem law_sz0 (k : Nat) (A0 : Option Addr) (c0 : Nat) (l0 : List (List Int)) (A1 : Option Addr) (c1 : Nat) (l1 : List (List Int)) (z0 : Int) (w : World) (hr0 : Kd.C (Kd.slice 3 (Kd.int .i64)) w A0 l0.length l0) (hc0 : l0.length ≤ c0) (hr1 : Kd.C (Kd.slice 3 (Kd.int .i64)) w A1 l1.length l1) (hc1 : l1.length ≤ c1) (qz0 : laws_szIntSS.f k l0 1048576 = some z0) (nz0 : z0 < 0) :
    Calls Try.prog 9 #[.slice A0 l0.length c0, .slice A1 l1.length c1] w fun e w' => e = .returned (.bool true) ∧ Below w.heap.size w w' := by
  have HR0 := Aside0.mk hr0
  have HC0 := Aside0.mk hc0
  have HR1 := Aside0.mk hr1
  have HC1 := Aside0.mk hc1
  have QZ0_ := Aside0.mk qz0
  have dnz0 : decide (z0 < 0) = true := decide_eq_true nz0
  clear hr0 hc0 hr1 hc1 qz0 nz0
  have HB := Aside0.mk (Below.refl w.heap.size w)
  go_enter Try.func9, Try.ntmps9
  go_wp2_with fail
  refine (laws_szIntSS.calls k _ _ l0 _ z0 _ (Kd.C_below HR0.out HB.out) HC0.out QZ0_.out).mono ?_
  rintro e w1 ⟨rfl, hd⟩
  have t_HB := Aside0.mk (below_step HB.out hd.below)
  clear HB hd
  have HB := t_HB
  clear t_HB
  go_wp2
  go_ret
  exact ⟨rfl, HB.out⟩
set_option maxHeartbeats 8000000 in
set_option maxRecDepth 100000 in
theorem law_sz1 (k : Nat) (A0 : Option Addr) (c0 : Nat) (l0 : List (List Int)) (A1 : Option Addr) (c1 : Nat) (l1 : List (List Int)) (z0 : Int) (z1 : Int) (w : World) (hr0 : Kd.C (Kd.slice 3 (Kd.int .i64)) w A0 l0.length l0) (hc0 : l0.length ≤ c0) (hr1 : Kd.C (Kd.slice 3 (Kd.int .i64)) w A1 l1.length l1) (hc1 : l1.length ≤ c1) (qz0 : laws_szIntSS.f k l0 1048576 = some z0) (qz1 : laws_szIntSS.f k l1 z0 = some z1) (nz0 : ¬ z0 < 0) (nz1 : z1 < 0) :
    Calls Try.prog 9 #[.slice A0 l0.length c0, .slice A1 l1.length c1] w fun e w' => e = .returned (.bool true) ∧ Below w.heap.size w w' := by
  have HR0 := Aside0.mk hr0
  have HC0 := Aside0.mk hc0
  have HR1 := Aside0.mk hr1
  have HC1 := Aside0.mk hc1
  have QZ0_ := Aside0.mk qz0
  have QZ1_ := Aside0.mk qz1
  have dnz0 : decide (z0 < 0) = false := decide_eq_false nz0
  have dnz1 : decide (z1 < 0) = true := decide_eq_true nz1
  clear hr0 hc0 hr1 hc1 qz0 qz1 nz0 nz1
  have HB := Aside0.mk (Below.refl w.heap.size w)
  go_enter Try.func9, Try.ntmps9
  go_wp2_with fail
  refine (laws_szIntSS.calls k _ _ l0 _ z0 _ (Kd.C_below HR0.out HB.out) HC0.out QZ0_.out).mono ?_
  rintro e w1 ⟨rfl, hd⟩
  have t_HB := Aside0.mk (below_step HB.out hd.below)
  clear HB hd
  have HB := t_HB
  clear t_HB
  go_wp2_with fail
  refine (laws_szIntSS.calls k _ _ l1 _ z1 _ (Kd.C_below HR1.out HB.out) HC1.out QZ1_.out).mono ?_
  rintro e w2 ⟨rfl, hd⟩
  have t_HB := Aside0.mk (below_step HB.out hd.below)
  clear HB hd
  have HB := t_HB
  clear t_HB
  go_wp2
  go_ret
  exact ⟨rfl, HB.out⟩
/-- What the law's walk asks of the printed functions: an argument too large, or one line of equations. -/
def Told (k : Nat) (l0 : List (List Int)) (l1 : List (List Int)) : Prop := (∃ (z0 : Int), laws_szIntSS.f k l0 1048576 = some z0 ∧ z0 < 0) ∨ (∃ (z0 : Int) (z1 : Int), laws_szIntSS.f k l0 1048576 = some z0 ∧ laws_szIntSS.f k l1 z0 = some z1 ∧ ¬ z0 < 0 ∧ z1 < 0) ∨ (∃ (g0 : List Int) (g1 : Bool) (z0 : Int) (z1 : Int) (m0 : Int) (y0 : List (List Int)) (m1 : Int) (y1 : List (List Int)) (n0 : Int) (h0 : List Int), laws_szIntSS.f k l0 1048576 = some z0 ∧ laws_szIntSS.f k l1 z0 = some z1 ∧ laws_toIntSS.f k l0 = some l0 ∧ laws_toIntSS.f k l1 = some l1 ∧ spec_StableMatch.f k l0 l1 = some (g0, g1) ∧ impl_StableMatch.f k l0 l1 = some (g0, g1) ∧ laws_eqIntS.f k g0 g0 = some true ∧ laws_eqIntSS.f k l0 l0 = some true ∧ laws_eqIntSS.f k l1 l1 = some true ∧ laws_markIntSS.f k l0 1 = some (m0, y0) ∧ laws_markIntSS.f k l1 m0 = some (m1, y1) ∧ laws_markIntS.f k g0 1 = some (n0, h0) ∧ laws_heldIntS.f k h0 1 = some n0 ∧ ¬ z0 < 0 ∧ ¬ z1 < 0 ∧ ¬ m1 < 0 ∧ ¬ n0 < 0)
theorem laws_FnExactStableMatch.calls (k : Nat) (A0 : Option Addr) (c0 : Nat) (l0 : List (List Int)) (A1 : Option Addr) (c1 : Nat) (l1 : List (List Int)) (r : Bool) (w : World) (hr0 : Kd.C (Kd.slice 3 (Kd.int .i64)) w A0 l0.length l0) (hc0 : l0.length ≤ c0) (hr1 : Kd.C (Kd.slice 3 (Kd.int .i64)) w A1 l1.length l1) (hc1 : l1.length ≤ c1) (h : Told k l0 l1) :
    Calls Try.prog 9 #[.slice A0 l0.length c0, .slice A1 l1.length c1] w fun e w' => e = .returned (.bool true) ∧ Below w.heap.size w w' := by
  rcases h with ⟨z0, qz0, nz0⟩ | ⟨z0, z1, qz0, qz1, nz0, nz1⟩ | ⟨g0, g1, z0, z1, m0, y0, m1, y1, n0, h0, qz0, qz1, qt0, qt1, qs, qi, qe0, qx0, qx1, qm0, qm1, qn0, qh0, nz0, nz1, nk, nn0⟩
  · exact law_sz0 k A0 c0 l0 A1 c1 l1 z0 w hr0 hc0 hr1 hc1 qz0 nz0
  · exact law_sz1 k A0 c0 l0 A1 c1 l1 z0 z1 w hr0 hc0 hr1 hc1 qz0 qz1 nz0 nz1
  · exact law_calls k A0 c0 l0 A1 c1 l1 g0 g1 z0 z1 m0 y0 m1 y1 n0 h0 w hr0 hc0 hr1 hc1 qz0 qz1 qt0 qt1 qs qi qe0 qx0 qx1 qm0 qm1 qn0 qh0 nz0 nz1 nk nn0
end Go.Proofs.Ytjipboafhakjfaa.MFnExactStableMatch
