/- The walk of the law FnExactCountStates: a line of calls, each by its contract. -/
import Derived.Test.YtikbfnbfbpnmjaaPFnExactCountStatesx
namespace Go.Proofs.Ytikbfnbfbpnmjaa.MFnExactCountStates
open Go.RowKit Go.Proofs.YtikbfnbfbpnmjaaW.PrintWords Go.Proofs.YtikbfnbfbpnmjaaW.PrintLast Go.Proofs.YtikbfnbfbpnmjaaW.PrintMore Go.Proofs.Ytikbfnbfbpnmjaa.PFnExactCountStates
attribute [local go_sem] max2_int min2_int max_two min_two max_three min_three max_four min_four
set_option linter.unusedVariables false
set_option linter.unusedSimpArgs false
section
variable {α : Type} {d : Kd α} {e : Nat} {W W' : World} {v : Value} {xs : List α}
theorem ob_new {b : Nat} (h : d.R e W' b (fun _ => True) v xs) : d.R e W' b (fun k => k < W'.heap.size) v xs := Kd.R_mono (Kd.R_bound h) (fun k hk => hk.2.2.1)
theorem ob_kept {lo hi lo' hi' : Nat} (h : d.R e W lo (fun k => k < hi) v xs) (hk : Kept W W' (fun k => lo' ≤ k ∧ k < hi')) (hd : hi ≤ lo' ∨ hi' ≤ lo) : d.R e W' lo (fun k => k < hi) v xs :=
  Kd.R_mono (Kd.R_kept (Kd.R_bound h) hk (fun k h1 h2 => by have := h1.1; have := h1.2.1; omega)) (fun k h => h.1)
theorem ob_own {lo hi b : Nat} (h : d.R e W lo (fun k => k < hi) v xs) (hb : b ≤ lo) : d.R e W b (fun k => lo ≤ k ∧ k < hi) v xs := Kd.R_lower (Kd.R_mono (Kd.R_bound h) (fun k h => ⟨h.2.1, h.1⟩)) hb
end
def laws_markIntSS.l0 : Nat → List (List Int) → Int → Int → Option (Int × List (List Int))
  | 0, _, _, _ => none
  | k + 1, x0, x1, x5 => if x5 < (x0.length : Int) then (if 0 ≤ x5 then ((laws_markIntS.f k (rd_L2 x0 x5) x1).bind fun bt => laws_markIntSS.l0 k (x0.set x5.toNat bt.2) bt.1 (wrap64 (x5 + 1))) else none) else some (x1, x0)
def laws_markIntSS.f (k : Nat) (l0 : List (List Int)) (a1 : Int) : Option (Int × List (List Int)) := laws_markIntSS.l0 k l0 a1 0
set_option maxHeartbeats 8000000 in
set_option maxRecDepth 100000 in
theorem laws_markIntSS.calls (k : Nat) (P0_ : Nat → Prop) (u : Value) (l0 : List (List Int)) (a1 r1 : Int) (r2 : List (List Int)) (w0 w : World) (hB : Below w0.heap.size w0 w) (ho0 : Kd.S (Kd.slice 3 (Kd.int .i64)) 22 w w0.heap.size P0_ u l0) (h : laws_markIntSS.f k l0 a1 = some (r1, r2)) :
    Calls Try.prog 81 #[u, .int .i64 a1] w fun e w' => e = .returned (.int .i64 r1) ∧ Kd.S (Kd.slice 3 (Kd.int .i64)) 22 w' w0.heap.size P0_ u r2 ∧ Below w0.heap.size w0 w' ∧ Kept w w' P0_ := by
  have HO0 := Aside0.mk ho0
  have HK := Aside0.mk (Kept.refl w P0_)
  have HB := Aside0.mk hB
  clear hB ho0
  have H' : Aside0 (laws_markIntSS.l0 k l0 a1 0 = some (r1, r2)) := ⟨h⟩
  clear h
  go_enter Try.func81, Try.ntmps81
  go_wp2
  go_loopg [1, 5] k (fun kq v1 v5 w' => ∃ (x0 : List (List Int)) (x1 x5 : Int), v1 = .int .i64 x1 ∧ v5 = .int .i64 x5 ∧ Aside0 (laws_markIntSS.l0 kq x0 x1 x5 = some (r1, r2)) ∧ Aside0 (kq ≤ k) ∧ Aside0 (Kd.S (Kd.slice 3 (Kd.int .i64)) 22 w' w0.heap.size P0_ u x0) ∧ Aside0 (Kept w w' P0_) ∧ Aside0 (Below w0.heap.size w0 w'))
  case atStart => exact ⟨l0, a1, 0, rfl, rfl, H', ⟨Nat.le_refl _⟩, HO0, HK, HB⟩
  case round =>
    clear H' HO0 HK HB
    obtain ⟨x0, x1, x5, rfl, rfl, HA, HK1, HO, HK, HB⟩ := hrel
    cases gk with
    | zero => exact absurd HA.out (by simp [laws_markIntSS.l0])
    | succ k1 =>
      have H := HA.out
      clear HA
      simp only [laws_markIntSS.l0] at H
      obtain ⟨Ao, co, eo⟩ := Kd.S_slice HO.out
      subst eo
      by_cases c3 : x5 < (x0.length : Int)
      · rw [if_pos c3] at H
        have c3b : decide (x5 < (x0.length : Int)) = true := decide_eq_true c3
        by_cases c4 : 0 ≤ x5
        · rw [if_pos c4] at H
          obtain ⟨⟨t1, t2⟩, A1, H⟩ := Option.bind_eq_some_iff.mp H
          have A2 := Aside0.mk A1
          have H' := Aside0.mk H
          clear A1
          obtain ⟨go, co', eo', gb, gl, cl, HG⟩ := Kd.S_form HO.out (by omega)
          (first | cases eo' | (injection eo' with ea_ en_ ec_; (first | subst ea_ | (injection ea_ with ea_; subst ea_)); subst ec_; clear en_))
          obtain ⟨oki, c, hcl, hM, hcc, hfr, hoki, hH⟩ := Kd.S_elem HO.out [] x5 c4 c3
          obtain ⟨ve, rfl, he⟩ := hM
          obtain ⟨Ae, ce, rfl⟩ := Kd.R_slice he
          have hX : x0.getD x5.toNat [] = rd_L2 x0 x5 := rfl
          have hx := hcc 0 _ rfl
          simp only [show (Kd.slice 3 (Kd.int .i64)).sz = 1 from rfl, Nat.mul_one, Nat.add_zero] at hx
          rw [hX] at he hx hH
          have HE := Aside0.mk he
          have HH := Aside0.mk hH
          have HI := Aside0.mk hoki
          clear he hH hoki hcc hcl hfr gb gl cl HG
          have p := eq_true c4
          have q := eq_true c3
          go_wp2_with fail
          refine (laws_markIntS.calls k1 oki _ (rd_L2 x0 x5) x1 t1 t2 w0 _ HB.out HE.out A2.out).mono ?_
          rintro e w1 ⟨rfl, hr, hb, hk⟩
          have HS := Aside0.mk (Kd.H_back (Kd.H_step HH.out (fun k _ hn hlt => hk.2 k hlt hn)) (x' := t2) (okp := fun k_ => some k_ = (Value.slice Ae (rd_L2 x0 x5).length ce).ownBlock) ⟨_, rfl, Kd.R_tight rfl hr⟩ (fun k hk_ => HE.out.1 k hk_.symm))
          have HK2 : Aside0 (Kept w w1 P0_) := ⟨Nat.le_trans HK.out.1 hk.1, fun i hi hn => (hk.2 i (Nat.lt_of_lt_of_le hi HK.out.1) (fun h => hn (HI.out i h).1)).trans (HK.out.2 i hi hn)⟩
          have HB2 := Aside0.mk hb
          clear hr hb hk HE HH HI HO HK HB hx
          go_wp2
          go_roundg k1
          case measure => have := HK1.out; omega
          case rel => exact ⟨x0.set x5.toNat t2, t1, wrap64 (x5 + 1), rfl, rfl, H', ⟨by have := HK1.out; omega⟩, HS, HK2, HB2⟩
        · rw [if_neg c4] at H
          exact absurd H (by simp)
      · rw [if_neg c3] at H
        have c3b0 : decide (x5 < (x0.length : Int)) = false := decide_eq_false c3
        clear c3
        simp only [Option.some.injEq, Prod.mk.injEq] at H
        obtain ⟨rfl, rfl⟩ := H
        go_wp2
        go_ret
        exact ⟨rfl, HO.out, HB.out, HK.out⟩
/-- A yard's six slices, each the call's own, apart from each other, between the blocks lo and hi. -/
structure Yo (W : World) (lo hi : Nat) (v0 v1 v2 v5 v6 v7 : Value) (r0 r1 r2 : List Int) (r5 : List S80) (r6 : List (List Int)) (r7 : List Int) : Prop where
  o0 : Kd.R (Kd.int .i64) 3 W lo (fun k => (some k ≠ v1.ownBlock ∧ some k ≠ v2.ownBlock ∧ some k ≠ v7.ownBlock) ∧ k < hi) v0 r0
  o1 : Kd.R (Kd.int .i64) 3 W lo (fun k => (some k ≠ v0.ownBlock ∧ some k ≠ v2.ownBlock ∧ some k ≠ v7.ownBlock) ∧ k < hi) v1 r1
  o2 : Kd.R (Kd.int .i64) 3 W lo (fun k => (some k ≠ v0.ownBlock ∧ some k ≠ v1.ownBlock ∧ some k ≠ v7.ownBlock) ∧ k < hi) v2 r2
  o5 : Kd.R k80 80 W lo (fun k => k < hi) v5 r5
  o6 : Kd.S (Kd.slice 3 (Kd.int .i64)) 22 W lo (fun k => (some k ≠ v0.ownBlock ∧ some k ≠ v1.ownBlock ∧ some k ≠ v2.ownBlock ∧ some k ≠ v7.ownBlock) ∧ k < hi) v6 r6
  o7 : Kd.R (Kd.int .i64) 3 W lo (fun k => (some k ≠ v0.ownBlock ∧ some k ≠ v1.ownBlock ∧ some k ≠ v2.ownBlock) ∧ k < hi) v7 r7
section
variable {W W2 : World} {lo hi : Nat} {v0 v1 v2 v5 v6 v7 : Value} {r0 r1 r2 : List Int} {r5 : List S80} {r6 : List (List Int)} {r7 : List Int}
theorem yo_new
    (h0 : Kd.R (Kd.int .i64) 3 W lo (fun k => some k ≠ v1.ownBlock ∧ some k ≠ v2.ownBlock ∧ some k ≠ v7.ownBlock) v0 r0)
    (h1 : Kd.R (Kd.int .i64) 3 W lo (fun k => some k ≠ v0.ownBlock ∧ some k ≠ v2.ownBlock ∧ some k ≠ v7.ownBlock) v1 r1)
    (h2 : Kd.R (Kd.int .i64) 3 W lo (fun k => some k ≠ v0.ownBlock ∧ some k ≠ v1.ownBlock ∧ some k ≠ v7.ownBlock) v2 r2)
    (h5 : Kd.R k80 80 W lo (fun _ => True) v5 r5)
    (h6 : Kd.S (Kd.slice 3 (Kd.int .i64)) 22 W lo (fun k => some k ≠ v0.ownBlock ∧ some k ≠ v1.ownBlock ∧ some k ≠ v2.ownBlock ∧ some k ≠ v7.ownBlock) v6 r6)
    (h7 : Kd.R (Kd.int .i64) 3 W lo (fun k => some k ≠ v0.ownBlock ∧ some k ≠ v1.ownBlock ∧ some k ≠ v2.ownBlock) v7 r7) : Yo W lo W.heap.size v0 v1 v2 v5 v6 v7 r0 r1 r2 r5 r6 r7 :=
  ⟨Kd.R_mono (Kd.R_bound h0) (fun k hk => ⟨hk.1, hk.2.2.1⟩), Kd.R_mono (Kd.R_bound h1) (fun k hk => ⟨hk.1, hk.2.2.1⟩), Kd.R_mono (Kd.R_bound h2) (fun k hk => ⟨hk.1, hk.2.2.1⟩), Kd.R_mono (Kd.R_bound h5) (fun k hk => hk.2.2.1), Kd.S_mono (Kd.S_bound h6) (fun k hk => ⟨hk.1, hk.2.2.1⟩), Kd.R_mono (Kd.R_bound h7) (fun k hk => ⟨hk.1, hk.2.2.1⟩)⟩
theorem yo_below (h : Yo W lo hi v0 v1 v2 v5 v6 v7 r0 r1 r2 r5 r6 r7) (hb : Below W.heap.size W W2) : Yo W2 lo hi v0 v1 v2 v5 v6 v7 r0 r1 r2 r5 r6 r7 :=
  ⟨Kd.R_below h.o0 hb, Kd.R_below h.o1 hb, Kd.R_below h.o2 hb, Kd.R_below h.o5 hb, Kd.S_below h.o6 hb, Kd.R_below h.o7 hb⟩
theorem yo_kept {S : Nat → Prop} (h : Yo W lo hi v0 v1 v2 v5 v6 v7 r0 r1 r2 r5 r6 r7) (hk : Kept W W2 S) (hS : ∀ k, lo ≤ k → k < hi → ¬ S k) : Yo W2 lo hi v0 v1 v2 v5 v6 v7 r0 r1 r2 r5 r6 r7 :=
  have q : ∀ {p p' : Prop} {k : Nat}, ((p ∧ k < hi) ∧ lo ≤ k ∧ p') → ¬ S k := fun h => hS _ h.2.1 h.1.2
  ⟨Kd.R_mono (Kd.R_kept (Kd.R_bound h.o0) hk (fun _ h => q h)) (fun _ h => h.1), Kd.R_mono (Kd.R_kept (Kd.R_bound h.o1) hk (fun _ h => q h)) (fun _ h => h.1), Kd.R_mono (Kd.R_kept (Kd.R_bound h.o2) hk (fun _ h => q h)) (fun _ h => h.1),
   Kd.R_mono (Kd.R_kept (Kd.R_bound h.o5) hk (fun _ h => hS _ h.2.1 h.1)) (fun _ h => h.1), Kd.S_mono (Kd.S_kept (Kd.S_bound h.o6) hk (fun _ h => q h)) (fun _ h => h.1), Kd.R_mono (Kd.R_kept (Kd.R_bound h.o7) hk (fun _ h => q h)) (fun _ h => h.1)⟩
/-- The six with a set of blocks of its own each. -/
structure Ya (W : World) (b g : Nat) (P0 P1 P2 P5 P6 P7 : Nat → Prop) (v0 v1 v2 v5 v6 v7 : Value) (r0 r1 r2 : List Int) (r5 : List S80) (r6 : List (List Int)) (r7 : List Int) : Prop where
  o0 : Kd.R (Kd.int .i64) 3 W b P0 v0 r0
  o1 : Kd.R (Kd.int .i64) 3 W b P1 v1 r1
  o2 : Kd.R (Kd.int .i64) 3 W b P2 v2 r2
  o5 : Kd.R k80 80 W b P5 v5 r5
  o6 : Kd.S (Kd.slice 3 (Kd.int .i64)) 22 W b P6 v6 r6
  o7 : Kd.R (Kd.int .i64) 3 W b P7 v7 r7
  d01 : ∀ k, P0 k → ¬ P1 k
  d02 : ∀ k, P0 k → ¬ P2 k
  d12 : ∀ k, P1 k → ¬ P2 k
  d05 : ∀ k, (P0 k ∨ P1 k ∨ P2 k) → ¬ P5 k
  d06 : ∀ k, (P0 k ∨ P1 k ∨ P2 k) → ¬ P6 k
  d07 : ∀ k, (P0 k ∨ P1 k ∨ P2 k) → ¬ P7 k
  d56 : ∀ k, P5 k → ¬ P6 k
  d57 : ∀ k, P5 k → ¬ P7 k
  d67 : ∀ k, P6 k → ¬ P7 k
  lt : ∀ k, (P0 k ∨ P1 k ∨ P2 k) ∨ P5 k ∨ P6 k ∨ P7 k → k < g
theorem own_lt' {α : Type} {d : Kd α} {e lo k : Nat} {p : Nat → Prop} {v : Value} {xs : List α} (h : d.R e W lo p v xs) (hk : some k = v.ownBlock) : p k ∧ lo ≤ k ∧ k < W.heap.size ∧ ∃ cells, W.heap[k]? = some (.cells cells e (0, 0)) :=
  ⟨h.1 k hk.symm, Kd.R_base h k hk.symm, Kd.R_lt h k hk.symm, Kd.R_typed h k hk.symm⟩
theorem types_ne {k a b : Nat} {x y : Array Value} (h1 : W.heap[k]? = some (.cells x a (0, 0))) (h2 : W.heap[k]? = some (.cells y b (0, 0))) : a = b := by
  rw [h1] at h2
  injection h2 with h2
  injection h2
theorem yo_split {b : Nat} (h : Yo W lo hi v0 v1 v2 v5 v6 v7 r0 r1 r2 r5 r6 r7) (hb : b ≤ lo) : ∃ P0 P1 P2 P5 P6 P7 : Nat → Prop, Ya W b W.heap.size P0 P1 P2 P5 P6 P7 v0 v1 v2 v5 v6 v7 r0 r1 r2 r5 r6 r7 ∧ ∀ k, (P0 k ∨ P1 k ∨ P2 k) ∨ P5 k ∨ P6 k ∨ P7 k → lo ≤ k ∧ k < hi := by
  have t0 : ∀ k, _ := fun k => own_lt' (k := k) h.o0
  have t1 : ∀ k, _ := fun k => own_lt' (k := k) h.o1
  have t2 : ∀ k, _ := fun k => own_lt' (k := k) h.o2
  have t5 : ∀ k, _ := fun k => own_lt' (k := k) h.o5
  have t7 : ∀ k, _ := fun k => own_lt' (k := k) h.o7
  refine ⟨fun k => some k = v0.ownBlock, fun k => some k = v1.ownBlock, fun k => some k = v2.ownBlock, fun k => some k = v5.ownBlock, _, fun k => some k = v7.ownBlock, ⟨Kd.R_lower (Kd.R_tight rfl h.o0) hb, Kd.R_lower (Kd.R_tight rfl h.o1) hb, Kd.R_lower (Kd.R_tight rfl h.o2) hb, Kd.R_lower (Kd.R_tight rfl h.o5) hb, Kd.S_lower (Kd.S_bound h.o6) hb, Kd.R_lower (Kd.R_tight rfl h.o7) hb, ?_, ?_, ?_, ?_, ?_, ?_, ?_, ?_, ?_, ?_⟩, ?_⟩
  · exact fun k h e => (t0 k h).1.1.1 e
  · exact fun k h e => (t0 k h).1.1.2.1 e
  · exact fun k h e => (t1 k h).1.1.2.1 e
  · rintro k (h | h | h) e
    · obtain ⟨_, _, _, x, hx⟩ := t0 k h; obtain ⟨_, _, _, y, hy⟩ := t5 k e; exact absurd (types_ne hx hy) (by decide)
    · obtain ⟨_, _, _, x, hx⟩ := t1 k h; obtain ⟨_, _, _, y, hy⟩ := t5 k e; exact absurd (types_ne hx hy) (by decide)
    · obtain ⟨_, _, _, x, hx⟩ := t2 k h; obtain ⟨_, _, _, y, hy⟩ := t5 k e; exact absurd (types_ne hx hy) (by decide)
  · rintro k (h | h | h) e
    · exact e.1.1.1 h
    · exact e.1.1.2.1 h
    · exact e.1.1.2.2.1 h
  · rintro k (h | h | h) e
    · exact (t7 k e).1.1.1 h
    · exact (t7 k e).1.1.2.1 h
    · exact (t7 k e).1.1.2.2 h
  · rintro k h ⟨_, _, _, q, hq, y, hy⟩
    obtain ⟨_, _, _, x, hx⟩ := t5 k h
    have e := types_ne hx hy
    subst e
    exact absurd hq (by decide)
  · intro k h e
    obtain ⟨_, _, _, x, hx⟩ := t5 k h; obtain ⟨_, _, _, y, hy⟩ := t7 k e; exact absurd (types_ne hx hy) (by decide)
  · exact fun k h e => h.1.1.2.2.2 e
  · rintro k ((h | h | h) | h | h | h)
    · exact (t0 k h).2.2.1
    · exact (t1 k h).2.2.1
    · exact (t2 k h).2.2.1
    · exact (t5 k h).2.2.1
    · exact h.2.2.1
    · exact (t7 k h).2.2.1
  · rintro k ((h | h | h) | h | h | h)
    · exact ⟨(t0 k h).2.1, (t0 k h).1.2⟩
    · exact ⟨(t1 k h).2.1, (t1 k h).1.2⟩
    · exact ⟨(t2 k h).2.1, (t2 k h).1.2⟩
    · exact ⟨(t5 k h).2.1, (t5 k h).1⟩
    · exact ⟨h.2.1, h.1.2⟩
    · exact ⟨(t7 k h).2.1, (t7 k h).1.2⟩
end
set_option maxHeartbeats 8000000 in
set_option maxRecDepth 100000 in
theorem laws_markYard.calls (k : Nat) (v0 v1 v2 v5 v6 v7 : Value) (r0 r1 r2 : List Int) (a3 a4 : Int) (r5 : List S80) (r6 : List (List Int)) (r7 : List Int) (a8 a9 a10 : Int) (a1 m1 m2 m3 m4 : Int) (y0 y1 y2 : List Int) (y5 : List S80) (y6 : List (List Int)) (y7 : List Int) (lo hi : Nat) (w0 w : World) (hB : Below w0.heap.size w0 w) (hlo : w0.heap.size ≤ lo) (hY : Yo w lo hi v0 v1 v2 v5 v6 v7 r0 r1 r2 r5 r6 r7)
    (q1 : laws_markFleet.f k r0 r1 r2 a3 a4 a1 = some (m1, y0, y1, y2)) (q2 : laws_markTruckS.f k r5 m1 = some (m2, y5)) (q3 : laws_markIntSS.f k r6 m2 = some (m3, y6)) (q4 : laws_markIntS.f k r7 m3 = some (m4, y7)) :
    Calls Try.prog 35 #[.agg #[v0, v1, v2, .int .i64 a3, .int .i64 a4, v5, v6, v7, .int .i64 a8, .int .i64 a9, .int .i64 a10], .int .i64 a1] w fun e w' => e = .returned (.int .i64 m4) ∧ Below w0.heap.size w0 w' ∧ Kept w w' (fun k_ => lo ≤ k_ ∧ k_ < hi) := by
  have hu44 := Try.underlying44
  have hu27 := Try.underlying27
  obtain ⟨P0, P1, P2, P5, P6, P7, hA, hR⟩ := yo_split hY hlo
  have HA := Aside0.mk hA
  have HR := Aside0.mk hR
  have HB := Aside0.mk hB
  have Q1 := Aside0.mk q1
  have Q2 := Aside0.mk q2
  have Q3 := Aside0.mk q3
  have Q4 := Aside0.mk q4
  obtain ⟨A0, c0, e0⟩ := Kd.R_slice HA.out.o0
  obtain ⟨A1, c1, e1⟩ := Kd.R_slice HA.out.o1
  obtain ⟨A2, c2, e2⟩ := Kd.R_slice HA.out.o2
  obtain ⟨A5, c5, e5⟩ := Kd.R_slice HA.out.o5
  obtain ⟨A6, c6, e6⟩ := Kd.S_slice HA.out.o6
  obtain ⟨A7, c7, e7⟩ := Kd.R_slice HA.out.o7
  subst e0 e1 e2 e5 e6 e7
  clear hA hR hB q1 q2 q3 q4 hY
  go_enter Try.func35, Try.ntmps35
  go_wp2_with (first | ((with_reducible refine gate_dst (N := 2) rfl ?_); refine box_event ?hg (N := 2) ?hd (cs := #[.slice A0 r0.length c0, .slice A1 r1.length c1, .slice A2 r2.length c2, .int .i64 a3, .int .i64 a4, .slice A5 r5.length c5, .slice A6 r6.length c6, .slice A7 r7.length c7, .int .i64 a8, .int .i64 a9, .int .i64 a10]) (t := 44) ?hr ?_; (case hd => rfl); (case hg => rfl); (case hr => first | (go_simp; done) | (go_simp; rfl)); intro gb hg W1 hbox hb; have BK := Aside0.mk hbox; have HB1 := Aside0.mk hb; have HG := Aside0.mk hg; clear hbox hb hg; have cz0 : W1.cell? ⟨gb, 0, none⟩ = some (.slice A0 r0.length c0) := (blk_cell BK.out 0).trans rfl; have cz1 : W1.cell? ⟨gb, 1, none⟩ = some (.slice A1 r1.length c1) := (blk_cell BK.out 1).trans rfl; have cz2 : W1.cell? ⟨gb, 2, none⟩ = some (.slice A2 r2.length c2) := (blk_cell BK.out 2).trans rfl; have cz3 : W1.cell? ⟨gb, 3, none⟩ = some (.int .i64 a3) := (blk_cell BK.out 3).trans rfl; have cz4 : W1.cell? ⟨gb, 4, none⟩ = some (.int .i64 a4) := (blk_cell BK.out 4).trans rfl; have cz5 : W1.cell? ⟨gb, 5, none⟩ = some (.slice A5 r5.length c5) := (blk_cell BK.out 5).trans rfl; have cz6 : W1.cell? ⟨gb, 6, none⟩ = some (.slice A6 r6.length c6) := (blk_cell BK.out 6).trans rfl; have cz7 : W1.cell? ⟨gb, 7, none⟩ = some (.slice A7 r7.length c7) := (blk_cell BK.out 7).trans rfl; have cz8 : W1.cell? ⟨gb, 8, none⟩ = some (.int .i64 a8) := (blk_cell BK.out 8).trans rfl; have cz9 : W1.cell? ⟨gb, 9, none⟩ = some (.int .i64 a9) := (blk_cell BK.out 9).trans rfl; have cz10 : W1.cell? ⟨gb, 10, none⟩ = some (.int .i64 a10) := (blk_cell BK.out 10).trans rfl; have fcz0 := blk_frozen BK.out 0; have fcz1 := blk_frozen BK.out 1; have fcz2 := blk_frozen BK.out 2; have fcz3 := blk_frozen BK.out 3; have fcz4 := blk_frozen BK.out 4; have fcz5 := blk_frozen BK.out 5; have fcz6 := blk_frozen BK.out 6; have fcz7 := blk_frozen BK.out 7; have fcz8 := blk_frozen BK.out 8; have fcz9 := blk_frozen BK.out 9; have fcz10 := blk_frozen BK.out 10))
  have X := Aside0.mk (show Kd.R (Kd.int .i64) 3 W1 w0.heap.size P0 (.slice A0 r0.length c0) r0 from Kd.R_below HA.out.o0 HB1.out)
  refine (laws_markFleet.calls k P0 _ r0 P1 _ r1 P2 _ r2 a3 a4 a1 m1 y0 y1 y2 w0 W1 (below_step HB.out HB1.out) X.out HA.out.d01 HA.out.d02 (Kd.R_below HA.out.o1 HB1.out) (fun k h h' => HA.out.d01 k h' h) HA.out.d12 (Kd.R_below HA.out.o2 HB1.out) (fun k h h' => HA.out.d02 k h' h) (fun k h h' => HA.out.d12 k h' h) Q1.out).mono ?_
  rintro e W2 ⟨rfl, -, -, -, hB2, hk2⟩
  have HK2 := Aside0.mk hk2
  have HB2 := Aside0.mk hB2
  have BK2 := Aside0.mk (blk_kept BK.out hk2 (fun h => Nat.lt_irrefl _ (Nat.lt_of_lt_of_le (HA.out.lt _ (.inl h)) (Nat.le_of_eq HG.out.symm))))
  have O5 := Aside0.mk (Kd.R_kept (Kd.R_below HA.out.o5 HB1.out) hk2 (fun k h h' => HA.out.d05 k h' h))
  have O6 := Aside0.mk (Kd.S_kept (Kd.S_below HA.out.o6 HB1.out) hk2 (fun k h h' => HA.out.d06 k h' h))
  have O7 := Aside0.mk (Kd.R_kept (Kd.R_below HA.out.o7 HB1.out) hk2 (fun k h h' => HA.out.d07 k h' h))
  clear hk2 hB2 cz0 fcz0 cz1 fcz1 cz2 fcz2 cz3 fcz3 cz4 fcz4 cz5 fcz5 cz6 fcz6 cz7 fcz7 cz8 fcz8 cz9 fcz9 cz10 fcz10
  have cz0 : W2.cell? ⟨gb, 0, none⟩ = some (.slice A0 r0.length c0) := (blk_cell BK2.out 0).trans rfl
  have cz1 : W2.cell? ⟨gb, 1, none⟩ = some (.slice A1 r1.length c1) := (blk_cell BK2.out 1).trans rfl
  have cz2 : W2.cell? ⟨gb, 2, none⟩ = some (.slice A2 r2.length c2) := (blk_cell BK2.out 2).trans rfl
  have cz3 : W2.cell? ⟨gb, 3, none⟩ = some (.int .i64 a3) := (blk_cell BK2.out 3).trans rfl
  have cz4 : W2.cell? ⟨gb, 4, none⟩ = some (.int .i64 a4) := (blk_cell BK2.out 4).trans rfl
  have cz5 : W2.cell? ⟨gb, 5, none⟩ = some (.slice A5 r5.length c5) := (blk_cell BK2.out 5).trans rfl
  have cz6 : W2.cell? ⟨gb, 6, none⟩ = some (.slice A6 r6.length c6) := (blk_cell BK2.out 6).trans rfl
  have cz7 : W2.cell? ⟨gb, 7, none⟩ = some (.slice A7 r7.length c7) := (blk_cell BK2.out 7).trans rfl
  have cz8 : W2.cell? ⟨gb, 8, none⟩ = some (.int .i64 a8) := (blk_cell BK2.out 8).trans rfl
  have cz9 : W2.cell? ⟨gb, 9, none⟩ = some (.int .i64 a9) := (blk_cell BK2.out 9).trans rfl
  have cz10 : W2.cell? ⟨gb, 10, none⟩ = some (.int .i64 a10) := (blk_cell BK2.out 10).trans rfl
  have fcz0 := blk_frozen BK2.out 0
  have fcz1 := blk_frozen BK2.out 1
  have fcz2 := blk_frozen BK2.out 2
  have fcz3 := blk_frozen BK2.out 3
  have fcz4 := blk_frozen BK2.out 4
  have fcz5 := blk_frozen BK2.out 5
  have fcz6 := blk_frozen BK2.out 6
  have fcz7 := blk_frozen BK2.out 7
  have fcz8 := blk_frozen BK2.out 8
  have fcz9 := blk_frozen BK2.out 9
  have fcz10 := blk_frozen BK2.out 10
  go_wp2_with fail
  refine (laws_markTruckS.calls k P5 _ r5 m1 m2 y5 w0 W2 HB2.out O5.out Q2.out).mono ?_
  rintro e W3 ⟨rfl, -, hB3, hk3⟩
  have HK3 := Aside0.mk hk3
  have HB3 := Aside0.mk hB3
  have BK3 := Aside0.mk (blk_kept BK2.out hk3 (fun h => Nat.lt_irrefl _ (Nat.lt_of_lt_of_le (HA.out.lt _ (.inr (.inl h))) (Nat.le_of_eq HG.out.symm))))
  have P6_ := Aside0.mk (Kd.S_kept O6.out hk3 (fun k h h' => HA.out.d56 k h' h))
  have P7_ := Aside0.mk (Kd.R_kept O7.out hk3 (fun k h h' => HA.out.d57 k h' h))
  clear hk3 hB3 cz0 fcz0 cz1 fcz1 cz2 fcz2 cz3 fcz3 cz4 fcz4 cz5 fcz5 cz6 fcz6 cz7 fcz7 cz8 fcz8 cz9 fcz9 cz10 fcz10
  have cz0 : W3.cell? ⟨gb, 0, none⟩ = some (.slice A0 r0.length c0) := (blk_cell BK3.out 0).trans rfl
  have cz1 : W3.cell? ⟨gb, 1, none⟩ = some (.slice A1 r1.length c1) := (blk_cell BK3.out 1).trans rfl
  have cz2 : W3.cell? ⟨gb, 2, none⟩ = some (.slice A2 r2.length c2) := (blk_cell BK3.out 2).trans rfl
  have cz3 : W3.cell? ⟨gb, 3, none⟩ = some (.int .i64 a3) := (blk_cell BK3.out 3).trans rfl
  have cz4 : W3.cell? ⟨gb, 4, none⟩ = some (.int .i64 a4) := (blk_cell BK3.out 4).trans rfl
  have cz5 : W3.cell? ⟨gb, 5, none⟩ = some (.slice A5 r5.length c5) := (blk_cell BK3.out 5).trans rfl
  have cz6 : W3.cell? ⟨gb, 6, none⟩ = some (.slice A6 r6.length c6) := (blk_cell BK3.out 6).trans rfl
  have cz7 : W3.cell? ⟨gb, 7, none⟩ = some (.slice A7 r7.length c7) := (blk_cell BK3.out 7).trans rfl
  have cz8 : W3.cell? ⟨gb, 8, none⟩ = some (.int .i64 a8) := (blk_cell BK3.out 8).trans rfl
  have cz9 : W3.cell? ⟨gb, 9, none⟩ = some (.int .i64 a9) := (blk_cell BK3.out 9).trans rfl
  have cz10 : W3.cell? ⟨gb, 10, none⟩ = some (.int .i64 a10) := (blk_cell BK3.out 10).trans rfl
  have fcz0 := blk_frozen BK3.out 0
  have fcz1 := blk_frozen BK3.out 1
  have fcz2 := blk_frozen BK3.out 2
  have fcz3 := blk_frozen BK3.out 3
  have fcz4 := blk_frozen BK3.out 4
  have fcz5 := blk_frozen BK3.out 5
  have fcz6 := blk_frozen BK3.out 6
  have fcz7 := blk_frozen BK3.out 7
  have fcz8 := blk_frozen BK3.out 8
  have fcz9 := blk_frozen BK3.out 9
  have fcz10 := blk_frozen BK3.out 10
  go_wp2_with fail
  refine (laws_markIntSS.calls k P6 _ r6 m2 m3 y6 w0 W3 HB3.out P6_.out Q3.out).mono ?_
  rintro e W4 ⟨rfl, -, hB4, hk4⟩
  have HK4 := Aside0.mk hk4
  have HB4 := Aside0.mk hB4
  have BK4 := Aside0.mk (blk_kept BK3.out hk4 (fun h => Nat.lt_irrefl _ (Nat.lt_of_lt_of_le (HA.out.lt _ (.inr (.inr (.inl h)))) (Nat.le_of_eq HG.out.symm))))
  have S7_ := Aside0.mk (Kd.R_kept P7_.out hk4 (fun k h h' => HA.out.d67 k h' h))
  clear hk4 hB4 cz0 fcz0 cz1 fcz1 cz2 fcz2 cz3 fcz3 cz4 fcz4 cz5 fcz5 cz6 fcz6 cz7 fcz7 cz8 fcz8 cz9 fcz9 cz10 fcz10
  have cz0 : W4.cell? ⟨gb, 0, none⟩ = some (.slice A0 r0.length c0) := (blk_cell BK4.out 0).trans rfl
  have cz1 : W4.cell? ⟨gb, 1, none⟩ = some (.slice A1 r1.length c1) := (blk_cell BK4.out 1).trans rfl
  have cz2 : W4.cell? ⟨gb, 2, none⟩ = some (.slice A2 r2.length c2) := (blk_cell BK4.out 2).trans rfl
  have cz3 : W4.cell? ⟨gb, 3, none⟩ = some (.int .i64 a3) := (blk_cell BK4.out 3).trans rfl
  have cz4 : W4.cell? ⟨gb, 4, none⟩ = some (.int .i64 a4) := (blk_cell BK4.out 4).trans rfl
  have cz5 : W4.cell? ⟨gb, 5, none⟩ = some (.slice A5 r5.length c5) := (blk_cell BK4.out 5).trans rfl
  have cz6 : W4.cell? ⟨gb, 6, none⟩ = some (.slice A6 r6.length c6) := (blk_cell BK4.out 6).trans rfl
  have cz7 : W4.cell? ⟨gb, 7, none⟩ = some (.slice A7 r7.length c7) := (blk_cell BK4.out 7).trans rfl
  have cz8 : W4.cell? ⟨gb, 8, none⟩ = some (.int .i64 a8) := (blk_cell BK4.out 8).trans rfl
  have cz9 : W4.cell? ⟨gb, 9, none⟩ = some (.int .i64 a9) := (blk_cell BK4.out 9).trans rfl
  have cz10 : W4.cell? ⟨gb, 10, none⟩ = some (.int .i64 a10) := (blk_cell BK4.out 10).trans rfl
  have fcz0 := blk_frozen BK4.out 0
  have fcz1 := blk_frozen BK4.out 1
  have fcz2 := blk_frozen BK4.out 2
  have fcz3 := blk_frozen BK4.out 3
  have fcz4 := blk_frozen BK4.out 4
  have fcz5 := blk_frozen BK4.out 5
  have fcz6 := blk_frozen BK4.out 6
  have fcz7 := blk_frozen BK4.out 7
  have fcz8 := blk_frozen BK4.out 8
  have fcz9 := blk_frozen BK4.out 9
  have fcz10 := blk_frozen BK4.out 10
  go_wp2_with fail
  refine (laws_markIntS.calls k P7 _ r7 m3 m4 y7 w0 W4 HB4.out S7_.out Q4.out).mono ?_
  rintro e W5 ⟨rfl, -, hB5, hk5⟩
  have HK5 := Aside0.mk hk5
  have HB5 := Aside0.mk hB5
  clear hk5 hB5 cz0 fcz0 cz1 fcz1 cz2 fcz2 cz3 fcz3 cz4 fcz4 cz5 fcz5 cz6 fcz6 cz7 fcz7 cz8 fcz8 cz9 fcz9 cz10 fcz10
  go_wp2
  go_ret
  exact ⟨rfl, HB5.out, ((((Kept.of_below HB1.out _).then_ HK2.out (fun k h => .inl (HR.out k (.inl h)))).then_ HK3.out (fun k h => .inl (HR.out k (.inr (.inl h))))).then_ HK4.out (fun k h => .inl (HR.out k (.inr (.inr (.inl h)))))).then_ HK5.out (fun k h => .inl (HR.out k (.inr (.inr (.inr h)))))⟩
theorem kept_box {w W : World} {g : Nat} (h : Kept w W (fun k => k = g)) (i : Nat) (u : Value) : Kept w (W.setCell ⟨g, i, none⟩ u) (fun k => k = g) := h.setCell (.inl rfl) u
theorem below_box {w W : World} {b g : Nat} (h : Below b w W) (hg : b ≤ g) (i : Nat) (u : Value) : Below b w (W.setCell ⟨g, i, none⟩ u) := h.setCell hg u
set_option maxHeartbeats 8000000 in
set_option maxRecDepth 100000 in
theorem law_sz (k : Nat) (A0 : Option Addr) (c0 : Nat) (l0 : List Int) (A1 : Option Addr) (c1 : Nat) (l1 : List Int) (A2 : Option Addr) (c2 : Nat) (l2 : List Int) (a3 : Int) (a4 : Int) (A5 : Option Addr) (c5 : Nat) (l5 : List S103) (A6 : Option Addr) (c6 : Nat) (l6 : List (List Int)) (A7 : Option Addr) (c7 : Nat) (l7 : List Int) (a8 : Int) (a9 : Int) (a10 : Int) (z : Int) (w : World) (hr0 : Kd.C (Kd.int .i64) w A0 l0.length l0) (hc0 : l0.length ≤ c0) (hr1 : Kd.C (Kd.int .i64) w A1 l1.length l1) (hc1 : l1.length ≤ c1) (hr2 : Kd.C (Kd.int .i64) w A2 l2.length l2) (hc2 : l2.length ≤ c2) (hr5 : Kd.C k103 w A5 l5.length l5) (hc5 : l5.length ≤ c5) (hr6 : Kd.C (Kd.slice 3 (Kd.int .i64)) w A6 l6.length l6) (hc6 : l6.length ≤ c6) (hr7 : Kd.C (Kd.int .i64) w A7 l7.length l7) (hc7 : l7.length ≤ c7) (qz : laws_szYard.f k l0 l1 l2 a3 a4 l5 l6 l7 a8 a9 a10 1048576 = some z) (nz : z < 0) :
    Calls Try.prog 8 #[.agg #[.slice A0 l0.length c0, .slice A1 l1.length c1, .slice A2 l2.length c2, .int .i64 a3, .int .i64 a4, .slice A5 l5.length c5, .slice A6 l6.length c6, .slice A7 l7.length c7, .int .i64 a8, .int .i64 a9, .int .i64 a10]] w fun e w' => e = .returned (.bool true) ∧ Below w.heap.size w w' := by
  have hu39 := Try.underlying39
  have hu44 := Try.underlying44
  have HR0 := Aside0.mk hr0
  have HC0 := Aside0.mk hc0
  have HR1 := Aside0.mk hr1
  have HC1 := Aside0.mk hc1
  have HR2 := Aside0.mk hr2
  have HC2 := Aside0.mk hc2
  have HR5 := Aside0.mk hr5
  have HC5 := Aside0.mk hc5
  have HR6 := Aside0.mk hr6
  have HC6 := Aside0.mk hc6
  have HR7 := Aside0.mk hr7
  have HC7 := Aside0.mk hc7
  have Qz := Aside0.mk qz
  have dnz : decide (z < 0) = true := decide_eq_true nz
  clear hr0 hc0 hr1 hc1 hr2 hc2 hr5 hc5 hr6 hc6 hr7 hc7 qz nz
  have HB := Aside0.mk (Below.refl w.heap.size w)
  go_enter Try.func8, Try.ntmps8
  go_wp2_with (first | ((with_reducible refine gate_dst (N := 1) rfl ?_); refine box_event ?hg (N := 1) ?hd (cs := #[.slice A0 l0.length c0, .slice A1 l1.length c1, .slice A2 l2.length c2, .int .i64 a3, .int .i64 a4, .slice A5 l5.length c5, .slice A6 l6.length c6, .slice A7 l7.length c7, .int .i64 a8, .int .i64 a9, .int .i64 a10]) (t := 39) ?hr ?_; (case hd => rfl); (case hg => rfl); (case hr => first | (go_simp; done) | (go_simp; rfl)); intro gb hg w1 hbox hb; have BK := Aside0.mk hbox; have G_gb := Aside0.mk hg; have hb_ := Aside0.mk hb; clear hbox hb hg; have cz0 : w1.cell? ⟨gb, 0, none⟩ = some (.slice A0 l0.length c0) := (blk_cell BK.out 0).trans rfl; have cz1 : w1.cell? ⟨gb, 1, none⟩ = some (.slice A1 l1.length c1) := (blk_cell BK.out 1).trans rfl; have cz2 : w1.cell? ⟨gb, 2, none⟩ = some (.slice A2 l2.length c2) := (blk_cell BK.out 2).trans rfl; have cz3 : w1.cell? ⟨gb, 3, none⟩ = some (.int .i64 a3) := (blk_cell BK.out 3).trans rfl; have cz4 : w1.cell? ⟨gb, 4, none⟩ = some (.int .i64 a4) := (blk_cell BK.out 4).trans rfl; have cz5 : w1.cell? ⟨gb, 5, none⟩ = some (.slice A5 l5.length c5) := (blk_cell BK.out 5).trans rfl; have cz6 : w1.cell? ⟨gb, 6, none⟩ = some (.slice A6 l6.length c6) := (blk_cell BK.out 6).trans rfl; have cz7 : w1.cell? ⟨gb, 7, none⟩ = some (.slice A7 l7.length c7) := (blk_cell BK.out 7).trans rfl; have cz8 : w1.cell? ⟨gb, 8, none⟩ = some (.int .i64 a8) := (blk_cell BK.out 8).trans rfl; have cz9 : w1.cell? ⟨gb, 9, none⟩ = some (.int .i64 a9) := (blk_cell BK.out 9).trans rfl; have cz10 : w1.cell? ⟨gb, 10, none⟩ = some (.int .i64 a10) := (blk_cell BK.out 10).trans rfl; have fcz0 := blk_frozen BK.out 0; have fcz1 := blk_frozen BK.out 1; have fcz2 := blk_frozen BK.out 2; have fcz3 := blk_frozen BK.out 3; have fcz4 := blk_frozen BK.out 4; have fcz5 := blk_frozen BK.out 5; have fcz6 := blk_frozen BK.out 6; have fcz7 := blk_frozen BK.out 7; have fcz8 := blk_frozen BK.out 8; have fcz9 := blk_frozen BK.out 9; have fcz10 := blk_frozen BK.out 10))
  have t_HB := Aside0.mk (below_step HB.out hb_.out)
  have SZ1 := Aside0.mk hb_.out.size
  clear HB hb_
  have HB := t_HB
  clear t_HB
  refine (laws_szYard.calls k _ _ l0 _ _ l1 _ _ l2 a3 a4 _ _ l5 _ _ l6 _ _ l7 a8 a9 a10 1048576 z _ (Kd.C_below HR0.out HB.out) HC0.out (Kd.C_below HR1.out HB.out) HC1.out (Kd.C_below HR2.out HB.out) HC2.out (Kd.C_below HR5.out HB.out) HC5.out (Kd.C_below HR6.out HB.out) HC6.out (Kd.C_below HR7.out HB.out) HC7.out Qz.out).mono ?_
  rintro e w2 ⟨rfl, hd⟩
  have hb := hd
  clear cz0 fcz0 cz1 fcz1 cz2 fcz2 cz3 fcz3 cz4 fcz4 cz5 fcz5 cz6 fcz6 cz7 fcz7 cz8 fcz8 cz9 fcz9 cz10 fcz10
  have t_BK := Aside0.mk (blk_below BK.out hb)
  have t_HB := Aside0.mk (below_step HB.out hb)
  have SZ2 := Aside0.mk hb.size
  clear HB BK
  have HB := t_HB
  have BK := t_BK
  clear t_HB t_BK
  clear hb hd
  have cz0 : w2.cell? ⟨gb, 0, none⟩ = some (.slice A0 l0.length c0) := (blk_cell BK.out 0).trans rfl
  have cz1 : w2.cell? ⟨gb, 1, none⟩ = some (.slice A1 l1.length c1) := (blk_cell BK.out 1).trans rfl
  have cz2 : w2.cell? ⟨gb, 2, none⟩ = some (.slice A2 l2.length c2) := (blk_cell BK.out 2).trans rfl
  have cz3 : w2.cell? ⟨gb, 3, none⟩ = some (.int .i64 a3) := (blk_cell BK.out 3).trans rfl
  have cz4 : w2.cell? ⟨gb, 4, none⟩ = some (.int .i64 a4) := (blk_cell BK.out 4).trans rfl
  have cz5 : w2.cell? ⟨gb, 5, none⟩ = some (.slice A5 l5.length c5) := (blk_cell BK.out 5).trans rfl
  have cz6 : w2.cell? ⟨gb, 6, none⟩ = some (.slice A6 l6.length c6) := (blk_cell BK.out 6).trans rfl
  have cz7 : w2.cell? ⟨gb, 7, none⟩ = some (.slice A7 l7.length c7) := (blk_cell BK.out 7).trans rfl
  have cz8 : w2.cell? ⟨gb, 8, none⟩ = some (.int .i64 a8) := (blk_cell BK.out 8).trans rfl
  have cz9 : w2.cell? ⟨gb, 9, none⟩ = some (.int .i64 a9) := (blk_cell BK.out 9).trans rfl
  have cz10 : w2.cell? ⟨gb, 10, none⟩ = some (.int .i64 a10) := (blk_cell BK.out 10).trans rfl
  have fcz0 := blk_frozen BK.out 0
  have fcz1 := blk_frozen BK.out 1
  have fcz2 := blk_frozen BK.out 2
  have fcz3 := blk_frozen BK.out 3
  have fcz4 := blk_frozen BK.out 4
  have fcz5 := blk_frozen BK.out 5
  have fcz6 := blk_frozen BK.out 6
  have fcz7 := blk_frozen BK.out 7
  have fcz8 := blk_frozen BK.out 8
  have fcz9 := blk_frozen BK.out 9
  have fcz10 := blk_frozen BK.out 10
  go_wp2
  go_ret
  exact ⟨rfl, HB.out⟩
set_option maxHeartbeats 8000000 in
set_option maxRecDepth 100000 in
theorem law_calls (k : Nat) (A0 : Option Addr) (c0 : Nat) (l0 : List Int) (A1 : Option Addr) (c1 : Nat) (l1 : List Int) (A2 : Option Addr) (c2 : Nat) (l2 : List Int) (a3 : Int) (a4 : Int) (A5 : Option Addr) (c5 : Nat) (l5 : List S103) (A6 : Option Addr) (c6 : Nat) (l6 : List (List Int)) (A7 : Option Addr) (c7 : Nat) (l7 : List Int) (a8 : Int) (a9 : Int) (a10 : Int) (x5 : List S80) (z m1 m2 m3 m4 n0 : Int) (y0 y1 y2 y7 g0 h0 : List Int) (g1 : Bool) (y5 : List S80) (y6 : List (List Int)) (w : World) (hr0 : Kd.C (Kd.int .i64) w A0 l0.length l0) (hc0 : l0.length ≤ c0) (hr1 : Kd.C (Kd.int .i64) w A1 l1.length l1) (hc1 : l1.length ≤ c1) (hr2 : Kd.C (Kd.int .i64) w A2 l2.length l2) (hc2 : l2.length ≤ c2) (hr5 : Kd.C k103 w A5 l5.length l5) (hc5 : l5.length ≤ c5) (hr6 : Kd.C (Kd.slice 3 (Kd.int .i64)) w A6 l6.length l6) (hc6 : l6.length ≤ c6) (hr7 : Kd.C (Kd.int .i64) w A7 l7.length l7) (hc7 : l7.length ≤ c7) (qz : laws_szYard.f k l0 l1 l2 a3 a4 l5 l6 l7 a8 a9 a10 1048576 = some z) (qt : laws_toYard.f k l0 l1 l2 a3 a4 l5 l6 l7 a8 a9 a10 = some (l0, l1, l2, a3, a4, x5, l6, l7, a8, a9, a10)) (qs : spec_CountStates.f k l0 l1 l2 a3 a4 x5 l6 l7 a8 a9 a10 = some (g0, g1)) (qi : impl_CountStates.f k l0 l1 l2 a3 a4 x5 l6 l7 a8 a9 a10 = some (g0, g1)) (qe : laws_eqIntS.f k g0 g0 = some true) (qx : laws_eqYard.f k l0 l1 l2 a3 a4 x5 l6 l7 a8 a9 a10 l0 l1 l2 a3 a4 x5 l6 l7 a8 a9 a10 = some true) (q1 : laws_markFleet.f k l0 l1 l2 a3 a4 1 = some (m1, y0, y1, y2)) (q2 : laws_markTruckS.f k x5 m1 = some (m2, y5)) (q3 : laws_markIntSS.f k l6 m2 = some (m3, y6)) (q4 : laws_markIntS.f k l7 m3 = some (m4, y7)) (qn : laws_markIntS.f k g0 1 = some (n0, h0)) (qh : laws_heldIntS.f k h0 1 = some n0) (nz : ¬ z < 0) (nm : ¬ m4 < 0) (nn : ¬ n0 < 0) :
    Calls Try.prog 8 #[.agg #[.slice A0 l0.length c0, .slice A1 l1.length c1, .slice A2 l2.length c2, .int .i64 a3, .int .i64 a4, .slice A5 l5.length c5, .slice A6 l6.length c6, .slice A7 l7.length c7, .int .i64 a8, .int .i64 a9, .int .i64 a10]] w fun e w' => e = .returned (.bool true) ∧ Below w.heap.size w w' := by
  have hu39 := Try.underlying39
  have hu44 := Try.underlying44
  have HR0 := Aside0.mk hr0
  have HC0 := Aside0.mk hc0
  have HR1 := Aside0.mk hr1
  have HC1 := Aside0.mk hc1
  have HR2 := Aside0.mk hr2
  have HC2 := Aside0.mk hc2
  have HR5 := Aside0.mk hr5
  have HC5 := Aside0.mk hc5
  have HR6 := Aside0.mk hr6
  have HC6 := Aside0.mk hc6
  have HR7 := Aside0.mk hr7
  have HC7 := Aside0.mk hc7
  have Qz := Aside0.mk qz
  have Qt := Aside0.mk qt
  have Qs := Aside0.mk qs
  have Qi := Aside0.mk qi
  have Qe := Aside0.mk qe
  have Qx := Aside0.mk qx
  have Q1 := Aside0.mk q1
  have Q2 := Aside0.mk q2
  have Q3 := Aside0.mk q3
  have Q4 := Aside0.mk q4
  have Qn := Aside0.mk qn
  have Qh := Aside0.mk qh
  have dnz : decide (z < 0) = false := decide_eq_false nz
  have dnm : decide (m4 < 0) = false := decide_eq_false nm
  have dnn : decide (n0 < 0) = false := decide_eq_false nn
  clear hr0 hc0 hr1 hc1 hr2 hc2 hr5 hc5 hr6 hc6 hr7 hc7 qz qt qs qi qe qx q1 q2 q3 q4 qn qh nz nm nn
  have HB := Aside0.mk (Below.refl w.heap.size w)
  go_enter Try.func8, Try.ntmps8
  go_wp2_with (first | ((with_reducible refine gate_dst (N := 1) rfl ?_); refine box_event ?hg (N := 1) ?hd (cs := #[.slice A0 l0.length c0, .slice A1 l1.length c1, .slice A2 l2.length c2, .int .i64 a3, .int .i64 a4, .slice A5 l5.length c5, .slice A6 l6.length c6, .slice A7 l7.length c7, .int .i64 a8, .int .i64 a9, .int .i64 a10]) (t := 39) ?hr ?_; (case hd => rfl); (case hg => rfl); (case hr => first | (go_simp; done) | (go_simp; rfl)); intro gb hg w1 hbox hb; have BK := Aside0.mk hbox; have G_gb := Aside0.mk hg; have hb_ := Aside0.mk hb; clear hbox hb hg; have cz0 : w1.cell? ⟨gb, 0, none⟩ = some (.slice A0 l0.length c0) := (blk_cell BK.out 0).trans rfl; have cz1 : w1.cell? ⟨gb, 1, none⟩ = some (.slice A1 l1.length c1) := (blk_cell BK.out 1).trans rfl; have cz2 : w1.cell? ⟨gb, 2, none⟩ = some (.slice A2 l2.length c2) := (blk_cell BK.out 2).trans rfl; have cz3 : w1.cell? ⟨gb, 3, none⟩ = some (.int .i64 a3) := (blk_cell BK.out 3).trans rfl; have cz4 : w1.cell? ⟨gb, 4, none⟩ = some (.int .i64 a4) := (blk_cell BK.out 4).trans rfl; have cz5 : w1.cell? ⟨gb, 5, none⟩ = some (.slice A5 l5.length c5) := (blk_cell BK.out 5).trans rfl; have cz6 : w1.cell? ⟨gb, 6, none⟩ = some (.slice A6 l6.length c6) := (blk_cell BK.out 6).trans rfl; have cz7 : w1.cell? ⟨gb, 7, none⟩ = some (.slice A7 l7.length c7) := (blk_cell BK.out 7).trans rfl; have cz8 : w1.cell? ⟨gb, 8, none⟩ = some (.int .i64 a8) := (blk_cell BK.out 8).trans rfl; have cz9 : w1.cell? ⟨gb, 9, none⟩ = some (.int .i64 a9) := (blk_cell BK.out 9).trans rfl; have cz10 : w1.cell? ⟨gb, 10, none⟩ = some (.int .i64 a10) := (blk_cell BK.out 10).trans rfl; have fcz0 := blk_frozen BK.out 0; have fcz1 := blk_frozen BK.out 1; have fcz2 := blk_frozen BK.out 2; have fcz3 := blk_frozen BK.out 3; have fcz4 := blk_frozen BK.out 4; have fcz5 := blk_frozen BK.out 5; have fcz6 := blk_frozen BK.out 6; have fcz7 := blk_frozen BK.out 7; have fcz8 := blk_frozen BK.out 8; have fcz9 := blk_frozen BK.out 9; have fcz10 := blk_frozen BK.out 10))
  have t_HB := Aside0.mk (below_step HB.out hb_.out)
  have SZ1 := Aside0.mk hb_.out.size
  clear HB hb_
  have HB := t_HB
  clear t_HB
  refine (laws_szYard.calls k _ _ l0 _ _ l1 _ _ l2 a3 a4 _ _ l5 _ _ l6 _ _ l7 a8 a9 a10 1048576 z _ (Kd.C_below HR0.out HB.out) HC0.out (Kd.C_below HR1.out HB.out) HC1.out (Kd.C_below HR2.out HB.out) HC2.out (Kd.C_below HR5.out HB.out) HC5.out (Kd.C_below HR6.out HB.out) HC6.out (Kd.C_below HR7.out HB.out) HC7.out Qz.out).mono ?_
  rintro e w2 ⟨rfl, hd⟩
  have hb := hd
  clear cz0 fcz0 cz1 fcz1 cz2 fcz2 cz3 fcz3 cz4 fcz4 cz5 fcz5 cz6 fcz6 cz7 fcz7 cz8 fcz8 cz9 fcz9 cz10 fcz10
  have t_BK := Aside0.mk (blk_below BK.out hb)
  have t_HB := Aside0.mk (below_step HB.out hb)
  have SZ2 := Aside0.mk hb.size
  clear HB BK
  have HB := t_HB
  have BK := t_BK
  clear t_HB t_BK
  clear hb hd
  have cz0 : w2.cell? ⟨gb, 0, none⟩ = some (.slice A0 l0.length c0) := (blk_cell BK.out 0).trans rfl
  have cz1 : w2.cell? ⟨gb, 1, none⟩ = some (.slice A1 l1.length c1) := (blk_cell BK.out 1).trans rfl
  have cz2 : w2.cell? ⟨gb, 2, none⟩ = some (.slice A2 l2.length c2) := (blk_cell BK.out 2).trans rfl
  have cz3 : w2.cell? ⟨gb, 3, none⟩ = some (.int .i64 a3) := (blk_cell BK.out 3).trans rfl
  have cz4 : w2.cell? ⟨gb, 4, none⟩ = some (.int .i64 a4) := (blk_cell BK.out 4).trans rfl
  have cz5 : w2.cell? ⟨gb, 5, none⟩ = some (.slice A5 l5.length c5) := (blk_cell BK.out 5).trans rfl
  have cz6 : w2.cell? ⟨gb, 6, none⟩ = some (.slice A6 l6.length c6) := (blk_cell BK.out 6).trans rfl
  have cz7 : w2.cell? ⟨gb, 7, none⟩ = some (.slice A7 l7.length c7) := (blk_cell BK.out 7).trans rfl
  have cz8 : w2.cell? ⟨gb, 8, none⟩ = some (.int .i64 a8) := (blk_cell BK.out 8).trans rfl
  have cz9 : w2.cell? ⟨gb, 9, none⟩ = some (.int .i64 a9) := (blk_cell BK.out 9).trans rfl
  have cz10 : w2.cell? ⟨gb, 10, none⟩ = some (.int .i64 a10) := (blk_cell BK.out 10).trans rfl
  have fcz0 := blk_frozen BK.out 0
  have fcz1 := blk_frozen BK.out 1
  have fcz2 := blk_frozen BK.out 2
  have fcz3 := blk_frozen BK.out 3
  have fcz4 := blk_frozen BK.out 4
  have fcz5 := blk_frozen BK.out 5
  have fcz6 := blk_frozen BK.out 6
  have fcz7 := blk_frozen BK.out 7
  have fcz8 := blk_frozen BK.out 8
  have fcz9 := blk_frozen BK.out 9
  have fcz10 := blk_frozen BK.out 10
  have LA := Aside0.mk (blk_lt BK.out)
  go_wp2_with fail
  refine (laws_toYard.calls k _ _ l0 _ _ l1 _ _ l2 a3 a4 _ _ l5 _ _ l6 _ _ l7 a8 a9 a10 l0 l1 l2 a3 a4 x5 l6 l7 a8 a9 a10 _ (Kd.C_below HR0.out HB.out) HC0.out (Kd.C_below HR1.out HB.out) HC1.out (Kd.C_below HR2.out HB.out) HC2.out (Kd.C_below HR5.out HB.out) HC5.out (Kd.C_below HR6.out HB.out) HC6.out (Kd.C_below HR7.out HB.out) HC7.out Qt.out).mono ?_
  rintro e w3 ⟨u0, u1, u2, u5, u6, u7, rfl, ho0, ho1, ho2, ho5, ho6, ho7, hb⟩
  clear cz0 fcz0 cz1 fcz1 cz2 fcz2 cz3 fcz3 cz4 fcz4 cz5 fcz5 cz6 fcz6 cz7 fcz7 cz8 fcz8 cz9 fcz9 cz10 fcz10
  have t_BK := Aside0.mk (blk_below BK.out hb)
  have t_HB := Aside0.mk (below_step HB.out hb)
  have SZ3 := Aside0.mk hb.size
  clear HB BK
  have HB := t_HB
  have BK := t_BK
  clear t_HB t_BK
  have YA := Aside0.mk (yo_new ho0 ho1 ho2 ho5 ho6 ho7)
  clear ho0 ho1 ho2 ho5 ho6 ho7
  obtain ⟨As0, cs0, e_⟩ := Kd.R_slice YA.out.o0
  subst e_
  obtain ⟨As1, cs1, e_⟩ := Kd.R_slice YA.out.o1
  subst e_
  obtain ⟨As2, cs2, e_⟩ := Kd.R_slice YA.out.o2
  subst e_
  obtain ⟨As5, cs5, e_⟩ := Kd.R_slice YA.out.o5
  subst e_
  obtain ⟨As6, cs6, e_⟩ := Kd.S_slice YA.out.o6
  subst e_
  obtain ⟨As7, cs7, e_⟩ := Kd.R_slice YA.out.o7
  subst e_
  clear hb
  have cz0 : w3.cell? ⟨gb, 0, none⟩ = some (.slice A0 l0.length c0) := (blk_cell BK.out 0).trans rfl
  have cz1 : w3.cell? ⟨gb, 1, none⟩ = some (.slice A1 l1.length c1) := (blk_cell BK.out 1).trans rfl
  have cz2 : w3.cell? ⟨gb, 2, none⟩ = some (.slice A2 l2.length c2) := (blk_cell BK.out 2).trans rfl
  have cz3 : w3.cell? ⟨gb, 3, none⟩ = some (.int .i64 a3) := (blk_cell BK.out 3).trans rfl
  have cz4 : w3.cell? ⟨gb, 4, none⟩ = some (.int .i64 a4) := (blk_cell BK.out 4).trans rfl
  have cz5 : w3.cell? ⟨gb, 5, none⟩ = some (.slice A5 l5.length c5) := (blk_cell BK.out 5).trans rfl
  have cz6 : w3.cell? ⟨gb, 6, none⟩ = some (.slice A6 l6.length c6) := (blk_cell BK.out 6).trans rfl
  have cz7 : w3.cell? ⟨gb, 7, none⟩ = some (.slice A7 l7.length c7) := (blk_cell BK.out 7).trans rfl
  have cz8 : w3.cell? ⟨gb, 8, none⟩ = some (.int .i64 a8) := (blk_cell BK.out 8).trans rfl
  have cz9 : w3.cell? ⟨gb, 9, none⟩ = some (.int .i64 a9) := (blk_cell BK.out 9).trans rfl
  have cz10 : w3.cell? ⟨gb, 10, none⟩ = some (.int .i64 a10) := (blk_cell BK.out 10).trans rfl
  have fcz0 := blk_frozen BK.out 0
  have fcz1 := blk_frozen BK.out 1
  have fcz2 := blk_frozen BK.out 2
  have fcz3 := blk_frozen BK.out 3
  have fcz4 := blk_frozen BK.out 4
  have fcz5 := blk_frozen BK.out 5
  have fcz6 := blk_frozen BK.out 6
  have fcz7 := blk_frozen BK.out 7
  have fcz8 := blk_frozen BK.out 8
  have fcz9 := blk_frozen BK.out 9
  have fcz10 := blk_frozen BK.out 10
  go_wp2_with fail
  refine (spec_CountStates.calls k _ _ l0 _ _ l1 _ _ l2 a3 a4 _ _ x5 _ _ l6 _ _ l7 a8 a9 a10 g0 g1 _ (Kd.R_reads' YA.out.o0).2.2 (Kd.R_reads' YA.out.o0).2.1 (Kd.R_reads' YA.out.o1).2.2 (Kd.R_reads' YA.out.o1).2.1 (Kd.R_reads' YA.out.o2).2.2 (Kd.R_reads' YA.out.o2).2.1 (Kd.R_reads' YA.out.o5).2.2 (Kd.R_reads' YA.out.o5).2.1 (Kd.S_reads' YA.out.o6).2.2 (Kd.S_reads' YA.out.o6).2.1 (Kd.R_reads' YA.out.o7).2.2 (Kd.R_reads' YA.out.o7).2.1 Qs.out).mono ?_
  rintro e w4 ⟨u, rfl, ho, hb⟩
  clear cz0 fcz0 cz1 fcz1 cz2 fcz2 cz3 fcz3 cz4 fcz4 cz5 fcz5 cz6 fcz6 cz7 fcz7 cz8 fcz8 cz9 fcz9 cz10 fcz10
  have t_BK := Aside0.mk (blk_below BK.out hb)
  have t_YA := Aside0.mk (yo_below YA.out hb)
  have t_HB := Aside0.mk (below_step HB.out hb)
  have SZ4 := Aside0.mk hb.size
  clear HB BK YA
  have HB := t_HB
  have BK := t_BK
  have YA := t_YA
  clear t_HB t_BK t_YA
  have OW := Aside0.mk (ob_new ho)
  clear ho hb
  obtain ⟨Aw, cw, e_⟩ := Kd.R_slice OW.out
  subst e_
  clear YA
  have cz0 : w4.cell? ⟨gb, 0, none⟩ = some (.slice A0 l0.length c0) := (blk_cell BK.out 0).trans rfl
  have cz1 : w4.cell? ⟨gb, 1, none⟩ = some (.slice A1 l1.length c1) := (blk_cell BK.out 1).trans rfl
  have cz2 : w4.cell? ⟨gb, 2, none⟩ = some (.slice A2 l2.length c2) := (blk_cell BK.out 2).trans rfl
  have cz3 : w4.cell? ⟨gb, 3, none⟩ = some (.int .i64 a3) := (blk_cell BK.out 3).trans rfl
  have cz4 : w4.cell? ⟨gb, 4, none⟩ = some (.int .i64 a4) := (blk_cell BK.out 4).trans rfl
  have cz5 : w4.cell? ⟨gb, 5, none⟩ = some (.slice A5 l5.length c5) := (blk_cell BK.out 5).trans rfl
  have cz6 : w4.cell? ⟨gb, 6, none⟩ = some (.slice A6 l6.length c6) := (blk_cell BK.out 6).trans rfl
  have cz7 : w4.cell? ⟨gb, 7, none⟩ = some (.slice A7 l7.length c7) := (blk_cell BK.out 7).trans rfl
  have cz8 : w4.cell? ⟨gb, 8, none⟩ = some (.int .i64 a8) := (blk_cell BK.out 8).trans rfl
  have cz9 : w4.cell? ⟨gb, 9, none⟩ = some (.int .i64 a9) := (blk_cell BK.out 9).trans rfl
  have cz10 : w4.cell? ⟨gb, 10, none⟩ = some (.int .i64 a10) := (blk_cell BK.out 10).trans rfl
  have fcz0 := blk_frozen BK.out 0
  have fcz1 := blk_frozen BK.out 1
  have fcz2 := blk_frozen BK.out 2
  have fcz3 := blk_frozen BK.out 3
  have fcz4 := blk_frozen BK.out 4
  have fcz5 := blk_frozen BK.out 5
  have fcz6 := blk_frozen BK.out 6
  have fcz7 := blk_frozen BK.out 7
  have fcz8 := blk_frozen BK.out 8
  have fcz9 := blk_frozen BK.out 9
  have fcz10 := blk_frozen BK.out 10
  go_wp2_with fail
  refine (laws_toYard.calls k _ _ l0 _ _ l1 _ _ l2 a3 a4 _ _ l5 _ _ l6 _ _ l7 a8 a9 a10 l0 l1 l2 a3 a4 x5 l6 l7 a8 a9 a10 _ (Kd.C_below HR0.out HB.out) HC0.out (Kd.C_below HR1.out HB.out) HC1.out (Kd.C_below HR2.out HB.out) HC2.out (Kd.C_below HR5.out HB.out) HC5.out (Kd.C_below HR6.out HB.out) HC6.out (Kd.C_below HR7.out HB.out) HC7.out Qt.out).mono ?_
  rintro e w5 ⟨u0, u1, u2, u5, u6, u7, rfl, ho0, ho1, ho2, ho5, ho6, ho7, hb⟩
  clear cz0 fcz0 cz1 fcz1 cz2 fcz2 cz3 fcz3 cz4 fcz4 cz5 fcz5 cz6 fcz6 cz7 fcz7 cz8 fcz8 cz9 fcz9 cz10 fcz10
  have t_BK := Aside0.mk (blk_below BK.out hb)
  have t_OW := Aside0.mk (Kd.R_below OW.out hb)
  have t_HB := Aside0.mk (below_step HB.out hb)
  have SZ5 := Aside0.mk hb.size
  clear HB BK OW
  have HB := t_HB
  have BK := t_BK
  have OW := t_OW
  clear t_HB t_BK t_OW
  have YX := Aside0.mk (yo_new ho0 ho1 ho2 ho5 ho6 ho7)
  clear ho0 ho1 ho2 ho5 ho6 ho7
  obtain ⟨Ax0, cx0, e_⟩ := Kd.R_slice YX.out.o0
  subst e_
  obtain ⟨Ax1, cx1, e_⟩ := Kd.R_slice YX.out.o1
  subst e_
  obtain ⟨Ax2, cx2, e_⟩ := Kd.R_slice YX.out.o2
  subst e_
  obtain ⟨Ax5, cx5, e_⟩ := Kd.R_slice YX.out.o5
  subst e_
  obtain ⟨Ax6, cx6, e_⟩ := Kd.S_slice YX.out.o6
  subst e_
  obtain ⟨Ax7, cx7, e_⟩ := Kd.R_slice YX.out.o7
  subst e_
  clear hb
  have LB := Aside0.mk (blk_lt BK.out)
  go_upto_region 7 with (first | ((with_reducible refine gate_dst (N := 6) rfl ?_); refine box_event ?hg (N := 6) ?hd (cs := #[.slice none 0 0, .slice none 0 0, .slice none 0 0, .int .i64 0, .int .i64 0, .slice none 0 0, .slice none 0 0, .slice none 0 0, .int .i64 0, .int .i64 0, .int .i64 0]) (t := 44) ?hr ?_; (case hd => rfl); (case hg => rfl); (case hr => first | (go_simp; done) | (go_simp; rfl)); intro gx hg w6 hbox hb; have BX := Aside0.mk hbox; have G_gx := Aside0.mk hg; have hb_ := Aside0.mk hb; clear hbox hb hg; have zz0 : w6.cell? ⟨gx, 0, none⟩ = some (.slice none 0 0) := (blk_cell BX.out 0).trans rfl; have zz1 : w6.cell? ⟨gx, 1, none⟩ = some (.slice none 0 0) := (blk_cell BX.out 1).trans rfl; have zz2 : w6.cell? ⟨gx, 2, none⟩ = some (.slice none 0 0) := (blk_cell BX.out 2).trans rfl; have zz3 : w6.cell? ⟨gx, 3, none⟩ = some (.int .i64 0) := (blk_cell BX.out 3).trans rfl; have zz4 : w6.cell? ⟨gx, 4, none⟩ = some (.int .i64 0) := (blk_cell BX.out 4).trans rfl; have zz5 : w6.cell? ⟨gx, 5, none⟩ = some (.slice none 0 0) := (blk_cell BX.out 5).trans rfl; have zz6 : w6.cell? ⟨gx, 6, none⟩ = some (.slice none 0 0) := (blk_cell BX.out 6).trans rfl; have zz7 : w6.cell? ⟨gx, 7, none⟩ = some (.slice none 0 0) := (blk_cell BX.out 7).trans rfl; have zz8 : w6.cell? ⟨gx, 8, none⟩ = some (.int .i64 0) := (blk_cell BX.out 8).trans rfl; have zz9 : w6.cell? ⟨gx, 9, none⟩ = some (.int .i64 0) := (blk_cell BX.out 9).trans rfl; have zz10 : w6.cell? ⟨gx, 10, none⟩ = some (.int .i64 0) := (blk_cell BX.out 10).trans rfl; have fzz0 := blk_frozen BX.out 0; have fzz1 := blk_frozen BX.out 1; have fzz2 := blk_frozen BX.out 2; have fzz3 := blk_frozen BX.out 3; have fzz4 := blk_frozen BX.out 4; have fzz5 := blk_frozen BX.out 5; have fzz6 := blk_frozen BX.out 6; have fzz7 := blk_frozen BX.out 7; have fzz8 := blk_frozen BX.out 8; have fzz9 := blk_frozen BX.out 9; have fzz10 := blk_frozen BX.out 10))
  have t_HB := Aside0.mk (below_step HB.out hb_.out)
  have SZ6 := Aside0.mk hb_.out.size
  have t_BK := Aside0.mk (blk_below BK.out hb_.out)
  have t_YX := Aside0.mk (yo_below YX.out hb_.out)
  have t_OW := Aside0.mk (Kd.R_below OW.out hb_.out)
  clear HB BK YX OW hb_
  clear zz0 fzz0 zz1 fzz1 zz2 fzz2 zz3 fzz3 zz4 fzz4 zz5 fzz5 zz6 fzz6 zz7 fzz7 zz8 fzz8 zz9 fzz9 zz10 fzz10
  have b0_ := BX.out
  have b1_ : (w6.setCell ⟨gx, 0, none⟩ (.slice Ax0 l0.length cx0)).heap[gx]? = some (.cells #[.slice Ax0 l0.length cx0, .slice none 0 0, .slice none 0 0, .int .i64 0, .int .i64 0, .slice none 0 0, .slice none 0 0, .slice none 0 0, .int .i64 0, .int .i64 0, .int .i64 0] 44 (0, 0)) := blk_put b0_ 0 _ rfl
  have b2_ : ((w6.setCell ⟨gx, 0, none⟩ (.slice Ax0 l0.length cx0)).setCell ⟨gx, 1, none⟩ (.slice Ax1 l1.length cx1)).heap[gx]? = some (.cells #[.slice Ax0 l0.length cx0, .slice Ax1 l1.length cx1, .slice none 0 0, .int .i64 0, .int .i64 0, .slice none 0 0, .slice none 0 0, .slice none 0 0, .int .i64 0, .int .i64 0, .int .i64 0] 44 (0, 0)) := blk_put b1_ 1 _ rfl
  have b3_ : (((w6.setCell ⟨gx, 0, none⟩ (.slice Ax0 l0.length cx0)).setCell ⟨gx, 1, none⟩ (.slice Ax1 l1.length cx1)).setCell ⟨gx, 2, none⟩ (.slice Ax2 l2.length cx2)).heap[gx]? = some (.cells #[.slice Ax0 l0.length cx0, .slice Ax1 l1.length cx1, .slice Ax2 l2.length cx2, .int .i64 0, .int .i64 0, .slice none 0 0, .slice none 0 0, .slice none 0 0, .int .i64 0, .int .i64 0, .int .i64 0] 44 (0, 0)) := blk_put b2_ 2 _ rfl
  have b4_ : ((((w6.setCell ⟨gx, 0, none⟩ (.slice Ax0 l0.length cx0)).setCell ⟨gx, 1, none⟩ (.slice Ax1 l1.length cx1)).setCell ⟨gx, 2, none⟩ (.slice Ax2 l2.length cx2)).setCell ⟨gx, 3, none⟩ (.int .i64 a3)).heap[gx]? = some (.cells #[.slice Ax0 l0.length cx0, .slice Ax1 l1.length cx1, .slice Ax2 l2.length cx2, .int .i64 a3, .int .i64 0, .slice none 0 0, .slice none 0 0, .slice none 0 0, .int .i64 0, .int .i64 0, .int .i64 0] 44 (0, 0)) := blk_put b3_ 3 _ rfl
  have b5_ : (((((w6.setCell ⟨gx, 0, none⟩ (.slice Ax0 l0.length cx0)).setCell ⟨gx, 1, none⟩ (.slice Ax1 l1.length cx1)).setCell ⟨gx, 2, none⟩ (.slice Ax2 l2.length cx2)).setCell ⟨gx, 3, none⟩ (.int .i64 a3)).setCell ⟨gx, 4, none⟩ (.int .i64 a4)).heap[gx]? = some (.cells #[.slice Ax0 l0.length cx0, .slice Ax1 l1.length cx1, .slice Ax2 l2.length cx2, .int .i64 a3, .int .i64 a4, .slice none 0 0, .slice none 0 0, .slice none 0 0, .int .i64 0, .int .i64 0, .int .i64 0] 44 (0, 0)) := blk_put b4_ 4 _ rfl
  have b6_ : ((((((w6.setCell ⟨gx, 0, none⟩ (.slice Ax0 l0.length cx0)).setCell ⟨gx, 1, none⟩ (.slice Ax1 l1.length cx1)).setCell ⟨gx, 2, none⟩ (.slice Ax2 l2.length cx2)).setCell ⟨gx, 3, none⟩ (.int .i64 a3)).setCell ⟨gx, 4, none⟩ (.int .i64 a4)).setCell ⟨gx, 5, none⟩ (.slice Ax5 x5.length cx5)).heap[gx]? = some (.cells #[.slice Ax0 l0.length cx0, .slice Ax1 l1.length cx1, .slice Ax2 l2.length cx2, .int .i64 a3, .int .i64 a4, .slice Ax5 x5.length cx5, .slice none 0 0, .slice none 0 0, .int .i64 0, .int .i64 0, .int .i64 0] 44 (0, 0)) := blk_put b5_ 5 _ rfl
  have b7_ : (((((((w6.setCell ⟨gx, 0, none⟩ (.slice Ax0 l0.length cx0)).setCell ⟨gx, 1, none⟩ (.slice Ax1 l1.length cx1)).setCell ⟨gx, 2, none⟩ (.slice Ax2 l2.length cx2)).setCell ⟨gx, 3, none⟩ (.int .i64 a3)).setCell ⟨gx, 4, none⟩ (.int .i64 a4)).setCell ⟨gx, 5, none⟩ (.slice Ax5 x5.length cx5)).setCell ⟨gx, 6, none⟩ (.slice Ax6 l6.length cx6)).heap[gx]? = some (.cells #[.slice Ax0 l0.length cx0, .slice Ax1 l1.length cx1, .slice Ax2 l2.length cx2, .int .i64 a3, .int .i64 a4, .slice Ax5 x5.length cx5, .slice Ax6 l6.length cx6, .slice none 0 0, .int .i64 0, .int .i64 0, .int .i64 0] 44 (0, 0)) := blk_put b6_ 6 _ rfl
  have b8_ : ((((((((w6.setCell ⟨gx, 0, none⟩ (.slice Ax0 l0.length cx0)).setCell ⟨gx, 1, none⟩ (.slice Ax1 l1.length cx1)).setCell ⟨gx, 2, none⟩ (.slice Ax2 l2.length cx2)).setCell ⟨gx, 3, none⟩ (.int .i64 a3)).setCell ⟨gx, 4, none⟩ (.int .i64 a4)).setCell ⟨gx, 5, none⟩ (.slice Ax5 x5.length cx5)).setCell ⟨gx, 6, none⟩ (.slice Ax6 l6.length cx6)).setCell ⟨gx, 7, none⟩ (.slice Ax7 l7.length cx7)).heap[gx]? = some (.cells #[.slice Ax0 l0.length cx0, .slice Ax1 l1.length cx1, .slice Ax2 l2.length cx2, .int .i64 a3, .int .i64 a4, .slice Ax5 x5.length cx5, .slice Ax6 l6.length cx6, .slice Ax7 l7.length cx7, .int .i64 0, .int .i64 0, .int .i64 0] 44 (0, 0)) := blk_put b7_ 7 _ rfl
  have b9_ : (((((((((w6.setCell ⟨gx, 0, none⟩ (.slice Ax0 l0.length cx0)).setCell ⟨gx, 1, none⟩ (.slice Ax1 l1.length cx1)).setCell ⟨gx, 2, none⟩ (.slice Ax2 l2.length cx2)).setCell ⟨gx, 3, none⟩ (.int .i64 a3)).setCell ⟨gx, 4, none⟩ (.int .i64 a4)).setCell ⟨gx, 5, none⟩ (.slice Ax5 x5.length cx5)).setCell ⟨gx, 6, none⟩ (.slice Ax6 l6.length cx6)).setCell ⟨gx, 7, none⟩ (.slice Ax7 l7.length cx7)).setCell ⟨gx, 8, none⟩ (.int .i64 a8)).heap[gx]? = some (.cells #[.slice Ax0 l0.length cx0, .slice Ax1 l1.length cx1, .slice Ax2 l2.length cx2, .int .i64 a3, .int .i64 a4, .slice Ax5 x5.length cx5, .slice Ax6 l6.length cx6, .slice Ax7 l7.length cx7, .int .i64 a8, .int .i64 0, .int .i64 0] 44 (0, 0)) := blk_put b8_ 8 _ rfl
  have b10_ : ((((((((((w6.setCell ⟨gx, 0, none⟩ (.slice Ax0 l0.length cx0)).setCell ⟨gx, 1, none⟩ (.slice Ax1 l1.length cx1)).setCell ⟨gx, 2, none⟩ (.slice Ax2 l2.length cx2)).setCell ⟨gx, 3, none⟩ (.int .i64 a3)).setCell ⟨gx, 4, none⟩ (.int .i64 a4)).setCell ⟨gx, 5, none⟩ (.slice Ax5 x5.length cx5)).setCell ⟨gx, 6, none⟩ (.slice Ax6 l6.length cx6)).setCell ⟨gx, 7, none⟩ (.slice Ax7 l7.length cx7)).setCell ⟨gx, 8, none⟩ (.int .i64 a8)).setCell ⟨gx, 9, none⟩ (.int .i64 a9)).heap[gx]? = some (.cells #[.slice Ax0 l0.length cx0, .slice Ax1 l1.length cx1, .slice Ax2 l2.length cx2, .int .i64 a3, .int .i64 a4, .slice Ax5 x5.length cx5, .slice Ax6 l6.length cx6, .slice Ax7 l7.length cx7, .int .i64 a8, .int .i64 a9, .int .i64 0] 44 (0, 0)) := blk_put b9_ 9 _ rfl
  have b11_ : (((((((((((w6.setCell ⟨gx, 0, none⟩ (.slice Ax0 l0.length cx0)).setCell ⟨gx, 1, none⟩ (.slice Ax1 l1.length cx1)).setCell ⟨gx, 2, none⟩ (.slice Ax2 l2.length cx2)).setCell ⟨gx, 3, none⟩ (.int .i64 a3)).setCell ⟨gx, 4, none⟩ (.int .i64 a4)).setCell ⟨gx, 5, none⟩ (.slice Ax5 x5.length cx5)).setCell ⟨gx, 6, none⟩ (.slice Ax6 l6.length cx6)).setCell ⟨gx, 7, none⟩ (.slice Ax7 l7.length cx7)).setCell ⟨gx, 8, none⟩ (.int .i64 a8)).setCell ⟨gx, 9, none⟩ (.int .i64 a9)).setCell ⟨gx, 10, none⟩ (.int .i64 a10)).heap[gx]? = some (.cells #[.slice Ax0 l0.length cx0, .slice Ax1 l1.length cx1, .slice Ax2 l2.length cx2, .int .i64 a3, .int .i64 a4, .slice Ax5 x5.length cx5, .slice Ax6 l6.length cx6, .slice Ax7 l7.length cx7, .int .i64 a8, .int .i64 a9, .int .i64 a10] 44 (0, 0)) := blk_put b10_ 10 _ rfl
  have t_BX := Aside0.mk b11_
  clear b0_ b1_ b2_ b3_ b4_ b5_ b6_ b7_ b8_ b9_ b10_ b11_
  have k0_ := Kept.refl w6 (fun k_ => k_ = gx)
  have k1_ : Kept w6 (w6.setCell ⟨gx, 0, none⟩ (.slice Ax0 l0.length cx0)) (fun k_ => k_ = gx) := kept_box k0_ 0 _
  have k2_ : Kept w6 ((w6.setCell ⟨gx, 0, none⟩ (.slice Ax0 l0.length cx0)).setCell ⟨gx, 1, none⟩ (.slice Ax1 l1.length cx1)) (fun k_ => k_ = gx) := kept_box k1_ 1 _
  have k3_ : Kept w6 (((w6.setCell ⟨gx, 0, none⟩ (.slice Ax0 l0.length cx0)).setCell ⟨gx, 1, none⟩ (.slice Ax1 l1.length cx1)).setCell ⟨gx, 2, none⟩ (.slice Ax2 l2.length cx2)) (fun k_ => k_ = gx) := kept_box k2_ 2 _
  have k4_ : Kept w6 ((((w6.setCell ⟨gx, 0, none⟩ (.slice Ax0 l0.length cx0)).setCell ⟨gx, 1, none⟩ (.slice Ax1 l1.length cx1)).setCell ⟨gx, 2, none⟩ (.slice Ax2 l2.length cx2)).setCell ⟨gx, 3, none⟩ (.int .i64 a3)) (fun k_ => k_ = gx) := kept_box k3_ 3 _
  have k5_ : Kept w6 (((((w6.setCell ⟨gx, 0, none⟩ (.slice Ax0 l0.length cx0)).setCell ⟨gx, 1, none⟩ (.slice Ax1 l1.length cx1)).setCell ⟨gx, 2, none⟩ (.slice Ax2 l2.length cx2)).setCell ⟨gx, 3, none⟩ (.int .i64 a3)).setCell ⟨gx, 4, none⟩ (.int .i64 a4)) (fun k_ => k_ = gx) := kept_box k4_ 4 _
  have k6_ : Kept w6 ((((((w6.setCell ⟨gx, 0, none⟩ (.slice Ax0 l0.length cx0)).setCell ⟨gx, 1, none⟩ (.slice Ax1 l1.length cx1)).setCell ⟨gx, 2, none⟩ (.slice Ax2 l2.length cx2)).setCell ⟨gx, 3, none⟩ (.int .i64 a3)).setCell ⟨gx, 4, none⟩ (.int .i64 a4)).setCell ⟨gx, 5, none⟩ (.slice Ax5 x5.length cx5)) (fun k_ => k_ = gx) := kept_box k5_ 5 _
  have k7_ : Kept w6 (((((((w6.setCell ⟨gx, 0, none⟩ (.slice Ax0 l0.length cx0)).setCell ⟨gx, 1, none⟩ (.slice Ax1 l1.length cx1)).setCell ⟨gx, 2, none⟩ (.slice Ax2 l2.length cx2)).setCell ⟨gx, 3, none⟩ (.int .i64 a3)).setCell ⟨gx, 4, none⟩ (.int .i64 a4)).setCell ⟨gx, 5, none⟩ (.slice Ax5 x5.length cx5)).setCell ⟨gx, 6, none⟩ (.slice Ax6 l6.length cx6)) (fun k_ => k_ = gx) := kept_box k6_ 6 _
  have k8_ : Kept w6 ((((((((w6.setCell ⟨gx, 0, none⟩ (.slice Ax0 l0.length cx0)).setCell ⟨gx, 1, none⟩ (.slice Ax1 l1.length cx1)).setCell ⟨gx, 2, none⟩ (.slice Ax2 l2.length cx2)).setCell ⟨gx, 3, none⟩ (.int .i64 a3)).setCell ⟨gx, 4, none⟩ (.int .i64 a4)).setCell ⟨gx, 5, none⟩ (.slice Ax5 x5.length cx5)).setCell ⟨gx, 6, none⟩ (.slice Ax6 l6.length cx6)).setCell ⟨gx, 7, none⟩ (.slice Ax7 l7.length cx7)) (fun k_ => k_ = gx) := kept_box k7_ 7 _
  have k9_ : Kept w6 (((((((((w6.setCell ⟨gx, 0, none⟩ (.slice Ax0 l0.length cx0)).setCell ⟨gx, 1, none⟩ (.slice Ax1 l1.length cx1)).setCell ⟨gx, 2, none⟩ (.slice Ax2 l2.length cx2)).setCell ⟨gx, 3, none⟩ (.int .i64 a3)).setCell ⟨gx, 4, none⟩ (.int .i64 a4)).setCell ⟨gx, 5, none⟩ (.slice Ax5 x5.length cx5)).setCell ⟨gx, 6, none⟩ (.slice Ax6 l6.length cx6)).setCell ⟨gx, 7, none⟩ (.slice Ax7 l7.length cx7)).setCell ⟨gx, 8, none⟩ (.int .i64 a8)) (fun k_ => k_ = gx) := kept_box k8_ 8 _
  have k10_ : Kept w6 ((((((((((w6.setCell ⟨gx, 0, none⟩ (.slice Ax0 l0.length cx0)).setCell ⟨gx, 1, none⟩ (.slice Ax1 l1.length cx1)).setCell ⟨gx, 2, none⟩ (.slice Ax2 l2.length cx2)).setCell ⟨gx, 3, none⟩ (.int .i64 a3)).setCell ⟨gx, 4, none⟩ (.int .i64 a4)).setCell ⟨gx, 5, none⟩ (.slice Ax5 x5.length cx5)).setCell ⟨gx, 6, none⟩ (.slice Ax6 l6.length cx6)).setCell ⟨gx, 7, none⟩ (.slice Ax7 l7.length cx7)).setCell ⟨gx, 8, none⟩ (.int .i64 a8)).setCell ⟨gx, 9, none⟩ (.int .i64 a9)) (fun k_ => k_ = gx) := kept_box k9_ 9 _
  have k11_ : Kept w6 (((((((((((w6.setCell ⟨gx, 0, none⟩ (.slice Ax0 l0.length cx0)).setCell ⟨gx, 1, none⟩ (.slice Ax1 l1.length cx1)).setCell ⟨gx, 2, none⟩ (.slice Ax2 l2.length cx2)).setCell ⟨gx, 3, none⟩ (.int .i64 a3)).setCell ⟨gx, 4, none⟩ (.int .i64 a4)).setCell ⟨gx, 5, none⟩ (.slice Ax5 x5.length cx5)).setCell ⟨gx, 6, none⟩ (.slice Ax6 l6.length cx6)).setCell ⟨gx, 7, none⟩ (.slice Ax7 l7.length cx7)).setCell ⟨gx, 8, none⟩ (.int .i64 a8)).setCell ⟨gx, 9, none⟩ (.int .i64 a9)).setCell ⟨gx, 10, none⟩ (.int .i64 a10)) (fun k_ => k_ = gx) := kept_box k10_ 10 _
  have k_ := k11_
  clear k0_ k1_ k2_ k3_ k4_ k5_ k6_ k7_ k8_ k9_ k10_ k11_
  have KX := Aside0.mk k_
  clear k_
  have hg_ : w.heap.size ≤ gx := by have := G_gx.out; have := SZ1.out; have := SZ2.out; have := SZ3.out; have := SZ4.out; have := SZ5.out; have := SZ6.out; omega
  have b0_ := t_HB.out
  have b1_ : Below w.heap.size w (w6.setCell ⟨gx, 0, none⟩ (.slice Ax0 l0.length cx0)) := below_box b0_ hg_ 0 _
  have b2_ : Below w.heap.size w ((w6.setCell ⟨gx, 0, none⟩ (.slice Ax0 l0.length cx0)).setCell ⟨gx, 1, none⟩ (.slice Ax1 l1.length cx1)) := below_box b1_ hg_ 1 _
  have b3_ : Below w.heap.size w (((w6.setCell ⟨gx, 0, none⟩ (.slice Ax0 l0.length cx0)).setCell ⟨gx, 1, none⟩ (.slice Ax1 l1.length cx1)).setCell ⟨gx, 2, none⟩ (.slice Ax2 l2.length cx2)) := below_box b2_ hg_ 2 _
  have b4_ : Below w.heap.size w ((((w6.setCell ⟨gx, 0, none⟩ (.slice Ax0 l0.length cx0)).setCell ⟨gx, 1, none⟩ (.slice Ax1 l1.length cx1)).setCell ⟨gx, 2, none⟩ (.slice Ax2 l2.length cx2)).setCell ⟨gx, 3, none⟩ (.int .i64 a3)) := below_box b3_ hg_ 3 _
  have b5_ : Below w.heap.size w (((((w6.setCell ⟨gx, 0, none⟩ (.slice Ax0 l0.length cx0)).setCell ⟨gx, 1, none⟩ (.slice Ax1 l1.length cx1)).setCell ⟨gx, 2, none⟩ (.slice Ax2 l2.length cx2)).setCell ⟨gx, 3, none⟩ (.int .i64 a3)).setCell ⟨gx, 4, none⟩ (.int .i64 a4)) := below_box b4_ hg_ 4 _
  have b6_ : Below w.heap.size w ((((((w6.setCell ⟨gx, 0, none⟩ (.slice Ax0 l0.length cx0)).setCell ⟨gx, 1, none⟩ (.slice Ax1 l1.length cx1)).setCell ⟨gx, 2, none⟩ (.slice Ax2 l2.length cx2)).setCell ⟨gx, 3, none⟩ (.int .i64 a3)).setCell ⟨gx, 4, none⟩ (.int .i64 a4)).setCell ⟨gx, 5, none⟩ (.slice Ax5 x5.length cx5)) := below_box b5_ hg_ 5 _
  have b7_ : Below w.heap.size w (((((((w6.setCell ⟨gx, 0, none⟩ (.slice Ax0 l0.length cx0)).setCell ⟨gx, 1, none⟩ (.slice Ax1 l1.length cx1)).setCell ⟨gx, 2, none⟩ (.slice Ax2 l2.length cx2)).setCell ⟨gx, 3, none⟩ (.int .i64 a3)).setCell ⟨gx, 4, none⟩ (.int .i64 a4)).setCell ⟨gx, 5, none⟩ (.slice Ax5 x5.length cx5)).setCell ⟨gx, 6, none⟩ (.slice Ax6 l6.length cx6)) := below_box b6_ hg_ 6 _
  have b8_ : Below w.heap.size w ((((((((w6.setCell ⟨gx, 0, none⟩ (.slice Ax0 l0.length cx0)).setCell ⟨gx, 1, none⟩ (.slice Ax1 l1.length cx1)).setCell ⟨gx, 2, none⟩ (.slice Ax2 l2.length cx2)).setCell ⟨gx, 3, none⟩ (.int .i64 a3)).setCell ⟨gx, 4, none⟩ (.int .i64 a4)).setCell ⟨gx, 5, none⟩ (.slice Ax5 x5.length cx5)).setCell ⟨gx, 6, none⟩ (.slice Ax6 l6.length cx6)).setCell ⟨gx, 7, none⟩ (.slice Ax7 l7.length cx7)) := below_box b7_ hg_ 7 _
  have b9_ : Below w.heap.size w (((((((((w6.setCell ⟨gx, 0, none⟩ (.slice Ax0 l0.length cx0)).setCell ⟨gx, 1, none⟩ (.slice Ax1 l1.length cx1)).setCell ⟨gx, 2, none⟩ (.slice Ax2 l2.length cx2)).setCell ⟨gx, 3, none⟩ (.int .i64 a3)).setCell ⟨gx, 4, none⟩ (.int .i64 a4)).setCell ⟨gx, 5, none⟩ (.slice Ax5 x5.length cx5)).setCell ⟨gx, 6, none⟩ (.slice Ax6 l6.length cx6)).setCell ⟨gx, 7, none⟩ (.slice Ax7 l7.length cx7)).setCell ⟨gx, 8, none⟩ (.int .i64 a8)) := below_box b8_ hg_ 8 _
  have b10_ : Below w.heap.size w ((((((((((w6.setCell ⟨gx, 0, none⟩ (.slice Ax0 l0.length cx0)).setCell ⟨gx, 1, none⟩ (.slice Ax1 l1.length cx1)).setCell ⟨gx, 2, none⟩ (.slice Ax2 l2.length cx2)).setCell ⟨gx, 3, none⟩ (.int .i64 a3)).setCell ⟨gx, 4, none⟩ (.int .i64 a4)).setCell ⟨gx, 5, none⟩ (.slice Ax5 x5.length cx5)).setCell ⟨gx, 6, none⟩ (.slice Ax6 l6.length cx6)).setCell ⟨gx, 7, none⟩ (.slice Ax7 l7.length cx7)).setCell ⟨gx, 8, none⟩ (.int .i64 a8)).setCell ⟨gx, 9, none⟩ (.int .i64 a9)) := below_box b9_ hg_ 9 _
  have b11_ : Below w.heap.size w (((((((((((w6.setCell ⟨gx, 0, none⟩ (.slice Ax0 l0.length cx0)).setCell ⟨gx, 1, none⟩ (.slice Ax1 l1.length cx1)).setCell ⟨gx, 2, none⟩ (.slice Ax2 l2.length cx2)).setCell ⟨gx, 3, none⟩ (.int .i64 a3)).setCell ⟨gx, 4, none⟩ (.int .i64 a4)).setCell ⟨gx, 5, none⟩ (.slice Ax5 x5.length cx5)).setCell ⟨gx, 6, none⟩ (.slice Ax6 l6.length cx6)).setCell ⟨gx, 7, none⟩ (.slice Ax7 l7.length cx7)).setCell ⟨gx, 8, none⟩ (.int .i64 a8)).setCell ⟨gx, 9, none⟩ (.int .i64 a9)).setCell ⟨gx, 10, none⟩ (.int .i64 a10)) := below_box b10_ hg_ 10 _
  have b_ := Aside0.mk b11_
  clear hg_ b0_ b1_ b2_ b3_ b4_ b5_ b6_ b7_ b8_ b9_ b10_ b11_
  generalize (((((((((((w6.setCell ⟨gx, 0, none⟩ (.slice Ax0 l0.length cx0)).setCell ⟨gx, 1, none⟩ (.slice Ax1 l1.length cx1)).setCell ⟨gx, 2, none⟩ (.slice Ax2 l2.length cx2)).setCell ⟨gx, 3, none⟩ (.int .i64 a3)).setCell ⟨gx, 4, none⟩ (.int .i64 a4)).setCell ⟨gx, 5, none⟩ (.slice Ax5 x5.length cx5)).setCell ⟨gx, 6, none⟩ (.slice Ax6 l6.length cx6)).setCell ⟨gx, 7, none⟩ (.slice Ax7 l7.length cx7)).setCell ⟨gx, 8, none⟩ (.int .i64 a8)).setCell ⟨gx, 9, none⟩ (.int .i64 a9)).setCell ⟨gx, 10, none⟩ (.int .i64 a10)) = w7 at t_BX KX b_ ⊢
  have BK := Aside0.mk (blk_kept t_BK.out KX.out (fun e_ => by have := LB.out; have := G_gx.out; have := (show gb = gx from e_); have := SZ1.out; have := SZ2.out; have := SZ3.out; have := SZ4.out; have := SZ5.out; have := SZ6.out; omega))
  have YX := Aside0.mk (yo_kept t_YX.out KX.out (fun k_ _ h2 e_ => by have := G_gx.out; have := SZ1.out; have := SZ2.out; have := SZ3.out; have := SZ4.out; have := SZ5.out; have := SZ6.out; omega))
  have OW := Aside0.mk (Kd.R_mono (Kd.R_kept (Kd.R_bound t_OW.out) KX.out (fun k_ h e_ => by have := G_gx.out; have := (show k_ < _ from h.1); have := (show k_ = gx from e_); have := SZ1.out; have := SZ2.out; have := SZ3.out; have := SZ4.out; have := SZ5.out; have := SZ6.out; omega)) (fun _ h => h.1))
  have SZ7 := Aside0.mk KX.out.1
  have HB := b_
  have BX := t_BX
  clear t_HB t_BK t_YX t_OW t_BX b_ KX
  have cx0 : w7.cell? ⟨gx, 0, none⟩ = some (.slice Ax0 l0.length cx0) := (blk_cell BX.out 0).trans rfl
  have cx1 : w7.cell? ⟨gx, 1, none⟩ = some (.slice Ax1 l1.length cx1) := (blk_cell BX.out 1).trans rfl
  have cx2 : w7.cell? ⟨gx, 2, none⟩ = some (.slice Ax2 l2.length cx2) := (blk_cell BX.out 2).trans rfl
  have cx3 : w7.cell? ⟨gx, 3, none⟩ = some (.int .i64 a3) := (blk_cell BX.out 3).trans rfl
  have cx4 : w7.cell? ⟨gx, 4, none⟩ = some (.int .i64 a4) := (blk_cell BX.out 4).trans rfl
  have cx5 : w7.cell? ⟨gx, 5, none⟩ = some (.slice Ax5 x5.length cx5) := (blk_cell BX.out 5).trans rfl
  have cx6 : w7.cell? ⟨gx, 6, none⟩ = some (.slice Ax6 l6.length cx6) := (blk_cell BX.out 6).trans rfl
  have cx7 : w7.cell? ⟨gx, 7, none⟩ = some (.slice Ax7 l7.length cx7) := (blk_cell BX.out 7).trans rfl
  have cx8 : w7.cell? ⟨gx, 8, none⟩ = some (.int .i64 a8) := (blk_cell BX.out 8).trans rfl
  have cx9 : w7.cell? ⟨gx, 9, none⟩ = some (.int .i64 a9) := (blk_cell BX.out 9).trans rfl
  have cx10 : w7.cell? ⟨gx, 10, none⟩ = some (.int .i64 a10) := (blk_cell BX.out 10).trans rfl
  have fcx0 := blk_frozen BX.out 0
  have fcx1 := blk_frozen BX.out 1
  have fcx2 := blk_frozen BX.out 2
  have fcx3 := blk_frozen BX.out 3
  have fcx4 := blk_frozen BX.out 4
  have fcx5 := blk_frozen BX.out 5
  have fcx6 := blk_frozen BX.out 6
  have fcx7 := blk_frozen BX.out 7
  have fcx8 := blk_frozen BX.out 8
  have fcx9 := blk_frozen BX.out 9
  have fcx10 := blk_frozen BX.out 10
  go_wp2_with fail
  refine (impl_CountStates.calls k _ _ l0 _ _ l1 _ _ l2 a3 a4 _ _ x5 _ _ l6 _ _ l7 a8 a9 a10 g0 g1 _ (Kd.R_reads' YX.out.o0).2.2 (Kd.R_reads' YX.out.o0).2.1 (Kd.R_reads' YX.out.o1).2.2 (Kd.R_reads' YX.out.o1).2.1 (Kd.R_reads' YX.out.o2).2.2 (Kd.R_reads' YX.out.o2).2.1 (Kd.R_reads' YX.out.o5).2.2 (Kd.R_reads' YX.out.o5).2.1 (Kd.S_reads' YX.out.o6).2.2 (Kd.S_reads' YX.out.o6).2.1 (Kd.R_reads' YX.out.o7).2.2 (Kd.R_reads' YX.out.o7).2.1 Qi.out).mono ?_
  rintro e w8 ⟨u, rfl, ho, hb⟩
  clear cx0 fcx0 cx1 fcx1 cx2 fcx2 cx3 fcx3 cx4 fcx4 cx5 fcx5 cx6 fcx6 cx7 fcx7 cx8 fcx8 cx9 fcx9 cx10 fcx10
  have t_BK := Aside0.mk (blk_below BK.out hb)
  have t_OW := Aside0.mk (Kd.R_below OW.out hb)
  have t_YX := Aside0.mk (yo_below YX.out hb)
  have t_BX := Aside0.mk (blk_below BX.out hb)
  have t_HB := Aside0.mk (below_step HB.out hb)
  have SZ8 := Aside0.mk hb.size
  clear HB BK OW YX BX
  have HB := t_HB
  have BK := t_BK
  have OW := t_OW
  have YX := t_YX
  have BX := t_BX
  clear t_HB t_BK t_OW t_YX t_BX
  have OG := Aside0.mk (ob_new ho)
  clear ho hb
  obtain ⟨Ag, cg, e_⟩ := Kd.R_slice OG.out
  subst e_
  go_wp2_with fail
  refine (laws_eqIntS.calls k _ _ g0 _ _ g0 true _ (Kd.R_reads' OG.out).2.2 (Kd.R_reads' OG.out).2.1 (Kd.R_reads' OW.out).2.2 (Kd.R_reads' OW.out).2.1 Qe.out).mono ?_
  rintro e w9 ⟨rfl, hd⟩
  have hb := hd.below
  have t_BK := Aside0.mk (blk_below BK.out hb)
  have t_OW := Aside0.mk (Kd.R_below OW.out hb)
  have t_YX := Aside0.mk (yo_below YX.out hb)
  have t_BX := Aside0.mk (blk_below BX.out hb)
  have t_OG := Aside0.mk (Kd.R_below OG.out hb)
  have t_HB := Aside0.mk (below_step HB.out hb)
  have SZ9 := Aside0.mk hb.size
  clear HB BK OW YX BX OG
  have HB := t_HB
  have BK := t_BK
  have OW := t_OW
  have YX := t_YX
  have BX := t_BX
  have OG := t_OG
  clear t_HB t_BK t_OW t_YX t_BX t_OG
  clear hb hd
  go_wp2
  have hb : Below w9.heap.size w9 w9.drew := below_drew1 (Below.refl _ _)
  have t_BK := Aside0.mk (blk_below BK.out hb)
  have t_OW := Aside0.mk (Kd.R_below OW.out hb)
  have t_YX := Aside0.mk (yo_below YX.out hb)
  have t_BX := Aside0.mk (blk_below BX.out hb)
  have t_OG := Aside0.mk (Kd.R_below OG.out hb)
  have t_HB := Aside0.mk (below_step HB.out hb)
  have SZ10 := Aside0.mk hb.size
  clear HB BK OW YX BX OG
  have HB := t_HB
  have BK := t_BK
  have OW := t_OW
  have YX := t_YX
  have BX := t_BX
  have OG := t_OG
  clear t_HB t_BK t_OW t_YX t_BX t_OG
  clear hb
  refine start_ (n := 5) (S := fun w' => w'.cell? ⟨gx, 0, none⟩ = some (.slice Ax0 l0.length cx0) ∧ w'.cell? ⟨gx, 1, none⟩ = some (.slice Ax1 l1.length cx1) ∧ w'.cell? ⟨gx, 2, none⟩ = some (.slice Ax2 l2.length cx2) ∧ w'.cell? ⟨gx, 3, none⟩ = some (.int .i64 a3) ∧ w'.cell? ⟨gx, 4, none⟩ = some (.int .i64 a4) ∧ w'.cell? ⟨gx, 5, none⟩ = some (.slice Ax5 x5.length cx5) ∧ w'.cell? ⟨gx, 6, none⟩ = some (.slice Ax6 l6.length cx6) ∧ w'.cell? ⟨gx, 7, none⟩ = some (.slice Ax7 l7.length cx7) ∧ w'.cell? ⟨gx, 8, none⟩ = some (.int .i64 a8) ∧ w'.cell? ⟨gx, 9, none⟩ = some (.int .i64 a9) ∧ w'.cell? ⟨gx, 10, none⟩ = some (.int .i64 a10) ∧ w'.cell? ⟨gb, 0, none⟩ = some (.slice A0 l0.length c0) ∧ w'.cell? ⟨gb, 1, none⟩ = some (.slice A1 l1.length c1) ∧ w'.cell? ⟨gb, 2, none⟩ = some (.slice A2 l2.length c2) ∧ w'.cell? ⟨gb, 3, none⟩ = some (.int .i64 a3) ∧ w'.cell? ⟨gb, 4, none⟩ = some (.int .i64 a4) ∧ w'.cell? ⟨gb, 5, none⟩ = some (.slice A5 l5.length c5) ∧ w'.cell? ⟨gb, 6, none⟩ = some (.slice A6 l6.length c6) ∧ w'.cell? ⟨gb, 7, none⟩ = some (.slice A7 l7.length c7) ∧ w'.cell? ⟨gb, 8, none⟩ = some (.int .i64 a8) ∧ w'.cell? ⟨gb, 9, none⟩ = some (.int .i64 a9) ∧ w'.cell? ⟨gb, 10, none⟩ = some (.int .i64 a10)) (ds := []) #[false, false, false, false, false] (by kernel_rfl) rfl rfl ⟨(blk_cell BX.out 0).trans rfl, (blk_cell BX.out 1).trans rfl, (blk_cell BX.out 2).trans rfl, (blk_cell BX.out 3).trans rfl, (blk_cell BX.out 4).trans rfl, (blk_cell BX.out 5).trans rfl, (blk_cell BX.out 6).trans rfl, (blk_cell BX.out 7).trans rfl, (blk_cell BX.out 8).trans rfl, (blk_cell BX.out 9).trans rfl, (blk_cell BX.out 10).trans rfl, (blk_cell BK.out 0).trans rfl, (blk_cell BK.out 1).trans rfl, (blk_cell BK.out 2).trans rfl, (blk_cell BK.out 3).trans rfl, (blk_cell BK.out 4).trans rfl, (blk_cell BK.out 5).trans rfl, (blk_cell BK.out 6).trans rfl, (blk_cell BK.out 7).trans rfl, (blk_cell BK.out 8).trans rfl, (blk_cell BK.out 9).trans rfl, (blk_cell BK.out 10).trans rfl⟩ (fun hHeld => ?_)
  generalize w9.drew = w10 at BK OW YX BX OG HB SZ10 hHeld ⊢
  refine take_ (i := 0) (N := some 41) (v := ?_) (a' := ?_) #[true, false, false, false, false] rfl rfl (by kernel_rfl) (fun _ _ _ h => h) (Or.inl ⟨by rfl, ?_⟩) hHeld ?_ ?_
  rotate_left
  · rintro w' ⟨s0, s1, s2, s3, s4, s5, s6, s7, s8, s9, s10, s11, s12, s13, s14, s15, s16, s17, s18, s19, s20, s21⟩
    go_simp
    with_reducible rfl
  rotate_left
  · simp only [Act.put, List.setIfInBounds_toArray, List.set_cons_zero, List.set_cons_succ, i64_w, i32_w]
    rfl
  refine take_ (i := 1) (N := some 42) (v := ?_) (a' := ?_) #[true, true, false, false, false] rfl rfl (by kernel_rfl) (fun _ _ _ h => h) (Or.inl ⟨by rfl, ?_⟩) hHeld ?_ ?_
  rotate_left
  · rintro w' ⟨s0, s1, s2, s3, s4, s5, s6, s7, s8, s9, s10, s11, s12, s13, s14, s15, s16, s17, s18, s19, s20, s21⟩
    go_simp
    with_reducible rfl
  rotate_left
  · simp only [Act.put, List.setIfInBounds_toArray, List.set_cons_zero, List.set_cons_succ, i64_w, i32_w]
    rfl
  refine one_ (i := 2) (N := some 43) #[true, true, true, false, false] rfl rfl (by kernel_rfl) (by decide) (fun K hK => ?_)
  refine goes_ Try.func27 (by kernel_rfl) rfl #[.agg #[.slice A0 l0.length c0, .slice A1 l1.length c1, .slice A2 l2.length c2, .int .i64 a3, .int .i64 a4, .slice A5 l5.length c5, .slice A6 l6.length c6, .slice A7 l7.length c7, .int .i64 a8, .int .i64 a9, .int .i64 a10]] (by rfl) rfl rfl (by (try simp only [List.map_toArray, List.map_cons, List.map_nil]); first | done | rfl | (simp only [List.length_drop, List.length_take]; rfl)) ?_
  refine (laws_toYard.calls k _ _ l0 _ _ l1 _ _ l2 a3 a4 _ _ l5 _ _ l6 _ _ l7 a8 a9 a10 l0 l1 l2 a3 a4 x5 l6 l7 a8 a9 a10 _ (Kd.C_below HR0.out HB.out) HC0.out (Kd.C_below HR1.out HB.out) HC1.out (Kd.C_below HR2.out HB.out) HC2.out (Kd.C_below HR5.out HB.out) HC5.out (Kd.C_below HR6.out HB.out) HC6.out (Kd.C_below HR7.out HB.out) HC7.out Qt.out).mono ?_
  rintro e w11 ⟨u0, u1, u2, u5, u6, u7, rfl, ho0, ho1, ho2, ho5, ho6, ho7, hb⟩
  refine ⟨_, rfl, ?_⟩
  have t_BK := Aside0.mk (blk_below BK.out hb)
  have t_OW := Aside0.mk (Kd.R_below OW.out hb)
  have t_YX := Aside0.mk (yo_below YX.out hb)
  have t_BX := Aside0.mk (blk_below BX.out hb)
  have t_OG := Aside0.mk (Kd.R_below OG.out hb)
  have t_HB := Aside0.mk (below_step HB.out hb)
  have SZ11 := Aside0.mk hb.size
  clear HB BK OW YX BX OG
  have HB := t_HB
  have BK := t_BK
  have OW := t_OW
  have YX := t_YX
  have BX := t_BX
  have OG := t_OG
  clear t_HB t_BK t_OW t_YX t_BX t_OG
  have YE := Aside0.mk (yo_new ho0 ho1 ho2 ho5 ho6 ho7)
  clear ho0 ho1 ho2 ho5 ho6 ho7
  obtain ⟨Ae0, ce0, e_⟩ := Kd.R_slice YE.out.o0
  subst e_
  obtain ⟨Ae1, ce1, e_⟩ := Kd.R_slice YE.out.o1
  subst e_
  obtain ⟨Ae2, ce2, e_⟩ := Kd.R_slice YE.out.o2
  subst e_
  obtain ⟨Ae5, ce5, e_⟩ := Kd.R_slice YE.out.o5
  subst e_
  obtain ⟨Ae6, ce6, e_⟩ := Kd.S_slice YE.out.o6
  subst e_
  obtain ⟨Ae7, ce7, e_⟩ := Kd.R_slice YE.out.o7
  subst e_
  clear hb hHeld
  refine hK.out _ _ ⟨(blk_cell BX.out 0).trans rfl, (blk_cell BX.out 1).trans rfl, (blk_cell BX.out 2).trans rfl, (blk_cell BX.out 3).trans rfl, (blk_cell BX.out 4).trans rfl, (blk_cell BX.out 5).trans rfl, (blk_cell BX.out 6).trans rfl, (blk_cell BX.out 7).trans rfl, (blk_cell BX.out 8).trans rfl, (blk_cell BX.out 9).trans rfl, (blk_cell BX.out 10).trans rfl, (blk_cell BK.out 0).trans rfl, (blk_cell BK.out 1).trans rfl, (blk_cell BK.out 2).trans rfl, (blk_cell BK.out 3).trans rfl, (blk_cell BK.out 4).trans rfl, (blk_cell BK.out 5).trans rfl, (blk_cell BK.out 6).trans rfl, (blk_cell BK.out 7).trans rfl, (blk_cell BK.out 8).trans rfl, (blk_cell BK.out 9).trans rfl, (blk_cell BK.out 10).trans rfl⟩ (fun hHeld => ?_)
  refine norm_ (a' := ?_) ?_ ?_
  rotate_left
  · show Act.put _ (some 43) _ = _
    simp only [Act.put, List.setIfInBounds_toArray, List.set_cons_zero, List.set_cons_succ, i64_w, i32_w]
    rfl
  clear hK
  refine one_ (i := 3) (N := some 44) #[true, true, true, true, false] rfl rfl (by kernel_rfl) (by decide) (fun K hK => ?_)
  refine goes_ Try.func29 (by kernel_rfl) rfl #[.agg #[.slice Ax0 l0.length cx0, .slice Ax1 l1.length cx1, .slice Ax2 l2.length cx2, .int .i64 a3, .int .i64 a4, .slice Ax5 x5.length cx5, .slice Ax6 l6.length cx6, .slice Ax7 l7.length cx7, .int .i64 a8, .int .i64 a9, .int .i64 a10], .agg #[.slice Ae0 l0.length ce0, .slice Ae1 l1.length ce1, .slice Ae2 l2.length ce2, .int .i64 a3, .int .i64 a4, .slice Ae5 x5.length ce5, .slice Ae6 l6.length ce6, .slice Ae7 l7.length ce7, .int .i64 a8, .int .i64 a9, .int .i64 a10]] (by rfl) rfl rfl (by (try simp only [List.map_toArray, List.map_cons, List.map_nil]); first | done | rfl | (simp only [List.length_drop, List.length_take]; rfl)) ?_
  refine (laws_eqYard.calls k _ _ l0 _ _ l1 _ _ l2 a3 a4 _ _ x5 _ _ l6 _ _ l7 a8 a9 a10 _ _ l0 _ _ l1 _ _ l2 a3 a4 _ _ x5 _ _ l6 _ _ l7 a8 a9 a10 true _ (Kd.R_reads' YX.out.o0).2.2 (Kd.R_reads' YX.out.o0).2.1 (Kd.R_reads' YX.out.o1).2.2 (Kd.R_reads' YX.out.o1).2.1 (Kd.R_reads' YX.out.o2).2.2 (Kd.R_reads' YX.out.o2).2.1 (Kd.R_reads' YX.out.o5).2.2 (Kd.R_reads' YX.out.o5).2.1 (Kd.S_reads' YX.out.o6).2.2 (Kd.S_reads' YX.out.o6).2.1 (Kd.R_reads' YX.out.o7).2.2 (Kd.R_reads' YX.out.o7).2.1 (Kd.R_reads' YE.out.o0).2.2 (Kd.R_reads' YE.out.o0).2.1 (Kd.R_reads' YE.out.o1).2.2 (Kd.R_reads' YE.out.o1).2.1 (Kd.R_reads' YE.out.o2).2.2 (Kd.R_reads' YE.out.o2).2.1 (Kd.R_reads' YE.out.o5).2.2 (Kd.R_reads' YE.out.o5).2.1 (Kd.S_reads' YE.out.o6).2.2 (Kd.S_reads' YE.out.o6).2.1 (Kd.R_reads' YE.out.o7).2.2 (Kd.R_reads' YE.out.o7).2.1 Qx.out).mono ?_
  rintro e w12 ⟨rfl, hb⟩
  refine ⟨_, rfl, ?_⟩
  have t_BK := Aside0.mk (blk_below BK.out hb)
  have t_OW := Aside0.mk (Kd.R_below OW.out hb)
  have t_YX := Aside0.mk (yo_below YX.out hb)
  have t_BX := Aside0.mk (blk_below BX.out hb)
  have t_OG := Aside0.mk (Kd.R_below OG.out hb)
  have t_YE := Aside0.mk (yo_below YE.out hb)
  have t_HB := Aside0.mk (below_step HB.out hb)
  have SZ12 := Aside0.mk hb.size
  clear HB BK OW YX BX OG YE
  have HB := t_HB
  have BK := t_BK
  have OW := t_OW
  have YX := t_YX
  have BX := t_BX
  have OG := t_OG
  have YE := t_YE
  clear t_HB t_BK t_OW t_YX t_BX t_OG t_YE
  clear hb hHeld
  refine hK.out _ _ ⟨(blk_cell BX.out 0).trans rfl, (blk_cell BX.out 1).trans rfl, (blk_cell BX.out 2).trans rfl, (blk_cell BX.out 3).trans rfl, (blk_cell BX.out 4).trans rfl, (blk_cell BX.out 5).trans rfl, (blk_cell BX.out 6).trans rfl, (blk_cell BX.out 7).trans rfl, (blk_cell BX.out 8).trans rfl, (blk_cell BX.out 9).trans rfl, (blk_cell BX.out 10).trans rfl, (blk_cell BK.out 0).trans rfl, (blk_cell BK.out 1).trans rfl, (blk_cell BK.out 2).trans rfl, (blk_cell BK.out 3).trans rfl, (blk_cell BK.out 4).trans rfl, (blk_cell BK.out 5).trans rfl, (blk_cell BK.out 6).trans rfl, (blk_cell BK.out 7).trans rfl, (blk_cell BK.out 8).trans rfl, (blk_cell BK.out 9).trans rfl, (blk_cell BK.out 10).trans rfl⟩ (fun hHeld => ?_)
  refine norm_ (a' := ?_) ?_ ?_
  rotate_left
  · show Act.put _ (some 44) _ = _
    simp only [Act.put, List.setIfInBounds_toArray, List.set_cons_zero, List.set_cons_succ, i64_w, i32_w]
    rfl
  clear hK
  clear YE
  refine pure_ (i := 4) (N := some 45) (v := ?_) (a' := ?_) #[true, true, true, true, true] rfl rfl (by kernel_rfl) (fun _ _ _ h => h) (Or.inl ⟨by rfl, ?_⟩) ?_ ?_
  rotate_left
  · intro w'
    go_simp
    with_reducible rfl
  rotate_left
  · simp only [Act.put, List.setIfInBounds_toArray, List.set_cons_zero, List.set_cons_succ, i64_w, i32_w]
    rfl
  refine done_ (by kernel_rfl) ?_
  have cx0 : w12.cell? ⟨gx, 0, none⟩ = some (.slice Ax0 l0.length cx0) := (blk_cell BX.out 0).trans rfl
  have cx1 : w12.cell? ⟨gx, 1, none⟩ = some (.slice Ax1 l1.length cx1) := (blk_cell BX.out 1).trans rfl
  have cx2 : w12.cell? ⟨gx, 2, none⟩ = some (.slice Ax2 l2.length cx2) := (blk_cell BX.out 2).trans rfl
  have cx3 : w12.cell? ⟨gx, 3, none⟩ = some (.int .i64 a3) := (blk_cell BX.out 3).trans rfl
  have cx4 : w12.cell? ⟨gx, 4, none⟩ = some (.int .i64 a4) := (blk_cell BX.out 4).trans rfl
  have cx5 : w12.cell? ⟨gx, 5, none⟩ = some (.slice Ax5 x5.length cx5) := (blk_cell BX.out 5).trans rfl
  have cx6 : w12.cell? ⟨gx, 6, none⟩ = some (.slice Ax6 l6.length cx6) := (blk_cell BX.out 6).trans rfl
  have cx7 : w12.cell? ⟨gx, 7, none⟩ = some (.slice Ax7 l7.length cx7) := (blk_cell BX.out 7).trans rfl
  have cx8 : w12.cell? ⟨gx, 8, none⟩ = some (.int .i64 a8) := (blk_cell BX.out 8).trans rfl
  have cx9 : w12.cell? ⟨gx, 9, none⟩ = some (.int .i64 a9) := (blk_cell BX.out 9).trans rfl
  have cx10 : w12.cell? ⟨gx, 10, none⟩ = some (.int .i64 a10) := (blk_cell BX.out 10).trans rfl
  have fcx0 := blk_frozen BX.out 0
  have fcx1 := blk_frozen BX.out 1
  have fcx2 := blk_frozen BX.out 2
  have fcx3 := blk_frozen BX.out 3
  have fcx4 := blk_frozen BX.out 4
  have fcx5 := blk_frozen BX.out 5
  have fcx6 := blk_frozen BX.out 6
  have fcx7 := blk_frozen BX.out 7
  have fcx8 := blk_frozen BX.out 8
  have fcx9 := blk_frozen BX.out 9
  have fcx10 := blk_frozen BX.out 10
  go_wp2_with fail
  refine (laws_markYard.calls k _ _ _ _ _ _ l0 l1 l2 a3 a4 x5 l6 l7 a8 a9 a10 1 m1 m2 m3 m4 y0 y1 y2 y5 y6 y7 _ _ w _ HB.out (by have := SZ1.out; have := SZ2.out; have := SZ3.out; have := SZ4.out; have := SZ5.out; have := SZ6.out; have := SZ7.out; have := SZ8.out; have := SZ9.out; have := SZ10.out; have := SZ11.out; have := SZ12.out; omega) YX.out Q1.out Q2.out Q3.out Q4.out).mono ?_
  rintro e w13 ⟨rfl, hb, hk⟩
  clear cx0 fcx0 cx1 fcx1 cx2 fcx2 cx3 fcx3 cx4 fcx4 cx5 fcx5 cx6 fcx6 cx7 fcx7 cx8 fcx8 cx9 fcx9 cx10 fcx10
  have SZ13 := Aside0.mk hk.1
  have t_OW := Aside0.mk (ob_kept OW.out hk (by have := SZ1.out; have := SZ2.out; have := SZ3.out; have := SZ4.out; have := SZ5.out; have := SZ6.out; have := SZ7.out; have := SZ8.out; have := SZ9.out; have := SZ10.out; have := SZ11.out; have := SZ12.out; omega))
  have t_OG := Aside0.mk (ob_kept OG.out hk (by have := SZ1.out; have := SZ2.out; have := SZ3.out; have := SZ4.out; have := SZ5.out; have := SZ6.out; have := SZ7.out; have := SZ8.out; have := SZ9.out; have := SZ10.out; have := SZ11.out; have := SZ12.out; omega))
  have t_BK := Aside0.mk (blk_kept BK.out hk (fun h_ => by have := LA.out; have := h_.1; have := SZ1.out; have := SZ2.out; have := SZ3.out; have := SZ4.out; have := SZ5.out; have := SZ6.out; have := SZ7.out; have := SZ8.out; have := SZ9.out; have := SZ10.out; have := SZ11.out; have := SZ12.out; omega))
  have t_HB := Aside0.mk hb
  clear HB BK OW OG YX BX
  have HB := t_HB
  have BK := t_BK
  have OW := t_OW
  have OG := t_OG
  clear t_HB t_BK t_OW t_OG
  clear hb hk
  go_wp2_with fail
  refine (laws_eqIntS.calls k _ _ g0 _ _ g0 true _ (Kd.R_reads' OG.out).2.2 (Kd.R_reads' OG.out).2.1 (Kd.R_reads' OW.out).2.2 (Kd.R_reads' OW.out).2.1 Qe.out).mono ?_
  rintro e w14 ⟨rfl, hd⟩
  have hb := hd.below
  have t_BK := Aside0.mk (blk_below BK.out hb)
  have t_OW := Aside0.mk (Kd.R_below OW.out hb)
  have t_OG := Aside0.mk (Kd.R_below OG.out hb)
  have t_HB := Aside0.mk (below_step HB.out hb)
  have SZ14 := Aside0.mk hb.size
  clear HB BK OW OG
  have HB := t_HB
  have BK := t_BK
  have OW := t_OW
  have OG := t_OG
  clear t_HB t_BK t_OW t_OG
  clear hb hd
  go_wp2_with fail
  refine (laws_markIntS.calls k _ _ g0 1 n0 h0 w _ HB.out (ob_own OG.out (b := w.heap.size) (by have := SZ1.out; have := SZ2.out; have := SZ3.out; have := SZ4.out; have := SZ5.out; have := SZ6.out; have := SZ7.out; have := SZ8.out; have := SZ9.out; have := SZ10.out; have := SZ11.out; have := SZ12.out; have := SZ13.out; have := SZ14.out; omega)) Qn.out).mono ?_
  rintro e w15 ⟨rfl, hr, hb, hk⟩
  have CH := Aside0.mk (Kd.R_reads' hr).2.2
  have LH := Aside0.mk (Kd.R_reads' hr).1
  have NH := Aside0.mk (Nat.le_trans (Nat.le_of_eq LH.out.symm) (Kd.R_reads' OG.out).2.1)
  have SZ15 := Aside0.mk hk.1
  have t_OW := Aside0.mk (ob_kept OW.out hk (by have := SZ1.out; have := SZ2.out; have := SZ3.out; have := SZ4.out; have := SZ5.out; have := SZ6.out; have := SZ7.out; have := SZ8.out; have := SZ9.out; have := SZ10.out; have := SZ11.out; have := SZ12.out; have := SZ13.out; have := SZ14.out; omega))
  have t_BK := Aside0.mk (blk_kept BK.out hk (fun h_ => by have := LA.out; have := h_.1; have := SZ1.out; have := SZ2.out; have := SZ3.out; have := SZ4.out; have := SZ5.out; have := SZ6.out; have := SZ7.out; have := SZ8.out; have := SZ9.out; have := SZ10.out; have := SZ11.out; have := SZ12.out; have := SZ13.out; have := SZ14.out; omega))
  have t_HB := Aside0.mk hb
  clear HB BK OW OG
  have HB := t_HB
  have BK := t_BK
  have OW := t_OW
  clear t_HB t_BK t_OW
  clear hr hb hk
  go_wp2_with fail
  have zc_ := laws_heldIntS.calls k _ _ h0 1 n0 _ CH.out NH.out Qh.out
  rw [← LH.out] at zc_
  refine zc_.mono ?_
  clear zc_
  rintro e w16 ⟨rfl, hd⟩
  have hb := hd.below
  have t_BK := Aside0.mk (blk_below BK.out hb)
  have t_OW := Aside0.mk (Kd.R_below OW.out hb)
  have t_CH := Aside0.mk (Kd.C_below CH.out hb)
  have t_HB := Aside0.mk (below_step HB.out hb)
  have SZ16 := Aside0.mk hb.size
  clear HB BK OW CH
  have HB := t_HB
  have BK := t_BK
  have OW := t_OW
  have CH := t_CH
  clear t_HB t_BK t_OW t_CH
  clear hb hd
  have cz0 : w16.cell? ⟨gb, 0, none⟩ = some (.slice A0 l0.length c0) := (blk_cell BK.out 0).trans rfl
  have cz1 : w16.cell? ⟨gb, 1, none⟩ = some (.slice A1 l1.length c1) := (blk_cell BK.out 1).trans rfl
  have cz2 : w16.cell? ⟨gb, 2, none⟩ = some (.slice A2 l2.length c2) := (blk_cell BK.out 2).trans rfl
  have cz3 : w16.cell? ⟨gb, 3, none⟩ = some (.int .i64 a3) := (blk_cell BK.out 3).trans rfl
  have cz4 : w16.cell? ⟨gb, 4, none⟩ = some (.int .i64 a4) := (blk_cell BK.out 4).trans rfl
  have cz5 : w16.cell? ⟨gb, 5, none⟩ = some (.slice A5 l5.length c5) := (blk_cell BK.out 5).trans rfl
  have cz6 : w16.cell? ⟨gb, 6, none⟩ = some (.slice A6 l6.length c6) := (blk_cell BK.out 6).trans rfl
  have cz7 : w16.cell? ⟨gb, 7, none⟩ = some (.slice A7 l7.length c7) := (blk_cell BK.out 7).trans rfl
  have cz8 : w16.cell? ⟨gb, 8, none⟩ = some (.int .i64 a8) := (blk_cell BK.out 8).trans rfl
  have cz9 : w16.cell? ⟨gb, 9, none⟩ = some (.int .i64 a9) := (blk_cell BK.out 9).trans rfl
  have cz10 : w16.cell? ⟨gb, 10, none⟩ = some (.int .i64 a10) := (blk_cell BK.out 10).trans rfl
  have fcz0 := blk_frozen BK.out 0
  have fcz1 := blk_frozen BK.out 1
  have fcz2 := blk_frozen BK.out 2
  have fcz3 := blk_frozen BK.out 3
  have fcz4 := blk_frozen BK.out 4
  have fcz5 := blk_frozen BK.out 5
  have fcz6 := blk_frozen BK.out 6
  have fcz7 := blk_frozen BK.out 7
  have fcz8 := blk_frozen BK.out 8
  have fcz9 := blk_frozen BK.out 9
  have fcz10 := blk_frozen BK.out 10
  go_wp2_with fail
  refine (laws_toYard.calls k _ _ l0 _ _ l1 _ _ l2 a3 a4 _ _ l5 _ _ l6 _ _ l7 a8 a9 a10 l0 l1 l2 a3 a4 x5 l6 l7 a8 a9 a10 _ (Kd.C_below HR0.out HB.out) HC0.out (Kd.C_below HR1.out HB.out) HC1.out (Kd.C_below HR2.out HB.out) HC2.out (Kd.C_below HR5.out HB.out) HC5.out (Kd.C_below HR6.out HB.out) HC6.out (Kd.C_below HR7.out HB.out) HC7.out Qt.out).mono ?_
  rintro e w17 ⟨u0, u1, u2, u5, u6, u7, rfl, ho0, ho1, ho2, ho5, ho6, ho7, hb⟩
  clear cz0 fcz0 cz1 fcz1 cz2 fcz2 cz3 fcz3 cz4 fcz4 cz5 fcz5 cz6 fcz6 cz7 fcz7 cz8 fcz8 cz9 fcz9 cz10 fcz10
  have t_BK := Aside0.mk (blk_below BK.out hb)
  have t_OW := Aside0.mk (Kd.R_below OW.out hb)
  have t_CH := Aside0.mk (Kd.C_below CH.out hb)
  have t_HB := Aside0.mk (below_step HB.out hb)
  have SZ17 := Aside0.mk hb.size
  clear HB BK OW CH
  have HB := t_HB
  have BK := t_BK
  have OW := t_OW
  have CH := t_CH
  clear t_HB t_BK t_OW t_CH
  have YP := Aside0.mk (yo_new ho0 ho1 ho2 ho5 ho6 ho7)
  clear ho0 ho1 ho2 ho5 ho6 ho7
  obtain ⟨Ap0, cp0, e_⟩ := Kd.R_slice YP.out.o0
  subst e_
  obtain ⟨Ap1, cp1, e_⟩ := Kd.R_slice YP.out.o1
  subst e_
  obtain ⟨Ap2, cp2, e_⟩ := Kd.R_slice YP.out.o2
  subst e_
  obtain ⟨Ap5, cp5, e_⟩ := Kd.R_slice YP.out.o5
  subst e_
  obtain ⟨Ap6, cp6, e_⟩ := Kd.S_slice YP.out.o6
  subst e_
  obtain ⟨Ap7, cp7, e_⟩ := Kd.R_slice YP.out.o7
  subst e_
  clear hb
  have cz0 : w17.cell? ⟨gb, 0, none⟩ = some (.slice A0 l0.length c0) := (blk_cell BK.out 0).trans rfl
  have cz1 : w17.cell? ⟨gb, 1, none⟩ = some (.slice A1 l1.length c1) := (blk_cell BK.out 1).trans rfl
  have cz2 : w17.cell? ⟨gb, 2, none⟩ = some (.slice A2 l2.length c2) := (blk_cell BK.out 2).trans rfl
  have cz3 : w17.cell? ⟨gb, 3, none⟩ = some (.int .i64 a3) := (blk_cell BK.out 3).trans rfl
  have cz4 : w17.cell? ⟨gb, 4, none⟩ = some (.int .i64 a4) := (blk_cell BK.out 4).trans rfl
  have cz5 : w17.cell? ⟨gb, 5, none⟩ = some (.slice A5 l5.length c5) := (blk_cell BK.out 5).trans rfl
  have cz6 : w17.cell? ⟨gb, 6, none⟩ = some (.slice A6 l6.length c6) := (blk_cell BK.out 6).trans rfl
  have cz7 : w17.cell? ⟨gb, 7, none⟩ = some (.slice A7 l7.length c7) := (blk_cell BK.out 7).trans rfl
  have cz8 : w17.cell? ⟨gb, 8, none⟩ = some (.int .i64 a8) := (blk_cell BK.out 8).trans rfl
  have cz9 : w17.cell? ⟨gb, 9, none⟩ = some (.int .i64 a9) := (blk_cell BK.out 9).trans rfl
  have cz10 : w17.cell? ⟨gb, 10, none⟩ = some (.int .i64 a10) := (blk_cell BK.out 10).trans rfl
  have fcz0 := blk_frozen BK.out 0
  have fcz1 := blk_frozen BK.out 1
  have fcz2 := blk_frozen BK.out 2
  have fcz3 := blk_frozen BK.out 3
  have fcz4 := blk_frozen BK.out 4
  have fcz5 := blk_frozen BK.out 5
  have fcz6 := blk_frozen BK.out 6
  have fcz7 := blk_frozen BK.out 7
  have fcz8 := blk_frozen BK.out 8
  have fcz9 := blk_frozen BK.out 9
  have fcz10 := blk_frozen BK.out 10
  go_wp2_with fail
  refine (impl_CountStates.calls k _ _ l0 _ _ l1 _ _ l2 a3 a4 _ _ x5 _ _ l6 _ _ l7 a8 a9 a10 g0 g1 _ (Kd.R_reads' YP.out.o0).2.2 (Kd.R_reads' YP.out.o0).2.1 (Kd.R_reads' YP.out.o1).2.2 (Kd.R_reads' YP.out.o1).2.1 (Kd.R_reads' YP.out.o2).2.2 (Kd.R_reads' YP.out.o2).2.1 (Kd.R_reads' YP.out.o5).2.2 (Kd.R_reads' YP.out.o5).2.1 (Kd.S_reads' YP.out.o6).2.2 (Kd.S_reads' YP.out.o6).2.1 (Kd.R_reads' YP.out.o7).2.2 (Kd.R_reads' YP.out.o7).2.1 Qi.out).mono ?_
  rintro e w18 ⟨u, rfl, ho, hb⟩
  clear cz0 fcz0 cz1 fcz1 cz2 fcz2 cz3 fcz3 cz4 fcz4 cz5 fcz5 cz6 fcz6 cz7 fcz7 cz8 fcz8 cz9 fcz9 cz10 fcz10
  have t_BK := Aside0.mk (blk_below BK.out hb)
  have t_OW := Aside0.mk (Kd.R_below OW.out hb)
  have t_CH := Aside0.mk (Kd.C_below CH.out hb)
  have t_YP := Aside0.mk (yo_below YP.out hb)
  have t_HB := Aside0.mk (below_step HB.out hb)
  have SZ18 := Aside0.mk hb.size
  clear HB BK OW CH YP
  have HB := t_HB
  have BK := t_BK
  have OW := t_OW
  have CH := t_CH
  have YP := t_YP
  clear t_HB t_BK t_OW t_CH t_YP
  have OP := Aside0.mk (ob_new ho)
  clear ho hb
  obtain ⟨Aq, cq, e_⟩ := Kd.R_slice OP.out
  subst e_
  clear YP
  go_wp2_with fail
  refine (laws_eqIntS.calls k _ _ g0 _ _ g0 true _ (Kd.R_reads' OP.out).2.2 (Kd.R_reads' OP.out).2.1 (Kd.R_reads' OW.out).2.2 (Kd.R_reads' OW.out).2.1 Qe.out).mono ?_
  rintro e w19 ⟨rfl, hd⟩
  have hb := hd.below
  have t_BK := Aside0.mk (blk_below BK.out hb)
  have t_OW := Aside0.mk (Kd.R_below OW.out hb)
  have t_CH := Aside0.mk (Kd.C_below CH.out hb)
  have t_OP := Aside0.mk (Kd.R_below OP.out hb)
  have t_HB := Aside0.mk (below_step HB.out hb)
  have SZ19 := Aside0.mk hb.size
  clear HB BK OW CH OP
  have HB := t_HB
  have BK := t_BK
  have OW := t_OW
  have CH := t_CH
  have OP := t_OP
  clear t_HB t_BK t_OW t_CH t_OP
  clear hb hd
  go_wp2_with fail
  have zc_ := laws_heldIntS.calls k _ _ h0 1 n0 _ CH.out NH.out Qh.out
  rw [← LH.out] at zc_
  refine zc_.mono ?_
  clear zc_
  rintro e w20 ⟨rfl, hd⟩
  have hb := hd.below
  have t_BK := Aside0.mk (blk_below BK.out hb)
  have t_OW := Aside0.mk (Kd.R_below OW.out hb)
  have t_CH := Aside0.mk (Kd.C_below CH.out hb)
  have t_OP := Aside0.mk (Kd.R_below OP.out hb)
  have t_HB := Aside0.mk (below_step HB.out hb)
  have SZ20 := Aside0.mk hb.size
  clear HB BK OW CH OP
  have HB := t_HB
  have BK := t_BK
  have OW := t_OW
  have CH := t_CH
  have OP := t_OP
  clear t_HB t_BK t_OW t_CH t_OP
  clear hb hd
  go_wp2
  go_ret
  exact ⟨rfl, HB.out⟩
/-- What the law's walk asks of the printed functions: an argument too large, or one line of equations. -/
def Told (k : Nat) (l0 : List Int) (l1 : List Int) (l2 : List Int) (a3 : Int) (a4 : Int) (l5 : List S103) (l6 : List (List Int)) (l7 : List Int) (a8 : Int) (a9 : Int) (a10 : Int) : Prop := (∃ z : Int, laws_szYard.f k l0 l1 l2 a3 a4 l5 l6 l7 a8 a9 a10 1048576 = some z ∧ z < 0) ∨ (∃ (x5 : List S80) (z m1 m2 m3 m4 n0 : Int) (y0 y1 y2 y7 g0 h0 : List Int) (g1 : Bool) (y5 : List S80) (y6 : List (List Int)), laws_szYard.f k l0 l1 l2 a3 a4 l5 l6 l7 a8 a9 a10 1048576 = some z ∧ laws_toYard.f k l0 l1 l2 a3 a4 l5 l6 l7 a8 a9 a10 = some (l0, l1, l2, a3, a4, x5, l6, l7, a8, a9, a10) ∧ spec_CountStates.f k l0 l1 l2 a3 a4 x5 l6 l7 a8 a9 a10 = some (g0, g1) ∧ impl_CountStates.f k l0 l1 l2 a3 a4 x5 l6 l7 a8 a9 a10 = some (g0, g1) ∧ laws_eqIntS.f k g0 g0 = some true ∧ laws_eqYard.f k l0 l1 l2 a3 a4 x5 l6 l7 a8 a9 a10 l0 l1 l2 a3 a4 x5 l6 l7 a8 a9 a10 = some true ∧ laws_markFleet.f k l0 l1 l2 a3 a4 1 = some (m1, y0, y1, y2) ∧ laws_markTruckS.f k x5 m1 = some (m2, y5) ∧ laws_markIntSS.f k l6 m2 = some (m3, y6) ∧ laws_markIntS.f k l7 m3 = some (m4, y7) ∧ laws_markIntS.f k g0 1 = some (n0, h0) ∧ laws_heldIntS.f k h0 1 = some n0 ∧ ¬ z < 0 ∧ ¬ m4 < 0 ∧ ¬ n0 < 0)
theorem laws_FnExactCountStates.calls (k : Nat) (A0 : Option Addr) (c0 : Nat) (l0 : List Int) (A1 : Option Addr) (c1 : Nat) (l1 : List Int) (A2 : Option Addr) (c2 : Nat) (l2 : List Int) (a3 : Int) (a4 : Int) (A5 : Option Addr) (c5 : Nat) (l5 : List S103) (A6 : Option Addr) (c6 : Nat) (l6 : List (List Int)) (A7 : Option Addr) (c7 : Nat) (l7 : List Int) (a8 : Int) (a9 : Int) (a10 : Int) (r : Bool) (w : World) (hr0 : Kd.C (Kd.int .i64) w A0 l0.length l0) (hc0 : l0.length ≤ c0) (hr1 : Kd.C (Kd.int .i64) w A1 l1.length l1) (hc1 : l1.length ≤ c1) (hr2 : Kd.C (Kd.int .i64) w A2 l2.length l2) (hc2 : l2.length ≤ c2) (hr5 : Kd.C k103 w A5 l5.length l5) (hc5 : l5.length ≤ c5) (hr6 : Kd.C (Kd.slice 3 (Kd.int .i64)) w A6 l6.length l6) (hc6 : l6.length ≤ c6) (hr7 : Kd.C (Kd.int .i64) w A7 l7.length l7) (hc7 : l7.length ≤ c7) (h : Told k l0 l1 l2 a3 a4 l5 l6 l7 a8 a9 a10) :
    Calls Try.prog 8 #[.agg #[.slice A0 l0.length c0, .slice A1 l1.length c1, .slice A2 l2.length c2, .int .i64 a3, .int .i64 a4, .slice A5 l5.length c5, .slice A6 l6.length c6, .slice A7 l7.length c7, .int .i64 a8, .int .i64 a9, .int .i64 a10]] w fun e w' => e = .returned (.bool true) ∧ Below w.heap.size w w' := by
  rcases h with ⟨z, qz, nz⟩ | ⟨x5, z, m1, m2, m3, m4, n0, y0, y1, y2, y7, g0, h0, g1, y5, y6, qz, qt, qs, qi, qe, qx, q1, q2, q3, q4, qn, qh, nz, nm, nn⟩
  · exact law_sz k A0 c0 l0 A1 c1 l1 A2 c2 l2 a3 a4 A5 c5 l5 A6 c6 l6 A7 c7 l7 a8 a9 a10 z w hr0 hc0 hr1 hc1 hr2 hc2 hr5 hc5 hr6 hc6 hr7 hc7 qz nz
  · exact law_calls k A0 c0 l0 A1 c1 l1 A2 c2 l2 a3 a4 A5 c5 l5 A6 c6 l6 A7 c7 l7 a8 a9 a10 x5 z m1 m2 m3 m4 n0 y0 y1 y2 y7 g0 h0 g1 y5 y6 w hr0 hc0 hr1 hc1 hr2 hc2 hr5 hc5 hr6 hc6 hr7 hc7 qz qt qs qi qe qx q1 q2 q3 q4 qn qh nz nm nn

end Go.Proofs.Ytikbfnbfbpnmjaa.MFnExactCountStates
