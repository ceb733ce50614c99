/- The walk of the law FnExactNewYard: a line of calls, each by its contract. -/
import Derived.Test.YtikbfnbfbpnmjaaPFnExactNewYardx
namespace Go.Proofs.Ytikbfnbfbpnmjaa.MFnExactNewYard
open Go.RowKit Go.Proofs.YtikbfnbfbpnmjaaW.PrintWords Go.Proofs.YtikbfnbfbpnmjaaW.PrintLast Go.Proofs.YtikbfnbfbpnmjaaW.PrintMore Go.Proofs.Ytikbfnbfbpnmjaa.PFnExactNewYard
attribute [local go_sem] max2_int min2_int max_two min_two max_three min_three max_four min_four
set_option linter.unusedVariables false
set_option linter.unusedSimpArgs false
section
variable {α : Type} {d : Kd α} {e : Nat} {W W' : World} {v : Value} {xs : List α}
end
def laws_markIntSS.l0 : Nat → List (List Int) → Int → Int → Option (Int × List (List Int))
  | 0, _, _, _ => none
  | k + 1, x0, x1, x5 => if x5 < (x0.length : Int) then (if 0 ≤ x5 then ((laws_markIntS.f k (rd_L2 x0 x5) x1).bind fun bt => laws_markIntSS.l0 k (x0.set x5.toNat bt.2) bt.1 (wrap64 (x5 + 1))) else none) else some (x1, x0)
def laws_markIntSS.f (k : Nat) (l0 : List (List Int)) (a1 : Int) : Option (Int × List (List Int)) := laws_markIntSS.l0 k l0 a1 0
set_option maxHeartbeats 8000000 in
set_option maxRecDepth 100000 in
theorem laws_markIntSS.calls (k : Nat) (P0_ : Nat → Prop) (u : Value) (l0 : List (List Int)) (a1 r1 : Int) (r2 : List (List Int)) (w0 w : World) (hB : Below w0.heap.size w0 w) (ho0 : Kd.S (Kd.slice 3 (Kd.int .i64)) 22 w w0.heap.size P0_ u l0) (h : laws_markIntSS.f k l0 a1 = some (r1, r2)) :
    Calls Try.prog 81 #[u, .int .i64 a1] w fun e w' => e = .returned (.int .i64 r1) ∧ Kd.S (Kd.slice 3 (Kd.int .i64)) 22 w' w0.heap.size P0_ u r2 ∧ Below w0.heap.size w0 w' ∧ Kept w w' P0_ := by
  have HO0 := Aside0.mk ho0
  have HK := Aside0.mk (Kept.refl w P0_)
  have HB := Aside0.mk hB
  clear hB ho0
  have H' : Aside0 (laws_markIntSS.l0 k l0 a1 0 = some (r1, r2)) := ⟨h⟩
  clear h
  go_enter Try.func81, Try.ntmps81
  go_wp2
  go_loopg [1, 5] k (fun kq v1 v5 w' => ∃ (x0 : List (List Int)) (x1 x5 : Int), v1 = .int .i64 x1 ∧ v5 = .int .i64 x5 ∧ Aside0 (laws_markIntSS.l0 kq x0 x1 x5 = some (r1, r2)) ∧ Aside0 (kq ≤ k) ∧ Aside0 (Kd.S (Kd.slice 3 (Kd.int .i64)) 22 w' w0.heap.size P0_ u x0) ∧ Aside0 (Kept w w' P0_) ∧ Aside0 (Below w0.heap.size w0 w'))
  case atStart => exact ⟨l0, a1, 0, rfl, rfl, H', ⟨Nat.le_refl _⟩, HO0, HK, HB⟩
  case round =>
    clear H' HO0 HK HB
    obtain ⟨x0, x1, x5, rfl, rfl, HA, HK1, HO, HK, HB⟩ := hrel
    cases gk with
    | zero => exact absurd HA.out (by simp [laws_markIntSS.l0])
    | succ k1 =>
      have H := HA.out
      clear HA
      simp only [laws_markIntSS.l0] at H
      obtain ⟨Ao, co, eo⟩ := Kd.S_slice HO.out
      subst eo
      by_cases c3 : x5 < (x0.length : Int)
      · rw [if_pos c3] at H
        have c3b : decide (x5 < (x0.length : Int)) = true := decide_eq_true c3
        by_cases c4 : 0 ≤ x5
        · rw [if_pos c4] at H
          obtain ⟨⟨t1, t2⟩, A1, H⟩ := Option.bind_eq_some_iff.mp H
          have A2 := Aside0.mk A1
          have H' := Aside0.mk H
          clear A1
          obtain ⟨go, co', eo', gb, gl, cl, HG⟩ := Kd.S_form HO.out (by omega)
          (first | cases eo' | (injection eo' with ea_ en_ ec_; (first | subst ea_ | (injection ea_ with ea_; subst ea_)); subst ec_; clear en_))
          obtain ⟨oki, c, hcl, hM, hcc, hfr, hoki, hH⟩ := Kd.S_elem HO.out [] x5 c4 c3
          obtain ⟨ve, rfl, he⟩ := hM
          obtain ⟨Ae, ce, rfl⟩ := Kd.R_slice he
          have hX : x0.getD x5.toNat [] = rd_L2 x0 x5 := rfl
          have hx := hcc 0 _ rfl
          simp only [show (Kd.slice 3 (Kd.int .i64)).sz = 1 from rfl, Nat.mul_one, Nat.add_zero] at hx
          rw [hX] at he hx hH
          have HE := Aside0.mk he
          have HH := Aside0.mk hH
          have HI := Aside0.mk hoki
          clear he hH hoki hcc hcl hfr gb gl cl HG
          have p := eq_true c4
          have q := eq_true c3
          go_wp2_with fail
          refine (laws_markIntS.calls k1 oki _ (rd_L2 x0 x5) x1 t1 t2 w0 _ HB.out HE.out A2.out).mono ?_
          rintro e w1 ⟨rfl, hr, hb, hk⟩
          have HS := Aside0.mk (Kd.H_back (Kd.H_step HH.out (fun k _ hn hlt => hk.2 k hlt hn)) (x' := t2) (okp := fun k_ => some k_ = (Value.slice Ae (rd_L2 x0 x5).length ce).ownBlock) ⟨_, rfl, Kd.R_tight rfl hr⟩ (fun k hk_ => HE.out.1 k hk_.symm))
          have HK2 : Aside0 (Kept w w1 P0_) := ⟨Nat.le_trans HK.out.1 hk.1, fun i hi hn => (hk.2 i (Nat.lt_of_lt_of_le hi HK.out.1) (fun h => hn (HI.out i h).1)).trans (HK.out.2 i hi hn)⟩
          have HB2 := Aside0.mk hb
          clear hr hb hk HE HH HI HO HK HB hx
          go_wp2
          go_roundg k1
          case measure => have := HK1.out; omega
          case rel => exact ⟨x0.set x5.toNat t2, t1, wrap64 (x5 + 1), rfl, rfl, H', ⟨by have := HK1.out; omega⟩, HS, HK2, HB2⟩
        · rw [if_neg c4] at H
          exact absurd H (by simp)
      · rw [if_neg c3] at H
        have c3b0 : decide (x5 < (x0.length : Int)) = false := decide_eq_false c3
        clear c3
        simp only [Option.some.injEq, Prod.mk.injEq] at H
        obtain ⟨rfl, rfl⟩ := H
        go_wp2
        go_ret
        exact ⟨rfl, HO.out, HB.out, HK.out⟩
/-- A yard's six slices, each the call's own, apart from each other, between the blocks lo and hi. -/
structure Yo (W : World) (lo hi : Nat) (v0 v1 v2 v5 v6 v7 : Value) (r0 r1 r2 : List Int) (r5 : List S80) (r6 : List (List Int)) (r7 : List Int) : Prop where
  o0 : Kd.R (Kd.int .i64) 3 W lo (fun k => (some k ≠ v1.ownBlock ∧ some k ≠ v2.ownBlock ∧ some k ≠ v7.ownBlock) ∧ k < hi) v0 r0
  o1 : Kd.R (Kd.int .i64) 3 W lo (fun k => (some k ≠ v0.ownBlock ∧ some k ≠ v2.ownBlock ∧ some k ≠ v7.ownBlock) ∧ k < hi) v1 r1
  o2 : Kd.R (Kd.int .i64) 3 W lo (fun k => (some k ≠ v0.ownBlock ∧ some k ≠ v1.ownBlock ∧ some k ≠ v7.ownBlock) ∧ k < hi) v2 r2
  o5 : Kd.R k80 80 W lo (fun k => k < hi) v5 r5
  o6 : Kd.S (Kd.slice 3 (Kd.int .i64)) 22 W lo (fun k => (some k ≠ v0.ownBlock ∧ some k ≠ v1.ownBlock ∧ some k ≠ v2.ownBlock ∧ some k ≠ v7.ownBlock) ∧ k < hi) v6 r6
  o7 : Kd.R (Kd.int .i64) 3 W lo (fun k => (some k ≠ v0.ownBlock ∧ some k ≠ v1.ownBlock ∧ some k ≠ v2.ownBlock) ∧ k < hi) v7 r7
section
variable {W W2 : World} {lo hi : Nat} {v0 v1 v2 v5 v6 v7 : Value} {r0 r1 r2 : List Int} {r5 : List S80} {r6 : List (List Int)} {r7 : List Int}
theorem yo_new
    (h0 : Kd.R (Kd.int .i64) 3 W lo (fun k => some k ≠ v1.ownBlock ∧ some k ≠ v2.ownBlock ∧ some k ≠ v7.ownBlock) v0 r0)
    (h1 : Kd.R (Kd.int .i64) 3 W lo (fun k => some k ≠ v0.ownBlock ∧ some k ≠ v2.ownBlock ∧ some k ≠ v7.ownBlock) v1 r1)
    (h2 : Kd.R (Kd.int .i64) 3 W lo (fun k => some k ≠ v0.ownBlock ∧ some k ≠ v1.ownBlock ∧ some k ≠ v7.ownBlock) v2 r2)
    (h5 : Kd.R k80 80 W lo (fun _ => True) v5 r5)
    (h6 : Kd.S (Kd.slice 3 (Kd.int .i64)) 22 W lo (fun k => some k ≠ v0.ownBlock ∧ some k ≠ v1.ownBlock ∧ some k ≠ v2.ownBlock ∧ some k ≠ v7.ownBlock) v6 r6)
    (h7 : Kd.R (Kd.int .i64) 3 W lo (fun k => some k ≠ v0.ownBlock ∧ some k ≠ v1.ownBlock ∧ some k ≠ v2.ownBlock) v7 r7) : Yo W lo W.heap.size v0 v1 v2 v5 v6 v7 r0 r1 r2 r5 r6 r7 :=
  ⟨Kd.R_mono (Kd.R_bound h0) (fun k hk => ⟨hk.1, hk.2.2.1⟩), Kd.R_mono (Kd.R_bound h1) (fun k hk => ⟨hk.1, hk.2.2.1⟩), Kd.R_mono (Kd.R_bound h2) (fun k hk => ⟨hk.1, hk.2.2.1⟩), Kd.R_mono (Kd.R_bound h5) (fun k hk => hk.2.2.1), Kd.S_mono (Kd.S_bound h6) (fun k hk => ⟨hk.1, hk.2.2.1⟩), Kd.R_mono (Kd.R_bound h7) (fun k hk => ⟨hk.1, hk.2.2.1⟩)⟩
theorem yo_below (h : Yo W lo hi v0 v1 v2 v5 v6 v7 r0 r1 r2 r5 r6 r7) (hb : Below W.heap.size W W2) : Yo W2 lo hi v0 v1 v2 v5 v6 v7 r0 r1 r2 r5 r6 r7 :=
  ⟨Kd.R_below h.o0 hb, Kd.R_below h.o1 hb, Kd.R_below h.o2 hb, Kd.R_below h.o5 hb, Kd.S_below h.o6 hb, Kd.R_below h.o7 hb⟩
theorem yo_kept {S : Nat → Prop} (h : Yo W lo hi v0 v1 v2 v5 v6 v7 r0 r1 r2 r5 r6 r7) (hk : Kept W W2 S) (hS : ∀ k, lo ≤ k → k < hi → ¬ S k) : Yo W2 lo hi v0 v1 v2 v5 v6 v7 r0 r1 r2 r5 r6 r7 :=
  have q : ∀ {p p' : Prop} {k : Nat}, ((p ∧ k < hi) ∧ lo ≤ k ∧ p') → ¬ S k := fun h => hS _ h.2.1 h.1.2
  ⟨Kd.R_mono (Kd.R_kept (Kd.R_bound h.o0) hk (fun _ h => q h)) (fun _ h => h.1), Kd.R_mono (Kd.R_kept (Kd.R_bound h.o1) hk (fun _ h => q h)) (fun _ h => h.1), Kd.R_mono (Kd.R_kept (Kd.R_bound h.o2) hk (fun _ h => q h)) (fun _ h => h.1),
   Kd.R_mono (Kd.R_kept (Kd.R_bound h.o5) hk (fun _ h => hS _ h.2.1 h.1)) (fun _ h => h.1), Kd.S_mono (Kd.S_kept (Kd.S_bound h.o6) hk (fun _ h => q h)) (fun _ h => h.1), Kd.R_mono (Kd.R_kept (Kd.R_bound h.o7) hk (fun _ h => q h)) (fun _ h => h.1)⟩
/-- The six with a set of blocks of its own each. -/
structure Ya (W : World) (b g : Nat) (P0 P1 P2 P5 P6 P7 : Nat → Prop) (v0 v1 v2 v5 v6 v7 : Value) (r0 r1 r2 : List Int) (r5 : List S80) (r6 : List (List Int)) (r7 : List Int) : Prop where
  o0 : Kd.R (Kd.int .i64) 3 W b P0 v0 r0
  o1 : Kd.R (Kd.int .i64) 3 W b P1 v1 r1
  o2 : Kd.R (Kd.int .i64) 3 W b P2 v2 r2
  o5 : Kd.R k80 80 W b P5 v5 r5
  o6 : Kd.S (Kd.slice 3 (Kd.int .i64)) 22 W b P6 v6 r6
  o7 : Kd.R (Kd.int .i64) 3 W b P7 v7 r7
  d01 : ∀ k, P0 k → ¬ P1 k
  d02 : ∀ k, P0 k → ¬ P2 k
  d12 : ∀ k, P1 k → ¬ P2 k
  d05 : ∀ k, (P0 k ∨ P1 k ∨ P2 k) → ¬ P5 k
  d06 : ∀ k, (P0 k ∨ P1 k ∨ P2 k) → ¬ P6 k
  d07 : ∀ k, (P0 k ∨ P1 k ∨ P2 k) → ¬ P7 k
  d56 : ∀ k, P5 k → ¬ P6 k
  d57 : ∀ k, P5 k → ¬ P7 k
  d67 : ∀ k, P6 k → ¬ P7 k
  lt : ∀ k, (P0 k ∨ P1 k ∨ P2 k) ∨ P5 k ∨ P6 k ∨ P7 k → k < g
theorem own_lt' {α : Type} {d : Kd α} {e lo k : Nat} {p : Nat → Prop} {v : Value} {xs : List α} (h : d.R e W lo p v xs) (hk : some k = v.ownBlock) : p k ∧ lo ≤ k ∧ k < W.heap.size ∧ ∃ cells, W.heap[k]? = some (.cells cells e (0, 0)) :=
  ⟨h.1 k hk.symm, Kd.R_base h k hk.symm, Kd.R_lt h k hk.symm, Kd.R_typed h k hk.symm⟩
theorem types_ne {k a b : Nat} {x y : Array Value} (h1 : W.heap[k]? = some (.cells x a (0, 0))) (h2 : W.heap[k]? = some (.cells y b (0, 0))) : a = b := by
  rw [h1] at h2
  injection h2 with h2
  injection h2
theorem yo_split {b : Nat} (h : Yo W lo hi v0 v1 v2 v5 v6 v7 r0 r1 r2 r5 r6 r7) (hb : b ≤ lo) : ∃ P0 P1 P2 P5 P6 P7 : Nat → Prop, Ya W b W.heap.size P0 P1 P2 P5 P6 P7 v0 v1 v2 v5 v6 v7 r0 r1 r2 r5 r6 r7 ∧ ∀ k, (P0 k ∨ P1 k ∨ P2 k) ∨ P5 k ∨ P6 k ∨ P7 k → lo ≤ k ∧ k < hi := by
  have t0 : ∀ k, _ := fun k => own_lt' (k := k) h.o0
  have t1 : ∀ k, _ := fun k => own_lt' (k := k) h.o1
  have t2 : ∀ k, _ := fun k => own_lt' (k := k) h.o2
  have t5 : ∀ k, _ := fun k => own_lt' (k := k) h.o5
  have t7 : ∀ k, _ := fun k => own_lt' (k := k) h.o7
  refine ⟨fun k => some k = v0.ownBlock, fun k => some k = v1.ownBlock, fun k => some k = v2.ownBlock, fun k => some k = v5.ownBlock, _, fun k => some k = v7.ownBlock, ⟨Kd.R_lower (Kd.R_tight rfl h.o0) hb, Kd.R_lower (Kd.R_tight rfl h.o1) hb, Kd.R_lower (Kd.R_tight rfl h.o2) hb, Kd.R_lower (Kd.R_tight rfl h.o5) hb, Kd.S_lower (Kd.S_bound h.o6) hb, Kd.R_lower (Kd.R_tight rfl h.o7) hb, ?_, ?_, ?_, ?_, ?_, ?_, ?_, ?_, ?_, ?_⟩, ?_⟩
  · exact fun k h e => (t0 k h).1.1.1 e
  · exact fun k h e => (t0 k h).1.1.2.1 e
  · exact fun k h e => (t1 k h).1.1.2.1 e
  · rintro k (h | h | h) e
    · obtain ⟨_, _, _, x, hx⟩ := t0 k h; obtain ⟨_, _, _, y, hy⟩ := t5 k e; exact absurd (types_ne hx hy) (by decide)
    · obtain ⟨_, _, _, x, hx⟩ := t1 k h; obtain ⟨_, _, _, y, hy⟩ := t5 k e; exact absurd (types_ne hx hy) (by decide)
    · obtain ⟨_, _, _, x, hx⟩ := t2 k h; obtain ⟨_, _, _, y, hy⟩ := t5 k e; exact absurd (types_ne hx hy) (by decide)
  · rintro k (h | h | h) e
    · exact e.1.1.1 h
    · exact e.1.1.2.1 h
    · exact e.1.1.2.2.1 h
  · rintro k (h | h | h) e
    · exact (t7 k e).1.1.1 h
    · exact (t7 k e).1.1.2.1 h
    · exact (t7 k e).1.1.2.2 h
  · rintro k h ⟨_, _, _, q, hq, y, hy⟩
    obtain ⟨_, _, _, x, hx⟩ := t5 k h
    have e := types_ne hx hy
    subst e
    exact absurd hq (by decide)
  · intro k h e
    obtain ⟨_, _, _, x, hx⟩ := t5 k h; obtain ⟨_, _, _, y, hy⟩ := t7 k e; exact absurd (types_ne hx hy) (by decide)
  · exact fun k h e => h.1.1.2.2.2 e
  · rintro k ((h | h | h) | h | h | h)
    · exact (t0 k h).2.2.1
    · exact (t1 k h).2.2.1
    · exact (t2 k h).2.2.1
    · exact (t5 k h).2.2.1
    · exact h.2.2.1
    · exact (t7 k h).2.2.1
  · rintro k ((h | h | h) | h | h | h)
    · exact ⟨(t0 k h).2.1, (t0 k h).1.2⟩
    · exact ⟨(t1 k h).2.1, (t1 k h).1.2⟩
    · exact ⟨(t2 k h).2.1, (t2 k h).1.2⟩
    · exact ⟨(t5 k h).2.1, (t5 k h).1⟩
    · exact ⟨h.2.1, h.1.2⟩
    · exact ⟨(t7 k h).2.1, (t7 k h).1.2⟩
end
theorem below_box {w W : World} {b g : Nat} (h : Below b w W) (hg : b ≤ g) (i : Nat) (u : Value) : Below b w (W.setCell ⟨g, i, none⟩ u) := h.setCell hg u
/-- A fleet's three slices, each the call's own, apart from each other, between the blocks lo and hi. -/
structure Fo (W : World) (lo hi : Nat) (v0 v1 v2 : Value) (r0 r1 r2 : List Int) : Prop where
  o0 : Kd.R (Kd.int .i64) 3 W lo (fun k => (some k ≠ v1.ownBlock ∧ some k ≠ v2.ownBlock) ∧ k < hi) v0 r0
  o1 : Kd.R (Kd.int .i64) 3 W lo (fun k => (some k ≠ v0.ownBlock ∧ some k ≠ v2.ownBlock) ∧ k < hi) v1 r1
  o2 : Kd.R (Kd.int .i64) 3 W lo (fun k => (some k ≠ v0.ownBlock ∧ some k ≠ v1.ownBlock) ∧ k < hi) v2 r2
/-- A yard's six slices as they read. -/
structure Yd (W : World) (b : Nat) (v0 v1 v2 v5 v6 v7 : Value) (r0 r1 r2 : List Int) (r5 : List S80) (r6 : List (List Int)) (r7 : List Int) : Prop where
  o0 : Kd.R (Kd.int .i64) 3 W b (fun _ => True) v0 r0
  o1 : Kd.R (Kd.int .i64) 3 W b (fun _ => True) v1 r1
  o2 : Kd.R (Kd.int .i64) 3 W b (fun _ => True) v2 r2
  o5 : Kd.R k80 80 W b (fun _ => True) v5 r5
  o6 : Kd.S (Kd.slice 3 (Kd.int .i64)) 22 W b (fun _ => True) v6 r6
  o7 : Kd.R (Kd.int .i64) 3 W b (fun _ => True) v7 r7
section
variable {W W2 : World} {lo hi b : Nat} {v0 v1 v2 v5 v6 v7 : Value} {r0 r1 r2 : List Int} {r5 : List S80} {r6 : List (List Int)} {r7 : List Int}
theorem fo_new
    (h0 : Kd.R (Kd.int .i64) 3 W lo (fun k => some k ≠ v1.ownBlock ∧ some k ≠ v2.ownBlock) v0 r0)
    (h1 : Kd.R (Kd.int .i64) 3 W lo (fun k => some k ≠ v0.ownBlock ∧ some k ≠ v2.ownBlock) v1 r1)
    (h2 : Kd.R (Kd.int .i64) 3 W lo (fun k => some k ≠ v0.ownBlock ∧ some k ≠ v1.ownBlock) v2 r2) : Fo W lo W.heap.size v0 v1 v2 r0 r1 r2 :=
  ⟨Kd.R_mono (Kd.R_bound h0) (fun k hk => ⟨hk.1, hk.2.2.1⟩), Kd.R_mono (Kd.R_bound h1) (fun k hk => ⟨hk.1, hk.2.2.1⟩), Kd.R_mono (Kd.R_bound h2) (fun k hk => ⟨hk.1, hk.2.2.1⟩)⟩
theorem fo_below (h : Fo W lo hi v0 v1 v2 r0 r1 r2) (hb : Below W.heap.size W W2) : Fo W2 lo hi v0 v1 v2 r0 r1 r2 :=
  ⟨Kd.R_below h.o0 hb, Kd.R_below h.o1 hb, Kd.R_below h.o2 hb⟩
theorem yd_below (h : Yd W b v0 v1 v2 v5 v6 v7 r0 r1 r2 r5 r6 r7) (hb : Below W.heap.size W W2) : Yd W2 b v0 v1 v2 v5 v6 v7 r0 r1 r2 r5 r6 r7 :=
  ⟨Kd.R_below h.o0 hb, Kd.R_below h.o1 hb, Kd.R_below h.o2 hb, Kd.R_below h.o5 hb, Kd.S_below h.o6 hb, Kd.R_below h.o7 hb⟩
end
theorem laws_markFleet.calls2 (k : Nat) (v0 v1 v2 : Value) (r0 r1 r2 : List Int) (a3 a4 a1 m1 : Int) (y0 y1 y2 : List Int) (lo hi : Nat) (w0 w : World) (hB : Below w0.heap.size w0 w) (hlo : w0.heap.size ≤ lo) (hF : Fo w lo hi v0 v1 v2 r0 r1 r2) (q1 : laws_markFleet.f k r0 r1 r2 a3 a4 a1 = some (m1, y0, y1, y2)) :
    Calls Try.prog 42 #[.agg #[v0, v1, v2, .int .i64 a3, .int .i64 a4], .int .i64 a1] w fun e w' => e = .returned (.int .i64 m1) ∧ Below w0.heap.size w0 w' ∧ Kept w w' (fun k_ => lo ≤ k_ ∧ k_ < hi) := by
  have t0 : ∀ k, _ := fun k => own_lt' (k := k) hF.o0
  have t1 : ∀ k, _ := fun k => own_lt' (k := k) hF.o1
  have t2 : ∀ k, _ := fun k => own_lt' (k := k) hF.o2
  refine (laws_markFleet.calls k (fun k => some k = v0.ownBlock) v0 r0 (fun k => some k = v1.ownBlock) v1 r1 (fun k => some k = v2.ownBlock) v2 r2 a3 a4 a1 m1 y0 y1 y2 w0 w hB (Kd.R_lower (Kd.R_tight rfl hF.o0) hlo) (fun k h e => (t0 k h).1.1.1 e) (fun k h e => (t0 k h).1.1.2 e) (Kd.R_lower (Kd.R_tight rfl hF.o1) hlo) (fun k h e => (t1 k h).1.1.1 e) (fun k h e => (t1 k h).1.1.2 e) (Kd.R_lower (Kd.R_tight rfl hF.o2) hlo) (fun k h e => (t2 k h).1.1.1 e) (fun k h e => (t2 k h).1.1.2 e) q1).mono ?_
  rintro e W2 ⟨rfl, -, -, -, hb, hk⟩
  refine ⟨rfl, hb, Kept.mono hk ?_⟩
  rintro k (h | h | h)
  · exact ⟨(t0 k h).2.1, (t0 k h).1.2⟩
  · exact ⟨(t1 k h).2.1, (t1 k h).1.2⟩
  · exact ⟨(t2 k h).2.1, (t2 k h).1.2⟩
theorem mk_far {α : Type} {d : Kd α} {e b n : Nat} {W2 W3 : World} {P0 P1 P2 S : Nat → Prop} {v : Value} {y : List α} (h : d.R e W2 b (fun k => (P0 k ∨ P1 k ∨ P2 k) ∨ n ≤ k) v y) (hk : Kept W2 W3 S) (hd : ∀ k, (P0 k ∨ P1 k ∨ P2 k) → ¬ S k) (hs : ∀ k, S k → k < n) : d.R e W3 b (fun k => (P0 k ∨ P1 k ∨ P2 k) ∨ n ≤ k) v y :=
  Kd.R_kept h hk (fun k hp hS => hp.elim (fun q => hd k q hS) (fun q => absurd (hs k hS) (Nat.not_lt.2 q)))
set_option maxHeartbeats 8000000 in
set_option maxRecDepth 100000 in
theorem laws_markYard.calls2 (k : Nat) (v0 v1 v2 v5 v6 v7 : Value) (r0 r1 r2 : List Int) (a3 a4 : Int) (r5 : List S80) (r6 : List (List Int)) (r7 : List Int) (a8 a9 a10 : Int) (a1 m1 m2 m3 m4 : Int) (y0 y1 y2 : List Int) (y5 : List S80) (y6 : List (List Int)) (y7 : List Int) (lo hi : Nat) (w0 w : World) (hB : Below w0.heap.size w0 w) (hlo : w0.heap.size ≤ lo) (hY : Yo w lo hi v0 v1 v2 v5 v6 v7 r0 r1 r2 r5 r6 r7)
    (q1 : laws_markFleet.f k r0 r1 r2 a3 a4 a1 = some (m1, y0, y1, y2)) (q2 : laws_markTruckS.f k r5 m1 = some (m2, y5)) (q3 : laws_markIntSS.f k r6 m2 = some (m3, y6)) (q4 : laws_markIntS.f k r7 m3 = some (m4, y7)) :
    Calls Try.prog 35 #[.agg #[v0, v1, v2, .int .i64 a3, .int .i64 a4, v5, v6, v7, .int .i64 a8, .int .i64 a9, .int .i64 a10], .int .i64 a1] w fun e w' => e = .returned (.int .i64 m4) ∧ Below w0.heap.size w0 w' ∧ Kept w w' (fun k_ => lo ≤ k_ ∧ k_ < hi) ∧ Yd w' w0.heap.size v0 v1 v2 v5 v6 v7 y0 y1 y2 y5 y6 y7 := by
  have hu44 := Try.underlying44
  have hu27 := Try.underlying27
  obtain ⟨P0, P1, P2, P5, P6, P7, hA, hR⟩ := yo_split hY hlo
  have HA := Aside0.mk hA
  have HR := Aside0.mk hR
  have HB := Aside0.mk hB
  have Q1 := Aside0.mk q1
  have Q2 := Aside0.mk q2
  have Q3 := Aside0.mk q3
  have Q4 := Aside0.mk q4
  obtain ⟨A0, c0, e0⟩ := Kd.R_slice HA.out.o0
  obtain ⟨A1, c1, e1⟩ := Kd.R_slice HA.out.o1
  obtain ⟨A2, c2, e2⟩ := Kd.R_slice HA.out.o2
  obtain ⟨A5, c5, e5⟩ := Kd.R_slice HA.out.o5
  obtain ⟨A6, c6, e6⟩ := Kd.S_slice HA.out.o6
  obtain ⟨A7, c7, e7⟩ := Kd.R_slice HA.out.o7
  subst e0 e1 e2 e5 e6 e7
  clear hA hR hB q1 q2 q3 q4 hY
  go_enter Try.func35, Try.ntmps35
  go_wp2_with (first | ((with_reducible refine gate_dst (N := 2) rfl ?_); refine box_event ?hg (N := 2) ?hd (cs := #[.slice A0 r0.length c0, .slice A1 r1.length c1, .slice A2 r2.length c2, .int .i64 a3, .int .i64 a4, .slice A5 r5.length c5, .slice A6 r6.length c6, .slice A7 r7.length c7, .int .i64 a8, .int .i64 a9, .int .i64 a10]) (t := 44) ?hr ?_; (case hd => rfl); (case hg => rfl); (case hr => first | (go_simp; done) | (go_simp; rfl)); intro gb hg W1 hbox hb; have BK := Aside0.mk hbox; have HB1 := Aside0.mk hb; have HG := Aside0.mk hg; clear hbox hb hg; have cz0 : W1.cell? ⟨gb, 0, none⟩ = some (.slice A0 r0.length c0) := (blk_cell BK.out 0).trans rfl; have cz1 : W1.cell? ⟨gb, 1, none⟩ = some (.slice A1 r1.length c1) := (blk_cell BK.out 1).trans rfl; have cz2 : W1.cell? ⟨gb, 2, none⟩ = some (.slice A2 r2.length c2) := (blk_cell BK.out 2).trans rfl; have cz3 : W1.cell? ⟨gb, 3, none⟩ = some (.int .i64 a3) := (blk_cell BK.out 3).trans rfl; have cz4 : W1.cell? ⟨gb, 4, none⟩ = some (.int .i64 a4) := (blk_cell BK.out 4).trans rfl; have cz5 : W1.cell? ⟨gb, 5, none⟩ = some (.slice A5 r5.length c5) := (blk_cell BK.out 5).trans rfl; have cz6 : W1.cell? ⟨gb, 6, none⟩ = some (.slice A6 r6.length c6) := (blk_cell BK.out 6).trans rfl; have cz7 : W1.cell? ⟨gb, 7, none⟩ = some (.slice A7 r7.length c7) := (blk_cell BK.out 7).trans rfl; have cz8 : W1.cell? ⟨gb, 8, none⟩ = some (.int .i64 a8) := (blk_cell BK.out 8).trans rfl; have cz9 : W1.cell? ⟨gb, 9, none⟩ = some (.int .i64 a9) := (blk_cell BK.out 9).trans rfl; have cz10 : W1.cell? ⟨gb, 10, none⟩ = some (.int .i64 a10) := (blk_cell BK.out 10).trans rfl; have fcz0 := blk_frozen BK.out 0; have fcz1 := blk_frozen BK.out 1; have fcz2 := blk_frozen BK.out 2; have fcz3 := blk_frozen BK.out 3; have fcz4 := blk_frozen BK.out 4; have fcz5 := blk_frozen BK.out 5; have fcz6 := blk_frozen BK.out 6; have fcz7 := blk_frozen BK.out 7; have fcz8 := blk_frozen BK.out 8; have fcz9 := blk_frozen BK.out 9; have fcz10 := blk_frozen BK.out 10))
  have X := Aside0.mk (show Kd.R (Kd.int .i64) 3 W1 w0.heap.size P0 (.slice A0 r0.length c0) r0 from Kd.R_below HA.out.o0 HB1.out)
  refine (laws_markFleet.calls k P0 _ r0 P1 _ r1 P2 _ r2 a3 a4 a1 m1 y0 y1 y2 w0 W1 (below_step HB.out HB1.out) X.out HA.out.d01 HA.out.d02 (Kd.R_below HA.out.o1 HB1.out) (fun k h h' => HA.out.d01 k h' h) HA.out.d12 (Kd.R_below HA.out.o2 HB1.out) (fun k h h' => HA.out.d02 k h' h) (fun k h h' => HA.out.d12 k h' h) Q1.out).mono ?_
  rintro e W2 ⟨rfl, f0, f1, f2, hB2, hk2⟩
  have F0 := Aside0.mk f0
  have F1 := Aside0.mk f1
  have F2 := Aside0.mk f2
  clear f0 f1 f2
  have HK2 := Aside0.mk hk2
  have HB2 := Aside0.mk hB2
  have BK2 := Aside0.mk (blk_kept BK.out hk2 (fun h => Nat.lt_irrefl _ (Nat.lt_of_lt_of_le (HA.out.lt _ (.inl h)) (Nat.le_of_eq HG.out.symm))))
  have O5 := Aside0.mk (Kd.R_kept (Kd.R_below HA.out.o5 HB1.out) hk2 (fun k h h' => HA.out.d05 k h' h))
  have O6 := Aside0.mk (Kd.S_kept (Kd.S_below HA.out.o6 HB1.out) hk2 (fun k h h' => HA.out.d06 k h' h))
  have O7 := Aside0.mk (Kd.R_kept (Kd.R_below HA.out.o7 HB1.out) hk2 (fun k h h' => HA.out.d07 k h' h))
  clear hk2 hB2 cz0 fcz0 cz1 fcz1 cz2 fcz2 cz3 fcz3 cz4 fcz4 cz5 fcz5 cz6 fcz6 cz7 fcz7 cz8 fcz8 cz9 fcz9 cz10 fcz10
  have cz0 : W2.cell? ⟨gb, 0, none⟩ = some (.slice A0 r0.length c0) := (blk_cell BK2.out 0).trans rfl
  have cz1 : W2.cell? ⟨gb, 1, none⟩ = some (.slice A1 r1.length c1) := (blk_cell BK2.out 1).trans rfl
  have cz2 : W2.cell? ⟨gb, 2, none⟩ = some (.slice A2 r2.length c2) := (blk_cell BK2.out 2).trans rfl
  have cz3 : W2.cell? ⟨gb, 3, none⟩ = some (.int .i64 a3) := (blk_cell BK2.out 3).trans rfl
  have cz4 : W2.cell? ⟨gb, 4, none⟩ = some (.int .i64 a4) := (blk_cell BK2.out 4).trans rfl
  have cz5 : W2.cell? ⟨gb, 5, none⟩ = some (.slice A5 r5.length c5) := (blk_cell BK2.out 5).trans rfl
  have cz6 : W2.cell? ⟨gb, 6, none⟩ = some (.slice A6 r6.length c6) := (blk_cell BK2.out 6).trans rfl
  have cz7 : W2.cell? ⟨gb, 7, none⟩ = some (.slice A7 r7.length c7) := (blk_cell BK2.out 7).trans rfl
  have cz8 : W2.cell? ⟨gb, 8, none⟩ = some (.int .i64 a8) := (blk_cell BK2.out 8).trans rfl
  have cz9 : W2.cell? ⟨gb, 9, none⟩ = some (.int .i64 a9) := (blk_cell BK2.out 9).trans rfl
  have cz10 : W2.cell? ⟨gb, 10, none⟩ = some (.int .i64 a10) := (blk_cell BK2.out 10).trans rfl
  have fcz0 := blk_frozen BK2.out 0
  have fcz1 := blk_frozen BK2.out 1
  have fcz2 := blk_frozen BK2.out 2
  have fcz3 := blk_frozen BK2.out 3
  have fcz4 := blk_frozen BK2.out 4
  have fcz5 := blk_frozen BK2.out 5
  have fcz6 := blk_frozen BK2.out 6
  have fcz7 := blk_frozen BK2.out 7
  have fcz8 := blk_frozen BK2.out 8
  have fcz9 := blk_frozen BK2.out 9
  have fcz10 := blk_frozen BK2.out 10
  go_wp2_with fail
  refine (laws_markTruckS.calls k P5 _ r5 m1 m2 y5 w0 W2 HB2.out O5.out Q2.out).mono ?_
  rintro e W3 ⟨rfl, f5, hB3, hk3⟩
  have F5 := Aside0.mk f5
  have M0 := Aside0.mk (mk_far F0.out hk3 HA.out.d05 (fun k h => Nat.lt_of_lt_of_le (HA.out.lt k (.inr (.inl h))) HB1.out.size))
  have M1 := Aside0.mk (mk_far F1.out hk3 HA.out.d05 (fun k h => Nat.lt_of_lt_of_le (HA.out.lt k (.inr (.inl h))) HB1.out.size))
  have M2 := Aside0.mk (mk_far F2.out hk3 HA.out.d05 (fun k h => Nat.lt_of_lt_of_le (HA.out.lt k (.inr (.inl h))) HB1.out.size))
  clear f5 F0 F1 F2
  have HK3 := Aside0.mk hk3
  have HB3 := Aside0.mk hB3
  have BK3 := Aside0.mk (blk_kept BK2.out hk3 (fun h => Nat.lt_irrefl _ (Nat.lt_of_lt_of_le (HA.out.lt _ (.inr (.inl h))) (Nat.le_of_eq HG.out.symm))))
  have P6_ := Aside0.mk (Kd.S_kept O6.out hk3 (fun k h h' => HA.out.d56 k h' h))
  have P7_ := Aside0.mk (Kd.R_kept O7.out hk3 (fun k h h' => HA.out.d57 k h' h))
  clear hk3 hB3 cz0 fcz0 cz1 fcz1 cz2 fcz2 cz3 fcz3 cz4 fcz4 cz5 fcz5 cz6 fcz6 cz7 fcz7 cz8 fcz8 cz9 fcz9 cz10 fcz10
  have cz0 : W3.cell? ⟨gb, 0, none⟩ = some (.slice A0 r0.length c0) := (blk_cell BK3.out 0).trans rfl
  have cz1 : W3.cell? ⟨gb, 1, none⟩ = some (.slice A1 r1.length c1) := (blk_cell BK3.out 1).trans rfl
  have cz2 : W3.cell? ⟨gb, 2, none⟩ = some (.slice A2 r2.length c2) := (blk_cell BK3.out 2).trans rfl
  have cz3 : W3.cell? ⟨gb, 3, none⟩ = some (.int .i64 a3) := (blk_cell BK3.out 3).trans rfl
  have cz4 : W3.cell? ⟨gb, 4, none⟩ = some (.int .i64 a4) := (blk_cell BK3.out 4).trans rfl
  have cz5 : W3.cell? ⟨gb, 5, none⟩ = some (.slice A5 r5.length c5) := (blk_cell BK3.out 5).trans rfl
  have cz6 : W3.cell? ⟨gb, 6, none⟩ = some (.slice A6 r6.length c6) := (blk_cell BK3.out 6).trans rfl
  have cz7 : W3.cell? ⟨gb, 7, none⟩ = some (.slice A7 r7.length c7) := (blk_cell BK3.out 7).trans rfl
  have cz8 : W3.cell? ⟨gb, 8, none⟩ = some (.int .i64 a8) := (blk_cell BK3.out 8).trans rfl
  have cz9 : W3.cell? ⟨gb, 9, none⟩ = some (.int .i64 a9) := (blk_cell BK3.out 9).trans rfl
  have cz10 : W3.cell? ⟨gb, 10, none⟩ = some (.int .i64 a10) := (blk_cell BK3.out 10).trans rfl
  have fcz0 := blk_frozen BK3.out 0
  have fcz1 := blk_frozen BK3.out 1
  have fcz2 := blk_frozen BK3.out 2
  have fcz3 := blk_frozen BK3.out 3
  have fcz4 := blk_frozen BK3.out 4
  have fcz5 := blk_frozen BK3.out 5
  have fcz6 := blk_frozen BK3.out 6
  have fcz7 := blk_frozen BK3.out 7
  have fcz8 := blk_frozen BK3.out 8
  have fcz9 := blk_frozen BK3.out 9
  have fcz10 := blk_frozen BK3.out 10
  go_wp2_with fail
  refine (laws_markIntSS.calls k P6 _ r6 m2 m3 y6 w0 W3 HB3.out P6_.out Q3.out).mono ?_
  rintro e W4 ⟨rfl, f6, hB4, hk4⟩
  have F6 := Aside0.mk f6
  have N0 := Aside0.mk (mk_far M0.out hk4 HA.out.d06 (fun k h => Nat.lt_of_lt_of_le (HA.out.lt k (.inr (.inr (.inl h)))) HB1.out.size))
  have N1 := Aside0.mk (mk_far M1.out hk4 HA.out.d06 (fun k h => Nat.lt_of_lt_of_le (HA.out.lt k (.inr (.inr (.inl h)))) HB1.out.size))
  have N2 := Aside0.mk (mk_far M2.out hk4 HA.out.d06 (fun k h => Nat.lt_of_lt_of_le (HA.out.lt k (.inr (.inr (.inl h)))) HB1.out.size))
  have M5 := Aside0.mk (Kd.R_kept F5.out hk4 (fun k h h' => h.elim (fun q => HA.out.d56 k q h') (fun q => absurd (Nat.lt_of_lt_of_le (HA.out.lt k (.inr (.inr (.inl h')))) (Nat.le_trans HB1.out.size HK2.out.1)) (Nat.not_lt.2 q))))
  clear f6 F5 M0 M1 M2
  have HK4 := Aside0.mk hk4
  have HB4 := Aside0.mk hB4
  have BK4 := Aside0.mk (blk_kept BK3.out hk4 (fun h => Nat.lt_irrefl _ (Nat.lt_of_lt_of_le (HA.out.lt _ (.inr (.inr (.inl h)))) (Nat.le_of_eq HG.out.symm))))
  have S7_ := Aside0.mk (Kd.R_kept P7_.out hk4 (fun k h h' => HA.out.d67 k h' h))
  clear hk4 hB4 cz0 fcz0 cz1 fcz1 cz2 fcz2 cz3 fcz3 cz4 fcz4 cz5 fcz5 cz6 fcz6 cz7 fcz7 cz8 fcz8 cz9 fcz9 cz10 fcz10
  have cz0 : W4.cell? ⟨gb, 0, none⟩ = some (.slice A0 r0.length c0) := (blk_cell BK4.out 0).trans rfl
  have cz1 : W4.cell? ⟨gb, 1, none⟩ = some (.slice A1 r1.length c1) := (blk_cell BK4.out 1).trans rfl
  have cz2 : W4.cell? ⟨gb, 2, none⟩ = some (.slice A2 r2.length c2) := (blk_cell BK4.out 2).trans rfl
  have cz3 : W4.cell? ⟨gb, 3, none⟩ = some (.int .i64 a3) := (blk_cell BK4.out 3).trans rfl
  have cz4 : W4.cell? ⟨gb, 4, none⟩ = some (.int .i64 a4) := (blk_cell BK4.out 4).trans rfl
  have cz5 : W4.cell? ⟨gb, 5, none⟩ = some (.slice A5 r5.length c5) := (blk_cell BK4.out 5).trans rfl
  have cz6 : W4.cell? ⟨gb, 6, none⟩ = some (.slice A6 r6.length c6) := (blk_cell BK4.out 6).trans rfl
  have cz7 : W4.cell? ⟨gb, 7, none⟩ = some (.slice A7 r7.length c7) := (blk_cell BK4.out 7).trans rfl
  have cz8 : W4.cell? ⟨gb, 8, none⟩ = some (.int .i64 a8) := (blk_cell BK4.out 8).trans rfl
  have cz9 : W4.cell? ⟨gb, 9, none⟩ = some (.int .i64 a9) := (blk_cell BK4.out 9).trans rfl
  have cz10 : W4.cell? ⟨gb, 10, none⟩ = some (.int .i64 a10) := (blk_cell BK4.out 10).trans rfl
  have fcz0 := blk_frozen BK4.out 0
  have fcz1 := blk_frozen BK4.out 1
  have fcz2 := blk_frozen BK4.out 2
  have fcz3 := blk_frozen BK4.out 3
  have fcz4 := blk_frozen BK4.out 4
  have fcz5 := blk_frozen BK4.out 5
  have fcz6 := blk_frozen BK4.out 6
  have fcz7 := blk_frozen BK4.out 7
  have fcz8 := blk_frozen BK4.out 8
  have fcz9 := blk_frozen BK4.out 9
  have fcz10 := blk_frozen BK4.out 10
  go_wp2_with fail
  refine (laws_markIntS.calls k P7 _ r7 m3 m4 y7 w0 W4 HB4.out S7_.out Q4.out).mono ?_
  rintro e W5 ⟨rfl, f7, hB5, hk5⟩
  have F7 := Aside0.mk f7
  have M0 := Aside0.mk (mk_far N0.out hk5 HA.out.d07 (fun k h => Nat.lt_of_lt_of_le (HA.out.lt k (.inr (.inr (.inr h)))) HB1.out.size))
  have M1 := Aside0.mk (mk_far N1.out hk5 HA.out.d07 (fun k h => Nat.lt_of_lt_of_le (HA.out.lt k (.inr (.inr (.inr h)))) HB1.out.size))
  have M2 := Aside0.mk (mk_far N2.out hk5 HA.out.d07 (fun k h => Nat.lt_of_lt_of_le (HA.out.lt k (.inr (.inr (.inr h)))) HB1.out.size))
  have N5 := Aside0.mk (Kd.R_kept M5.out hk5 (fun k h h' => h.elim (fun q => HA.out.d57 k q h') (fun q => absurd (Nat.lt_of_lt_of_le (HA.out.lt k (.inr (.inr (.inr h')))) (Nat.le_trans HB1.out.size HK2.out.1)) (Nat.not_lt.2 q))))
  have N6 := Aside0.mk (Kd.S_kept F6.out hk5 (fun k h h' => HA.out.d67 k h h'))
  clear f7 N0 N1 N2 M5 F6
  have HK5 := Aside0.mk hk5
  have HB5 := Aside0.mk hB5
  clear hk5 hB5 cz0 fcz0 cz1 fcz1 cz2 fcz2 cz3 fcz3 cz4 fcz4 cz5 fcz5 cz6 fcz6 cz7 fcz7 cz8 fcz8 cz9 fcz9 cz10 fcz10
  go_wp2
  go_ret
  exact ⟨rfl, HB5.out, ((((Kept.of_below HB1.out _).then_ HK2.out (fun k h => .inl (HR.out k (.inl h)))).then_ HK3.out (fun k h => .inl (HR.out k (.inr (.inl h))))).then_ HK4.out (fun k h => .inl (HR.out k (.inr (.inr (.inl h)))))).then_ HK5.out (fun k h => .inl (HR.out k (.inr (.inr (.inr h))))), ⟨Kd.R_mono M0.out (fun _ _ => trivial), Kd.R_mono M1.out (fun _ _ => trivial), Kd.R_mono M2.out (fun _ _ => trivial), Kd.R_mono N5.out (fun _ _ => trivial), Kd.S_mono N6.out (fun _ _ => trivial), Kd.R_mono F7.out (fun _ _ => trivial)⟩⟩
set_option maxHeartbeats 8000000 in
set_option maxRecDepth 100000 in
theorem law_sz (k : Nat) (A0 : Option Addr) (c0 : Nat) (l0 : List Int) (A1 : Option Addr) (c1 : Nat) (l1 : List Int) (A2 : Option Addr) (c2 : Nat) (l2 : List Int) (a3 a4 aT : Int) (z : Int) (w : World) (hr0 : Kd.C (Kd.int .i64) w A0 l0.length l0) (hc0 : l0.length ≤ c0) (hr1 : Kd.C (Kd.int .i64) w A1 l1.length l1) (hc1 : l1.length ≤ c1) (hr2 : Kd.C (Kd.int .i64) w A2 l2.length l2) (hc2 : l2.length ≤ c2) (qz : laws_szFleet.f l0 l1 l2 a3 a4 1048576 = some z) (nz : z < 0) :
    Calls Try.prog 10 #[.agg #[.slice A0 l0.length c0, .slice A1 l1.length c1, .slice A2 l2.length c2, .int .i64 a3, .int .i64 a4], .int .i64 aT] w fun e w' => e = .returned (.bool true) ∧ Below w.heap.size w w' := by
  have hu24 := Try.underlying24
  have hu27 := Try.underlying27
  have hu44 := Try.underlying44
  have HR0 := Aside0.mk hr0
  have HC0 := Aside0.mk hc0
  have HR1 := Aside0.mk hr1
  have HC1 := Aside0.mk hc1
  have HR2 := Aside0.mk hr2
  have HC2 := Aside0.mk hc2
  have Qz := Aside0.mk qz
  have dnz : decide (z < 0) = true := decide_eq_true nz
  clear hr0 hc0 hr1 hc1 hr2 hc2 qz nz
  have HB := Aside0.mk (Below.refl w.heap.size w)
  go_enter Try.func10, Try.ntmps10
  go_wp2_with (first | ((with_reducible refine gate_dst (N := 2) rfl ?_); refine box_event ?hg (N := 2) ?hd (cs := #[.slice A0 l0.length c0, .slice A1 l1.length c1, .slice A2 l2.length c2, .int .i64 a3, .int .i64 a4]) (t := 24) ?hr ?_; (case hd => rfl); (case hg => rfl); (case hr => first | (go_simp; done) | (go_simp; rfl)); intro gb hg w1 hbox hb; have BK := Aside0.mk hbox; have G_gb := Aside0.mk hg; have hb_ := Aside0.mk hb; clear hbox hb hg; have zbk0 : w1.cell? ⟨gb, 0, none⟩ = some (.slice A0 l0.length c0) := (blk_cell BK.out 0).trans rfl; have zbk1 : w1.cell? ⟨gb, 1, none⟩ = some (.slice A1 l1.length c1) := (blk_cell BK.out 1).trans rfl; have zbk2 : w1.cell? ⟨gb, 2, none⟩ = some (.slice A2 l2.length c2) := (blk_cell BK.out 2).trans rfl; have zbk3 : w1.cell? ⟨gb, 3, none⟩ = some (.int .i64 a3) := (blk_cell BK.out 3).trans rfl; have zbk4 : w1.cell? ⟨gb, 4, none⟩ = some (.int .i64 a4) := (blk_cell BK.out 4).trans rfl; have fzbk0 := blk_frozen BK.out 0; have fzbk1 := blk_frozen BK.out 1; have fzbk2 := blk_frozen BK.out 2; have fzbk3 := blk_frozen BK.out 3; have fzbk4 := blk_frozen BK.out 4))
  have LT_gb := Aside0.mk (blk_lt BK.out)
  have hb := hb_.out
  clear hb_
  clear zbk0 fzbk0 zbk1 fzbk1 zbk2 fzbk2 zbk3 fzbk3 zbk4 fzbk4
  have t_HB := Aside0.mk (below_step HB.out hb)
  have SZ1 := Aside0.mk hb.size
  clear HB 
  have HB := t_HB
  clear t_HB 
  clear hb
  refine (laws_szFleet.calls _ _ l0 _ _ l1 _ _ l2 a3 a4 1048576 z _ (Kd.C_below HR0.out HB.out) HC0.out (Kd.C_below HR1.out HB.out) HC1.out (Kd.C_below HR2.out HB.out) HC2.out Qz.out).mono ?_
  rintro e w2 ⟨rfl, hb⟩
  have t_BK := Aside0.mk (blk_below BK.out hb)
  have t_HB := Aside0.mk (below_step HB.out hb)
  have SZ2 := Aside0.mk hb.size
  clear HB BK
  have HB := t_HB
  have BK := t_BK
  clear t_HB t_BK
  clear hb
  have zbk0 : w2.cell? ⟨gb, 0, none⟩ = some (.slice A0 l0.length c0) := (blk_cell BK.out 0).trans rfl
  have zbk1 : w2.cell? ⟨gb, 1, none⟩ = some (.slice A1 l1.length c1) := (blk_cell BK.out 1).trans rfl
  have zbk2 : w2.cell? ⟨gb, 2, none⟩ = some (.slice A2 l2.length c2) := (blk_cell BK.out 2).trans rfl
  have zbk3 : w2.cell? ⟨gb, 3, none⟩ = some (.int .i64 a3) := (blk_cell BK.out 3).trans rfl
  have zbk4 : w2.cell? ⟨gb, 4, none⟩ = some (.int .i64 a4) := (blk_cell BK.out 4).trans rfl
  have fzbk0 := blk_frozen BK.out 0
  have fzbk1 := blk_frozen BK.out 1
  have fzbk2 := blk_frozen BK.out 2
  have fzbk3 := blk_frozen BK.out 3
  have fzbk4 := blk_frozen BK.out 4
  go_wp2
  go_ret
  exact ⟨rfl, HB.out⟩
set_option maxHeartbeats 8000000 in
set_option maxRecDepth 100000 in
theorem law_calls (k : Nat) (A0 : Option Addr) (c0 : Nat) (l0 : List Int) (A1 : Option Addr) (c1 : Nat) (l1 : List Int) (A2 : Option Addr) (c2 : Nat) (l2 : List Int) (a3 a4 aT : Int) (z mf m1 m2 m3 m4 b3 b4 b8 b9 b10 : Int) (gf : Bool) (f0 f1 f2 y0 y1 y2 y7 h0 h1 h2 h7 : List Int) (y5 h5 : List S80) (y6 h6 : List (List Int)) (w : World) (hr0 : Kd.C (Kd.int .i64) w A0 l0.length l0) (hc0 : l0.length ≤ c0) (hr1 : Kd.C (Kd.int .i64) w A1 l1.length l1) (hc1 : l1.length ≤ c1) (hr2 : Kd.C (Kd.int .i64) w A2 l2.length l2) (hc2 : l2.length ≤ c2) (qz : laws_szFleet.f l0 l1 l2 a3 a4 1048576 = some z) (qt : laws_toFleet.f k l0 l1 l2 a3 a4 = some (l0, l1, l2, a3, a4)) (qs : spec_NewYard.f k l0 l1 l2 a3 a4 aT = some (y0, y1, y2, b3, b4, y5, y6, y7, b8, b9, b10, gf)) (qi : impl_NewYard.f k l0 l1 l2 a3 a4 aT = some (y0, y1, y2, b3, b4, y5, y6, y7, b8, b9, b10, gf)) (qe : laws_eqYard.f k y0 y1 y2 b3 b4 y5 y6 y7 b8 b9 b10 y0 y1 y2 b3 b4 y5 y6 y7 b8 b9 b10 = some true) (qx : laws_eqFleet.f k l0 l1 l2 a3 a4 l0 l1 l2 a3 a4 = some true) (qm : laws_markFleet.f k l0 l1 l2 a3 a4 1 = some (mf, f0, f1, f2)) (q1 : laws_markFleet.f k y0 y1 y2 b3 b4 1 = some (m1, h0, h1, h2)) (q2 : laws_markTruckS.f k y5 m1 = some (m2, h5)) (q3 : laws_markIntSS.f k y6 m2 = some (m3, h6)) (q4 : laws_markIntS.f k y7 m3 = some (m4, h7)) (qh : laws_heldYard.f k h0 h1 h2 b3 b4 h5 h6 h7 b8 b9 b10 1 = some m4) (nz : ¬ z < 0) (nf : ¬ mf < 0) (nm : ¬ m4 < 0) :
    Calls Try.prog 10 #[.agg #[.slice A0 l0.length c0, .slice A1 l1.length c1, .slice A2 l2.length c2, .int .i64 a3, .int .i64 a4], .int .i64 aT] w fun e w' => e = .returned (.bool true) ∧ Below w.heap.size w w' := by
  have hu24 := Try.underlying24
  have hu27 := Try.underlying27
  have hu44 := Try.underlying44
  have HR0 := Aside0.mk hr0
  have HC0 := Aside0.mk hc0
  have HR1 := Aside0.mk hr1
  have HC1 := Aside0.mk hc1
  have HR2 := Aside0.mk hr2
  have HC2 := Aside0.mk hc2
  have Qz := Aside0.mk qz
  have Qt := Aside0.mk qt
  have Qs := Aside0.mk qs
  have Qi := Aside0.mk qi
  have Qe := Aside0.mk qe
  have Qx := Aside0.mk qx
  have Qm := Aside0.mk qm
  have Q1 := Aside0.mk q1
  have Q2 := Aside0.mk q2
  have Q3 := Aside0.mk q3
  have Q4 := Aside0.mk q4
  have Qh := Aside0.mk qh
  have dnz : decide (z < 0) = false := decide_eq_false nz
  have dnf : decide (mf < 0) = false := decide_eq_false nf
  have dnm : decide (m4 < 0) = false := decide_eq_false nm
  clear hr0 hc0 hr1 hc1 hr2 hc2 qz qt qs qi qe qx qm q1 q2 q3 q4 qh nz nf nm
  have HB := Aside0.mk (Below.refl w.heap.size w)
  go_enter Try.func10, Try.ntmps10
  go_wp2_with (first | ((with_reducible refine gate_dst (N := 2) rfl ?_); refine box_event ?hg (N := 2) ?hd (cs := #[.slice A0 l0.length c0, .slice A1 l1.length c1, .slice A2 l2.length c2, .int .i64 a3, .int .i64 a4]) (t := 24) ?hr ?_; (case hd => rfl); (case hg => rfl); (case hr => first | (go_simp; done) | (go_simp; rfl)); intro gb hg w1 hbox hb; have BK := Aside0.mk hbox; have G_gb := Aside0.mk hg; have hb_ := Aside0.mk hb; clear hbox hb hg; have zbk0 : w1.cell? ⟨gb, 0, none⟩ = some (.slice A0 l0.length c0) := (blk_cell BK.out 0).trans rfl; have zbk1 : w1.cell? ⟨gb, 1, none⟩ = some (.slice A1 l1.length c1) := (blk_cell BK.out 1).trans rfl; have zbk2 : w1.cell? ⟨gb, 2, none⟩ = some (.slice A2 l2.length c2) := (blk_cell BK.out 2).trans rfl; have zbk3 : w1.cell? ⟨gb, 3, none⟩ = some (.int .i64 a3) := (blk_cell BK.out 3).trans rfl; have zbk4 : w1.cell? ⟨gb, 4, none⟩ = some (.int .i64 a4) := (blk_cell BK.out 4).trans rfl; have fzbk0 := blk_frozen BK.out 0; have fzbk1 := blk_frozen BK.out 1; have fzbk2 := blk_frozen BK.out 2; have fzbk3 := blk_frozen BK.out 3; have fzbk4 := blk_frozen BK.out 4))
  have LT_gb := Aside0.mk (blk_lt BK.out)
  have hb := hb_.out
  clear hb_
  clear zbk0 fzbk0 zbk1 fzbk1 zbk2 fzbk2 zbk3 fzbk3 zbk4 fzbk4
  have t_HB := Aside0.mk (below_step HB.out hb)
  have SZ1 := Aside0.mk hb.size
  clear HB 
  have HB := t_HB
  clear t_HB 
  clear hb
  refine (laws_szFleet.calls _ _ l0 _ _ l1 _ _ l2 a3 a4 1048576 z _ (Kd.C_below HR0.out HB.out) HC0.out (Kd.C_below HR1.out HB.out) HC1.out (Kd.C_below HR2.out HB.out) HC2.out Qz.out).mono ?_
  rintro e w2 ⟨rfl, hb⟩
  have t_BK := Aside0.mk (blk_below BK.out hb)
  have t_HB := Aside0.mk (below_step HB.out hb)
  have SZ2 := Aside0.mk hb.size
  clear HB BK
  have HB := t_HB
  have BK := t_BK
  clear t_HB t_BK
  clear hb
  have zbk0 : w2.cell? ⟨gb, 0, none⟩ = some (.slice A0 l0.length c0) := (blk_cell BK.out 0).trans rfl
  have zbk1 : w2.cell? ⟨gb, 1, none⟩ = some (.slice A1 l1.length c1) := (blk_cell BK.out 1).trans rfl
  have zbk2 : w2.cell? ⟨gb, 2, none⟩ = some (.slice A2 l2.length c2) := (blk_cell BK.out 2).trans rfl
  have zbk3 : w2.cell? ⟨gb, 3, none⟩ = some (.int .i64 a3) := (blk_cell BK.out 3).trans rfl
  have zbk4 : w2.cell? ⟨gb, 4, none⟩ = some (.int .i64 a4) := (blk_cell BK.out 4).trans rfl
  have fzbk0 := blk_frozen BK.out 0
  have fzbk1 := blk_frozen BK.out 1
  have fzbk2 := blk_frozen BK.out 2
  have fzbk3 := blk_frozen BK.out 3
  have fzbk4 := blk_frozen BK.out 4
  go_wp2_with fail
  refine (laws_toFleet.calls k _ _ l0 _ _ l1 _ _ l2 a3 a4 l0 l1 l2 a3 a4 _ (Kd.C_below HR0.out HB.out) HC0.out (Kd.C_below HR1.out HB.out) HC1.out (Kd.C_below HR2.out HB.out) HC2.out Qt.out).mono ?_
  rintro e w3 ⟨u0, u1, u2, rfl, ho0, ho1, ho2, hb⟩
  clear zbk0 fzbk0 zbk1 fzbk1 zbk2 fzbk2 zbk3 fzbk3 zbk4 fzbk4
  have t_BK := Aside0.mk (blk_below BK.out hb)
  have t_HB := Aside0.mk (below_step HB.out hb)
  have SZ3 := Aside0.mk hb.size
  clear HB BK
  have HB := t_HB
  have BK := t_BK
  clear t_HB t_BK
  have FA := Aside0.mk (fo_new ho0 ho1 ho2)
  clear ho0 ho1 ho2 hb
  obtain ⟨As0, cs0, e_⟩ := Kd.R_slice FA.out.o0
  subst e_
  obtain ⟨As1, cs1, e_⟩ := Kd.R_slice FA.out.o1
  subst e_
  obtain ⟨As2, cs2, e_⟩ := Kd.R_slice FA.out.o2
  subst e_
  go_wp2_with fail
  refine (spec_NewYard.calls k _ _ l0 _ _ l1 _ _ l2 a3 a4 aT y0 y1 y2 b3 b4 y5 y6 y7 b8 b9 b10 gf _ (Kd.R_reads' FA.out.o0).2.2 (Kd.R_reads' FA.out.o0).2.1 (Kd.R_reads' FA.out.o1).2.2 (Kd.R_reads' FA.out.o1).2.1 (Kd.R_reads' FA.out.o2).2.2 (Kd.R_reads' FA.out.o2).2.1 Qs.out).mono ?_
  rintro e w4 ⟨u0, u1, u2, u5, u6, u7, rfl, ho0, ho1, ho2, ho5, ho6, ho7, hb⟩
  have t_BK := Aside0.mk (blk_below BK.out hb)
  have t_FA := Aside0.mk (fo_below FA.out hb)
  have t_HB := Aside0.mk (below_step HB.out hb)
  have SZ4 := Aside0.mk hb.size
  clear HB BK FA
  have HB := t_HB
  have BK := t_BK
  have FA := t_FA
  clear t_HB t_BK t_FA
  have YW := Aside0.mk (yo_new ho0 ho1 ho2 ho5 ho6 ho7)
  clear ho0 ho1 ho2 ho5 ho6 ho7 hb
  obtain ⟨Aw0, cw0, e_⟩ := Kd.R_slice YW.out.o0
  subst e_
  obtain ⟨Aw1, cw1, e_⟩ := Kd.R_slice YW.out.o1
  subst e_
  obtain ⟨Aw2, cw2, e_⟩ := Kd.R_slice YW.out.o2
  subst e_
  obtain ⟨Aw5, cw5, e_⟩ := Kd.R_slice YW.out.o5
  subst e_
  obtain ⟨Aw6, cw6, e_⟩ := Kd.S_slice YW.out.o6
  subst e_
  obtain ⟨Aw7, cw7, e_⟩ := Kd.R_slice YW.out.o7
  subst e_
  clear FA
  go_upto_region 6 with (first | ((with_reducible refine gate_dst (N := 6) rfl ?_); refine box_event ?hg (N := 6) ?hd (cs := #[.slice none 0 0, .slice none 0 0, .slice none 0 0, .int .i64 0, .int .i64 0, .slice none 0 0, .slice none 0 0, .slice none 0 0, .int .i64 0, .int .i64 0, .int .i64 0]) (t := 44) ?hr ?_; (case hd => rfl); (case hg => rfl); (case hr => first | (go_simp; done) | (go_simp; rfl)); intro gw hg w5 hbox hb; have BW := Aside0.mk hbox; have G_gw := Aside0.mk hg; have hb_ := Aside0.mk hb; clear hbox hb hg; have zbw0 : w5.cell? ⟨gw, 0, none⟩ = some (.slice none 0 0) := (blk_cell BW.out 0).trans rfl; have zbw1 : w5.cell? ⟨gw, 1, none⟩ = some (.slice none 0 0) := (blk_cell BW.out 1).trans rfl; have zbw2 : w5.cell? ⟨gw, 2, none⟩ = some (.slice none 0 0) := (blk_cell BW.out 2).trans rfl; have zbw3 : w5.cell? ⟨gw, 3, none⟩ = some (.int .i64 0) := (blk_cell BW.out 3).trans rfl; have zbw4 : w5.cell? ⟨gw, 4, none⟩ = some (.int .i64 0) := (blk_cell BW.out 4).trans rfl; have zbw5 : w5.cell? ⟨gw, 5, none⟩ = some (.slice none 0 0) := (blk_cell BW.out 5).trans rfl; have zbw6 : w5.cell? ⟨gw, 6, none⟩ = some (.slice none 0 0) := (blk_cell BW.out 6).trans rfl; have zbw7 : w5.cell? ⟨gw, 7, none⟩ = some (.slice none 0 0) := (blk_cell BW.out 7).trans rfl; have zbw8 : w5.cell? ⟨gw, 8, none⟩ = some (.int .i64 0) := (blk_cell BW.out 8).trans rfl; have zbw9 : w5.cell? ⟨gw, 9, none⟩ = some (.int .i64 0) := (blk_cell BW.out 9).trans rfl; have zbw10 : w5.cell? ⟨gw, 10, none⟩ = some (.int .i64 0) := (blk_cell BW.out 10).trans rfl; have fzbw0 := blk_frozen BW.out 0; have fzbw1 := blk_frozen BW.out 1; have fzbw2 := blk_frozen BW.out 2; have fzbw3 := blk_frozen BW.out 3; have fzbw4 := blk_frozen BW.out 4; have fzbw5 := blk_frozen BW.out 5; have fzbw6 := blk_frozen BW.out 6; have fzbw7 := blk_frozen BW.out 7; have fzbw8 := blk_frozen BW.out 8; have fzbw9 := blk_frozen BW.out 9; have fzbw10 := blk_frozen BW.out 10))
  have LT_gw := Aside0.mk (blk_lt BW.out)
  clear zbw0 fzbw0 zbw1 fzbw1 zbw2 fzbw2 zbw3 fzbw3 zbw4 fzbw4 zbw5 fzbw5 zbw6 fzbw6 zbw7 fzbw7 zbw8 fzbw8 zbw9 fzbw9 zbw10 fzbw10
  have b0_ := BW.out
  have b1_ : (w5.setCell ⟨gw, 0, none⟩ (.slice Aw0 y0.length cw0)).heap[gw]? = some (.cells #[.slice Aw0 y0.length cw0, .slice none 0 0, .slice none 0 0, .int .i64 0, .int .i64 0, .slice none 0 0, .slice none 0 0, .slice none 0 0, .int .i64 0, .int .i64 0, .int .i64 0] 44 (0, 0)) := blk_put b0_ 0 _ rfl
  have b2_ : ((w5.setCell ⟨gw, 0, none⟩ (.slice Aw0 y0.length cw0)).setCell ⟨gw, 1, none⟩ (.slice Aw1 y1.length cw1)).heap[gw]? = some (.cells #[.slice Aw0 y0.length cw0, .slice Aw1 y1.length cw1, .slice none 0 0, .int .i64 0, .int .i64 0, .slice none 0 0, .slice none 0 0, .slice none 0 0, .int .i64 0, .int .i64 0, .int .i64 0] 44 (0, 0)) := blk_put b1_ 1 _ rfl
  have b3_ : (((w5.setCell ⟨gw, 0, none⟩ (.slice Aw0 y0.length cw0)).setCell ⟨gw, 1, none⟩ (.slice Aw1 y1.length cw1)).setCell ⟨gw, 2, none⟩ (.slice Aw2 y2.length cw2)).heap[gw]? = some (.cells #[.slice Aw0 y0.length cw0, .slice Aw1 y1.length cw1, .slice Aw2 y2.length cw2, .int .i64 0, .int .i64 0, .slice none 0 0, .slice none 0 0, .slice none 0 0, .int .i64 0, .int .i64 0, .int .i64 0] 44 (0, 0)) := blk_put b2_ 2 _ rfl
  have b4_ : ((((w5.setCell ⟨gw, 0, none⟩ (.slice Aw0 y0.length cw0)).setCell ⟨gw, 1, none⟩ (.slice Aw1 y1.length cw1)).setCell ⟨gw, 2, none⟩ (.slice Aw2 y2.length cw2)).setCell ⟨gw, 3, none⟩ (.int .i64 b3)).heap[gw]? = some (.cells #[.slice Aw0 y0.length cw0, .slice Aw1 y1.length cw1, .slice Aw2 y2.length cw2, .int .i64 b3, .int .i64 0, .slice none 0 0, .slice none 0 0, .slice none 0 0, .int .i64 0, .int .i64 0, .int .i64 0] 44 (0, 0)) := blk_put b3_ 3 _ rfl
  have b5_ : (((((w5.setCell ⟨gw, 0, none⟩ (.slice Aw0 y0.length cw0)).setCell ⟨gw, 1, none⟩ (.slice Aw1 y1.length cw1)).setCell ⟨gw, 2, none⟩ (.slice Aw2 y2.length cw2)).setCell ⟨gw, 3, none⟩ (.int .i64 b3)).setCell ⟨gw, 4, none⟩ (.int .i64 b4)).heap[gw]? = some (.cells #[.slice Aw0 y0.length cw0, .slice Aw1 y1.length cw1, .slice Aw2 y2.length cw2, .int .i64 b3, .int .i64 b4, .slice none 0 0, .slice none 0 0, .slice none 0 0, .int .i64 0, .int .i64 0, .int .i64 0] 44 (0, 0)) := blk_put b4_ 4 _ rfl
  have b6_ : ((((((w5.setCell ⟨gw, 0, none⟩ (.slice Aw0 y0.length cw0)).setCell ⟨gw, 1, none⟩ (.slice Aw1 y1.length cw1)).setCell ⟨gw, 2, none⟩ (.slice Aw2 y2.length cw2)).setCell ⟨gw, 3, none⟩ (.int .i64 b3)).setCell ⟨gw, 4, none⟩ (.int .i64 b4)).setCell ⟨gw, 5, none⟩ (.slice Aw5 y5.length cw5)).heap[gw]? = some (.cells #[.slice Aw0 y0.length cw0, .slice Aw1 y1.length cw1, .slice Aw2 y2.length cw2, .int .i64 b3, .int .i64 b4, .slice Aw5 y5.length cw5, .slice none 0 0, .slice none 0 0, .int .i64 0, .int .i64 0, .int .i64 0] 44 (0, 0)) := blk_put b5_ 5 _ rfl
  have b7_ : (((((((w5.setCell ⟨gw, 0, none⟩ (.slice Aw0 y0.length cw0)).setCell ⟨gw, 1, none⟩ (.slice Aw1 y1.length cw1)).setCell ⟨gw, 2, none⟩ (.slice Aw2 y2.length cw2)).setCell ⟨gw, 3, none⟩ (.int .i64 b3)).setCell ⟨gw, 4, none⟩ (.int .i64 b4)).setCell ⟨gw, 5, none⟩ (.slice Aw5 y5.length cw5)).setCell ⟨gw, 6, none⟩ (.slice Aw6 y6.length cw6)).heap[gw]? = some (.cells #[.slice Aw0 y0.length cw0, .slice Aw1 y1.length cw1, .slice Aw2 y2.length cw2, .int .i64 b3, .int .i64 b4, .slice Aw5 y5.length cw5, .slice Aw6 y6.length cw6, .slice none 0 0, .int .i64 0, .int .i64 0, .int .i64 0] 44 (0, 0)) := blk_put b6_ 6 _ rfl
  have b8_ : ((((((((w5.setCell ⟨gw, 0, none⟩ (.slice Aw0 y0.length cw0)).setCell ⟨gw, 1, none⟩ (.slice Aw1 y1.length cw1)).setCell ⟨gw, 2, none⟩ (.slice Aw2 y2.length cw2)).setCell ⟨gw, 3, none⟩ (.int .i64 b3)).setCell ⟨gw, 4, none⟩ (.int .i64 b4)).setCell ⟨gw, 5, none⟩ (.slice Aw5 y5.length cw5)).setCell ⟨gw, 6, none⟩ (.slice Aw6 y6.length cw6)).setCell ⟨gw, 7, none⟩ (.slice Aw7 y7.length cw7)).heap[gw]? = some (.cells #[.slice Aw0 y0.length cw0, .slice Aw1 y1.length cw1, .slice Aw2 y2.length cw2, .int .i64 b3, .int .i64 b4, .slice Aw5 y5.length cw5, .slice Aw6 y6.length cw6, .slice Aw7 y7.length cw7, .int .i64 0, .int .i64 0, .int .i64 0] 44 (0, 0)) := blk_put b7_ 7 _ rfl
  have b9_ : (((((((((w5.setCell ⟨gw, 0, none⟩ (.slice Aw0 y0.length cw0)).setCell ⟨gw, 1, none⟩ (.slice Aw1 y1.length cw1)).setCell ⟨gw, 2, none⟩ (.slice Aw2 y2.length cw2)).setCell ⟨gw, 3, none⟩ (.int .i64 b3)).setCell ⟨gw, 4, none⟩ (.int .i64 b4)).setCell ⟨gw, 5, none⟩ (.slice Aw5 y5.length cw5)).setCell ⟨gw, 6, none⟩ (.slice Aw6 y6.length cw6)).setCell ⟨gw, 7, none⟩ (.slice Aw7 y7.length cw7)).setCell ⟨gw, 8, none⟩ (.int .i64 b8)).heap[gw]? = some (.cells #[.slice Aw0 y0.length cw0, .slice Aw1 y1.length cw1, .slice Aw2 y2.length cw2, .int .i64 b3, .int .i64 b4, .slice Aw5 y5.length cw5, .slice Aw6 y6.length cw6, .slice Aw7 y7.length cw7, .int .i64 b8, .int .i64 0, .int .i64 0] 44 (0, 0)) := blk_put b8_ 8 _ rfl
  have b10_ : ((((((((((w5.setCell ⟨gw, 0, none⟩ (.slice Aw0 y0.length cw0)).setCell ⟨gw, 1, none⟩ (.slice Aw1 y1.length cw1)).setCell ⟨gw, 2, none⟩ (.slice Aw2 y2.length cw2)).setCell ⟨gw, 3, none⟩ (.int .i64 b3)).setCell ⟨gw, 4, none⟩ (.int .i64 b4)).setCell ⟨gw, 5, none⟩ (.slice Aw5 y5.length cw5)).setCell ⟨gw, 6, none⟩ (.slice Aw6 y6.length cw6)).setCell ⟨gw, 7, none⟩ (.slice Aw7 y7.length cw7)).setCell ⟨gw, 8, none⟩ (.int .i64 b8)).setCell ⟨gw, 9, none⟩ (.int .i64 b9)).heap[gw]? = some (.cells #[.slice Aw0 y0.length cw0, .slice Aw1 y1.length cw1, .slice Aw2 y2.length cw2, .int .i64 b3, .int .i64 b4, .slice Aw5 y5.length cw5, .slice Aw6 y6.length cw6, .slice Aw7 y7.length cw7, .int .i64 b8, .int .i64 b9, .int .i64 0] 44 (0, 0)) := blk_put b9_ 9 _ rfl
  have b11_ : (((((((((((w5.setCell ⟨gw, 0, none⟩ (.slice Aw0 y0.length cw0)).setCell ⟨gw, 1, none⟩ (.slice Aw1 y1.length cw1)).setCell ⟨gw, 2, none⟩ (.slice Aw2 y2.length cw2)).setCell ⟨gw, 3, none⟩ (.int .i64 b3)).setCell ⟨gw, 4, none⟩ (.int .i64 b4)).setCell ⟨gw, 5, none⟩ (.slice Aw5 y5.length cw5)).setCell ⟨gw, 6, none⟩ (.slice Aw6 y6.length cw6)).setCell ⟨gw, 7, none⟩ (.slice Aw7 y7.length cw7)).setCell ⟨gw, 8, none⟩ (.int .i64 b8)).setCell ⟨gw, 9, none⟩ (.int .i64 b9)).setCell ⟨gw, 10, none⟩ (.int .i64 b10)).heap[gw]? = some (.cells #[.slice Aw0 y0.length cw0, .slice Aw1 y1.length cw1, .slice Aw2 y2.length cw2, .int .i64 b3, .int .i64 b4, .slice Aw5 y5.length cw5, .slice Aw6 y6.length cw6, .slice Aw7 y7.length cw7, .int .i64 b8, .int .i64 b9, .int .i64 b10] 44 (0, 0)) := blk_put b10_ 10 _ rfl
  have t_BW := Aside0.mk b11_
  clear BW b0_ b1_ b2_ b3_ b4_ b5_ b6_ b7_ b8_ b9_ b10_ b11_
  have b0_ := hb_.out
  have b1_ : Below w4.heap.size w4 (w5.setCell ⟨gw, 0, none⟩ (.slice Aw0 y0.length cw0)) := below_box b0_ (Nat.le_of_eq G_gw.out.symm) 0 _
  have b2_ : Below w4.heap.size w4 ((w5.setCell ⟨gw, 0, none⟩ (.slice Aw0 y0.length cw0)).setCell ⟨gw, 1, none⟩ (.slice Aw1 y1.length cw1)) := below_box b1_ (Nat.le_of_eq G_gw.out.symm) 1 _
  have b3_ : Below w4.heap.size w4 (((w5.setCell ⟨gw, 0, none⟩ (.slice Aw0 y0.length cw0)).setCell ⟨gw, 1, none⟩ (.slice Aw1 y1.length cw1)).setCell ⟨gw, 2, none⟩ (.slice Aw2 y2.length cw2)) := below_box b2_ (Nat.le_of_eq G_gw.out.symm) 2 _
  have b4_ : Below w4.heap.size w4 ((((w5.setCell ⟨gw, 0, none⟩ (.slice Aw0 y0.length cw0)).setCell ⟨gw, 1, none⟩ (.slice Aw1 y1.length cw1)).setCell ⟨gw, 2, none⟩ (.slice Aw2 y2.length cw2)).setCell ⟨gw, 3, none⟩ (.int .i64 b3)) := below_box b3_ (Nat.le_of_eq G_gw.out.symm) 3 _
  have b5_ : Below w4.heap.size w4 (((((w5.setCell ⟨gw, 0, none⟩ (.slice Aw0 y0.length cw0)).setCell ⟨gw, 1, none⟩ (.slice Aw1 y1.length cw1)).setCell ⟨gw, 2, none⟩ (.slice Aw2 y2.length cw2)).setCell ⟨gw, 3, none⟩ (.int .i64 b3)).setCell ⟨gw, 4, none⟩ (.int .i64 b4)) := below_box b4_ (Nat.le_of_eq G_gw.out.symm) 4 _
  have b6_ : Below w4.heap.size w4 ((((((w5.setCell ⟨gw, 0, none⟩ (.slice Aw0 y0.length cw0)).setCell ⟨gw, 1, none⟩ (.slice Aw1 y1.length cw1)).setCell ⟨gw, 2, none⟩ (.slice Aw2 y2.length cw2)).setCell ⟨gw, 3, none⟩ (.int .i64 b3)).setCell ⟨gw, 4, none⟩ (.int .i64 b4)).setCell ⟨gw, 5, none⟩ (.slice Aw5 y5.length cw5)) := below_box b5_ (Nat.le_of_eq G_gw.out.symm) 5 _
  have b7_ : Below w4.heap.size w4 (((((((w5.setCell ⟨gw, 0, none⟩ (.slice Aw0 y0.length cw0)).setCell ⟨gw, 1, none⟩ (.slice Aw1 y1.length cw1)).setCell ⟨gw, 2, none⟩ (.slice Aw2 y2.length cw2)).setCell ⟨gw, 3, none⟩ (.int .i64 b3)).setCell ⟨gw, 4, none⟩ (.int .i64 b4)).setCell ⟨gw, 5, none⟩ (.slice Aw5 y5.length cw5)).setCell ⟨gw, 6, none⟩ (.slice Aw6 y6.length cw6)) := below_box b6_ (Nat.le_of_eq G_gw.out.symm) 6 _
  have b8_ : Below w4.heap.size w4 ((((((((w5.setCell ⟨gw, 0, none⟩ (.slice Aw0 y0.length cw0)).setCell ⟨gw, 1, none⟩ (.slice Aw1 y1.length cw1)).setCell ⟨gw, 2, none⟩ (.slice Aw2 y2.length cw2)).setCell ⟨gw, 3, none⟩ (.int .i64 b3)).setCell ⟨gw, 4, none⟩ (.int .i64 b4)).setCell ⟨gw, 5, none⟩ (.slice Aw5 y5.length cw5)).setCell ⟨gw, 6, none⟩ (.slice Aw6 y6.length cw6)).setCell ⟨gw, 7, none⟩ (.slice Aw7 y7.length cw7)) := below_box b7_ (Nat.le_of_eq G_gw.out.symm) 7 _
  have b9_ : Below w4.heap.size w4 (((((((((w5.setCell ⟨gw, 0, none⟩ (.slice Aw0 y0.length cw0)).setCell ⟨gw, 1, none⟩ (.slice Aw1 y1.length cw1)).setCell ⟨gw, 2, none⟩ (.slice Aw2 y2.length cw2)).setCell ⟨gw, 3, none⟩ (.int .i64 b3)).setCell ⟨gw, 4, none⟩ (.int .i64 b4)).setCell ⟨gw, 5, none⟩ (.slice Aw5 y5.length cw5)).setCell ⟨gw, 6, none⟩ (.slice Aw6 y6.length cw6)).setCell ⟨gw, 7, none⟩ (.slice Aw7 y7.length cw7)).setCell ⟨gw, 8, none⟩ (.int .i64 b8)) := below_box b8_ (Nat.le_of_eq G_gw.out.symm) 8 _
  have b10_ : Below w4.heap.size w4 ((((((((((w5.setCell ⟨gw, 0, none⟩ (.slice Aw0 y0.length cw0)).setCell ⟨gw, 1, none⟩ (.slice Aw1 y1.length cw1)).setCell ⟨gw, 2, none⟩ (.slice Aw2 y2.length cw2)).setCell ⟨gw, 3, none⟩ (.int .i64 b3)).setCell ⟨gw, 4, none⟩ (.int .i64 b4)).setCell ⟨gw, 5, none⟩ (.slice Aw5 y5.length cw5)).setCell ⟨gw, 6, none⟩ (.slice Aw6 y6.length cw6)).setCell ⟨gw, 7, none⟩ (.slice Aw7 y7.length cw7)).setCell ⟨gw, 8, none⟩ (.int .i64 b8)).setCell ⟨gw, 9, none⟩ (.int .i64 b9)) := below_box b9_ (Nat.le_of_eq G_gw.out.symm) 9 _
  have b11_ : Below w4.heap.size w4 (((((((((((w5.setCell ⟨gw, 0, none⟩ (.slice Aw0 y0.length cw0)).setCell ⟨gw, 1, none⟩ (.slice Aw1 y1.length cw1)).setCell ⟨gw, 2, none⟩ (.slice Aw2 y2.length cw2)).setCell ⟨gw, 3, none⟩ (.int .i64 b3)).setCell ⟨gw, 4, none⟩ (.int .i64 b4)).setCell ⟨gw, 5, none⟩ (.slice Aw5 y5.length cw5)).setCell ⟨gw, 6, none⟩ (.slice Aw6 y6.length cw6)).setCell ⟨gw, 7, none⟩ (.slice Aw7 y7.length cw7)).setCell ⟨gw, 8, none⟩ (.int .i64 b8)).setCell ⟨gw, 9, none⟩ (.int .i64 b9)).setCell ⟨gw, 10, none⟩ (.int .i64 b10)) := below_box b10_ (Nat.le_of_eq G_gw.out.symm) 10 _
  have b_ := b11_
  clear hb_ b0_ b1_ b2_ b3_ b4_ b5_ b6_ b7_ b8_ b9_ b10_ b11_
  generalize (((((((((((w5.setCell ⟨gw, 0, none⟩ (.slice Aw0 y0.length cw0)).setCell ⟨gw, 1, none⟩ (.slice Aw1 y1.length cw1)).setCell ⟨gw, 2, none⟩ (.slice Aw2 y2.length cw2)).setCell ⟨gw, 3, none⟩ (.int .i64 b3)).setCell ⟨gw, 4, none⟩ (.int .i64 b4)).setCell ⟨gw, 5, none⟩ (.slice Aw5 y5.length cw5)).setCell ⟨gw, 6, none⟩ (.slice Aw6 y6.length cw6)).setCell ⟨gw, 7, none⟩ (.slice Aw7 y7.length cw7)).setCell ⟨gw, 8, none⟩ (.int .i64 b8)).setCell ⟨gw, 9, none⟩ (.int .i64 b9)).setCell ⟨gw, 10, none⟩ (.int .i64 b10)) = w6 at t_BW b_ ⊢
  have t_BK := Aside0.mk (blk_below BK.out b_)
  have t_YW := Aside0.mk (yo_below YW.out b_)
  have t_HB := Aside0.mk (below_step HB.out b_)
  have SZ6 := Aside0.mk b_.size
  clear HB BK YW
  have HB := t_HB
  have BK := t_BK
  have YW := t_YW
  clear t_HB t_BK t_YW
  have BW := t_BW
  clear b_ t_BW LT_gw
  have LT_gw := Aside0.mk (blk_lt BW.out)
  have zbk0 : w6.cell? ⟨gb, 0, none⟩ = some (.slice A0 l0.length c0) := (blk_cell BK.out 0).trans rfl
  have zbk1 : w6.cell? ⟨gb, 1, none⟩ = some (.slice A1 l1.length c1) := (blk_cell BK.out 1).trans rfl
  have zbk2 : w6.cell? ⟨gb, 2, none⟩ = some (.slice A2 l2.length c2) := (blk_cell BK.out 2).trans rfl
  have zbk3 : w6.cell? ⟨gb, 3, none⟩ = some (.int .i64 a3) := (blk_cell BK.out 3).trans rfl
  have zbk4 : w6.cell? ⟨gb, 4, none⟩ = some (.int .i64 a4) := (blk_cell BK.out 4).trans rfl
  have fzbk0 := blk_frozen BK.out 0
  have fzbk1 := blk_frozen BK.out 1
  have fzbk2 := blk_frozen BK.out 2
  have fzbk3 := blk_frozen BK.out 3
  have fzbk4 := blk_frozen BK.out 4
  go_wp2_with fail
  refine (laws_toFleet.calls k _ _ l0 _ _ l1 _ _ l2 a3 a4 l0 l1 l2 a3 a4 _ (Kd.C_below HR0.out HB.out) HC0.out (Kd.C_below HR1.out HB.out) HC1.out (Kd.C_below HR2.out HB.out) HC2.out Qt.out).mono ?_
  rintro e w7 ⟨u0, u1, u2, rfl, ho0, ho1, ho2, hb⟩
  clear zbk0 fzbk0 zbk1 fzbk1 zbk2 fzbk2 zbk3 fzbk3 zbk4 fzbk4
  have t_BK := Aside0.mk (blk_below BK.out hb)
  have t_YW := Aside0.mk (yo_below YW.out hb)
  have t_BW := Aside0.mk (blk_below BW.out hb)
  have t_HB := Aside0.mk (below_step HB.out hb)
  have SZ7 := Aside0.mk hb.size
  clear HB BK YW BW
  have HB := t_HB
  have BK := t_BK
  have YW := t_YW
  have BW := t_BW
  clear t_HB t_BK t_YW t_BW
  have FX := Aside0.mk (fo_new ho0 ho1 ho2)
  clear ho0 ho1 ho2 hb
  obtain ⟨Ax0, cx0, e_⟩ := Kd.R_slice FX.out.o0
  subst e_
  obtain ⟨Ax1, cx1, e_⟩ := Kd.R_slice FX.out.o1
  subst e_
  obtain ⟨Ax2, cx2, e_⟩ := Kd.R_slice FX.out.o2
  subst e_
  go_upto_region 7 with (first | ((with_reducible refine gate_dst (N := 8) rfl ?_); refine box_event ?hg (N := 8) ?hd (cs := #[.slice none 0 0, .slice none 0 0, .slice none 0 0, .int .i64 0, .int .i64 0]) (t := 27) ?hr ?_; (case hd => rfl); (case hg => rfl); (case hr => first | (go_simp; done) | (go_simp; rfl)); intro gx hg w8 hbox hb; have BX := Aside0.mk hbox; have G_gx := Aside0.mk hg; have hb_ := Aside0.mk hb; clear hbox hb hg; have zbx0 : w8.cell? ⟨gx, 0, none⟩ = some (.slice none 0 0) := (blk_cell BX.out 0).trans rfl; have zbx1 : w8.cell? ⟨gx, 1, none⟩ = some (.slice none 0 0) := (blk_cell BX.out 1).trans rfl; have zbx2 : w8.cell? ⟨gx, 2, none⟩ = some (.slice none 0 0) := (blk_cell BX.out 2).trans rfl; have zbx3 : w8.cell? ⟨gx, 3, none⟩ = some (.int .i64 0) := (blk_cell BX.out 3).trans rfl; have zbx4 : w8.cell? ⟨gx, 4, none⟩ = some (.int .i64 0) := (blk_cell BX.out 4).trans rfl; have fzbx0 := blk_frozen BX.out 0; have fzbx1 := blk_frozen BX.out 1; have fzbx2 := blk_frozen BX.out 2; have fzbx3 := blk_frozen BX.out 3; have fzbx4 := blk_frozen BX.out 4))
  have LT_gx := Aside0.mk (blk_lt BX.out)
  clear zbx0 fzbx0 zbx1 fzbx1 zbx2 fzbx2 zbx3 fzbx3 zbx4 fzbx4
  have b0_ := BX.out
  have b1_ : (w8.setCell ⟨gx, 0, none⟩ (.slice Ax0 l0.length cx0)).heap[gx]? = some (.cells #[.slice Ax0 l0.length cx0, .slice none 0 0, .slice none 0 0, .int .i64 0, .int .i64 0] 27 (0, 0)) := blk_put b0_ 0 _ rfl
  have b2_ : ((w8.setCell ⟨gx, 0, none⟩ (.slice Ax0 l0.length cx0)).setCell ⟨gx, 1, none⟩ (.slice Ax1 l1.length cx1)).heap[gx]? = some (.cells #[.slice Ax0 l0.length cx0, .slice Ax1 l1.length cx1, .slice none 0 0, .int .i64 0, .int .i64 0] 27 (0, 0)) := blk_put b1_ 1 _ rfl
  have b3_ : (((w8.setCell ⟨gx, 0, none⟩ (.slice Ax0 l0.length cx0)).setCell ⟨gx, 1, none⟩ (.slice Ax1 l1.length cx1)).setCell ⟨gx, 2, none⟩ (.slice Ax2 l2.length cx2)).heap[gx]? = some (.cells #[.slice Ax0 l0.length cx0, .slice Ax1 l1.length cx1, .slice Ax2 l2.length cx2, .int .i64 0, .int .i64 0] 27 (0, 0)) := blk_put b2_ 2 _ rfl
  have b4_ : ((((w8.setCell ⟨gx, 0, none⟩ (.slice Ax0 l0.length cx0)).setCell ⟨gx, 1, none⟩ (.slice Ax1 l1.length cx1)).setCell ⟨gx, 2, none⟩ (.slice Ax2 l2.length cx2)).setCell ⟨gx, 3, none⟩ (.int .i64 a3)).heap[gx]? = some (.cells #[.slice Ax0 l0.length cx0, .slice Ax1 l1.length cx1, .slice Ax2 l2.length cx2, .int .i64 a3, .int .i64 0] 27 (0, 0)) := blk_put b3_ 3 _ rfl
  have b5_ : (((((w8.setCell ⟨gx, 0, none⟩ (.slice Ax0 l0.length cx0)).setCell ⟨gx, 1, none⟩ (.slice Ax1 l1.length cx1)).setCell ⟨gx, 2, none⟩ (.slice Ax2 l2.length cx2)).setCell ⟨gx, 3, none⟩ (.int .i64 a3)).setCell ⟨gx, 4, none⟩ (.int .i64 a4)).heap[gx]? = some (.cells #[.slice Ax0 l0.length cx0, .slice Ax1 l1.length cx1, .slice Ax2 l2.length cx2, .int .i64 a3, .int .i64 a4] 27 (0, 0)) := blk_put b4_ 4 _ rfl
  have t_BX := Aside0.mk b5_
  clear BX b0_ b1_ b2_ b3_ b4_ b5_
  have b0_ := hb_.out
  have b1_ : Below w7.heap.size w7 (w8.setCell ⟨gx, 0, none⟩ (.slice Ax0 l0.length cx0)) := below_box b0_ (Nat.le_of_eq G_gx.out.symm) 0 _
  have b2_ : Below w7.heap.size w7 ((w8.setCell ⟨gx, 0, none⟩ (.slice Ax0 l0.length cx0)).setCell ⟨gx, 1, none⟩ (.slice Ax1 l1.length cx1)) := below_box b1_ (Nat.le_of_eq G_gx.out.symm) 1 _
  have b3_ : Below w7.heap.size w7 (((w8.setCell ⟨gx, 0, none⟩ (.slice Ax0 l0.length cx0)).setCell ⟨gx, 1, none⟩ (.slice Ax1 l1.length cx1)).setCell ⟨gx, 2, none⟩ (.slice Ax2 l2.length cx2)) := below_box b2_ (Nat.le_of_eq G_gx.out.symm) 2 _
  have b4_ : Below w7.heap.size w7 ((((w8.setCell ⟨gx, 0, none⟩ (.slice Ax0 l0.length cx0)).setCell ⟨gx, 1, none⟩ (.slice Ax1 l1.length cx1)).setCell ⟨gx, 2, none⟩ (.slice Ax2 l2.length cx2)).setCell ⟨gx, 3, none⟩ (.int .i64 a3)) := below_box b3_ (Nat.le_of_eq G_gx.out.symm) 3 _
  have b5_ : Below w7.heap.size w7 (((((w8.setCell ⟨gx, 0, none⟩ (.slice Ax0 l0.length cx0)).setCell ⟨gx, 1, none⟩ (.slice Ax1 l1.length cx1)).setCell ⟨gx, 2, none⟩ (.slice Ax2 l2.length cx2)).setCell ⟨gx, 3, none⟩ (.int .i64 a3)).setCell ⟨gx, 4, none⟩ (.int .i64 a4)) := below_box b4_ (Nat.le_of_eq G_gx.out.symm) 4 _
  have b_ := b5_
  clear hb_ b0_ b1_ b2_ b3_ b4_ b5_
  generalize (((((w8.setCell ⟨gx, 0, none⟩ (.slice Ax0 l0.length cx0)).setCell ⟨gx, 1, none⟩ (.slice Ax1 l1.length cx1)).setCell ⟨gx, 2, none⟩ (.slice Ax2 l2.length cx2)).setCell ⟨gx, 3, none⟩ (.int .i64 a3)).setCell ⟨gx, 4, none⟩ (.int .i64 a4)) = w9 at t_BX b_ ⊢
  have t_BK := Aside0.mk (blk_below BK.out b_)
  have t_YW := Aside0.mk (yo_below YW.out b_)
  have t_BW := Aside0.mk (blk_below BW.out b_)
  have t_FX := Aside0.mk (fo_below FX.out b_)
  have t_HB := Aside0.mk (below_step HB.out b_)
  have SZ9 := Aside0.mk b_.size
  clear HB BK YW BW FX
  have HB := t_HB
  have BK := t_BK
  have YW := t_YW
  have BW := t_BW
  have FX := t_FX
  clear t_HB t_BK t_YW t_BW t_FX
  have BX := t_BX
  clear b_ t_BX LT_gx
  have LT_gx := Aside0.mk (blk_lt BX.out)
  have zbx0 : w9.cell? ⟨gx, 0, none⟩ = some (.slice Ax0 l0.length cx0) := (blk_cell BX.out 0).trans rfl
  have zbx1 : w9.cell? ⟨gx, 1, none⟩ = some (.slice Ax1 l1.length cx1) := (blk_cell BX.out 1).trans rfl
  have zbx2 : w9.cell? ⟨gx, 2, none⟩ = some (.slice Ax2 l2.length cx2) := (blk_cell BX.out 2).trans rfl
  have zbx3 : w9.cell? ⟨gx, 3, none⟩ = some (.int .i64 a3) := (blk_cell BX.out 3).trans rfl
  have zbx4 : w9.cell? ⟨gx, 4, none⟩ = some (.int .i64 a4) := (blk_cell BX.out 4).trans rfl
  have fzbx0 := blk_frozen BX.out 0
  have fzbx1 := blk_frozen BX.out 1
  have fzbx2 := blk_frozen BX.out 2
  have fzbx3 := blk_frozen BX.out 3
  have fzbx4 := blk_frozen BX.out 4
  go_wp2_with fail
  refine (impl_NewYard.calls k _ _ l0 _ _ l1 _ _ l2 a3 a4 aT y0 y1 y2 b3 b4 y5 y6 y7 b8 b9 b10 gf _ (Kd.R_reads' FX.out.o0).2.2 (Kd.R_reads' FX.out.o0).2.1 (Kd.R_reads' FX.out.o1).2.2 (Kd.R_reads' FX.out.o1).2.1 (Kd.R_reads' FX.out.o2).2.2 (Kd.R_reads' FX.out.o2).2.1 Qi.out).mono ?_
  rintro e w10 ⟨u0, u1, u2, u5, u6, u7, rfl, ho0, ho1, ho2, ho5, ho6, ho7, hb⟩
  clear zbx0 fzbx0 zbx1 fzbx1 zbx2 fzbx2 zbx3 fzbx3 zbx4 fzbx4
  have t_BK := Aside0.mk (blk_below BK.out hb)
  have t_YW := Aside0.mk (yo_below YW.out hb)
  have t_BW := Aside0.mk (blk_below BW.out hb)
  have t_FX := Aside0.mk (fo_below FX.out hb)
  have t_BX := Aside0.mk (blk_below BX.out hb)
  have t_HB := Aside0.mk (below_step HB.out hb)
  have SZ10 := Aside0.mk hb.size
  clear HB BK YW BW FX BX
  have HB := t_HB
  have BK := t_BK
  have YW := t_YW
  have BW := t_BW
  have FX := t_FX
  have BX := t_BX
  clear t_HB t_BK t_YW t_BW t_FX t_BX
  have YG := Aside0.mk (yo_new ho0 ho1 ho2 ho5 ho6 ho7)
  clear ho0 ho1 ho2 ho5 ho6 ho7 hb
  obtain ⟨Ag0, cg0, e_⟩ := Kd.R_slice YG.out.o0
  subst e_
  obtain ⟨Ag1, cg1, e_⟩ := Kd.R_slice YG.out.o1
  subst e_
  obtain ⟨Ag2, cg2, e_⟩ := Kd.R_slice YG.out.o2
  subst e_
  obtain ⟨Ag5, cg5, e_⟩ := Kd.R_slice YG.out.o5
  subst e_
  obtain ⟨Ag6, cg6, e_⟩ := Kd.S_slice YG.out.o6
  subst e_
  obtain ⟨Ag7, cg7, e_⟩ := Kd.R_slice YG.out.o7
  subst e_
  go_upto_region 8 with (first | ((with_reducible refine gate_dst (N := 9) rfl ?_); refine box_event ?hg (N := 9) ?hd (cs := #[.slice none 0 0, .slice none 0 0, .slice none 0 0, .int .i64 0, .int .i64 0, .slice none 0 0, .slice none 0 0, .slice none 0 0, .int .i64 0, .int .i64 0, .int .i64 0]) (t := 44) ?hr ?_; (case hd => rfl); (case hg => rfl); (case hr => first | (go_simp; done) | (go_simp; rfl)); intro gg hg w11 hbox hb; have BG := Aside0.mk hbox; have G_gg := Aside0.mk hg; have hb_ := Aside0.mk hb; clear hbox hb hg; have zbg0 : w11.cell? ⟨gg, 0, none⟩ = some (.slice none 0 0) := (blk_cell BG.out 0).trans rfl; have zbg1 : w11.cell? ⟨gg, 1, none⟩ = some (.slice none 0 0) := (blk_cell BG.out 1).trans rfl; have zbg2 : w11.cell? ⟨gg, 2, none⟩ = some (.slice none 0 0) := (blk_cell BG.out 2).trans rfl; have zbg3 : w11.cell? ⟨gg, 3, none⟩ = some (.int .i64 0) := (blk_cell BG.out 3).trans rfl; have zbg4 : w11.cell? ⟨gg, 4, none⟩ = some (.int .i64 0) := (blk_cell BG.out 4).trans rfl; have zbg5 : w11.cell? ⟨gg, 5, none⟩ = some (.slice none 0 0) := (blk_cell BG.out 5).trans rfl; have zbg6 : w11.cell? ⟨gg, 6, none⟩ = some (.slice none 0 0) := (blk_cell BG.out 6).trans rfl; have zbg7 : w11.cell? ⟨gg, 7, none⟩ = some (.slice none 0 0) := (blk_cell BG.out 7).trans rfl; have zbg8 : w11.cell? ⟨gg, 8, none⟩ = some (.int .i64 0) := (blk_cell BG.out 8).trans rfl; have zbg9 : w11.cell? ⟨gg, 9, none⟩ = some (.int .i64 0) := (blk_cell BG.out 9).trans rfl; have zbg10 : w11.cell? ⟨gg, 10, none⟩ = some (.int .i64 0) := (blk_cell BG.out 10).trans rfl; have fzbg0 := blk_frozen BG.out 0; have fzbg1 := blk_frozen BG.out 1; have fzbg2 := blk_frozen BG.out 2; have fzbg3 := blk_frozen BG.out 3; have fzbg4 := blk_frozen BG.out 4; have fzbg5 := blk_frozen BG.out 5; have fzbg6 := blk_frozen BG.out 6; have fzbg7 := blk_frozen BG.out 7; have fzbg8 := blk_frozen BG.out 8; have fzbg9 := blk_frozen BG.out 9; have fzbg10 := blk_frozen BG.out 10))
  have LT_gg := Aside0.mk (blk_lt BG.out)
  clear zbg0 fzbg0 zbg1 fzbg1 zbg2 fzbg2 zbg3 fzbg3 zbg4 fzbg4 zbg5 fzbg5 zbg6 fzbg6 zbg7 fzbg7 zbg8 fzbg8 zbg9 fzbg9 zbg10 fzbg10
  have b0_ := BG.out
  have b1_ : (w11.setCell ⟨gg, 0, none⟩ (.slice Ag0 y0.length cg0)).heap[gg]? = some (.cells #[.slice Ag0 y0.length cg0, .slice none 0 0, .slice none 0 0, .int .i64 0, .int .i64 0, .slice none 0 0, .slice none 0 0, .slice none 0 0, .int .i64 0, .int .i64 0, .int .i64 0] 44 (0, 0)) := blk_put b0_ 0 _ rfl
  have b2_ : ((w11.setCell ⟨gg, 0, none⟩ (.slice Ag0 y0.length cg0)).setCell ⟨gg, 1, none⟩ (.slice Ag1 y1.length cg1)).heap[gg]? = some (.cells #[.slice Ag0 y0.length cg0, .slice Ag1 y1.length cg1, .slice none 0 0, .int .i64 0, .int .i64 0, .slice none 0 0, .slice none 0 0, .slice none 0 0, .int .i64 0, .int .i64 0, .int .i64 0] 44 (0, 0)) := blk_put b1_ 1 _ rfl
  have b3_ : (((w11.setCell ⟨gg, 0, none⟩ (.slice Ag0 y0.length cg0)).setCell ⟨gg, 1, none⟩ (.slice Ag1 y1.length cg1)).setCell ⟨gg, 2, none⟩ (.slice Ag2 y2.length cg2)).heap[gg]? = some (.cells #[.slice Ag0 y0.length cg0, .slice Ag1 y1.length cg1, .slice Ag2 y2.length cg2, .int .i64 0, .int .i64 0, .slice none 0 0, .slice none 0 0, .slice none 0 0, .int .i64 0, .int .i64 0, .int .i64 0] 44 (0, 0)) := blk_put b2_ 2 _ rfl
  have b4_ : ((((w11.setCell ⟨gg, 0, none⟩ (.slice Ag0 y0.length cg0)).setCell ⟨gg, 1, none⟩ (.slice Ag1 y1.length cg1)).setCell ⟨gg, 2, none⟩ (.slice Ag2 y2.length cg2)).setCell ⟨gg, 3, none⟩ (.int .i64 b3)).heap[gg]? = some (.cells #[.slice Ag0 y0.length cg0, .slice Ag1 y1.length cg1, .slice Ag2 y2.length cg2, .int .i64 b3, .int .i64 0, .slice none 0 0, .slice none 0 0, .slice none 0 0, .int .i64 0, .int .i64 0, .int .i64 0] 44 (0, 0)) := blk_put b3_ 3 _ rfl
  have b5_ : (((((w11.setCell ⟨gg, 0, none⟩ (.slice Ag0 y0.length cg0)).setCell ⟨gg, 1, none⟩ (.slice Ag1 y1.length cg1)).setCell ⟨gg, 2, none⟩ (.slice Ag2 y2.length cg2)).setCell ⟨gg, 3, none⟩ (.int .i64 b3)).setCell ⟨gg, 4, none⟩ (.int .i64 b4)).heap[gg]? = some (.cells #[.slice Ag0 y0.length cg0, .slice Ag1 y1.length cg1, .slice Ag2 y2.length cg2, .int .i64 b3, .int .i64 b4, .slice none 0 0, .slice none 0 0, .slice none 0 0, .int .i64 0, .int .i64 0, .int .i64 0] 44 (0, 0)) := blk_put b4_ 4 _ rfl
  have b6_ : ((((((w11.setCell ⟨gg, 0, none⟩ (.slice Ag0 y0.length cg0)).setCell ⟨gg, 1, none⟩ (.slice Ag1 y1.length cg1)).setCell ⟨gg, 2, none⟩ (.slice Ag2 y2.length cg2)).setCell ⟨gg, 3, none⟩ (.int .i64 b3)).setCell ⟨gg, 4, none⟩ (.int .i64 b4)).setCell ⟨gg, 5, none⟩ (.slice Ag5 y5.length cg5)).heap[gg]? = some (.cells #[.slice Ag0 y0.length cg0, .slice Ag1 y1.length cg1, .slice Ag2 y2.length cg2, .int .i64 b3, .int .i64 b4, .slice Ag5 y5.length cg5, .slice none 0 0, .slice none 0 0, .int .i64 0, .int .i64 0, .int .i64 0] 44 (0, 0)) := blk_put b5_ 5 _ rfl
  have b7_ : (((((((w11.setCell ⟨gg, 0, none⟩ (.slice Ag0 y0.length cg0)).setCell ⟨gg, 1, none⟩ (.slice Ag1 y1.length cg1)).setCell ⟨gg, 2, none⟩ (.slice Ag2 y2.length cg2)).setCell ⟨gg, 3, none⟩ (.int .i64 b3)).setCell ⟨gg, 4, none⟩ (.int .i64 b4)).setCell ⟨gg, 5, none⟩ (.slice Ag5 y5.length cg5)).setCell ⟨gg, 6, none⟩ (.slice Ag6 y6.length cg6)).heap[gg]? = some (.cells #[.slice Ag0 y0.length cg0, .slice Ag1 y1.length cg1, .slice Ag2 y2.length cg2, .int .i64 b3, .int .i64 b4, .slice Ag5 y5.length cg5, .slice Ag6 y6.length cg6, .slice none 0 0, .int .i64 0, .int .i64 0, .int .i64 0] 44 (0, 0)) := blk_put b6_ 6 _ rfl
  have b8_ : ((((((((w11.setCell ⟨gg, 0, none⟩ (.slice Ag0 y0.length cg0)).setCell ⟨gg, 1, none⟩ (.slice Ag1 y1.length cg1)).setCell ⟨gg, 2, none⟩ (.slice Ag2 y2.length cg2)).setCell ⟨gg, 3, none⟩ (.int .i64 b3)).setCell ⟨gg, 4, none⟩ (.int .i64 b4)).setCell ⟨gg, 5, none⟩ (.slice Ag5 y5.length cg5)).setCell ⟨gg, 6, none⟩ (.slice Ag6 y6.length cg6)).setCell ⟨gg, 7, none⟩ (.slice Ag7 y7.length cg7)).heap[gg]? = some (.cells #[.slice Ag0 y0.length cg0, .slice Ag1 y1.length cg1, .slice Ag2 y2.length cg2, .int .i64 b3, .int .i64 b4, .slice Ag5 y5.length cg5, .slice Ag6 y6.length cg6, .slice Ag7 y7.length cg7, .int .i64 0, .int .i64 0, .int .i64 0] 44 (0, 0)) := blk_put b7_ 7 _ rfl
  have b9_ : (((((((((w11.setCell ⟨gg, 0, none⟩ (.slice Ag0 y0.length cg0)).setCell ⟨gg, 1, none⟩ (.slice Ag1 y1.length cg1)).setCell ⟨gg, 2, none⟩ (.slice Ag2 y2.length cg2)).setCell ⟨gg, 3, none⟩ (.int .i64 b3)).setCell ⟨gg, 4, none⟩ (.int .i64 b4)).setCell ⟨gg, 5, none⟩ (.slice Ag5 y5.length cg5)).setCell ⟨gg, 6, none⟩ (.slice Ag6 y6.length cg6)).setCell ⟨gg, 7, none⟩ (.slice Ag7 y7.length cg7)).setCell ⟨gg, 8, none⟩ (.int .i64 b8)).heap[gg]? = some (.cells #[.slice Ag0 y0.length cg0, .slice Ag1 y1.length cg1, .slice Ag2 y2.length cg2, .int .i64 b3, .int .i64 b4, .slice Ag5 y5.length cg5, .slice Ag6 y6.length cg6, .slice Ag7 y7.length cg7, .int .i64 b8, .int .i64 0, .int .i64 0] 44 (0, 0)) := blk_put b8_ 8 _ rfl
  have b10_ : ((((((((((w11.setCell ⟨gg, 0, none⟩ (.slice Ag0 y0.length cg0)).setCell ⟨gg, 1, none⟩ (.slice Ag1 y1.length cg1)).setCell ⟨gg, 2, none⟩ (.slice Ag2 y2.length cg2)).setCell ⟨gg, 3, none⟩ (.int .i64 b3)).setCell ⟨gg, 4, none⟩ (.int .i64 b4)).setCell ⟨gg, 5, none⟩ (.slice Ag5 y5.length cg5)).setCell ⟨gg, 6, none⟩ (.slice Ag6 y6.length cg6)).setCell ⟨gg, 7, none⟩ (.slice Ag7 y7.length cg7)).setCell ⟨gg, 8, none⟩ (.int .i64 b8)).setCell ⟨gg, 9, none⟩ (.int .i64 b9)).heap[gg]? = some (.cells #[.slice Ag0 y0.length cg0, .slice Ag1 y1.length cg1, .slice Ag2 y2.length cg2, .int .i64 b3, .int .i64 b4, .slice Ag5 y5.length cg5, .slice Ag6 y6.length cg6, .slice Ag7 y7.length cg7, .int .i64 b8, .int .i64 b9, .int .i64 0] 44 (0, 0)) := blk_put b9_ 9 _ rfl
  have b11_ : (((((((((((w11.setCell ⟨gg, 0, none⟩ (.slice Ag0 y0.length cg0)).setCell ⟨gg, 1, none⟩ (.slice Ag1 y1.length cg1)).setCell ⟨gg, 2, none⟩ (.slice Ag2 y2.length cg2)).setCell ⟨gg, 3, none⟩ (.int .i64 b3)).setCell ⟨gg, 4, none⟩ (.int .i64 b4)).setCell ⟨gg, 5, none⟩ (.slice Ag5 y5.length cg5)).setCell ⟨gg, 6, none⟩ (.slice Ag6 y6.length cg6)).setCell ⟨gg, 7, none⟩ (.slice Ag7 y7.length cg7)).setCell ⟨gg, 8, none⟩ (.int .i64 b8)).setCell ⟨gg, 9, none⟩ (.int .i64 b9)).setCell ⟨gg, 10, none⟩ (.int .i64 b10)).heap[gg]? = some (.cells #[.slice Ag0 y0.length cg0, .slice Ag1 y1.length cg1, .slice Ag2 y2.length cg2, .int .i64 b3, .int .i64 b4, .slice Ag5 y5.length cg5, .slice Ag6 y6.length cg6, .slice Ag7 y7.length cg7, .int .i64 b8, .int .i64 b9, .int .i64 b10] 44 (0, 0)) := blk_put b10_ 10 _ rfl
  have t_BG := Aside0.mk b11_
  clear BG b0_ b1_ b2_ b3_ b4_ b5_ b6_ b7_ b8_ b9_ b10_ b11_
  have b0_ := hb_.out
  have b1_ : Below w10.heap.size w10 (w11.setCell ⟨gg, 0, none⟩ (.slice Ag0 y0.length cg0)) := below_box b0_ (Nat.le_of_eq G_gg.out.symm) 0 _
  have b2_ : Below w10.heap.size w10 ((w11.setCell ⟨gg, 0, none⟩ (.slice Ag0 y0.length cg0)).setCell ⟨gg, 1, none⟩ (.slice Ag1 y1.length cg1)) := below_box b1_ (Nat.le_of_eq G_gg.out.symm) 1 _
  have b3_ : Below w10.heap.size w10 (((w11.setCell ⟨gg, 0, none⟩ (.slice Ag0 y0.length cg0)).setCell ⟨gg, 1, none⟩ (.slice Ag1 y1.length cg1)).setCell ⟨gg, 2, none⟩ (.slice Ag2 y2.length cg2)) := below_box b2_ (Nat.le_of_eq G_gg.out.symm) 2 _
  have b4_ : Below w10.heap.size w10 ((((w11.setCell ⟨gg, 0, none⟩ (.slice Ag0 y0.length cg0)).setCell ⟨gg, 1, none⟩ (.slice Ag1 y1.length cg1)).setCell ⟨gg, 2, none⟩ (.slice Ag2 y2.length cg2)).setCell ⟨gg, 3, none⟩ (.int .i64 b3)) := below_box b3_ (Nat.le_of_eq G_gg.out.symm) 3 _
  have b5_ : Below w10.heap.size w10 (((((w11.setCell ⟨gg, 0, none⟩ (.slice Ag0 y0.length cg0)).setCell ⟨gg, 1, none⟩ (.slice Ag1 y1.length cg1)).setCell ⟨gg, 2, none⟩ (.slice Ag2 y2.length cg2)).setCell ⟨gg, 3, none⟩ (.int .i64 b3)).setCell ⟨gg, 4, none⟩ (.int .i64 b4)) := below_box b4_ (Nat.le_of_eq G_gg.out.symm) 4 _
  have b6_ : Below w10.heap.size w10 ((((((w11.setCell ⟨gg, 0, none⟩ (.slice Ag0 y0.length cg0)).setCell ⟨gg, 1, none⟩ (.slice Ag1 y1.length cg1)).setCell ⟨gg, 2, none⟩ (.slice Ag2 y2.length cg2)).setCell ⟨gg, 3, none⟩ (.int .i64 b3)).setCell ⟨gg, 4, none⟩ (.int .i64 b4)).setCell ⟨gg, 5, none⟩ (.slice Ag5 y5.length cg5)) := below_box b5_ (Nat.le_of_eq G_gg.out.symm) 5 _
  have b7_ : Below w10.heap.size w10 (((((((w11.setCell ⟨gg, 0, none⟩ (.slice Ag0 y0.length cg0)).setCell ⟨gg, 1, none⟩ (.slice Ag1 y1.length cg1)).setCell ⟨gg, 2, none⟩ (.slice Ag2 y2.length cg2)).setCell ⟨gg, 3, none⟩ (.int .i64 b3)).setCell ⟨gg, 4, none⟩ (.int .i64 b4)).setCell ⟨gg, 5, none⟩ (.slice Ag5 y5.length cg5)).setCell ⟨gg, 6, none⟩ (.slice Ag6 y6.length cg6)) := below_box b6_ (Nat.le_of_eq G_gg.out.symm) 6 _
  have b8_ : Below w10.heap.size w10 ((((((((w11.setCell ⟨gg, 0, none⟩ (.slice Ag0 y0.length cg0)).setCell ⟨gg, 1, none⟩ (.slice Ag1 y1.length cg1)).setCell ⟨gg, 2, none⟩ (.slice Ag2 y2.length cg2)).setCell ⟨gg, 3, none⟩ (.int .i64 b3)).setCell ⟨gg, 4, none⟩ (.int .i64 b4)).setCell ⟨gg, 5, none⟩ (.slice Ag5 y5.length cg5)).setCell ⟨gg, 6, none⟩ (.slice Ag6 y6.length cg6)).setCell ⟨gg, 7, none⟩ (.slice Ag7 y7.length cg7)) := below_box b7_ (Nat.le_of_eq G_gg.out.symm) 7 _
  have b9_ : Below w10.heap.size w10 (((((((((w11.setCell ⟨gg, 0, none⟩ (.slice Ag0 y0.length cg0)).setCell ⟨gg, 1, none⟩ (.slice Ag1 y1.length cg1)).setCell ⟨gg, 2, none⟩ (.slice Ag2 y2.length cg2)).setCell ⟨gg, 3, none⟩ (.int .i64 b3)).setCell ⟨gg, 4, none⟩ (.int .i64 b4)).setCell ⟨gg, 5, none⟩ (.slice Ag5 y5.length cg5)).setCell ⟨gg, 6, none⟩ (.slice Ag6 y6.length cg6)).setCell ⟨gg, 7, none⟩ (.slice Ag7 y7.length cg7)).setCell ⟨gg, 8, none⟩ (.int .i64 b8)) := below_box b8_ (Nat.le_of_eq G_gg.out.symm) 8 _
  have b10_ : Below w10.heap.size w10 ((((((((((w11.setCell ⟨gg, 0, none⟩ (.slice Ag0 y0.length cg0)).setCell ⟨gg, 1, none⟩ (.slice Ag1 y1.length cg1)).setCell ⟨gg, 2, none⟩ (.slice Ag2 y2.length cg2)).setCell ⟨gg, 3, none⟩ (.int .i64 b3)).setCell ⟨gg, 4, none⟩ (.int .i64 b4)).setCell ⟨gg, 5, none⟩ (.slice Ag5 y5.length cg5)).setCell ⟨gg, 6, none⟩ (.slice Ag6 y6.length cg6)).setCell ⟨gg, 7, none⟩ (.slice Ag7 y7.length cg7)).setCell ⟨gg, 8, none⟩ (.int .i64 b8)).setCell ⟨gg, 9, none⟩ (.int .i64 b9)) := below_box b9_ (Nat.le_of_eq G_gg.out.symm) 9 _
  have b11_ : Below w10.heap.size w10 (((((((((((w11.setCell ⟨gg, 0, none⟩ (.slice Ag0 y0.length cg0)).setCell ⟨gg, 1, none⟩ (.slice Ag1 y1.length cg1)).setCell ⟨gg, 2, none⟩ (.slice Ag2 y2.length cg2)).setCell ⟨gg, 3, none⟩ (.int .i64 b3)).setCell ⟨gg, 4, none⟩ (.int .i64 b4)).setCell ⟨gg, 5, none⟩ (.slice Ag5 y5.length cg5)).setCell ⟨gg, 6, none⟩ (.slice Ag6 y6.length cg6)).setCell ⟨gg, 7, none⟩ (.slice Ag7 y7.length cg7)).setCell ⟨gg, 8, none⟩ (.int .i64 b8)).setCell ⟨gg, 9, none⟩ (.int .i64 b9)).setCell ⟨gg, 10, none⟩ (.int .i64 b10)) := below_box b10_ (Nat.le_of_eq G_gg.out.symm) 10 _
  have b_ := b11_
  clear hb_ b0_ b1_ b2_ b3_ b4_ b5_ b6_ b7_ b8_ b9_ b10_ b11_
  generalize (((((((((((w11.setCell ⟨gg, 0, none⟩ (.slice Ag0 y0.length cg0)).setCell ⟨gg, 1, none⟩ (.slice Ag1 y1.length cg1)).setCell ⟨gg, 2, none⟩ (.slice Ag2 y2.length cg2)).setCell ⟨gg, 3, none⟩ (.int .i64 b3)).setCell ⟨gg, 4, none⟩ (.int .i64 b4)).setCell ⟨gg, 5, none⟩ (.slice Ag5 y5.length cg5)).setCell ⟨gg, 6, none⟩ (.slice Ag6 y6.length cg6)).setCell ⟨gg, 7, none⟩ (.slice Ag7 y7.length cg7)).setCell ⟨gg, 8, none⟩ (.int .i64 b8)).setCell ⟨gg, 9, none⟩ (.int .i64 b9)).setCell ⟨gg, 10, none⟩ (.int .i64 b10)) = w12 at t_BG b_ ⊢
  have t_BK := Aside0.mk (blk_below BK.out b_)
  have t_YW := Aside0.mk (yo_below YW.out b_)
  have t_BW := Aside0.mk (blk_below BW.out b_)
  have t_FX := Aside0.mk (fo_below FX.out b_)
  have t_BX := Aside0.mk (blk_below BX.out b_)
  have t_YG := Aside0.mk (yo_below YG.out b_)
  have t_HB := Aside0.mk (below_step HB.out b_)
  have SZ12 := Aside0.mk b_.size
  clear HB BK YW BW FX BX YG
  have HB := t_HB
  have BK := t_BK
  have YW := t_YW
  have BW := t_BW
  have FX := t_FX
  have BX := t_BX
  have YG := t_YG
  clear t_HB t_BK t_YW t_BW t_FX t_BX t_YG
  have BG := t_BG
  clear b_ t_BG LT_gg
  have LT_gg := Aside0.mk (blk_lt BG.out)
  have zbg0 : w12.cell? ⟨gg, 0, none⟩ = some (.slice Ag0 y0.length cg0) := (blk_cell BG.out 0).trans rfl
  have zbg1 : w12.cell? ⟨gg, 1, none⟩ = some (.slice Ag1 y1.length cg1) := (blk_cell BG.out 1).trans rfl
  have zbg2 : w12.cell? ⟨gg, 2, none⟩ = some (.slice Ag2 y2.length cg2) := (blk_cell BG.out 2).trans rfl
  have zbg3 : w12.cell? ⟨gg, 3, none⟩ = some (.int .i64 b3) := (blk_cell BG.out 3).trans rfl
  have zbg4 : w12.cell? ⟨gg, 4, none⟩ = some (.int .i64 b4) := (blk_cell BG.out 4).trans rfl
  have zbg5 : w12.cell? ⟨gg, 5, none⟩ = some (.slice Ag5 y5.length cg5) := (blk_cell BG.out 5).trans rfl
  have zbg6 : w12.cell? ⟨gg, 6, none⟩ = some (.slice Ag6 y6.length cg6) := (blk_cell BG.out 6).trans rfl
  have zbg7 : w12.cell? ⟨gg, 7, none⟩ = some (.slice Ag7 y7.length cg7) := (blk_cell BG.out 7).trans rfl
  have zbg8 : w12.cell? ⟨gg, 8, none⟩ = some (.int .i64 b8) := (blk_cell BG.out 8).trans rfl
  have zbg9 : w12.cell? ⟨gg, 9, none⟩ = some (.int .i64 b9) := (blk_cell BG.out 9).trans rfl
  have zbg10 : w12.cell? ⟨gg, 10, none⟩ = some (.int .i64 b10) := (blk_cell BG.out 10).trans rfl
  have fzbg0 := blk_frozen BG.out 0
  have fzbg1 := blk_frozen BG.out 1
  have fzbg2 := blk_frozen BG.out 2
  have fzbg3 := blk_frozen BG.out 3
  have fzbg4 := blk_frozen BG.out 4
  have fzbg5 := blk_frozen BG.out 5
  have fzbg6 := blk_frozen BG.out 6
  have fzbg7 := blk_frozen BG.out 7
  have fzbg8 := blk_frozen BG.out 8
  have fzbg9 := blk_frozen BG.out 9
  have fzbg10 := blk_frozen BG.out 10
  have zbw0 : w12.cell? ⟨gw, 0, none⟩ = some (.slice Aw0 y0.length cw0) := (blk_cell BW.out 0).trans rfl
  have zbw1 : w12.cell? ⟨gw, 1, none⟩ = some (.slice Aw1 y1.length cw1) := (blk_cell BW.out 1).trans rfl
  have zbw2 : w12.cell? ⟨gw, 2, none⟩ = some (.slice Aw2 y2.length cw2) := (blk_cell BW.out 2).trans rfl
  have zbw3 : w12.cell? ⟨gw, 3, none⟩ = some (.int .i64 b3) := (blk_cell BW.out 3).trans rfl
  have zbw4 : w12.cell? ⟨gw, 4, none⟩ = some (.int .i64 b4) := (blk_cell BW.out 4).trans rfl
  have zbw5 : w12.cell? ⟨gw, 5, none⟩ = some (.slice Aw5 y5.length cw5) := (blk_cell BW.out 5).trans rfl
  have zbw6 : w12.cell? ⟨gw, 6, none⟩ = some (.slice Aw6 y6.length cw6) := (blk_cell BW.out 6).trans rfl
  have zbw7 : w12.cell? ⟨gw, 7, none⟩ = some (.slice Aw7 y7.length cw7) := (blk_cell BW.out 7).trans rfl
  have zbw8 : w12.cell? ⟨gw, 8, none⟩ = some (.int .i64 b8) := (blk_cell BW.out 8).trans rfl
  have zbw9 : w12.cell? ⟨gw, 9, none⟩ = some (.int .i64 b9) := (blk_cell BW.out 9).trans rfl
  have zbw10 : w12.cell? ⟨gw, 10, none⟩ = some (.int .i64 b10) := (blk_cell BW.out 10).trans rfl
  have fzbw0 := blk_frozen BW.out 0
  have fzbw1 := blk_frozen BW.out 1
  have fzbw2 := blk_frozen BW.out 2
  have fzbw3 := blk_frozen BW.out 3
  have fzbw4 := blk_frozen BW.out 4
  have fzbw5 := blk_frozen BW.out 5
  have fzbw6 := blk_frozen BW.out 6
  have fzbw7 := blk_frozen BW.out 7
  have fzbw8 := blk_frozen BW.out 8
  have fzbw9 := blk_frozen BW.out 9
  have fzbw10 := blk_frozen BW.out 10
  go_wp2_with fail
  refine (laws_eqYard.calls k _ _ y0 _ _ y1 _ _ y2 b3 b4 _ _ y5 _ _ y6 _ _ y7 b8 b9 b10 _ _ y0 _ _ y1 _ _ y2 b3 b4 _ _ y5 _ _ y6 _ _ y7 b8 b9 b10 true _ (Kd.R_reads' YG.out.o0).2.2 (Kd.R_reads' YG.out.o0).2.1 (Kd.R_reads' YG.out.o1).2.2 (Kd.R_reads' YG.out.o1).2.1 (Kd.R_reads' YG.out.o2).2.2 (Kd.R_reads' YG.out.o2).2.1 (Kd.R_reads' YG.out.o5).2.2 (Kd.R_reads' YG.out.o5).2.1 (Kd.S_reads' YG.out.o6).2.2 (Kd.S_reads' YG.out.o6).2.1 (Kd.R_reads' YG.out.o7).2.2 (Kd.R_reads' YG.out.o7).2.1 (Kd.R_reads' YW.out.o0).2.2 (Kd.R_reads' YW.out.o0).2.1 (Kd.R_reads' YW.out.o1).2.2 (Kd.R_reads' YW.out.o1).2.1 (Kd.R_reads' YW.out.o2).2.2 (Kd.R_reads' YW.out.o2).2.1 (Kd.R_reads' YW.out.o5).2.2 (Kd.R_reads' YW.out.o5).2.1 (Kd.S_reads' YW.out.o6).2.2 (Kd.S_reads' YW.out.o6).2.1 (Kd.R_reads' YW.out.o7).2.2 (Kd.R_reads' YW.out.o7).2.1 Qe.out).mono ?_
  rintro e w13 ⟨rfl, hb⟩
  clear zbg0 fzbg0 zbg1 fzbg1 zbg2 fzbg2 zbg3 fzbg3 zbg4 fzbg4 zbg5 fzbg5 zbg6 fzbg6 zbg7 fzbg7 zbg8 fzbg8 zbg9 fzbg9 zbg10 fzbg10 zbw0 fzbw0 zbw1 fzbw1 zbw2 fzbw2 zbw3 fzbw3 zbw4 fzbw4 zbw5 fzbw5 zbw6 fzbw6 zbw7 fzbw7 zbw8 fzbw8 zbw9 fzbw9 zbw10 fzbw10
  have t_BK := Aside0.mk (blk_below BK.out hb)
  have t_YW := Aside0.mk (yo_below YW.out hb)
  have t_BW := Aside0.mk (blk_below BW.out hb)
  have t_FX := Aside0.mk (fo_below FX.out hb)
  have t_BX := Aside0.mk (blk_below BX.out hb)
  have t_YG := Aside0.mk (yo_below YG.out hb)
  have t_BG := Aside0.mk (blk_below BG.out hb)
  have t_HB := Aside0.mk (below_step HB.out hb)
  have SZ13 := Aside0.mk hb.size
  clear HB BK YW BW FX BX YG BG
  have HB := t_HB
  have BK := t_BK
  have YW := t_YW
  have BW := t_BW
  have FX := t_FX
  have BX := t_BX
  have YG := t_YG
  have BG := t_BG
  clear t_HB t_BK t_YW t_BW t_FX t_BX t_YG t_BG
  clear hb
  go_wp2
  have hb : Below w13.heap.size w13 w13.drew := below_drew1 (Below.refl _ _)
  have t_BK := Aside0.mk (blk_below BK.out hb)
  have t_YW := Aside0.mk (yo_below YW.out hb)
  have t_BW := Aside0.mk (blk_below BW.out hb)
  have t_FX := Aside0.mk (fo_below FX.out hb)
  have t_BX := Aside0.mk (blk_below BX.out hb)
  have t_YG := Aside0.mk (yo_below YG.out hb)
  have t_BG := Aside0.mk (blk_below BG.out hb)
  have t_HB := Aside0.mk (below_step HB.out hb)
  have SZ14 := Aside0.mk hb.size
  clear HB BK YW BW FX BX YG BG
  have HB := t_HB
  have BK := t_BK
  have YW := t_YW
  have BW := t_BW
  have FX := t_FX
  have BX := t_BX
  have YG := t_YG
  have BG := t_BG
  clear t_HB t_BK t_YW t_BW t_FX t_BX t_YG t_BG
  clear hb
  refine start_ (n := 5) (S := fun w' => w'.cell? ⟨gx, 0, none⟩ = some (.slice Ax0 l0.length cx0) ∧ w'.cell? ⟨gx, 1, none⟩ = some (.slice Ax1 l1.length cx1) ∧ w'.cell? ⟨gx, 2, none⟩ = some (.slice Ax2 l2.length cx2) ∧ w'.cell? ⟨gx, 3, none⟩ = some (.int .i64 a3) ∧ w'.cell? ⟨gx, 4, none⟩ = some (.int .i64 a4) ∧ w'.cell? ⟨gb, 0, none⟩ = some (.slice A0 l0.length c0) ∧ w'.cell? ⟨gb, 1, none⟩ = some (.slice A1 l1.length c1) ∧ w'.cell? ⟨gb, 2, none⟩ = some (.slice A2 l2.length c2) ∧ w'.cell? ⟨gb, 3, none⟩ = some (.int .i64 a3) ∧ w'.cell? ⟨gb, 4, none⟩ = some (.int .i64 a4)) (ds := []) #[false, false, false, false, false] (by kernel_rfl) rfl rfl ⟨(blk_cell BX.out 0).trans rfl, (blk_cell BX.out 1).trans rfl, (blk_cell BX.out 2).trans rfl, (blk_cell BX.out 3).trans rfl, (blk_cell BX.out 4).trans rfl, (blk_cell BK.out 0).trans rfl, (blk_cell BK.out 1).trans rfl, (blk_cell BK.out 2).trans rfl, (blk_cell BK.out 3).trans rfl, (blk_cell BK.out 4).trans rfl⟩ (fun hHeld => ?_)
  generalize w13.drew = w14 at BK YW BW FX BX YG BG HB SZ14 hHeld ⊢
  refine take_ (i := 0) (N := some 45) (v := ?_) (a' := ?_) #[true, false, false, false, false] rfl rfl (by kernel_rfl) (fun _ _ _ h => h) (Or.inl ⟨by rfl, ?_⟩) hHeld ?_ ?_
  rotate_left
  · rintro w' ⟨s0, s1, s2, s3, s4, s5, s6, s7, s8, s9⟩
    go_simp
    with_reducible rfl
  rotate_left
  · simp only [Act.put, List.setIfInBounds_toArray, List.set_cons_zero, List.set_cons_succ, i64_w, i32_w]
    rfl
  refine take_ (i := 1) (N := some 46) (v := ?_) (a' := ?_) #[true, true, false, false, false] rfl rfl (by kernel_rfl) (fun _ _ _ h => h) (Or.inl ⟨by rfl, ?_⟩) hHeld ?_ ?_
  rotate_left
  · rintro w' ⟨s0, s1, s2, s3, s4, s5, s6, s7, s8, s9⟩
    go_simp
    with_reducible rfl
  rotate_left
  · simp only [Act.put, List.setIfInBounds_toArray, List.set_cons_zero, List.set_cons_succ, i64_w, i32_w]
    rfl
  refine one_ (i := 2) (N := some 47) #[true, true, true, false, false] rfl rfl (by kernel_rfl) (by decide) (fun K hK => ?_)
  refine goes_ Try.func18 (by kernel_rfl) rfl #[.agg #[.slice A0 l0.length c0, .slice A1 l1.length c1, .slice A2 l2.length c2, .int .i64 a3, .int .i64 a4]] (by rfl) rfl rfl (by (try simp only [List.map_toArray, List.map_cons, List.map_nil]); first | done | rfl | (simp only [List.length_drop, List.length_take]; rfl)) ?_
  refine (laws_toFleet.calls k _ _ l0 _ _ l1 _ _ l2 a3 a4 l0 l1 l2 a3 a4 _ (Kd.C_below HR0.out HB.out) HC0.out (Kd.C_below HR1.out HB.out) HC1.out (Kd.C_below HR2.out HB.out) HC2.out Qt.out).mono ?_
  rintro e w15 ⟨u0, u1, u2, rfl, ho0, ho1, ho2, hb⟩
  refine ⟨_, rfl, ?_⟩
  have t_BK := Aside0.mk (blk_below BK.out hb)
  have t_YW := Aside0.mk (yo_below YW.out hb)
  have t_BW := Aside0.mk (blk_below BW.out hb)
  have t_FX := Aside0.mk (fo_below FX.out hb)
  have t_BX := Aside0.mk (blk_below BX.out hb)
  have t_YG := Aside0.mk (yo_below YG.out hb)
  have t_BG := Aside0.mk (blk_below BG.out hb)
  have t_HB := Aside0.mk (below_step HB.out hb)
  have SZ15 := Aside0.mk hb.size
  clear HB BK YW BW FX BX YG BG
  have HB := t_HB
  have BK := t_BK
  have YW := t_YW
  have BW := t_BW
  have FX := t_FX
  have BX := t_BX
  have YG := t_YG
  have BG := t_BG
  clear t_HB t_BK t_YW t_BW t_FX t_BX t_YG t_BG
  have FE := Aside0.mk (fo_new ho0 ho1 ho2)
  clear ho0 ho1 ho2 hb hHeld
  obtain ⟨Ae0, ce0, e_⟩ := Kd.R_slice FE.out.o0
  subst e_
  obtain ⟨Ae1, ce1, e_⟩ := Kd.R_slice FE.out.o1
  subst e_
  obtain ⟨Ae2, ce2, e_⟩ := Kd.R_slice FE.out.o2
  subst e_
  refine hK.out _ _ ⟨(blk_cell BX.out 0).trans rfl, (blk_cell BX.out 1).trans rfl, (blk_cell BX.out 2).trans rfl, (blk_cell BX.out 3).trans rfl, (blk_cell BX.out 4).trans rfl, (blk_cell BK.out 0).trans rfl, (blk_cell BK.out 1).trans rfl, (blk_cell BK.out 2).trans rfl, (blk_cell BK.out 3).trans rfl, (blk_cell BK.out 4).trans rfl⟩ (fun hHeld => ?_)
  refine norm_ (a' := ?_) ?_ ?_
  rotate_left
  · show Act.put _ (some 47) _ = _
    simp only [Act.put, List.setIfInBounds_toArray, List.set_cons_zero, List.set_cons_succ, i64_w, i32_w]
    rfl
  clear hK
  refine one_ (i := 3) (N := some 48) #[true, true, true, true, false] rfl rfl (by kernel_rfl) (by decide) (fun K hK => ?_)
  refine goes_ Try.func20 (by kernel_rfl) rfl #[.agg #[.slice Ax0 l0.length cx0, .slice Ax1 l1.length cx1, .slice Ax2 l2.length cx2, .int .i64 a3, .int .i64 a4], .agg #[.slice Ae0 l0.length ce0, .slice Ae1 l1.length ce1, .slice Ae2 l2.length ce2, .int .i64 a3, .int .i64 a4]] (by rfl) rfl rfl (by (try simp only [List.map_toArray, List.map_cons, List.map_nil]); first | done | rfl | (simp only [List.length_drop, List.length_take]; rfl)) ?_
  refine (laws_eqFleet.calls k _ _ l0 _ _ l1 _ _ l2 a3 a4 _ _ l0 _ _ l1 _ _ l2 a3 a4 true _ (Kd.R_reads' FX.out.o0).2.2 (Kd.R_reads' FX.out.o0).2.1 (Kd.R_reads' FX.out.o1).2.2 (Kd.R_reads' FX.out.o1).2.1 (Kd.R_reads' FX.out.o2).2.2 (Kd.R_reads' FX.out.o2).2.1 (Kd.R_reads' FE.out.o0).2.2 (Kd.R_reads' FE.out.o0).2.1 (Kd.R_reads' FE.out.o1).2.2 (Kd.R_reads' FE.out.o1).2.1 (Kd.R_reads' FE.out.o2).2.2 (Kd.R_reads' FE.out.o2).2.1 Qx.out).mono ?_
  rintro e w16 ⟨rfl, hb⟩
  refine ⟨_, rfl, ?_⟩
  have t_BK := Aside0.mk (blk_below BK.out hb)
  have t_YW := Aside0.mk (yo_below YW.out hb)
  have t_BW := Aside0.mk (blk_below BW.out hb)
  have t_FX := Aside0.mk (fo_below FX.out hb)
  have t_BX := Aside0.mk (blk_below BX.out hb)
  have t_YG := Aside0.mk (yo_below YG.out hb)
  have t_BG := Aside0.mk (blk_below BG.out hb)
  have t_FE := Aside0.mk (fo_below FE.out hb)
  have t_HB := Aside0.mk (below_step HB.out hb)
  have SZ16 := Aside0.mk hb.size
  clear HB BK YW BW FX BX YG BG FE
  have HB := t_HB
  have BK := t_BK
  have YW := t_YW
  have BW := t_BW
  have FX := t_FX
  have BX := t_BX
  have YG := t_YG
  have BG := t_BG
  have FE := t_FE
  clear t_HB t_BK t_YW t_BW t_FX t_BX t_YG t_BG t_FE
  clear hb hHeld
  refine hK.out _ _ ⟨(blk_cell BX.out 0).trans rfl, (blk_cell BX.out 1).trans rfl, (blk_cell BX.out 2).trans rfl, (blk_cell BX.out 3).trans rfl, (blk_cell BX.out 4).trans rfl, (blk_cell BK.out 0).trans rfl, (blk_cell BK.out 1).trans rfl, (blk_cell BK.out 2).trans rfl, (blk_cell BK.out 3).trans rfl, (blk_cell BK.out 4).trans rfl⟩ (fun hHeld => ?_)
  refine norm_ (a' := ?_) ?_ ?_
  rotate_left
  · show Act.put _ (some 48) _ = _
    simp only [Act.put, List.setIfInBounds_toArray, List.set_cons_zero, List.set_cons_succ, i64_w, i32_w]
    rfl
  clear hK
  clear FE
  refine pure_ (i := 4) (N := some 49) (v := ?_) (a' := ?_) #[true, true, true, true, true] rfl rfl (by kernel_rfl) (fun _ _ _ h => h) (Or.inl ⟨by rfl, ?_⟩) ?_ ?_
  rotate_left
  · intro w'
    go_simp
    with_reducible rfl
  rotate_left
  · simp only [Act.put, List.setIfInBounds_toArray, List.set_cons_zero, List.set_cons_succ, i64_w, i32_w]
    rfl
  refine done_ (by kernel_rfl) ?_
  have zbx0 : w16.cell? ⟨gx, 0, none⟩ = some (.slice Ax0 l0.length cx0) := (blk_cell BX.out 0).trans rfl
  have zbx1 : w16.cell? ⟨gx, 1, none⟩ = some (.slice Ax1 l1.length cx1) := (blk_cell BX.out 1).trans rfl
  have zbx2 : w16.cell? ⟨gx, 2, none⟩ = some (.slice Ax2 l2.length cx2) := (blk_cell BX.out 2).trans rfl
  have zbx3 : w16.cell? ⟨gx, 3, none⟩ = some (.int .i64 a3) := (blk_cell BX.out 3).trans rfl
  have zbx4 : w16.cell? ⟨gx, 4, none⟩ = some (.int .i64 a4) := (blk_cell BX.out 4).trans rfl
  have fzbx0 := blk_frozen BX.out 0
  have fzbx1 := blk_frozen BX.out 1
  have fzbx2 := blk_frozen BX.out 2
  have fzbx3 := blk_frozen BX.out 3
  have fzbx4 := blk_frozen BX.out 4
  go_wp2_with fail
  refine (laws_markFleet.calls2 k _ _ _ l0 l1 l2 a3 a4 1 mf f0 f1 f2 _ _ w _ HB.out (by have := SZ1.out; have := SZ2.out; have := SZ3.out; have := SZ4.out; have := SZ6.out; have := SZ7.out; have := SZ9.out; have := SZ10.out; have := SZ12.out; have := SZ13.out; have := SZ14.out; have := SZ15.out; have := SZ16.out; omega) FX.out Qm.out).mono ?_
  rintro e w17 ⟨rfl, hb, hk⟩
  clear zbx0 fzbx0 zbx1 fzbx1 zbx2 fzbx2 zbx3 fzbx3 zbx4 fzbx4
  have SZ17 := Aside0.mk hk.1
  have t_BK := Aside0.mk (blk_kept BK.out hk (fun h_ => by have h1_ := h_.1; have h2_ := h_.2; have := SZ1.out; have := SZ2.out; have := SZ3.out; have := SZ4.out; have := SZ6.out; have := SZ7.out; have := SZ9.out; have := SZ10.out; have := SZ12.out; have := SZ13.out; have := SZ14.out; have := SZ15.out; have := SZ16.out; have := SZ17.out; have := G_gb.out; have := LT_gb.out; have := G_gg.out; have := LT_gg.out; have := G_gw.out; have := LT_gw.out; have := G_gx.out; have := LT_gx.out; omega))
  have t_BW := Aside0.mk (blk_kept BW.out hk (fun h_ => by have h1_ := h_.1; have h2_ := h_.2; have := SZ1.out; have := SZ2.out; have := SZ3.out; have := SZ4.out; have := SZ6.out; have := SZ7.out; have := SZ9.out; have := SZ10.out; have := SZ12.out; have := SZ13.out; have := SZ14.out; have := SZ15.out; have := SZ16.out; have := SZ17.out; have := G_gb.out; have := LT_gb.out; have := G_gg.out; have := LT_gg.out; have := G_gw.out; have := LT_gw.out; have := G_gx.out; have := LT_gx.out; omega))
  have t_YW := Aside0.mk (yo_kept YW.out hk (fun k_ h1_ h2_ h_ => by have h3_ := h_.1; have h4_ := h_.2; clear h_; have := SZ1.out; have := SZ2.out; have := SZ3.out; have := SZ4.out; have := SZ6.out; have := SZ7.out; have := SZ9.out; have := SZ10.out; have := SZ12.out; have := SZ13.out; have := SZ14.out; have := SZ15.out; have := SZ16.out; have := SZ17.out; have := G_gb.out; have := LT_gb.out; have := G_gg.out; have := LT_gg.out; have := G_gw.out; have := LT_gw.out; have := G_gx.out; have := LT_gx.out; omega))
  have t_BG := Aside0.mk (blk_kept BG.out hk (fun h_ => by have h1_ := h_.1; have h2_ := h_.2; have := SZ1.out; have := SZ2.out; have := SZ3.out; have := SZ4.out; have := SZ6.out; have := SZ7.out; have := SZ9.out; have := SZ10.out; have := SZ12.out; have := SZ13.out; have := SZ14.out; have := SZ15.out; have := SZ16.out; have := SZ17.out; have := G_gb.out; have := LT_gb.out; have := G_gg.out; have := LT_gg.out; have := G_gw.out; have := LT_gw.out; have := G_gx.out; have := LT_gx.out; omega))
  have t_YG := Aside0.mk (yo_kept YG.out hk (fun k_ h1_ h2_ h_ => by have h3_ := h_.1; have h4_ := h_.2; clear h_; have := SZ1.out; have := SZ2.out; have := SZ3.out; have := SZ4.out; have := SZ6.out; have := SZ7.out; have := SZ9.out; have := SZ10.out; have := SZ12.out; have := SZ13.out; have := SZ14.out; have := SZ15.out; have := SZ16.out; have := SZ17.out; have := G_gb.out; have := LT_gb.out; have := G_gg.out; have := LT_gg.out; have := G_gw.out; have := LT_gw.out; have := G_gx.out; have := LT_gx.out; omega))
  have t_HB := Aside0.mk hb
  clear HB BK BW YW BG YG BX FX
  have HB := t_HB
  have BK := t_BK
  have BW := t_BW
  have YW := t_YW
  have BG := t_BG
  have YG := t_YG
  clear t_HB t_BK t_BW t_YW t_BG t_YG
  clear hb hk
  have zbg0 : w17.cell? ⟨gg, 0, none⟩ = some (.slice Ag0 y0.length cg0) := (blk_cell BG.out 0).trans rfl
  have zbg1 : w17.cell? ⟨gg, 1, none⟩ = some (.slice Ag1 y1.length cg1) := (blk_cell BG.out 1).trans rfl
  have zbg2 : w17.cell? ⟨gg, 2, none⟩ = some (.slice Ag2 y2.length cg2) := (blk_cell BG.out 2).trans rfl
  have zbg3 : w17.cell? ⟨gg, 3, none⟩ = some (.int .i64 b3) := (blk_cell BG.out 3).trans rfl
  have zbg4 : w17.cell? ⟨gg, 4, none⟩ = some (.int .i64 b4) := (blk_cell BG.out 4).trans rfl
  have zbg5 : w17.cell? ⟨gg, 5, none⟩ = some (.slice Ag5 y5.length cg5) := (blk_cell BG.out 5).trans rfl
  have zbg6 : w17.cell? ⟨gg, 6, none⟩ = some (.slice Ag6 y6.length cg6) := (blk_cell BG.out 6).trans rfl
  have zbg7 : w17.cell? ⟨gg, 7, none⟩ = some (.slice Ag7 y7.length cg7) := (blk_cell BG.out 7).trans rfl
  have zbg8 : w17.cell? ⟨gg, 8, none⟩ = some (.int .i64 b8) := (blk_cell BG.out 8).trans rfl
  have zbg9 : w17.cell? ⟨gg, 9, none⟩ = some (.int .i64 b9) := (blk_cell BG.out 9).trans rfl
  have zbg10 : w17.cell? ⟨gg, 10, none⟩ = some (.int .i64 b10) := (blk_cell BG.out 10).trans rfl
  have fzbg0 := blk_frozen BG.out 0
  have fzbg1 := blk_frozen BG.out 1
  have fzbg2 := blk_frozen BG.out 2
  have fzbg3 := blk_frozen BG.out 3
  have fzbg4 := blk_frozen BG.out 4
  have fzbg5 := blk_frozen BG.out 5
  have fzbg6 := blk_frozen BG.out 6
  have fzbg7 := blk_frozen BG.out 7
  have fzbg8 := blk_frozen BG.out 8
  have fzbg9 := blk_frozen BG.out 9
  have fzbg10 := blk_frozen BG.out 10
  have zbw0 : w17.cell? ⟨gw, 0, none⟩ = some (.slice Aw0 y0.length cw0) := (blk_cell BW.out 0).trans rfl
  have zbw1 : w17.cell? ⟨gw, 1, none⟩ = some (.slice Aw1 y1.length cw1) := (blk_cell BW.out 1).trans rfl
  have zbw2 : w17.cell? ⟨gw, 2, none⟩ = some (.slice Aw2 y2.length cw2) := (blk_cell BW.out 2).trans rfl
  have zbw3 : w17.cell? ⟨gw, 3, none⟩ = some (.int .i64 b3) := (blk_cell BW.out 3).trans rfl
  have zbw4 : w17.cell? ⟨gw, 4, none⟩ = some (.int .i64 b4) := (blk_cell BW.out 4).trans rfl
  have zbw5 : w17.cell? ⟨gw, 5, none⟩ = some (.slice Aw5 y5.length cw5) := (blk_cell BW.out 5).trans rfl
  have zbw6 : w17.cell? ⟨gw, 6, none⟩ = some (.slice Aw6 y6.length cw6) := (blk_cell BW.out 6).trans rfl
  have zbw7 : w17.cell? ⟨gw, 7, none⟩ = some (.slice Aw7 y7.length cw7) := (blk_cell BW.out 7).trans rfl
  have zbw8 : w17.cell? ⟨gw, 8, none⟩ = some (.int .i64 b8) := (blk_cell BW.out 8).trans rfl
  have zbw9 : w17.cell? ⟨gw, 9, none⟩ = some (.int .i64 b9) := (blk_cell BW.out 9).trans rfl
  have zbw10 : w17.cell? ⟨gw, 10, none⟩ = some (.int .i64 b10) := (blk_cell BW.out 10).trans rfl
  have fzbw0 := blk_frozen BW.out 0
  have fzbw1 := blk_frozen BW.out 1
  have fzbw2 := blk_frozen BW.out 2
  have fzbw3 := blk_frozen BW.out 3
  have fzbw4 := blk_frozen BW.out 4
  have fzbw5 := blk_frozen BW.out 5
  have fzbw6 := blk_frozen BW.out 6
  have fzbw7 := blk_frozen BW.out 7
  have fzbw8 := blk_frozen BW.out 8
  have fzbw9 := blk_frozen BW.out 9
  have fzbw10 := blk_frozen BW.out 10
  go_wp2_with fail
  refine (laws_eqYard.calls k _ _ y0 _ _ y1 _ _ y2 b3 b4 _ _ y5 _ _ y6 _ _ y7 b8 b9 b10 _ _ y0 _ _ y1 _ _ y2 b3 b4 _ _ y5 _ _ y6 _ _ y7 b8 b9 b10 true _ (Kd.R_reads' YG.out.o0).2.2 (Kd.R_reads' YG.out.o0).2.1 (Kd.R_reads' YG.out.o1).2.2 (Kd.R_reads' YG.out.o1).2.1 (Kd.R_reads' YG.out.o2).2.2 (Kd.R_reads' YG.out.o2).2.1 (Kd.R_reads' YG.out.o5).2.2 (Kd.R_reads' YG.out.o5).2.1 (Kd.S_reads' YG.out.o6).2.2 (Kd.S_reads' YG.out.o6).2.1 (Kd.R_reads' YG.out.o7).2.2 (Kd.R_reads' YG.out.o7).2.1 (Kd.R_reads' YW.out.o0).2.2 (Kd.R_reads' YW.out.o0).2.1 (Kd.R_reads' YW.out.o1).2.2 (Kd.R_reads' YW.out.o1).2.1 (Kd.R_reads' YW.out.o2).2.2 (Kd.R_reads' YW.out.o2).2.1 (Kd.R_reads' YW.out.o5).2.2 (Kd.R_reads' YW.out.o5).2.1 (Kd.S_reads' YW.out.o6).2.2 (Kd.S_reads' YW.out.o6).2.1 (Kd.R_reads' YW.out.o7).2.2 (Kd.R_reads' YW.out.o7).2.1 Qe.out).mono ?_
  rintro e w18 ⟨rfl, hb⟩
  clear zbg0 fzbg0 zbg1 fzbg1 zbg2 fzbg2 zbg3 fzbg3 zbg4 fzbg4 zbg5 fzbg5 zbg6 fzbg6 zbg7 fzbg7 zbg8 fzbg8 zbg9 fzbg9 zbg10 fzbg10 zbw0 fzbw0 zbw1 fzbw1 zbw2 fzbw2 zbw3 fzbw3 zbw4 fzbw4 zbw5 fzbw5 zbw6 fzbw6 zbw7 fzbw7 zbw8 fzbw8 zbw9 fzbw9 zbw10 fzbw10
  have t_BK := Aside0.mk (blk_below BK.out hb)
  have t_YW := Aside0.mk (yo_below YW.out hb)
  have t_BW := Aside0.mk (blk_below BW.out hb)
  have t_YG := Aside0.mk (yo_below YG.out hb)
  have t_BG := Aside0.mk (blk_below BG.out hb)
  have t_HB := Aside0.mk (below_step HB.out hb)
  have SZ18 := Aside0.mk hb.size
  clear HB BK YW BW YG BG
  have HB := t_HB
  have BK := t_BK
  have YW := t_YW
  have BW := t_BW
  have YG := t_YG
  have BG := t_BG
  clear t_HB t_BK t_YW t_BW t_YG t_BG
  clear hb
  have zbg0 : w18.cell? ⟨gg, 0, none⟩ = some (.slice Ag0 y0.length cg0) := (blk_cell BG.out 0).trans rfl
  have zbg1 : w18.cell? ⟨gg, 1, none⟩ = some (.slice Ag1 y1.length cg1) := (blk_cell BG.out 1).trans rfl
  have zbg2 : w18.cell? ⟨gg, 2, none⟩ = some (.slice Ag2 y2.length cg2) := (blk_cell BG.out 2).trans rfl
  have zbg3 : w18.cell? ⟨gg, 3, none⟩ = some (.int .i64 b3) := (blk_cell BG.out 3).trans rfl
  have zbg4 : w18.cell? ⟨gg, 4, none⟩ = some (.int .i64 b4) := (blk_cell BG.out 4).trans rfl
  have zbg5 : w18.cell? ⟨gg, 5, none⟩ = some (.slice Ag5 y5.length cg5) := (blk_cell BG.out 5).trans rfl
  have zbg6 : w18.cell? ⟨gg, 6, none⟩ = some (.slice Ag6 y6.length cg6) := (blk_cell BG.out 6).trans rfl
  have zbg7 : w18.cell? ⟨gg, 7, none⟩ = some (.slice Ag7 y7.length cg7) := (blk_cell BG.out 7).trans rfl
  have zbg8 : w18.cell? ⟨gg, 8, none⟩ = some (.int .i64 b8) := (blk_cell BG.out 8).trans rfl
  have zbg9 : w18.cell? ⟨gg, 9, none⟩ = some (.int .i64 b9) := (blk_cell BG.out 9).trans rfl
  have zbg10 : w18.cell? ⟨gg, 10, none⟩ = some (.int .i64 b10) := (blk_cell BG.out 10).trans rfl
  have fzbg0 := blk_frozen BG.out 0
  have fzbg1 := blk_frozen BG.out 1
  have fzbg2 := blk_frozen BG.out 2
  have fzbg3 := blk_frozen BG.out 3
  have fzbg4 := blk_frozen BG.out 4
  have fzbg5 := blk_frozen BG.out 5
  have fzbg6 := blk_frozen BG.out 6
  have fzbg7 := blk_frozen BG.out 7
  have fzbg8 := blk_frozen BG.out 8
  have fzbg9 := blk_frozen BG.out 9
  have fzbg10 := blk_frozen BG.out 10
  go_wp2_with fail
  refine (laws_markYard.calls2 k _ _ _ _ _ _ y0 y1 y2 b3 b4 y5 y6 y7 b8 b9 b10 1 m1 m2 m3 m4 h0 h1 h2 h5 h6 h7 _ _ w _ HB.out (by have := SZ1.out; have := SZ2.out; have := SZ3.out; have := SZ4.out; have := SZ6.out; have := SZ7.out; have := SZ9.out; have := SZ10.out; have := SZ12.out; have := SZ13.out; have := SZ14.out; have := SZ15.out; have := SZ16.out; have := SZ17.out; have := SZ18.out; omega) YG.out Q1.out Q2.out Q3.out Q4.out).mono ?_
  rintro e w19 ⟨rfl, hb, hk, hd⟩
  have t_YD := Aside0.mk hd
  clear hd
  clear zbg0 fzbg0 zbg1 fzbg1 zbg2 fzbg2 zbg3 fzbg3 zbg4 fzbg4 zbg5 fzbg5 zbg6 fzbg6 zbg7 fzbg7 zbg8 fzbg8 zbg9 fzbg9 zbg10 fzbg10
  have SZ19 := Aside0.mk hk.1
  have t_BK := Aside0.mk (blk_kept BK.out hk (fun h_ => by have h1_ := h_.1; have h2_ := h_.2; have := SZ1.out; have := SZ2.out; have := SZ3.out; have := SZ4.out; have := SZ6.out; have := SZ7.out; have := SZ9.out; have := SZ10.out; have := SZ12.out; have := SZ13.out; have := SZ14.out; have := SZ15.out; have := SZ16.out; have := SZ17.out; have := SZ18.out; have := SZ19.out; have := G_gb.out; have := LT_gb.out; have := G_gg.out; have := LT_gg.out; have := G_gw.out; have := LT_gw.out; omega))
  have t_BW := Aside0.mk (blk_kept BW.out hk (fun h_ => by have h1_ := h_.1; have h2_ := h_.2; have := SZ1.out; have := SZ2.out; have := SZ3.out; have := SZ4.out; have := SZ6.out; have := SZ7.out; have := SZ9.out; have := SZ10.out; have := SZ12.out; have := SZ13.out; have := SZ14.out; have := SZ15.out; have := SZ16.out; have := SZ17.out; have := SZ18.out; have := SZ19.out; have := G_gb.out; have := LT_gb.out; have := G_gg.out; have := LT_gg.out; have := G_gw.out; have := LT_gw.out; omega))
  have t_YW := Aside0.mk (yo_kept YW.out hk (fun k_ h1_ h2_ h_ => by have h3_ := h_.1; have h4_ := h_.2; clear h_; have := SZ1.out; have := SZ2.out; have := SZ3.out; have := SZ4.out; have := SZ6.out; have := SZ7.out; have := SZ9.out; have := SZ10.out; have := SZ12.out; have := SZ13.out; have := SZ14.out; have := SZ15.out; have := SZ16.out; have := SZ17.out; have := SZ18.out; have := SZ19.out; have := G_gb.out; have := LT_gb.out; have := G_gg.out; have := LT_gg.out; have := G_gw.out; have := LT_gw.out; omega))
  have t_BG := Aside0.mk (blk_kept BG.out hk (fun h_ => by have h1_ := h_.1; have h2_ := h_.2; have := SZ1.out; have := SZ2.out; have := SZ3.out; have := SZ4.out; have := SZ6.out; have := SZ7.out; have := SZ9.out; have := SZ10.out; have := SZ12.out; have := SZ13.out; have := SZ14.out; have := SZ15.out; have := SZ16.out; have := SZ17.out; have := SZ18.out; have := SZ19.out; have := G_gb.out; have := LT_gb.out; have := G_gg.out; have := LT_gg.out; have := G_gw.out; have := LT_gw.out; omega))
  have t_HB := Aside0.mk hb
  clear HB BK BW YW BG YG
  have HB := t_HB
  have BK := t_BK
  have BW := t_BW
  have YW := t_YW
  have BG := t_BG
  clear t_HB t_BK t_BW t_YW t_BG
  have YD := t_YD
  clear hb hk t_YD
  have LH0 := Aside0.mk (Kd.R_reads' YD.out.o0).1
  have LH1 := Aside0.mk (Kd.R_reads' YD.out.o1).1
  have LH2 := Aside0.mk (Kd.R_reads' YD.out.o2).1
  have LH5 := Aside0.mk (Kd.R_reads' YD.out.o5).1
  have LH6 := Aside0.mk (Kd.S_reads' YD.out.o6).1
  have LH7 := Aside0.mk (Kd.R_reads' YD.out.o7).1
  have zbg0 : w19.cell? ⟨gg, 0, none⟩ = some (.slice Ag0 y0.length cg0) := (blk_cell BG.out 0).trans rfl
  have zbg1 : w19.cell? ⟨gg, 1, none⟩ = some (.slice Ag1 y1.length cg1) := (blk_cell BG.out 1).trans rfl
  have zbg2 : w19.cell? ⟨gg, 2, none⟩ = some (.slice Ag2 y2.length cg2) := (blk_cell BG.out 2).trans rfl
  have zbg3 : w19.cell? ⟨gg, 3, none⟩ = some (.int .i64 b3) := (blk_cell BG.out 3).trans rfl
  have zbg4 : w19.cell? ⟨gg, 4, none⟩ = some (.int .i64 b4) := (blk_cell BG.out 4).trans rfl
  have zbg5 : w19.cell? ⟨gg, 5, none⟩ = some (.slice Ag5 y5.length cg5) := (blk_cell BG.out 5).trans rfl
  have zbg6 : w19.cell? ⟨gg, 6, none⟩ = some (.slice Ag6 y6.length cg6) := (blk_cell BG.out 6).trans rfl
  have zbg7 : w19.cell? ⟨gg, 7, none⟩ = some (.slice Ag7 y7.length cg7) := (blk_cell BG.out 7).trans rfl
  have zbg8 : w19.cell? ⟨gg, 8, none⟩ = some (.int .i64 b8) := (blk_cell BG.out 8).trans rfl
  have zbg9 : w19.cell? ⟨gg, 9, none⟩ = some (.int .i64 b9) := (blk_cell BG.out 9).trans rfl
  have zbg10 : w19.cell? ⟨gg, 10, none⟩ = some (.int .i64 b10) := (blk_cell BG.out 10).trans rfl
  have fzbg0 := blk_frozen BG.out 0
  have fzbg1 := blk_frozen BG.out 1
  have fzbg2 := blk_frozen BG.out 2
  have fzbg3 := blk_frozen BG.out 3
  have fzbg4 := blk_frozen BG.out 4
  have fzbg5 := blk_frozen BG.out 5
  have fzbg6 := blk_frozen BG.out 6
  have fzbg7 := blk_frozen BG.out 7
  have fzbg8 := blk_frozen BG.out 8
  have fzbg9 := blk_frozen BG.out 9
  have fzbg10 := blk_frozen BG.out 10
  go_wp2_with fail
  have zc_ := laws_heldYard.calls k _ _ h0 _ _ h1 _ _ h2 b3 b4 _ _ h5 _ _ h6 _ _ h7 b8 b9 b10 1 m4 _ (Kd.R_reads' YD.out.o0).2.2 (Nat.le_trans (Nat.le_of_eq LH0.out.symm) (Kd.R_reads' YD.out.o0).2.1) (Kd.R_reads' YD.out.o1).2.2 (Nat.le_trans (Nat.le_of_eq LH1.out.symm) (Kd.R_reads' YD.out.o1).2.1) (Kd.R_reads' YD.out.o2).2.2 (Nat.le_trans (Nat.le_of_eq LH2.out.symm) (Kd.R_reads' YD.out.o2).2.1) (Kd.R_reads' YD.out.o5).2.2 (Nat.le_trans (Nat.le_of_eq LH5.out.symm) (Kd.R_reads' YD.out.o5).2.1) (Kd.S_reads' YD.out.o6).2.2 (Nat.le_trans (Nat.le_of_eq LH6.out.symm) (Kd.S_reads' YD.out.o6).2.1) (Kd.R_reads' YD.out.o7).2.2 (Nat.le_trans (Nat.le_of_eq LH7.out.symm) (Kd.R_reads' YD.out.o7).2.1) Qh.out
  rw [← LH0.out, ← LH1.out, ← LH2.out, ← LH5.out, ← LH6.out, ← LH7.out] at zc_
  refine zc_.mono ?_
  clear zc_
  rintro e w20 ⟨rfl, hb⟩
  clear zbg0 fzbg0 zbg1 fzbg1 zbg2 fzbg2 zbg3 fzbg3 zbg4 fzbg4 zbg5 fzbg5 zbg6 fzbg6 zbg7 fzbg7 zbg8 fzbg8 zbg9 fzbg9 zbg10 fzbg10
  have t_BK := Aside0.mk (blk_below BK.out hb)
  have t_YW := Aside0.mk (yo_below YW.out hb)
  have t_BW := Aside0.mk (blk_below BW.out hb)
  have t_BG := Aside0.mk (blk_below BG.out hb)
  have t_YD := Aside0.mk (yd_below YD.out hb)
  have t_HB := Aside0.mk (below_step HB.out hb)
  have SZ20 := Aside0.mk hb.size
  clear HB BK YW BW BG YD
  have HB := t_HB
  have BK := t_BK
  have YW := t_YW
  have BW := t_BW
  have BG := t_BG
  have YD := t_YD
  clear t_HB t_BK t_YW t_BW t_BG t_YD
  clear hb
  have zbk0 : w20.cell? ⟨gb, 0, none⟩ = some (.slice A0 l0.length c0) := (blk_cell BK.out 0).trans rfl
  have zbk1 : w20.cell? ⟨gb, 1, none⟩ = some (.slice A1 l1.length c1) := (blk_cell BK.out 1).trans rfl
  have zbk2 : w20.cell? ⟨gb, 2, none⟩ = some (.slice A2 l2.length c2) := (blk_cell BK.out 2).trans rfl
  have zbk3 : w20.cell? ⟨gb, 3, none⟩ = some (.int .i64 a3) := (blk_cell BK.out 3).trans rfl
  have zbk4 : w20.cell? ⟨gb, 4, none⟩ = some (.int .i64 a4) := (blk_cell BK.out 4).trans rfl
  have fzbk0 := blk_frozen BK.out 0
  have fzbk1 := blk_frozen BK.out 1
  have fzbk2 := blk_frozen BK.out 2
  have fzbk3 := blk_frozen BK.out 3
  have fzbk4 := blk_frozen BK.out 4
  go_wp2_with fail
  refine (laws_toFleet.calls k _ _ l0 _ _ l1 _ _ l2 a3 a4 l0 l1 l2 a3 a4 _ (Kd.C_below HR0.out HB.out) HC0.out (Kd.C_below HR1.out HB.out) HC1.out (Kd.C_below HR2.out HB.out) HC2.out Qt.out).mono ?_
  rintro e w21 ⟨u0, u1, u2, rfl, ho0, ho1, ho2, hb⟩
  clear zbk0 fzbk0 zbk1 fzbk1 zbk2 fzbk2 zbk3 fzbk3 zbk4 fzbk4
  have t_BK := Aside0.mk (blk_below BK.out hb)
  have t_YW := Aside0.mk (yo_below YW.out hb)
  have t_BW := Aside0.mk (blk_below BW.out hb)
  have t_BG := Aside0.mk (blk_below BG.out hb)
  have t_YD := Aside0.mk (yd_below YD.out hb)
  have t_HB := Aside0.mk (below_step HB.out hb)
  have SZ21 := Aside0.mk hb.size
  clear HB BK YW BW BG YD
  have HB := t_HB
  have BK := t_BK
  have YW := t_YW
  have BW := t_BW
  have BG := t_BG
  have YD := t_YD
  clear t_HB t_BK t_YW t_BW t_BG t_YD
  have FH := Aside0.mk (fo_new ho0 ho1 ho2)
  clear ho0 ho1 ho2 hb
  obtain ⟨Ap0, cp0, e_⟩ := Kd.R_slice FH.out.o0
  subst e_
  obtain ⟨Ap1, cp1, e_⟩ := Kd.R_slice FH.out.o1
  subst e_
  obtain ⟨Ap2, cp2, e_⟩ := Kd.R_slice FH.out.o2
  subst e_
  go_wp2_with fail
  refine (impl_NewYard.calls k _ _ l0 _ _ l1 _ _ l2 a3 a4 aT y0 y1 y2 b3 b4 y5 y6 y7 b8 b9 b10 gf _ (Kd.R_reads' FH.out.o0).2.2 (Kd.R_reads' FH.out.o0).2.1 (Kd.R_reads' FH.out.o1).2.2 (Kd.R_reads' FH.out.o1).2.1 (Kd.R_reads' FH.out.o2).2.2 (Kd.R_reads' FH.out.o2).2.1 Qi.out).mono ?_
  rintro e w22 ⟨u0, u1, u2, u5, u6, u7, rfl, ho0, ho1, ho2, ho5, ho6, ho7, hb⟩
  have t_BK := Aside0.mk (blk_below BK.out hb)
  have t_YW := Aside0.mk (yo_below YW.out hb)
  have t_BW := Aside0.mk (blk_below BW.out hb)
  have t_BG := Aside0.mk (blk_below BG.out hb)
  have t_YD := Aside0.mk (yd_below YD.out hb)
  have t_FH := Aside0.mk (fo_below FH.out hb)
  have t_HB := Aside0.mk (below_step HB.out hb)
  have SZ22 := Aside0.mk hb.size
  clear HB BK YW BW BG YD FH
  have HB := t_HB
  have BK := t_BK
  have YW := t_YW
  have BW := t_BW
  have BG := t_BG
  have YD := t_YD
  have FH := t_FH
  clear t_HB t_BK t_YW t_BW t_BG t_YD t_FH
  have YH := Aside0.mk (yo_new ho0 ho1 ho2 ho5 ho6 ho7)
  clear ho0 ho1 ho2 ho5 ho6 ho7 hb
  obtain ⟨Ah0, ch0, e_⟩ := Kd.R_slice YH.out.o0
  subst e_
  obtain ⟨Ah1, ch1, e_⟩ := Kd.R_slice YH.out.o1
  subst e_
  obtain ⟨Ah2, ch2, e_⟩ := Kd.R_slice YH.out.o2
  subst e_
  obtain ⟨Ah5, ch5, e_⟩ := Kd.R_slice YH.out.o5
  subst e_
  obtain ⟨Ah6, ch6, e_⟩ := Kd.S_slice YH.out.o6
  subst e_
  obtain ⟨Ah7, ch7, e_⟩ := Kd.R_slice YH.out.o7
  subst e_
  clear FH
  go_upto_region 25 with (first | ((with_reducible refine gate_dst (N := 14) rfl ?_); refine box_event ?hg (N := 14) ?hd (cs := #[.slice none 0 0, .slice none 0 0, .slice none 0 0, .int .i64 0, .int .i64 0, .slice none 0 0, .slice none 0 0, .slice none 0 0, .int .i64 0, .int .i64 0, .int .i64 0]) (t := 44) ?hr ?_; (case hd => rfl); (case hg => rfl); (case hr => first | (go_simp; done) | (go_simp; rfl)); intro gh hg w23 hbox hb; have BH := Aside0.mk hbox; have G_gh := Aside0.mk hg; have hb_ := Aside0.mk hb; clear hbox hb hg; have zbh0 : w23.cell? ⟨gh, 0, none⟩ = some (.slice none 0 0) := (blk_cell BH.out 0).trans rfl; have zbh1 : w23.cell? ⟨gh, 1, none⟩ = some (.slice none 0 0) := (blk_cell BH.out 1).trans rfl; have zbh2 : w23.cell? ⟨gh, 2, none⟩ = some (.slice none 0 0) := (blk_cell BH.out 2).trans rfl; have zbh3 : w23.cell? ⟨gh, 3, none⟩ = some (.int .i64 0) := (blk_cell BH.out 3).trans rfl; have zbh4 : w23.cell? ⟨gh, 4, none⟩ = some (.int .i64 0) := (blk_cell BH.out 4).trans rfl; have zbh5 : w23.cell? ⟨gh, 5, none⟩ = some (.slice none 0 0) := (blk_cell BH.out 5).trans rfl; have zbh6 : w23.cell? ⟨gh, 6, none⟩ = some (.slice none 0 0) := (blk_cell BH.out 6).trans rfl; have zbh7 : w23.cell? ⟨gh, 7, none⟩ = some (.slice none 0 0) := (blk_cell BH.out 7).trans rfl; have zbh8 : w23.cell? ⟨gh, 8, none⟩ = some (.int .i64 0) := (blk_cell BH.out 8).trans rfl; have zbh9 : w23.cell? ⟨gh, 9, none⟩ = some (.int .i64 0) := (blk_cell BH.out 9).trans rfl; have zbh10 : w23.cell? ⟨gh, 10, none⟩ = some (.int .i64 0) := (blk_cell BH.out 10).trans rfl; have fzbh0 := blk_frozen BH.out 0; have fzbh1 := blk_frozen BH.out 1; have fzbh2 := blk_frozen BH.out 2; have fzbh3 := blk_frozen BH.out 3; have fzbh4 := blk_frozen BH.out 4; have fzbh5 := blk_frozen BH.out 5; have fzbh6 := blk_frozen BH.out 6; have fzbh7 := blk_frozen BH.out 7; have fzbh8 := blk_frozen BH.out 8; have fzbh9 := blk_frozen BH.out 9; have fzbh10 := blk_frozen BH.out 10))
  have LT_gh := Aside0.mk (blk_lt BH.out)
  clear zbh0 fzbh0 zbh1 fzbh1 zbh2 fzbh2 zbh3 fzbh3 zbh4 fzbh4 zbh5 fzbh5 zbh6 fzbh6 zbh7 fzbh7 zbh8 fzbh8 zbh9 fzbh9 zbh10 fzbh10
  have b0_ := BH.out
  have b1_ : (w23.setCell ⟨gh, 0, none⟩ (.slice Ah0 y0.length ch0)).heap[gh]? = some (.cells #[.slice Ah0 y0.length ch0, .slice none 0 0, .slice none 0 0, .int .i64 0, .int .i64 0, .slice none 0 0, .slice none 0 0, .slice none 0 0, .int .i64 0, .int .i64 0, .int .i64 0] 44 (0, 0)) := blk_put b0_ 0 _ rfl
  have b2_ : ((w23.setCell ⟨gh, 0, none⟩ (.slice Ah0 y0.length ch0)).setCell ⟨gh, 1, none⟩ (.slice Ah1 y1.length ch1)).heap[gh]? = some (.cells #[.slice Ah0 y0.length ch0, .slice Ah1 y1.length ch1, .slice none 0 0, .int .i64 0, .int .i64 0, .slice none 0 0, .slice none 0 0, .slice none 0 0, .int .i64 0, .int .i64 0, .int .i64 0] 44 (0, 0)) := blk_put b1_ 1 _ rfl
  have b3_ : (((w23.setCell ⟨gh, 0, none⟩ (.slice Ah0 y0.length ch0)).setCell ⟨gh, 1, none⟩ (.slice Ah1 y1.length ch1)).setCell ⟨gh, 2, none⟩ (.slice Ah2 y2.length ch2)).heap[gh]? = some (.cells #[.slice Ah0 y0.length ch0, .slice Ah1 y1.length ch1, .slice Ah2 y2.length ch2, .int .i64 0, .int .i64 0, .slice none 0 0, .slice none 0 0, .slice none 0 0, .int .i64 0, .int .i64 0, .int .i64 0] 44 (0, 0)) := blk_put b2_ 2 _ rfl
  have b4_ : ((((w23.setCell ⟨gh, 0, none⟩ (.slice Ah0 y0.length ch0)).setCell ⟨gh, 1, none⟩ (.slice Ah1 y1.length ch1)).setCell ⟨gh, 2, none⟩ (.slice Ah2 y2.length ch2)).setCell ⟨gh, 3, none⟩ (.int .i64 b3)).heap[gh]? = some (.cells #[.slice Ah0 y0.length ch0, .slice Ah1 y1.length ch1, .slice Ah2 y2.length ch2, .int .i64 b3, .int .i64 0, .slice none 0 0, .slice none 0 0, .slice none 0 0, .int .i64 0, .int .i64 0, .int .i64 0] 44 (0, 0)) := blk_put b3_ 3 _ rfl
  have b5_ : (((((w23.setCell ⟨gh, 0, none⟩ (.slice Ah0 y0.length ch0)).setCell ⟨gh, 1, none⟩ (.slice Ah1 y1.length ch1)).setCell ⟨gh, 2, none⟩ (.slice Ah2 y2.length ch2)).setCell ⟨gh, 3, none⟩ (.int .i64 b3)).setCell ⟨gh, 4, none⟩ (.int .i64 b4)).heap[gh]? = some (.cells #[.slice Ah0 y0.length ch0, .slice Ah1 y1.length ch1, .slice Ah2 y2.length ch2, .int .i64 b3, .int .i64 b4, .slice none 0 0, .slice none 0 0, .slice none 0 0, .int .i64 0, .int .i64 0, .int .i64 0] 44 (0, 0)) := blk_put b4_ 4 _ rfl
  have b6_ : ((((((w23.setCell ⟨gh, 0, none⟩ (.slice Ah0 y0.length ch0)).setCell ⟨gh, 1, none⟩ (.slice Ah1 y1.length ch1)).setCell ⟨gh, 2, none⟩ (.slice Ah2 y2.length ch2)).setCell ⟨gh, 3, none⟩ (.int .i64 b3)).setCell ⟨gh, 4, none⟩ (.int .i64 b4)).setCell ⟨gh, 5, none⟩ (.slice Ah5 y5.length ch5)).heap[gh]? = some (.cells #[.slice Ah0 y0.length ch0, .slice Ah1 y1.length ch1, .slice Ah2 y2.length ch2, .int .i64 b3, .int .i64 b4, .slice Ah5 y5.length ch5, .slice none 0 0, .slice none 0 0, .int .i64 0, .int .i64 0, .int .i64 0] 44 (0, 0)) := blk_put b5_ 5 _ rfl
  have b7_ : (((((((w23.setCell ⟨gh, 0, none⟩ (.slice Ah0 y0.length ch0)).setCell ⟨gh, 1, none⟩ (.slice Ah1 y1.length ch1)).setCell ⟨gh, 2, none⟩ (.slice Ah2 y2.length ch2)).setCell ⟨gh, 3, none⟩ (.int .i64 b3)).setCell ⟨gh, 4, none⟩ (.int .i64 b4)).setCell ⟨gh, 5, none⟩ (.slice Ah5 y5.length ch5)).setCell ⟨gh, 6, none⟩ (.slice Ah6 y6.length ch6)).heap[gh]? = some (.cells #[.slice Ah0 y0.length ch0, .slice Ah1 y1.length ch1, .slice Ah2 y2.length ch2, .int .i64 b3, .int .i64 b4, .slice Ah5 y5.length ch5, .slice Ah6 y6.length ch6, .slice none 0 0, .int .i64 0, .int .i64 0, .int .i64 0] 44 (0, 0)) := blk_put b6_ 6 _ rfl
  have b8_ : ((((((((w23.setCell ⟨gh, 0, none⟩ (.slice Ah0 y0.length ch0)).setCell ⟨gh, 1, none⟩ (.slice Ah1 y1.length ch1)).setCell ⟨gh, 2, none⟩ (.slice Ah2 y2.length ch2)).setCell ⟨gh, 3, none⟩ (.int .i64 b3)).setCell ⟨gh, 4, none⟩ (.int .i64 b4)).setCell ⟨gh, 5, none⟩ (.slice Ah5 y5.length ch5)).setCell ⟨gh, 6, none⟩ (.slice Ah6 y6.length ch6)).setCell ⟨gh, 7, none⟩ (.slice Ah7 y7.length ch7)).heap[gh]? = some (.cells #[.slice Ah0 y0.length ch0, .slice Ah1 y1.length ch1, .slice Ah2 y2.length ch2, .int .i64 b3, .int .i64 b4, .slice Ah5 y5.length ch5, .slice Ah6 y6.length ch6, .slice Ah7 y7.length ch7, .int .i64 0, .int .i64 0, .int .i64 0] 44 (0, 0)) := blk_put b7_ 7 _ rfl
  have b9_ : (((((((((w23.setCell ⟨gh, 0, none⟩ (.slice Ah0 y0.length ch0)).setCell ⟨gh, 1, none⟩ (.slice Ah1 y1.length ch1)).setCell ⟨gh, 2, none⟩ (.slice Ah2 y2.length ch2)).setCell ⟨gh, 3, none⟩ (.int .i64 b3)).setCell ⟨gh, 4, none⟩ (.int .i64 b4)).setCell ⟨gh, 5, none⟩ (.slice Ah5 y5.length ch5)).setCell ⟨gh, 6, none⟩ (.slice Ah6 y6.length ch6)).setCell ⟨gh, 7, none⟩ (.slice Ah7 y7.length ch7)).setCell ⟨gh, 8, none⟩ (.int .i64 b8)).heap[gh]? = some (.cells #[.slice Ah0 y0.length ch0, .slice Ah1 y1.length ch1, .slice Ah2 y2.length ch2, .int .i64 b3, .int .i64 b4, .slice Ah5 y5.length ch5, .slice Ah6 y6.length ch6, .slice Ah7 y7.length ch7, .int .i64 b8, .int .i64 0, .int .i64 0] 44 (0, 0)) := blk_put b8_ 8 _ rfl
  have b10_ : ((((((((((w23.setCell ⟨gh, 0, none⟩ (.slice Ah0 y0.length ch0)).setCell ⟨gh, 1, none⟩ (.slice Ah1 y1.length ch1)).setCell ⟨gh, 2, none⟩ (.slice Ah2 y2.length ch2)).setCell ⟨gh, 3, none⟩ (.int .i64 b3)).setCell ⟨gh, 4, none⟩ (.int .i64 b4)).setCell ⟨gh, 5, none⟩ (.slice Ah5 y5.length ch5)).setCell ⟨gh, 6, none⟩ (.slice Ah6 y6.length ch6)).setCell ⟨gh, 7, none⟩ (.slice Ah7 y7.length ch7)).setCell ⟨gh, 8, none⟩ (.int .i64 b8)).setCell ⟨gh, 9, none⟩ (.int .i64 b9)).heap[gh]? = some (.cells #[.slice Ah0 y0.length ch0, .slice Ah1 y1.length ch1, .slice Ah2 y2.length ch2, .int .i64 b3, .int .i64 b4, .slice Ah5 y5.length ch5, .slice Ah6 y6.length ch6, .slice Ah7 y7.length ch7, .int .i64 b8, .int .i64 b9, .int .i64 0] 44 (0, 0)) := blk_put b9_ 9 _ rfl
  have b11_ : (((((((((((w23.setCell ⟨gh, 0, none⟩ (.slice Ah0 y0.length ch0)).setCell ⟨gh, 1, none⟩ (.slice Ah1 y1.length ch1)).setCell ⟨gh, 2, none⟩ (.slice Ah2 y2.length ch2)).setCell ⟨gh, 3, none⟩ (.int .i64 b3)).setCell ⟨gh, 4, none⟩ (.int .i64 b4)).setCell ⟨gh, 5, none⟩ (.slice Ah5 y5.length ch5)).setCell ⟨gh, 6, none⟩ (.slice Ah6 y6.length ch6)).setCell ⟨gh, 7, none⟩ (.slice Ah7 y7.length ch7)).setCell ⟨gh, 8, none⟩ (.int .i64 b8)).setCell ⟨gh, 9, none⟩ (.int .i64 b9)).setCell ⟨gh, 10, none⟩ (.int .i64 b10)).heap[gh]? = some (.cells #[.slice Ah0 y0.length ch0, .slice Ah1 y1.length ch1, .slice Ah2 y2.length ch2, .int .i64 b3, .int .i64 b4, .slice Ah5 y5.length ch5, .slice Ah6 y6.length ch6, .slice Ah7 y7.length ch7, .int .i64 b8, .int .i64 b9, .int .i64 b10] 44 (0, 0)) := blk_put b10_ 10 _ rfl
  have t_BH := Aside0.mk b11_
  clear BH b0_ b1_ b2_ b3_ b4_ b5_ b6_ b7_ b8_ b9_ b10_ b11_
  have b0_ := hb_.out
  have b1_ : Below w22.heap.size w22 (w23.setCell ⟨gh, 0, none⟩ (.slice Ah0 y0.length ch0)) := below_box b0_ (Nat.le_of_eq G_gh.out.symm) 0 _
  have b2_ : Below w22.heap.size w22 ((w23.setCell ⟨gh, 0, none⟩ (.slice Ah0 y0.length ch0)).setCell ⟨gh, 1, none⟩ (.slice Ah1 y1.length ch1)) := below_box b1_ (Nat.le_of_eq G_gh.out.symm) 1 _
  have b3_ : Below w22.heap.size w22 (((w23.setCell ⟨gh, 0, none⟩ (.slice Ah0 y0.length ch0)).setCell ⟨gh, 1, none⟩ (.slice Ah1 y1.length ch1)).setCell ⟨gh, 2, none⟩ (.slice Ah2 y2.length ch2)) := below_box b2_ (Nat.le_of_eq G_gh.out.symm) 2 _
  have b4_ : Below w22.heap.size w22 ((((w23.setCell ⟨gh, 0, none⟩ (.slice Ah0 y0.length ch0)).setCell ⟨gh, 1, none⟩ (.slice Ah1 y1.length ch1)).setCell ⟨gh, 2, none⟩ (.slice Ah2 y2.length ch2)).setCell ⟨gh, 3, none⟩ (.int .i64 b3)) := below_box b3_ (Nat.le_of_eq G_gh.out.symm) 3 _
  have b5_ : Below w22.heap.size w22 (((((w23.setCell ⟨gh, 0, none⟩ (.slice Ah0 y0.length ch0)).setCell ⟨gh, 1, none⟩ (.slice Ah1 y1.length ch1)).setCell ⟨gh, 2, none⟩ (.slice Ah2 y2.length ch2)).setCell ⟨gh, 3, none⟩ (.int .i64 b3)).setCell ⟨gh, 4, none⟩ (.int .i64 b4)) := below_box b4_ (Nat.le_of_eq G_gh.out.symm) 4 _
  have b6_ : Below w22.heap.size w22 ((((((w23.setCell ⟨gh, 0, none⟩ (.slice Ah0 y0.length ch0)).setCell ⟨gh, 1, none⟩ (.slice Ah1 y1.length ch1)).setCell ⟨gh, 2, none⟩ (.slice Ah2 y2.length ch2)).setCell ⟨gh, 3, none⟩ (.int .i64 b3)).setCell ⟨gh, 4, none⟩ (.int .i64 b4)).setCell ⟨gh, 5, none⟩ (.slice Ah5 y5.length ch5)) := below_box b5_ (Nat.le_of_eq G_gh.out.symm) 5 _
  have b7_ : Below w22.heap.size w22 (((((((w23.setCell ⟨gh, 0, none⟩ (.slice Ah0 y0.length ch0)).setCell ⟨gh, 1, none⟩ (.slice Ah1 y1.length ch1)).setCell ⟨gh, 2, none⟩ (.slice Ah2 y2.length ch2)).setCell ⟨gh, 3, none⟩ (.int .i64 b3)).setCell ⟨gh, 4, none⟩ (.int .i64 b4)).setCell ⟨gh, 5, none⟩ (.slice Ah5 y5.length ch5)).setCell ⟨gh, 6, none⟩ (.slice Ah6 y6.length ch6)) := below_box b6_ (Nat.le_of_eq G_gh.out.symm) 6 _
  have b8_ : Below w22.heap.size w22 ((((((((w23.setCell ⟨gh, 0, none⟩ (.slice Ah0 y0.length ch0)).setCell ⟨gh, 1, none⟩ (.slice Ah1 y1.length ch1)).setCell ⟨gh, 2, none⟩ (.slice Ah2 y2.length ch2)).setCell ⟨gh, 3, none⟩ (.int .i64 b3)).setCell ⟨gh, 4, none⟩ (.int .i64 b4)).setCell ⟨gh, 5, none⟩ (.slice Ah5 y5.length ch5)).setCell ⟨gh, 6, none⟩ (.slice Ah6 y6.length ch6)).setCell ⟨gh, 7, none⟩ (.slice Ah7 y7.length ch7)) := below_box b7_ (Nat.le_of_eq G_gh.out.symm) 7 _
  have b9_ : Below w22.heap.size w22 (((((((((w23.setCell ⟨gh, 0, none⟩ (.slice Ah0 y0.length ch0)).setCell ⟨gh, 1, none⟩ (.slice Ah1 y1.length ch1)).setCell ⟨gh, 2, none⟩ (.slice Ah2 y2.length ch2)).setCell ⟨gh, 3, none⟩ (.int .i64 b3)).setCell ⟨gh, 4, none⟩ (.int .i64 b4)).setCell ⟨gh, 5, none⟩ (.slice Ah5 y5.length ch5)).setCell ⟨gh, 6, none⟩ (.slice Ah6 y6.length ch6)).setCell ⟨gh, 7, none⟩ (.slice Ah7 y7.length ch7)).setCell ⟨gh, 8, none⟩ (.int .i64 b8)) := below_box b8_ (Nat.le_of_eq G_gh.out.symm) 8 _
  have b10_ : Below w22.heap.size w22 ((((((((((w23.setCell ⟨gh, 0, none⟩ (.slice Ah0 y0.length ch0)).setCell ⟨gh, 1, none⟩ (.slice Ah1 y1.length ch1)).setCell ⟨gh, 2, none⟩ (.slice Ah2 y2.length ch2)).setCell ⟨gh, 3, none⟩ (.int .i64 b3)).setCell ⟨gh, 4, none⟩ (.int .i64 b4)).setCell ⟨gh, 5, none⟩ (.slice Ah5 y5.length ch5)).setCell ⟨gh, 6, none⟩ (.slice Ah6 y6.length ch6)).setCell ⟨gh, 7, none⟩ (.slice Ah7 y7.length ch7)).setCell ⟨gh, 8, none⟩ (.int .i64 b8)).setCell ⟨gh, 9, none⟩ (.int .i64 b9)) := below_box b9_ (Nat.le_of_eq G_gh.out.symm) 9 _
  have b11_ : Below w22.heap.size w22 (((((((((((w23.setCell ⟨gh, 0, none⟩ (.slice Ah0 y0.length ch0)).setCell ⟨gh, 1, none⟩ (.slice Ah1 y1.length ch1)).setCell ⟨gh, 2, none⟩ (.slice Ah2 y2.length ch2)).setCell ⟨gh, 3, none⟩ (.int .i64 b3)).setCell ⟨gh, 4, none⟩ (.int .i64 b4)).setCell ⟨gh, 5, none⟩ (.slice Ah5 y5.length ch5)).setCell ⟨gh, 6, none⟩ (.slice Ah6 y6.length ch6)).setCell ⟨gh, 7, none⟩ (.slice Ah7 y7.length ch7)).setCell ⟨gh, 8, none⟩ (.int .i64 b8)).setCell ⟨gh, 9, none⟩ (.int .i64 b9)).setCell ⟨gh, 10, none⟩ (.int .i64 b10)) := below_box b10_ (Nat.le_of_eq G_gh.out.symm) 10 _
  have b_ := b11_
  clear hb_ b0_ b1_ b2_ b3_ b4_ b5_ b6_ b7_ b8_ b9_ b10_ b11_
  generalize (((((((((((w23.setCell ⟨gh, 0, none⟩ (.slice Ah0 y0.length ch0)).setCell ⟨gh, 1, none⟩ (.slice Ah1 y1.length ch1)).setCell ⟨gh, 2, none⟩ (.slice Ah2 y2.length ch2)).setCell ⟨gh, 3, none⟩ (.int .i64 b3)).setCell ⟨gh, 4, none⟩ (.int .i64 b4)).setCell ⟨gh, 5, none⟩ (.slice Ah5 y5.length ch5)).setCell ⟨gh, 6, none⟩ (.slice Ah6 y6.length ch6)).setCell ⟨gh, 7, none⟩ (.slice Ah7 y7.length ch7)).setCell ⟨gh, 8, none⟩ (.int .i64 b8)).setCell ⟨gh, 9, none⟩ (.int .i64 b9)).setCell ⟨gh, 10, none⟩ (.int .i64 b10)) = w24 at t_BH b_ ⊢
  have t_BK := Aside0.mk (blk_below BK.out b_)
  have t_YW := Aside0.mk (yo_below YW.out b_)
  have t_BW := Aside0.mk (blk_below BW.out b_)
  have t_BG := Aside0.mk (blk_below BG.out b_)
  have t_YD := Aside0.mk (yd_below YD.out b_)
  have t_YH := Aside0.mk (yo_below YH.out b_)
  have t_HB := Aside0.mk (below_step HB.out b_)
  have SZ24 := Aside0.mk b_.size
  clear HB BK YW BW BG YD YH
  have HB := t_HB
  have BK := t_BK
  have YW := t_YW
  have BW := t_BW
  have BG := t_BG
  have YD := t_YD
  have YH := t_YH
  clear t_HB t_BK t_YW t_BW t_BG t_YD t_YH
  have BH := t_BH
  clear b_ t_BH LT_gh
  have LT_gh := Aside0.mk (blk_lt BH.out)
  have zbh0 : w24.cell? ⟨gh, 0, none⟩ = some (.slice Ah0 y0.length ch0) := (blk_cell BH.out 0).trans rfl
  have zbh1 : w24.cell? ⟨gh, 1, none⟩ = some (.slice Ah1 y1.length ch1) := (blk_cell BH.out 1).trans rfl
  have zbh2 : w24.cell? ⟨gh, 2, none⟩ = some (.slice Ah2 y2.length ch2) := (blk_cell BH.out 2).trans rfl
  have zbh3 : w24.cell? ⟨gh, 3, none⟩ = some (.int .i64 b3) := (blk_cell BH.out 3).trans rfl
  have zbh4 : w24.cell? ⟨gh, 4, none⟩ = some (.int .i64 b4) := (blk_cell BH.out 4).trans rfl
  have zbh5 : w24.cell? ⟨gh, 5, none⟩ = some (.slice Ah5 y5.length ch5) := (blk_cell BH.out 5).trans rfl
  have zbh6 : w24.cell? ⟨gh, 6, none⟩ = some (.slice Ah6 y6.length ch6) := (blk_cell BH.out 6).trans rfl
  have zbh7 : w24.cell? ⟨gh, 7, none⟩ = some (.slice Ah7 y7.length ch7) := (blk_cell BH.out 7).trans rfl
  have zbh8 : w24.cell? ⟨gh, 8, none⟩ = some (.int .i64 b8) := (blk_cell BH.out 8).trans rfl
  have zbh9 : w24.cell? ⟨gh, 9, none⟩ = some (.int .i64 b9) := (blk_cell BH.out 9).trans rfl
  have zbh10 : w24.cell? ⟨gh, 10, none⟩ = some (.int .i64 b10) := (blk_cell BH.out 10).trans rfl
  have fzbh0 := blk_frozen BH.out 0
  have fzbh1 := blk_frozen BH.out 1
  have fzbh2 := blk_frozen BH.out 2
  have fzbh3 := blk_frozen BH.out 3
  have fzbh4 := blk_frozen BH.out 4
  have fzbh5 := blk_frozen BH.out 5
  have fzbh6 := blk_frozen BH.out 6
  have fzbh7 := blk_frozen BH.out 7
  have fzbh8 := blk_frozen BH.out 8
  have fzbh9 := blk_frozen BH.out 9
  have fzbh10 := blk_frozen BH.out 10
  have zbw0 : w24.cell? ⟨gw, 0, none⟩ = some (.slice Aw0 y0.length cw0) := (blk_cell BW.out 0).trans rfl
  have zbw1 : w24.cell? ⟨gw, 1, none⟩ = some (.slice Aw1 y1.length cw1) := (blk_cell BW.out 1).trans rfl
  have zbw2 : w24.cell? ⟨gw, 2, none⟩ = some (.slice Aw2 y2.length cw2) := (blk_cell BW.out 2).trans rfl
  have zbw3 : w24.cell? ⟨gw, 3, none⟩ = some (.int .i64 b3) := (blk_cell BW.out 3).trans rfl
  have zbw4 : w24.cell? ⟨gw, 4, none⟩ = some (.int .i64 b4) := (blk_cell BW.out 4).trans rfl
  have zbw5 : w24.cell? ⟨gw, 5, none⟩ = some (.slice Aw5 y5.length cw5) := (blk_cell BW.out 5).trans rfl
  have zbw6 : w24.cell? ⟨gw, 6, none⟩ = some (.slice Aw6 y6.length cw6) := (blk_cell BW.out 6).trans rfl
  have zbw7 : w24.cell? ⟨gw, 7, none⟩ = some (.slice Aw7 y7.length cw7) := (blk_cell BW.out 7).trans rfl
  have zbw8 : w24.cell? ⟨gw, 8, none⟩ = some (.int .i64 b8) := (blk_cell BW.out 8).trans rfl
  have zbw9 : w24.cell? ⟨gw, 9, none⟩ = some (.int .i64 b9) := (blk_cell BW.out 9).trans rfl
  have zbw10 : w24.cell? ⟨gw, 10, none⟩ = some (.int .i64 b10) := (blk_cell BW.out 10).trans rfl
  have fzbw0 := blk_frozen BW.out 0
  have fzbw1 := blk_frozen BW.out 1
  have fzbw2 := blk_frozen BW.out 2
  have fzbw3 := blk_frozen BW.out 3
  have fzbw4 := blk_frozen BW.out 4
  have fzbw5 := blk_frozen BW.out 5
  have fzbw6 := blk_frozen BW.out 6
  have fzbw7 := blk_frozen BW.out 7
  have fzbw8 := blk_frozen BW.out 8
  have fzbw9 := blk_frozen BW.out 9
  have fzbw10 := blk_frozen BW.out 10
  go_wp2_with fail
  refine (laws_eqYard.calls k _ _ y0 _ _ y1 _ _ y2 b3 b4 _ _ y5 _ _ y6 _ _ y7 b8 b9 b10 _ _ y0 _ _ y1 _ _ y2 b3 b4 _ _ y5 _ _ y6 _ _ y7 b8 b9 b10 true _ (Kd.R_reads' YH.out.o0).2.2 (Kd.R_reads' YH.out.o0).2.1 (Kd.R_reads' YH.out.o1).2.2 (Kd.R_reads' YH.out.o1).2.1 (Kd.R_reads' YH.out.o2).2.2 (Kd.R_reads' YH.out.o2).2.1 (Kd.R_reads' YH.out.o5).2.2 (Kd.R_reads' YH.out.o5).2.1 (Kd.S_reads' YH.out.o6).2.2 (Kd.S_reads' YH.out.o6).2.1 (Kd.R_reads' YH.out.o7).2.2 (Kd.R_reads' YH.out.o7).2.1 (Kd.R_reads' YW.out.o0).2.2 (Kd.R_reads' YW.out.o0).2.1 (Kd.R_reads' YW.out.o1).2.2 (Kd.R_reads' YW.out.o1).2.1 (Kd.R_reads' YW.out.o2).2.2 (Kd.R_reads' YW.out.o2).2.1 (Kd.R_reads' YW.out.o5).2.2 (Kd.R_reads' YW.out.o5).2.1 (Kd.S_reads' YW.out.o6).2.2 (Kd.S_reads' YW.out.o6).2.1 (Kd.R_reads' YW.out.o7).2.2 (Kd.R_reads' YW.out.o7).2.1 Qe.out).mono ?_
  rintro e w25 ⟨rfl, hb⟩
  clear zbh0 fzbh0 zbh1 fzbh1 zbh2 fzbh2 zbh3 fzbh3 zbh4 fzbh4 zbh5 fzbh5 zbh6 fzbh6 zbh7 fzbh7 zbh8 fzbh8 zbh9 fzbh9 zbh10 fzbh10 zbw0 fzbw0 zbw1 fzbw1 zbw2 fzbw2 zbw3 fzbw3 zbw4 fzbw4 zbw5 fzbw5 zbw6 fzbw6 zbw7 fzbw7 zbw8 fzbw8 zbw9 fzbw9 zbw10 fzbw10
  have t_BK := Aside0.mk (blk_below BK.out hb)
  have t_YW := Aside0.mk (yo_below YW.out hb)
  have t_BW := Aside0.mk (blk_below BW.out hb)
  have t_BG := Aside0.mk (blk_below BG.out hb)
  have t_YD := Aside0.mk (yd_below YD.out hb)
  have t_YH := Aside0.mk (yo_below YH.out hb)
  have t_BH := Aside0.mk (blk_below BH.out hb)
  have t_HB := Aside0.mk (below_step HB.out hb)
  have SZ25 := Aside0.mk hb.size
  clear HB BK YW BW BG YD YH BH
  have HB := t_HB
  have BK := t_BK
  have YW := t_YW
  have BW := t_BW
  have BG := t_BG
  have YD := t_YD
  have YH := t_YH
  have BH := t_BH
  clear t_HB t_BK t_YW t_BW t_BG t_YD t_YH t_BH
  clear hb
  have zbg0 : w25.cell? ⟨gg, 0, none⟩ = some (.slice Ag0 y0.length cg0) := (blk_cell BG.out 0).trans rfl
  have zbg1 : w25.cell? ⟨gg, 1, none⟩ = some (.slice Ag1 y1.length cg1) := (blk_cell BG.out 1).trans rfl
  have zbg2 : w25.cell? ⟨gg, 2, none⟩ = some (.slice Ag2 y2.length cg2) := (blk_cell BG.out 2).trans rfl
  have zbg3 : w25.cell? ⟨gg, 3, none⟩ = some (.int .i64 b3) := (blk_cell BG.out 3).trans rfl
  have zbg4 : w25.cell? ⟨gg, 4, none⟩ = some (.int .i64 b4) := (blk_cell BG.out 4).trans rfl
  have zbg5 : w25.cell? ⟨gg, 5, none⟩ = some (.slice Ag5 y5.length cg5) := (blk_cell BG.out 5).trans rfl
  have zbg6 : w25.cell? ⟨gg, 6, none⟩ = some (.slice Ag6 y6.length cg6) := (blk_cell BG.out 6).trans rfl
  have zbg7 : w25.cell? ⟨gg, 7, none⟩ = some (.slice Ag7 y7.length cg7) := (blk_cell BG.out 7).trans rfl
  have zbg8 : w25.cell? ⟨gg, 8, none⟩ = some (.int .i64 b8) := (blk_cell BG.out 8).trans rfl
  have zbg9 : w25.cell? ⟨gg, 9, none⟩ = some (.int .i64 b9) := (blk_cell BG.out 9).trans rfl
  have zbg10 : w25.cell? ⟨gg, 10, none⟩ = some (.int .i64 b10) := (blk_cell BG.out 10).trans rfl
  have fzbg0 := blk_frozen BG.out 0
  have fzbg1 := blk_frozen BG.out 1
  have fzbg2 := blk_frozen BG.out 2
  have fzbg3 := blk_frozen BG.out 3
  have fzbg4 := blk_frozen BG.out 4
  have fzbg5 := blk_frozen BG.out 5
  have fzbg6 := blk_frozen BG.out 6
  have fzbg7 := blk_frozen BG.out 7
  have fzbg8 := blk_frozen BG.out 8
  have fzbg9 := blk_frozen BG.out 9
  have fzbg10 := blk_frozen BG.out 10
  go_wp2_with fail
  have zc_ := laws_heldYard.calls k _ _ h0 _ _ h1 _ _ h2 b3 b4 _ _ h5 _ _ h6 _ _ h7 b8 b9 b10 1 m4 _ (Kd.R_reads' YD.out.o0).2.2 (Nat.le_trans (Nat.le_of_eq LH0.out.symm) (Kd.R_reads' YD.out.o0).2.1) (Kd.R_reads' YD.out.o1).2.2 (Nat.le_trans (Nat.le_of_eq LH1.out.symm) (Kd.R_reads' YD.out.o1).2.1) (Kd.R_reads' YD.out.o2).2.2 (Nat.le_trans (Nat.le_of_eq LH2.out.symm) (Kd.R_reads' YD.out.o2).2.1) (Kd.R_reads' YD.out.o5).2.2 (Nat.le_trans (Nat.le_of_eq LH5.out.symm) (Kd.R_reads' YD.out.o5).2.1) (Kd.S_reads' YD.out.o6).2.2 (Nat.le_trans (Nat.le_of_eq LH6.out.symm) (Kd.S_reads' YD.out.o6).2.1) (Kd.R_reads' YD.out.o7).2.2 (Nat.le_trans (Nat.le_of_eq LH7.out.symm) (Kd.R_reads' YD.out.o7).2.1) Qh.out
  rw [← LH0.out, ← LH1.out, ← LH2.out, ← LH5.out, ← LH6.out, ← LH7.out] at zc_
  refine zc_.mono ?_
  clear zc_
  rintro e w26 ⟨rfl, hb⟩
  clear zbg0 fzbg0 zbg1 fzbg1 zbg2 fzbg2 zbg3 fzbg3 zbg4 fzbg4 zbg5 fzbg5 zbg6 fzbg6 zbg7 fzbg7 zbg8 fzbg8 zbg9 fzbg9 zbg10 fzbg10
  have t_BK := Aside0.mk (blk_below BK.out hb)
  have t_YW := Aside0.mk (yo_below YW.out hb)
  have t_BW := Aside0.mk (blk_below BW.out hb)
  have t_BG := Aside0.mk (blk_below BG.out hb)
  have t_YD := Aside0.mk (yd_below YD.out hb)
  have t_YH := Aside0.mk (yo_below YH.out hb)
  have t_BH := Aside0.mk (blk_below BH.out hb)
  have t_HB := Aside0.mk (below_step HB.out hb)
  have SZ26 := Aside0.mk hb.size
  clear HB BK YW BW BG YD YH BH
  have HB := t_HB
  have BK := t_BK
  have YW := t_YW
  have BW := t_BW
  have BG := t_BG
  have YD := t_YD
  have YH := t_YH
  have BH := t_BH
  clear t_HB t_BK t_YW t_BW t_BG t_YD t_YH t_BH
  clear hb
  go_wp2
  go_ret
  exact ⟨rfl, HB.out⟩
/-- What the law's walk asks of the printed functions: an argument too large, or one line of equations. -/
def Told (k : Nat) (l0 l1 l2 : List Int) (a3 a4 aT : Int) : Prop := (∃ z : Int, laws_szFleet.f l0 l1 l2 a3 a4 1048576 = some z ∧ z < 0) ∨ (∃ (z mf m1 m2 m3 m4 b3 b4 b8 b9 b10 : Int) (gf : Bool) (f0 f1 f2 y0 y1 y2 y7 h0 h1 h2 h7 : List Int) (y5 h5 : List S80) (y6 h6 : List (List Int)), laws_szFleet.f l0 l1 l2 a3 a4 1048576 = some z ∧ laws_toFleet.f k l0 l1 l2 a3 a4 = some (l0, l1, l2, a3, a4) ∧ spec_NewYard.f k l0 l1 l2 a3 a4 aT = some (y0, y1, y2, b3, b4, y5, y6, y7, b8, b9, b10, gf) ∧ impl_NewYard.f k l0 l1 l2 a3 a4 aT = some (y0, y1, y2, b3, b4, y5, y6, y7, b8, b9, b10, gf) ∧ laws_eqYard.f k y0 y1 y2 b3 b4 y5 y6 y7 b8 b9 b10 y0 y1 y2 b3 b4 y5 y6 y7 b8 b9 b10 = some true ∧ laws_eqFleet.f k l0 l1 l2 a3 a4 l0 l1 l2 a3 a4 = some true ∧ laws_markFleet.f k l0 l1 l2 a3 a4 1 = some (mf, f0, f1, f2) ∧ laws_markFleet.f k y0 y1 y2 b3 b4 1 = some (m1, h0, h1, h2) ∧ laws_markTruckS.f k y5 m1 = some (m2, h5) ∧ laws_markIntSS.f k y6 m2 = some (m3, h6) ∧ laws_markIntS.f k y7 m3 = some (m4, h7) ∧ laws_heldYard.f k h0 h1 h2 b3 b4 h5 h6 h7 b8 b9 b10 1 = some m4 ∧ ¬ z < 0 ∧ ¬ mf < 0 ∧ ¬ m4 < 0)
theorem laws_FnExactNewYard.calls (k : Nat) (A0 : Option Addr) (c0 : Nat) (l0 : List Int) (A1 : Option Addr) (c1 : Nat) (l1 : List Int) (A2 : Option Addr) (c2 : Nat) (l2 : List Int) (a3 a4 aT : Int) (r : Bool) (w : World) (hr0 : Kd.C (Kd.int .i64) w A0 l0.length l0) (hc0 : l0.length ≤ c0) (hr1 : Kd.C (Kd.int .i64) w A1 l1.length l1) (hc1 : l1.length ≤ c1) (hr2 : Kd.C (Kd.int .i64) w A2 l2.length l2) (hc2 : l2.length ≤ c2) (h : Told k l0 l1 l2 a3 a4 aT) :
    Calls Try.prog 10 #[.agg #[.slice A0 l0.length c0, .slice A1 l1.length c1, .slice A2 l2.length c2, .int .i64 a3, .int .i64 a4], .int .i64 aT] w fun e w' => e = .returned (.bool true) ∧ Below w.heap.size w w' := by
  rcases h with ⟨z, qz, nz⟩ | ⟨z, mf, m1, m2, m3, m4, b3, b4, b8, b9, b10, gf, f0, f1, f2, y0, y1, y2, y7, h0, h1, h2, h7, y5, h5, y6, h6, qz, qt, qs, qi, qe, qx, qm, q1, q2, q3, q4, qh, nz, nf, nm⟩
  · exact law_sz k A0 c0 l0 A1 c1 l1 A2 c2 l2 a3 a4 aT z w hr0 hc0 hr1 hc1 hr2 hc2 qz nz
  · exact law_calls k A0 c0 l0 A1 c1 l1 A2 c2 l2 a3 a4 aT z mf m1 m2 m3 m4 b3 b4 b8 b9 b10 gf f0 f1 f2 y0 y1 y2 y7 h0 h1 h2 h7 y5 h5 y6 h6 w hr0 hc0 hr1 hc1 hr2 hc2 qz qt qs qi qe qx qm q1 q2 q3 q4 qh nz nf nm

end Go.Proofs.Ytikbfnbfbpnmjaa.MFnExactNewYard
