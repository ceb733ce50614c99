/- Text written by a program for this claim: contracts of the functions of one law. -/
import Derived.Test.YtcinecbfkeefaaaPFnBlendsx0
import Derived.Test.YtcinecbfkeefaaaPFnBlendsx1
import Derived.Test.YtcinecbfkeefaaaPFnBlendsx3
import Derived.Test.YtcinecbfkeefaaaPFnBlendsx4
import Derived.Test.YtcinecbfkeefaaaPFnBlendsx5
namespace Go.Proofs.Ytcinecbfkeefaaa.PFnBlends
open Go.RowKit Go.Proofs.YtcinecbfkeefaaaW.PrintWords Go.Proofs.YtcinecbfkeefaaaW.PrintLast Go.Proofs.YtcinecbfkeefaaaW.PrintMore
attribute [local go_sem] max2_int min2_int max_two min_two max_three min_three max_four min_four   -- for this text's walks alone
set_option linter.unusedVariables false
set_option linter.unusedSimpArgs false
open ShortPFnBlends0

/-! ### impl_RichestBlend: function 27 -/
section
variable {σ : Type} (step : σ → List Int → Option σ) (Inv : σ → World → Prop) (okc : Nat → Prop) (b0 : Nat) (w0 : World) (B n q0 q1 q2 q3 q4 : Nat)
/-- What is asked of the function that is called. -/
def CallOk : Prop := ∀ (s s' : σ) (m : List Int) (A : Option Addr) (c : Nat) (W : World), step s m = some s' → m.length = n → (Kd.int .i64).C W A m.length m → m.length ≤ c → Inv s W → Below b0 w0 W → B + 5 ≤ W.heap.size →
 Calls Try.prog 81 #[.slice A n c, .pointer (some ⟨q0, 0, none⟩), .pointer (some ⟨q1, 0, none⟩), .pointer (some ⟨q2, 0, none⟩), .pointer (some ⟨q3, 0, none⟩), .pointer (some ⟨q4, 0, none⟩)] W fun e W' => e = .returned (.tuple #[]) ∧ Inv s' W' ∧ Kept W W' okc ∧ Below b0 w0 W'
/-- What stands at each moment of the filling. -/
structure FillSt (A0 : Option Addr) (c0 : Nat) (W : World) (M : List Int) (s : σ) : Prop where
 E : FillEnv B n A0 c0 (.func (.func 81) #[] #[.pointer (some ⟨q0, 0, none⟩), .pointer (some ⟨q1, 0, none⟩), .pointer (some ⟨q2, 0, none⟩), .pointer (some ⟨q3, 0, none⟩), .pointer (some ⟨q4, 0, none⟩)]) W M
 I : Inv s W
 bel : Below b0 w0 W
variable {step Inv okc b0 w0 B n q0 q1 q2 q3 q4}
theorem FillSt.size {A0 : Option Addr} {c0 : Nat} {W : World} {M} {s : σ} (h : FillSt Inv b0 w0 B n q0 q1 q2 q3 q4 A0 c0 W M s) : B + 5 ≤ W.heap.size := by have := blk_lt h.E.hf; omega
theorem FillSt.setM {A0 : Option Addr} {c0 : Nat} {W : World} {M} {s : σ} (h : FillSt Inv b0 w0 B n q0 q1 q2 q3 q4 A0 c0 W M s) (hI : ∀ s W W', Inv s W → Kept W W' (fun k => k = B + 2) → Inv s W') (hb : b0 ≤ B) (i : Nat) (x : Int) :
  FillSt Inv b0 w0 B n q0 q1 q2 q3 q4 A0 c0 (W.setCell ⟨B + 2, i, none⟩ (.int .i64 x)) (M.set i x) s where
 E := h.E.setM i x
 I := hI _ _ _ h.I ((Kept.refl W (fun k => k = B + 2)).setCell (.inl rfl) _)
 bel := h.bel.setCell (by simp; omega) _
def FillPost (Inv : σ → World → Prop) (b0 : Nat) (w0 : World) (B n q0 q1 q2 q3 q4 : Nat) (A0 : Option Addr) (c0 : Nat) (okc : Nat → Prop) (W : World) (M' : List Int) (s' : σ) (W' : World) : Prop := FillSt Inv b0 w0 B n q0 q1 q2 q3 q4 A0 c0 W' M' s' ∧ Kept W W' (fun k => k = B + 2 ∨ okc k)
set_option maxHeartbeats 8000000 in
set_option maxRecDepth 100000 in
theorem fill_calls {A0 : Option Addr} {c0 : Nat} (l : List S63) (hln : l.length = n) (hr : Kd.C k63 w0 A0 l.length l) (hbw : b0 = w0.heap.size) (hn : n ≤ 1048576) (hb : b0 ≤ B) (hI : ∀ s W W', Inv s W → Kept W W' (fun k => k = B + 2) → Inv s W') (hokc : ∀ k, okc k → k < B) (HCB : CallOk step Inv okc b0 w0 B n q0 q1 q2 q3 q4) : ∀ (d i : Nat), i + d = n → ∀ (left : Int), 0 ≤ left → left ≤ 1000 → ∀ (M : List Int) (s : σ) (M' : List Int) (s' : σ) (W : World), partF l step d left M s = some (M', s') → FillSt Inv b0 w0 B n q0 q1 q2 q3 q4 A0 c0 W M s →
  Calls Try.prog 80 #[.int .i64 (i : Int), .int .i64 left, .pointer (some ⟨B, 0, none⟩), .pointer (some ⟨B + 1, 0, none⟩), .pointer (some ⟨B + 3, 0, none⟩), .pointer (some ⟨B + 4, 0, none⟩)] W fun e W' => e = .returned (.tuple #[]) ∧ FillPost Inv b0 w0 B n q0 q1 q2 q3 q4 A0 c0 okc W M' s' W' := by
 subst hbw
 have HH := Aside0.mk hI
 have HK := Aside0.mk hokc
 have HC := Aside0.mk HCB
 have HR := Aside0.mk hr
 have HL := Aside0.mk hln
 clear hI hokc HCB hr hln
 intro d
 induction d with
 | zero =>
  intro i hi left hl0 hl1 M s M' s' W h S
  obtain rfl : i = n := by omega
  have HS := Aside0.mk S
  obtain ⟨hc1, hc2, hc3, hc4⟩ := S.E.cells
  simp only [partF] at h
  by_cases hz : left = 0
  ·rw [if_pos hz] at h
   obtain ⟨s1, h1, h2⟩ := Option.bind_eq_some_iff.1 h; simp only [Option.some.injEq, Prod.mk.injEq] at h2; obtain ⟨rfl, rfl⟩ := h2; have H1 := Aside0.mk h1; subst hz; clear h h1 hc4 S hl0 hl1
   go_enter Try.func80, Try.ntmps80
   go_wp2_with fail
   refine (HC.out _ _ _ _ _ _ H1.out HS.out.E.lM (HS.out.E.reads (by omega)) (by rw [HS.out.E.lM]; exact Nat.le_refl _) HS.out.I HS.out.bel HS.out.size).mono ?_
   rintro e W1 ⟨rfl, h3, h4, h5⟩
   have HP : Aside0 (FillPost Inv w0.heap.size w0 B i q0 q1 q2 q3 q4 A0 c0 okc W M s1 W1) := ⟨⟨HS.out.E.kept h4 HK.out, h3, h5⟩, h4.mono (fun k hk => .inr hk)⟩; clear h3 h4 h5
   go_wp2
   refine bodyPost_ret (results_none rfl _ _ _) rfl ?_
   exact ⟨rfl, HP.out⟩
  ·rw [if_neg hz] at h
   simp only [Option.some.injEq, Prod.mk.injEq] at h; obtain ⟨rfl, rfl⟩ := h; have hzb : (left == 0) = false := beq_eq_false_iff_ne.2 hz; clear hz hc2 hc3 hc4 S hl0 hl1
   go_enter Try.func80, Try.ntmps80
   go_wp2
   refine bodyPost_ret (results_none rfl _ _ _) rfl ?_
   exact ⟨rfl, HS.out, Kept.refl _ _⟩
 | succ d ih =>
  intro i hi left hl0 hl1 M s M' s' W h S
  have HS := Aside0.mk S
  have hne : ((i : Int) == (n : Int)) = false := by rw [beq_eq_false_iff_ne]; omega
  have hln := HL.out
  have hi0 : l.length - (d + 1) = i := by omega
  simp only [partF] at h
  rw [hi0] at h
  obtain ⟨⟨M9, s9⟩, h1, h2⟩ := Option.bind_eq_some_iff.1 h
  simp only [Option.some.injEq, Prod.mk.injEq] at h2
  obtain ⟨rfl, rfl⟩ := h2
  have hlt : i < n := by omega
  obtain ⟨ad0, e0, hy0, hy1, hy2, hy3⟩ := at_T63 HR.out (i : Int) (by omega) (by omega)
  subst e0
  rw [Int.toNat_natCast] at hy0
  obtain ⟨u, hu⟩ : ∃ u, u = (rd_T63 l (i : Int)).f0 := ⟨_, rfl⟩
  rw [← hu] at h1 hy0
  obtain ⟨T, hT⟩ : ∃ T, T = (mn left u + 1).toNat := ⟨_, rfl⟩
  rw [← hT] at h1
  have HY := Aside0.mk hy0
  have HT := Aside0.mk hT
  have H' := Aside0.mk h1
  have IH := Aside0.mk ih
  have HI := Aside0.mk hi
  have H0 := Aside0.mk hl0
  have HT2 : Aside0 (mn left u ≤ left) := ⟨by unfold mn; split <;> omega⟩
  obtain ⟨hc1, hc2, hc3, hc4⟩ := S.E.cells
  clear h h1 S hi0 hc2 hc3 hc4 ih hi hy0 hy1 hy2 hy3 hu hT hln
  go_enter Try.func80, Try.ntmps80
  go_wp2
  go_loopg [8] T (fun kq v8 w' => ∃ (m : Nat) (M1 : List Int) (s1 : σ), v8 = .int .i64 (m : Int) ∧ Aside0 (m + kq = T) ∧ Aside0 (partK (partF l step d) i left kq m M1 s1 = some (M9, s9)) ∧ Aside0 (FillPost Inv w0.heap.size w0 B n q0 q1 q2 q3 q4 (some ad0) c0 okc W M1 s1 w'))
  case atStart => exact ⟨0, M, s, rfl, ⟨Nat.zero_add _⟩, H', ⟨HS.out, Kept.refl _ _⟩⟩
  case round =>
   clear H' HS hc1; obtain ⟨m, M1, s1, rfl, HN, HA, HP⟩ := hrel; obtain ⟨hc1, hc2, hc3, hc4⟩ := HP.out.1.E.cells; have hy : wr.cell? (ad0.add (i * 4)) = some (.int .i64 u) := (HP.out.1.bel.cell (World.block_lt_of_cell? w0 _ HY.out)).trans HY.out; obtain ⟨hcm, hfm⟩ := HP.out.1.E.atM i hlt; have HUL : Aside0 ((u < left ∧ mn left u = u) ∨ (left ≤ u ∧ mn left u = left)) := ⟨by unfold mn; split <;> omega⟩
   cases gk with
   | zero =>
    have H := HA.out; simp only [partK, Option.some.injEq, Prod.mk.injEq] at H; obtain ⟨rfl, rfl⟩ := H; clear HA; have HZ : Aside0 (FillPost Inv w0.heap.size w0 B n q0 q1 q2 q3 q4 (some ad0) c0 okc W (M1.set i 0) s1 (wr.setCell ⟨B + 2, i, none⟩ (.int .i64 0))) := ⟨HP.out.1.setM HH.out hb i 0, HP.out.2.setCell (.inl (.inl rfl)) _⟩
    rcases HUL.out with ⟨h5, h6⟩ | ⟨h5, h6⟩
    ·have hb1 : decide ((m : Int) ≤ u) = false := decide_eq_false (by have := HN.out; have := HT.out; omega)
     clear h6
     go_wp2
     refine bodyPost_end (results_none rfl _ _ _) rfl ?_
     exact ⟨rfl, HZ.out⟩
    ·have hb1 : decide ((m : Int) ≤ left) = false := decide_eq_false (by have := HN.out; have := HT.out; omega)
     clear h6
     go_wp2
     refine bodyPost_end (results_none rfl _ _ _) rfl ?_
     exact ⟨rfl, HZ.out⟩
   | succ k1 =>
    have hm1 : (m : Int) ≤ mn left u := by have := HN.out; have := HT.out; omega
    have hml : (m : Int) ≤ left := by have := HT2.out; omega
    have H := HA.out; clear HA; simp only [partK] at H; obtain ⟨⟨M2, s2⟩, h1, h2⟩ := Option.bind_eq_some_iff.1 H; have H1 := Aside0.mk h1; have H' := Aside0.mk h2; have S2 := am (HP.out.1.setM HH.out hb i (m : Int)); have HK2 : Aside0 (Kept W (wr.setCell ⟨B + 2, i, none⟩ (.int .i64 (m : Int))) (fun k => k = B + 2 ∨ okc k)) := ⟨HP.out.2.setCell (.inl (.inl rfl)) _⟩; clear H h1 h2
    rcases HUL.out with ⟨h5, h6⟩ | ⟨h5, h6⟩
    ·have hb1 : decide ((m : Int) ≤ u) = true := decide_eq_true (by omega)
     clear h6 hm1
     have q1 : ((i : Int) + 1) = ((i + 1 : Nat) : Int) := by omega
     have Q1 := Aside0.mk q1; clear q1
     go_wp2_with (go_at_call 80; rw [Q1.out]; refine (IH.out (i + 1) (by have := HI.out; omega) (left - (m : Int)) (by omega) (by omega) _ _ _ _ _ H1.out S2.out).mono ?_; rintro e W1 ⟨rfl, h3⟩; have HQ : Aside0 (FillPost Inv w0.heap.size w0 B n q0 q1 q2 q3 q4 (some ad0) c0 okc W M2 s2 W1) := ⟨h3.1, HK2.out.then_ h3.2 (fun k hk => .inl hk)⟩; clear h3)
     go_roundg k1
     case measure => omega
     case rel => exact ⟨m + 1, M2, s2, by go_num, ⟨by have := HN.out; omega⟩, H', HQ⟩
    ·have hb1 : decide ((m : Int) ≤ left) = true := decide_eq_true (by omega)
     clear h6 hm1
     have q1 : ((i : Int) + 1) = ((i + 1 : Nat) : Int) := by omega
     have Q1 := Aside0.mk q1; clear q1
     go_wp2_with (go_at_call 80; rw [Q1.out]; refine (IH.out (i + 1) (by have := HI.out; omega) (left - (m : Int)) (by omega) (by omega) _ _ _ _ _ H1.out S2.out).mono ?_; rintro e W1 ⟨rfl, h3⟩; have HQ : Aside0 (FillPost Inv w0.heap.size w0 B n q0 q1 q2 q3 q4 (some ad0) c0 okc W M2 s2 W1) := ⟨h3.1, HK2.out.then_ h3.2 (fun k hk => .inl hk)⟩; clear h3)
     go_roundg k1
     case measure => omega
     case rel => exact ⟨m + 1, M2, s2, by go_num, ⟨by have := HN.out; omega⟩, H', HQ⟩
set_option maxHeartbeats 8000000 in
set_option maxRecDepth 100000 in
theorem each_calls {A0 : Option Addr} {c0 : Nat} (l : List S63) (W : World) (hr : Kd.C k63 w0 A0 l.length l) (hbw : b0 = w0.heap.size) (hn : l.length ≤ 1048576) (hb : b0 ≤ W.heap.size) (hI : ∀ s W1 W', Inv s W1 → Kept W1 W' (fun k => k = W.heap.size + 2) → Inv s W') (hokc : ∀ k, okc k → k < W.heap.size) (HCB : CallOk step Inv okc b0 w0 W.heap.size l.length q0 q1 q2 q3 q4) (units : Int) (hu0 : 0 ≤ units) (hu1 : units ≤ 1000) (s : σ) (M' : List Int) (s' : σ) (h : partF l step l.length units (List.replicate l.length 0) s = some (M', s')) (hi : Inv s W) (hB : Below b0 w0 W) :
  Calls Try.prog 58 #[.slice A0 l.length c0, .int .i64 units, .func (.func 81) #[] #[.pointer (some ⟨q0, 0, none⟩), .pointer (some ⟨q1, 0, none⟩), .pointer (some ⟨q2, 0, none⟩), .pointer (some ⟨q3, 0, none⟩), .pointer (some ⟨q4, 0, none⟩)]] W fun e W' => e = .returned (.tuple #[]) ∧ Inv s' W' ∧ Kept W W' okc ∧ Below b0 w0 W' := by
 have HR := Aside0.mk hr
 have HH := Aside0.mk hI
 have HK := Aside0.mk hokc
 have HC := Aside0.mk HCB
 have H := Aside0.mk h
 have HI := Aside0.mk hi
 have HB := Aside0.mk hB
 have HW := Aside0.mk hbw
 have hmk1 := print_make (P := Try.prog) 29 3 .i64 8 Try.underlying29 info3 (by omega) l.length (by omega)
 clear hr hI hokc HCB h hi hB hbw
 go_enter Try.func58, Try.ntmps58
 have hE := FillEnv.made W l.length A0 c0 (.func (.func 81) #[] #[.pointer (some ⟨q0, 0, none⟩), .pointer (some ⟨q1, 0, none⟩), .pointer (some ⟨q2, 0, none⟩), .pointer (some ⟨q3, 0, none⟩), .pointer (some ⟨q4, 0, none⟩)])
 have hal : Kept W (((((W.alloc (.cells #[.slice A0 l.length c0] 31)).alloc (.cells #[.func (.func 81) #[] #[.pointer (some ⟨q0, 0, none⟩), .pointer (some ⟨q1, 0, none⟩), .pointer (some ⟨q2, 0, none⟩), .pointer (some ⟨q3, 0, none⟩), .pointer (some ⟨q4, 0, none⟩)]] 84)).alloc (.cells (madeCells #[.int .i64 0] l.length) 3)).alloc (.cells #[.slice (some ⟨W.heap.size + 1 + 1, 0, none⟩) l.length l.length] 29)).alloc (.cells #[.func (.func 80) #[] #[.pointer (some ⟨W.heap.size, 0, none⟩), .pointer (some ⟨W.heap.size + 1, 0, none⟩), .pointer (some ⟨W.heap.size + 1 + 1 + 1, 0, none⟩), .pointer (some ⟨W.heap.size + 1 + 1 + 1 + 1, 0, none⟩)]] 102)) (fun _ => False) := ((((((Kept.refl _ _).alloc _).alloc _).alloc _).alloc _).alloc _)
 have hS : FillSt Inv b0 w0 W.heap.size l.length q0 q1 q2 q3 q4 A0 c0 _ _ s := ⟨hE, HH.out _ _ _ HI.out (hal.mono (fun _ h => h.elim)), HB.out.trans ((below_alloc (below_alloc (below_alloc (below_alloc (below_alloc (Below.refl _ _) _) _) _) _) _).mono hb)⟩
 have HS := Aside0.mk hS
 have HAL := Aside0.mk hal
 clear hE hal hS
 go_wp2_with (go_at_call 80; refine (fill_calls l rfl HR.out HW.out hn hb HH.out HK.out HC.out l.length 0 (by omega) units hu0 hu1 _ s M' s' _ H.out HS.out).mono ?_; rintro e W1 ⟨rfl, h3⟩; have HQ : Aside0 (Inv s' W1 ∧ Kept W W1 okc ∧ Below b0 w0 W1) := ⟨h3.1.I, (HAL.out.mono (fun _ h => h.elim)).then_ h3.2 (fun k hk => by (rcases hk with hk | hk; exact .inr (by omega); exact .inl hk)), h3.1.bel⟩; clear h3)
 refine bodyPost_end (results_none rfl _ _ _) rfl ?_
 exact ⟨rfl, HQ.out⟩
end

/-- The score. -/
def scoreOfR (s : Int × Int × Int × Int) : Int := s.2.1
set_option maxHeartbeats 8000000 in
theorem score_callsR (s0 s1 s2 s3 : Int) (w : World) : Calls Try.prog 63 #[.agg #[.int .i64 s0, .int .i64 s1, .int .i64 s2, .int .i64 s3]] w fun e w' => e = .returned (.int .i64 (scoreOfR (s0, s1, s2, s3))) ∧ Below w.heap.size w w' := by
 have HB := am (below_alloc (Below.refl w.heap.size w) (.cells #[.int .i64 s0, .int .i64 s1, .int .i64 s2, .int .i64 s3] 88))
 go_enter Try.func63, Try.ntmps63
 go_wp2
 go_ret
 exact ⟨rfl, HB.out⟩
def bestStepR (l : List S63) (u le mo im : Int) (s : Option (List Int × Int)) (m : List Int) : Option (Option (List Int × Int)) :=
 some (if meetsB (sumsTo l m m.length) u le mo im = true then (match s with
  | none => some (m, scoreOfR (sumsTo l m m.length))
  | some q => if q.2 < scoreOfR (sumsTo l m m.length) then some (m, scoreOfR (sumsTo l m m.length)) else s) else s)
/-- What the variables hold between two calls: the bins, what is wanted, the score's function, the best parts, their score. -/
structure BbInvR (h n : Nat) (A0 : Option Addr) (c0 : Nat) (u le mo im : Int) (s : Option (List Int × Int)) (W : World) : Prop where
 hl : W.heap[h]? = some (.cells #[.slice A0 n c0] 31 (0, 0))
 hw : W.heap[h + 1]? = some (.cells #[.int .i64 u, .int .i64 le, .int .i64 mo, .int .i64 im] 45 (0, 0))
 hs : W.heap[h + 2]? = some (.cells #[.func (.func 63) #[] #[]] 89 (0, 0))
 hm : W.heap[h + 4]? = some (.cells #[.int .i64 (match s with | none => 0 | some q => q.2)] 3 (0, 0))
 hb : ∃ v, W.heap[h + 3]? = some (.cells #[v] 29 (0, 0)) ∧ match s with
  | none => v = .slice none 0 0
  | some q => q.1.length = n ∧ Kd.R (Kd.int .i64) 3 W h (fun k => h + 10 ≤ k) v q.1
theorem BbInvR.kept {h n : Nat} {A0 : Option Addr} {c0 : Nat} {u le mo im : Int} {s : Option (List Int × Int)} {W W' : World} (I : BbInvR h n A0 c0 u le mo im s W) (hk : Kept W W' (fun k => k = h + 5 + 2)) : BbInvR h n A0 c0 u le mo im s W' where
 hl := blk_kept I.hl hk (by omega)
 hw := blk_kept I.hw hk (by omega)
 hs := blk_kept I.hs hk (by omega)
 hm := blk_kept I.hm hk (by omega)
 hb := by
  obtain ⟨v, h1, h2⟩ := I.hb
  refine ⟨v, blk_kept h1 hk (by omega), ?_⟩
  cases s with
  | none => exact h2
  | some q => exact ⟨h2.1, Kd.R_kept h2.2 hk (fun k h3 h4 => by omega)⟩
theorem BbInvR.put {h n : Nat} {A0 : Option Addr} {c0 : Nat} {u le mo im : Int} {s : Option (List Int × Int)} {W1 W5 : World} (I : BbInvR h n A0 c0 u le mo im s W1) (hb : Below W1.heap.size W1 W5) (hz : h + 5 + 5 ≤ W1.heap.size) (v : Value) (m : List Int) (x : Int) (hml : m.length = n) (ho : Kd.R (Kd.int .i64) 3 W5 W1.heap.size (fun _ => True) v m) :
  BbInvR h n A0 c0 u le mo im (some (m, x)) ((W5.setCell ⟨h + 3, 0, none⟩ v).setCell ⟨h + 4, 0, none⟩ (.int .i64 x)) := by
 have J := I.kept (Kept.of_below hb _)
 have ho2 : Kd.R (Kd.int .i64) 3 W5 h (fun k => h + 10 ≤ k) v m := Kd.R_lower (Kd.R_mono (Kd.R_bound ho) (fun k hk => by have := hk.2.1; omega)) (by omega)
 obtain ⟨v0, hv, _⟩ := J.hb
 refine ⟨blk_far (blk_far J.hl (by simp) _) (by simp) _, blk_far (blk_far J.hw (by simp) _) (by simp) _, blk_far (blk_far J.hs (by simp) _) (by simp) _, by rw [blk_set (blk_far J.hm (by simp) _)]; rfl, v, blk_far (by rw [blk_set hv]; rfl) (by simp) _, hml, ?_⟩
 exact Kd.R_kept ho2 (((Kept.refl W5 (fun k => k = h + 3 ∨ k = h + 4)).setCell (.inl (.inl rfl)) _).setCell (.inl (.inr rfl)) _) (fun k h1 h2 => by omega)
theorem heldStepR {W1 W' w' : World} {a1 a2 : Addr} {v1 v2 : Value} (h : W'.cell? a1 = some v1 ∧ W'.cell? a2 = some v2 ∧ Below W1.heap.size W1 W') (hb : Below W'.heap.size W' w') : w'.cell? a1 = some v1 ∧ w'.cell? a2 = some v2 ∧ Below W1.heap.size W1 w' :=
 ⟨(hb.cell (World.block_lt_of_cell? _ _ h.1)).trans h.1, (hb.cell (World.block_lt_of_cell? _ _ h.2.1)).trans h.2.1, below_step h.2.2 hb⟩
set_option maxHeartbeats 8000000 in
set_option maxRecDepth 100000 in
theorem bb_callR (A0 : Option Addr) (c0 : Nat) (l0 : List S63) (u le mo im : Int) (w : World) (hr0 : Kd.C k63 w A0 l0.length l0) (hc0 : l0.length ≤ c0) (hn : l0.length ≤ 1048576) (hn1 : 1 ≤ l0.length) :
  CallOk (bestStepR l0 u le mo im) (BbInvR w.heap.size l0.length A0 c0 u le mo im) (fun k => k = w.heap.size + 3 ∨ k = w.heap.size + 4) w.heap.size w (w.heap.size + 5) l0.length w.heap.size (w.heap.size + 1) (w.heap.size + 2) (w.heap.size + 3) (w.heap.size + 4) := by
 have HR0 := Aside0.mk hr0
 have HC0 := Aside0.mk hc0
 have HN := Aside0.mk hn
 have HN1 := Aside0.mk hn1
 clear hr0 hc0 hn hn1
 intro s s' m A c W hs hlm hrm hcm hi hB hsz
 have HRm := Aside0.mk hrm
 have HCm := Aside0.mk hcm
 have HLm := Aside0.mk hlm
 have HI := Aside0.mk hi
 have HB := Aside0.mk hB
 have HZ := Aside0.mk hsz
 unfold bestStepR at hs
 simp only [Option.some.injEq] at hs
 have H2 := Aside0.mk hs
 clear hs hcm hrm hi hB hsz hlm
 have hargs : Value.slice A l0.length c = Value.slice A m.length c := by rw [HLm.out]
 rw [hargs]
 clear hargs
 have hq0 : W.cell? ⟨w.heap.size, 0, none⟩ = some (.slice A0 l0.length c0) := (blk_cell HI.out.hl 0).trans rfl
 have hq1 : W.cell? ⟨w.heap.size + 1, 0, none⟩ = some (.int .i64 u) := (blk_cell HI.out.hw 0).trans rfl
 have hq2 : W.cell? ⟨w.heap.size + 1, 1, none⟩ = some (.int .i64 le) := (blk_cell HI.out.hw 1).trans rfl
 have hq3 : W.cell? ⟨w.heap.size + 1, 2, none⟩ = some (.int .i64 mo) := (blk_cell HI.out.hw 2).trans rfl
 have hq4 : W.cell? ⟨w.heap.size + 1, 3, none⟩ = some (.int .i64 im) := (blk_cell HI.out.hw 3).trans rfl
 go_enter Try.func81, Try.ntmps81
 go_wp2_with (go_at_call 60; fail)
 refine (impl_meetsWanted.callsO A0 c0 l0 u le mo im A c m W (Kd.C_below HR0.out HB.out) HC0.out HRm.out HCm.out zx5').mono ?_
 rintro e W1 ⟨rfl, hb⟩
 have HI1 := am (HI.out.kept (Kept.of_below hb _))
 have HB1 := am (below_step HB.out hb)
 have HK1 := am (Kept.of_below hb (fun k => k = w.heap.size + 3 ∨ k = w.heap.size + 4))
 have HRm1 := am (Kd.C_below HRm.out hb)
 have HZ1 : Aside0 (w.heap.size + 5 + 5 ≤ W1.heap.size) := ⟨Nat.le_trans HZ.out hb.size⟩
 clear hb hq0 hq1 hq2 hq3 hq4 HI HB HRm HZ
 have H2' := H2.out
 clear H2
 cases b1 : meetsB (sumsTo l0 m m.length) u le mo im with
 | false =>
  rw [b1, if_neg (by simp)] at H2'
  obtain rfl := H2'
  clear b1
  go_wp2
  refine bodyPost_ret (results_none rfl _ _ _) rfl ?_
  exact ⟨rfl, HI1.out, HK1.out, HB1.out⟩
 | true =>
  rw [b1, if_pos rfl] at H2'
  clear b1
  have hq0 : W1.cell? ⟨w.heap.size, 0, none⟩ = some (.slice A0 l0.length c0) := (blk_cell HI1.out.hl 0).trans rfl
  have hq2 : W1.cell? ⟨w.heap.size + 2, 0, none⟩ = some (.func (.func 63) #[] #[]) := (blk_cell HI1.out.hs 0).trans rfl
  have H2 := Aside0.mk H2'
  clear H2'
  obtain ⟨s0, s1, s2, s3, hs⟩ : ∃ s0 s1 s2 s3, sumsTo l0 m m.length = (s0, s1, s2, s3) := ⟨_, _, _, _, rfl⟩
  have hcall : ∀ W' : World, Below W1.heap.size W1 W' → Calls Try.prog 66 #[.slice A0 l0.length c0, .slice A m.length c] W' fun e w' => e = .returned (.agg #[.int .i64 s0, .int .i64 s1, .int .i64 s2, .int .i64 s3]) ∧ Below W'.heap.size W' w' := fun W' hW => by
   have h := impl_blendSums.callsO A0 c0 l0 A c m W' (Kd.C_below HR0.out (below_step HB1.out hW)) HC0.out (Kd.C_below HRm1.out hW) HCm.out zx5'; rw [hs] at h
   exact h
  have HCA := Aside0.mk hcall
  have hs2 : sumsTo l0 m m.length = (s0, s1, s2, s3) := hs
  have HS := Aside0.mk hs2
  have hbr := Below.refl W1.heap.size W1
  clear hs hcall hs2
  go_wp2_with (fail)
  go_region_held3 (fun w' => w'.cell? ⟨w.heap.size, 0, none⟩ = some (.slice A0 l0.length c0) ∧ w'.cell? ⟨w.heap.size + 2, 0, none⟩ = some (.func (.func 63) #[] #[]) ∧ Below W1.heap.size W1 w') (first | exact ⟨hq0, hq2, below_drew hbr⟩ | exact heldStepR (by assumption) (by assumption))
   (first | (go_at_call 66; refine (HCA.out _ (And.right (And.right (show _ ∧ _ ∧ Below W1.heap.size W1 _ from by assumption)))).mono ?_; rintro e w9 ⟨rfl, hb9⟩) | (go_at_call 63; refine (score_callsR s0 s1 s2 s3 _).mono ?_; rintro e w8 ⟨rfl, hb8⟩))
  rename_i hHeld8
  have hS8 : Below W1.heap.size W1 w8 := hHeld8.2.2
  have HI8 := am (HI1.out.kept (Kept.of_below hS8 _))
  have HB8 := am (below_step HB1.out hS8)
  have HRm8 := am (Kd.C_below HRm1.out hS8)
  have HK8 := am (HK1.out.below hS8)
  have HZ8 : Aside0 (w.heap.size + 5 + 5 ≤ w8.heap.size) := ⟨Nat.le_trans HZ1.out hS8.size⟩
  have H2' := H2.out
  rw [HS.out] at H2'
  clear HI1 HB1 HRm1 HK1 HZ1 H2 HS HCA hbr hq0 hq2 hb8 hb9 hS8 hHeld8
  obtain ⟨v, hv1, hv2⟩ := HI8.out.hb
  have hq3 : w8.cell? ⟨w.heap.size + 3, 0, none⟩ = some v := (blk_cell hv1 0).trans rfl
  cases s with
  | none =>
   simp only at hv2 H2'; subst hv2; have H2 := Aside0.mk H2'
   have hrun : ∀ w' : World, (binOp .eql 29 (.slice none 0 0) (.slice none 0 0)).run Try.prog w' = .ok (.bool true) w' := fun w' => Lib.run_eql_slice_nil w' 29 3 none 0 0 0 0 Try.underlying29
   clear H2' hv1
   go_wp2_with (first | ((with_reducible refine gate_dst (N := 25) rfl ?_); refine Kd.R_lit (Kd.int .i64) _ 3 ?hg (N := 25) ?hd (xs := ([] : List Int)) (inner := []) (ok := fun _ => True) (okp := fun _ => True) ?hr ?hp (fun _ hk => hk) trivial (Below.refl _ _) (Nat.le_refl _) (by simp) ?_; (case hd => rfl); (case hg => rfl); (case hr => exact zo'); (case hp => exact (Reps.none _ _)); intro v4 w3 ho4 hb4 hg_ hnew_; clear hg_ hnew_; have HO4 := Aside0.mk ho4; have HB4 := Aside0.mk hb4; clear ho4 hb4) | ((with_reducible refine gate_builtin (b := .append) (xs := #[.tmp 25, .tmp 26]) rfl ?_); at_builtin; refine Kd.R_append_rows (Kd.int .i64) (w0 := w8) w8.heap.size rfl (.tmp 25) (.tmp 26) 29 3 (.int .i64 0) 8 rfl Try.underlying29 info3 rfl (by decide) (by omega) v4 [] m _ _ _ (fun _ => True) (fun _ => False) rfl rfl ?aO ?aR (fun _ _ h => h) (fun _ h => h.elim) ?aF ?aB ?aS ?aL ?_; (case aR => exact Kd.C_below HRm8.out HB4.out); (case aB => exact HB4.out); (case aF => exact zv5'); (case aO => exact HO4.out); (case aS => exact HB4.out.size); (case aL => exact zo4'); intro v5 w5 ho hb hg hat; clear hg hat; rw [List.nil_append] at ho; obtain ⟨A5, c5, eq5⟩ := Kd.R_slice ho; subst eq5; have HO := Aside0.mk ho; have HB5 := Aside0.mk hb; clear ho hb HO4 HB4; have HI5 := am (HI8.out.kept (Kept.of_below HB5.out _)); obtain ⟨vb, hvb, _⟩ := HI5.out.hb; have hy2 : w5.cell? ⟨w.heap.size + 3, 0, none⟩ = some vb := (blk_cell hvb 0).trans rfl; have hf2 := blk_frozen hvb 0; clear hvb; have hy1 : w5.cell? ⟨w.heap.size + 4, 0, none⟩ = some (.int .i64 _) := (blk_cell HI5.out.hm 0).trans rfl; have hf1 := blk_frozen HI5.out.hm 0))
   obtain rfl := H2.out
   refine bodyPost_end (results_none rfl _ _ _) rfl ?_
   exact ⟨rfl, BbInvR.put HI8.out HB5.out HZ8.out _ _ _ HLm.out HO.out, ((HK8.out.below HB5.out).setCell (.inl (.inl rfl)) _).setCell (.inl (.inr rfl)) _, ((below_step HB8.out HB5.out).setCell (by simp) _).setCell (by simp) _⟩
  | some q =>
   simp only at hv2 H2'; obtain ⟨hql, hqr⟩ := hv2; obtain ⟨g, cp, rfl, _⟩ := Kd.R_form hqr (by have := HN1.out; omega); have hq4 : w8.cell? ⟨w.heap.size + 4, 0, none⟩ = some (.int .i64 q.2) := (blk_cell HI8.out.hm 0).trans rfl
   have hrun : ∀ w' : World, (binOp .eql 29 (.slice (some ⟨g, 0, none⟩) q.1.length cp) (.slice none 0 0)).run Try.prog w' = .ok (.bool false) w' := fun w' => Lib.run_eql_slice_nil w' 29 3 (some ⟨g, 0, none⟩) q.1.length cp 0 0 Try.underlying29
   clear hql hqr hv1
   by_cases b2 : q.2 < scoreOfR (s0, s1, s2, s3)
   ·rw [if_pos b2] at H2'
    have b2b : decide (q.2 < scoreOfR (s0, s1, s2, s3)) = true := decide_eq_true b2; have H2 := Aside0.mk H2'; clear b2 H2'
    go_wp2_with (first | ((with_reducible refine gate_dst (N := 25) rfl ?_); refine Kd.R_lit (Kd.int .i64) _ 3 ?hg (N := 25) ?hd (xs := ([] : List Int)) (inner := []) (ok := fun _ => True) (okp := fun _ => True) ?hr ?hp (fun _ hk => hk) trivial (Below.refl _ _) (Nat.le_refl _) (by simp) ?_; (case hd => rfl); (case hg => rfl); (case hr => exact zo'); (case hp => exact (Reps.none _ _)); intro v4 w3 ho4 hb4 hg_ hnew_; clear hg_ hnew_; have HO4 := Aside0.mk ho4; have HB4 := Aside0.mk hb4; clear ho4 hb4) | ((with_reducible refine gate_builtin (b := .append) (xs := #[.tmp 25, .tmp 26]) rfl ?_); at_builtin; refine Kd.R_append_rows (Kd.int .i64) (w0 := w8) w8.heap.size rfl (.tmp 25) (.tmp 26) 29 3 (.int .i64 0) 8 rfl Try.underlying29 info3 rfl (by decide) (by omega) v4 [] m _ _ _ (fun _ => True) (fun _ => False) rfl rfl ?aO ?aR (fun _ _ h => h) (fun _ h => h.elim) ?aF ?aB ?aS ?aL ?_; (case aR => exact Kd.C_below HRm8.out HB4.out); (case aB => exact HB4.out); (case aF => exact zv5'); (case aO => exact HO4.out); (case aS => exact HB4.out.size); (case aL => exact zo4'); intro v5 w5 ho hb hg hat; clear hg hat; rw [List.nil_append] at ho; obtain ⟨A5, c5, eq5⟩ := Kd.R_slice ho; subst eq5; have HO := Aside0.mk ho; have HB5 := Aside0.mk hb; clear ho hb HO4 HB4; have HI5 := am (HI8.out.kept (Kept.of_below HB5.out _)); obtain ⟨vb, hvb, _⟩ := HI5.out.hb; have hy2 : w5.cell? ⟨w.heap.size + 3, 0, none⟩ = some vb := (blk_cell hvb 0).trans rfl; have hf2 := blk_frozen hvb 0; clear hvb; have hy1 : w5.cell? ⟨w.heap.size + 4, 0, none⟩ = some (.int .i64 _) := (blk_cell HI5.out.hm 0).trans rfl; have hf1 := blk_frozen HI5.out.hm 0))
    obtain rfl := H2.out
    refine bodyPost_end (results_none rfl _ _ _) rfl ?_
    exact ⟨rfl, BbInvR.put HI8.out HB5.out HZ8.out _ _ _ HLm.out HO.out, ((HK8.out.below HB5.out).setCell (.inl (.inl rfl)) _).setCell (.inl (.inr rfl)) _, ((below_step HB8.out HB5.out).setCell (by simp) _).setCell (by simp) _⟩
   ·rw [if_neg b2] at H2'
    have b2b : decide (q.2 < scoreOfR (s0, s1, s2, s3)) = false := decide_eq_false b2; obtain rfl := H2'; clear b2
    go_wp2
    refine bodyPost_end (results_none rfl _ _ _) rfl ?_
    exact ⟨rfl, HI8.out, HK8.out, HB8.out⟩
def bestMostR (s : Option (List Int × Int)) : Int := match s with | none => 0 | some q => q.2
def BestAsR (w : World) (n : Nat) (s : Option (List Int × Int)) (W : World) (v : Value) : Prop := match s with
 | none => v = .slice none 0 0
 | some q => q.1.length = n ∧ Kd.R (Kd.int .i64) 3 W w.heap.size (fun k => w.heap.size + 10 ≤ k) v q.1
set_option maxHeartbeats 8000000 in
set_option maxRecDepth 100000 in
theorem best_callsR (A0 : Option Addr) (c0 : Nat) (l0 : List S63) (u le mo im : Int) (M' : List Int) (s' : Option (List Int × Int)) (w : World) (hr0 : Kd.C k63 w A0 l0.length l0) (hc0 : l0.length ≤ c0) (hn : l0.length ≤ 1048576) (hn1 : 1 ≤ l0.length) (hu0 : 0 ≤ u) (hu1 : u ≤ 1000) (h : partF l0 (bestStepR l0 u le mo im) l0.length u (List.replicate l0.length 0) none = some (M', s')) :
  Calls Try.prog 62 #[.slice A0 l0.length c0, .agg #[.int .i64 u, .int .i64 le, .int .i64 mo, .int .i64 im], .func (.func 63) #[] #[]] w fun e w' => ∃ v, e = .returned (.tuple #[v, .int .i64 (bestMostR s')]) ∧ BestAsR w l0.length s' w' v ∧ Below w.heap.size w w' := by
 have HR0 := Aside0.mk hr0
 have HC0 := Aside0.mk hc0
 have HN := Aside0.mk hn
 have HN1 := Aside0.mk hn1
 have H := Aside0.mk h
 have HU := am (And.intro hu0 hu1)
 clear hr0 hc0 hn hn1 h hu0 hu1
 go_enter Try.func62, Try.ntmps62
 go_wp2_with (go_at_call 58; fail)
 generalize hW : (((((w.alloc (.cells #[.slice A0 l0.length c0] 31)).alloc (.cells #[.int .i64 u, .int .i64 le, .int .i64 mo, .int .i64 im] 45)).alloc (.cells #[.func (.func 63) #[] #[]] 89)).alloc (.cells #[.slice none 0 0] 29)).alloc (.cells #[.int .i64 0] 3)) = W5
 have z1 := size_al (.cells #[.slice A0 l0.length c0] 31) (rfl : w.heap.size = w.heap.size)
 have z2 := size_al (.cells #[.int .i64 u, .int .i64 le, .int .i64 mo, .int .i64 im] 45) z1
 have z3 := size_al (.cells #[.func (.func 63) #[] #[]] 89) z2
 have z4 := size_al (.cells #[.slice none 0 0] 29) z3
 have z5 := size_al (.cells #[.int .i64 0] 3) z4
 have hI : BbInvR w.heap.size l0.length A0 c0 u le mo im none W5 := by
  rw [← hW]
  exact ⟨blk_alloc (blk_alloc (blk_alloc (blk_alloc (blk_new _ _) _) _) _) _, blk_alloc (blk_alloc (blk_alloc (blk_here _ z1) _) _) _, blk_alloc (blk_alloc (blk_here _ z2) _) _, blk_here _ z4, _, blk_alloc (blk_here _ z3) _, rfl⟩
 have hB : Below w.heap.size w W5 := by rw [← hW]; exact below_alloc (below_alloc (below_alloc (below_alloc (below_alloc (Below.refl _ _) _) _) _) _) _
 rw [hW] at z5
 clear hW z1 z2 z3 z4
 refine (each_calls (step := bestStepR l0 u le mo im) (Inv := BbInvR w.heap.size l0.length A0 c0 u le mo im) (okc := fun k => k = w.heap.size + 3 ∨ k = w.heap.size + 4) (b0 := w.heap.size) (w0 := w) (q0 := w.heap.size) (q1 := w.heap.size + 1) (q2 := w.heap.size + 2) (q3 := w.heap.size + 3) (q4 := w.heap.size + 4) l0 W5 HR0.out rfl HN.out (by omega) (fun s W6 W7 h1 h2 => h1.kept (h2.mono (fun k hk => by omega))) (fun k hk => by omega) (by rw [z5]; exact bb_callR A0 c0 l0 u le mo im w HR0.out HC0.out HN.out HN1.out) u HU.out.1 HU.out.2 none M' s' H.out hI hB).mono ?_
 rintro e W6 ⟨rfl, h3, h4, h5⟩
 obtain ⟨v, hv1, hv2⟩ := h3.hb
 have HV : Aside0 (BestAsR w l0.length s' W6 v) := ⟨by unfold BestAsR; cases s' <;> exact hv2⟩
 have hm := h3.hm
 have hx : W6.cell? ⟨w.heap.size + 3, 0, none⟩ = some v := (blk_cell hv1 0).trans rfl
 have hy : W6.cell? ⟨w.heap.size + 4, 0, none⟩ = some (.int .i64 (bestMostR s')) := (blk_cell hm 0).trans rfl
 have HB6 := Aside0.mk h5
 clear h3 h4 h5 hI hB z5 hv1 hv2 hm
 go_wp2
 repeat (go_quiet (fail); try go_wp2)
 refine bodyPost_ret (v := .tuple #[v, .int .i64 (bestMostR s')]) (by simp [results, Try.results62, go_sem]) rfl ?_
 refine ⟨v, rfl, ?_, pw_below_drewN HB6.out _⟩
 have := HV.out
 unfold BestAsR at this ⊢
 cases s' with
 | none => exact this
 | some q => exact ⟨this.1, Kd.R_drewN this.2 _⟩
theorem neq_nilR (w : World) (t e : TypeId) (a : Option Addr) (n c : Nat) (h : Try.prog.underlying t = some (.slice e)) : (binOp .neq t (.slice a n c) (.slice none 0 0)).run Try.prog w = .ok (.bool (!a.isNone)) w := by
 simp only [binOp]
 simp [Op.equal, Op.maxDepth, Lib.run_equalIn_slice_nil w 9999 t e a n c 0 0 h]
def impl_RichestBlend.f (k : Nat) (l0 : List S63) (u le mo im : Int) : Option (List Int × Bool) := (impl_AreBins.f k l0).bind fun t => if t = true then ((impl_IsWanted.f u le mo im).bind fun t2 => if t2 = true then (if l0.length ≤ 1048576 ∧ 1 ≤ l0.length ∧ 0 ≤ u ∧ u ≤ 1000 then (partF l0 (bestStepR l0 u le mo im) l0.length u (List.replicate l0.length 0) none).bind fun q => some (match q.2 with | none => ([], false) | some p => (p.1, true)) else none) else some ([], false)) else some ([], false)
set_option maxHeartbeats 8000000 in
set_option maxRecDepth 100000 in
theorem impl_RichestBlend.calls (k : Nat) (A0 : Option Addr) (c0 : Nat) (l0 : List S63) (u le mo im : Int) (r1 : List Int) (r2 : Bool) (w : World) (hr0 : Kd.C k63 w A0 l0.length l0) (hc0 : l0.length ≤ c0) (h : impl_RichestBlend.f k l0 u le mo im = some (r1, r2)) :
  Calls Try.prog 27 #[.slice A0 l0.length c0, .agg #[.int .i64 u, .int .i64 le, .int .i64 mo, .int .i64 im]] w fun e w' => ∃ v0_ : Value, e = .returned (.tuple #[v0_, .bool r2]) ∧ Kd.R (Kd.int .i64) 3 w' w.heap.size (fun _ => True) v0_ r1 ∧ Below w.heap.size w w' := by
 have HR0 := Aside0.mk hr0
 have HC0 := Aside0.mk hc0
 unfold impl_RichestBlend.f at h
 obtain ⟨t, h1, h2⟩ := Option.bind_eq_some_iff.1 h
 have H1 := Aside0.mk h1
 clear hr0 hc0 h h1
 cases t with
 | false =>
  simp only [Bool.false_eq_true, if_false, Option.some.injEq, Prod.mk.injEq] at h2
  obtain ⟨rfl, rfl⟩ := h2
  go_enter Try.func27, Try.ntmps27
  go_wp2_with (go_at_call 40; fail)
  refine (impl_AreBins.calls k A0 c0 l0 false _ (Kd.C_alloc HR0.out _) HC0.out H1.out).mono ?_
  rintro e W1 ⟨rfl, hb⟩
  have HB := am (below_step (below_alloc (Below.refl w.heap.size w) _) hb)
  clear hb
  go_wp2
  go_ret2
  exact ⟨_, rfl, Kd.R_nil _ _ _ _ _, HB.out⟩
 | true =>
  simp only [if_true] at h2
  obtain ⟨t2, g1, g2⟩ := Option.bind_eq_some_iff.1 h2
  have G1 := Aside0.mk g1
  clear h2 g1
  go_enter Try.func27, Try.ntmps27
  go_wp2_with (go_at_call 40; fail)
  refine (impl_AreBins.calls k A0 c0 l0 true _ (Kd.C_alloc HR0.out _) HC0.out H1.out).mono ?_
  rintro e W1 ⟨rfl, hb⟩
  have hb2 : (W1.heap[w.heap.size]?) = some (.cells #[.int .i64 u, .int .i64 le, .int .i64 mo, .int .i64 im] 45 (0, 0)) := (hb.block _ (by simp)).trans (blk_new _ _)
  have HB := am (below_step (below_alloc (Below.refl w.heap.size w) _) hb)
  have hq1 : W1.cell? ⟨w.heap.size, 0, none⟩ = some (.int .i64 u) := (blk_cell hb2 0).trans rfl
  have hq2 : W1.cell? ⟨w.heap.size, 1, none⟩ = some (.int .i64 le) := (blk_cell hb2 1).trans rfl
  have hq3 : W1.cell? ⟨w.heap.size, 2, none⟩ = some (.int .i64 mo) := (blk_cell hb2 2).trans rfl
  have hq4 : W1.cell? ⟨w.heap.size, 3, none⟩ = some (.int .i64 im) := (blk_cell hb2 3).trans rfl
  have HB2 := Aside0.mk hb2
  clear hb hb2
  go_wp2_with (go_at_call 47; fail)
  refine (impl_IsWanted.calls u le mo im t2 W1 G1.out).mono ?_
  rintro e W2 ⟨rfl, hb⟩
  have HBb := am (below_step HB.out hb)
  have hb2 : (W2.heap[w.heap.size]?) = some (.cells #[.int .i64 u, .int .i64 le, .int .i64 mo, .int .i64 im] 45 (0, 0)) := (hb.block _ (blk_lt HB2.out)).trans HB2.out
  clear hb HB2 hq1 hq2 hq3 hq4 HB
  have hq1 : W2.cell? ⟨w.heap.size, 0, none⟩ = some (.int .i64 u) := (blk_cell hb2 0).trans rfl
  have hq2 : W2.cell? ⟨w.heap.size, 1, none⟩ = some (.int .i64 le) := (blk_cell hb2 1).trans rfl
  have hq3 : W2.cell? ⟨w.heap.size, 2, none⟩ = some (.int .i64 mo) := (blk_cell hb2 2).trans rfl
  have hq4 : W2.cell? ⟨w.heap.size, 3, none⟩ = some (.int .i64 im) := (blk_cell hb2 3).trans rfl
  clear hb2
  cases t2 with
  | false =>
   simp only [Bool.false_eq_true, if_false, Option.some.injEq, Prod.mk.injEq] at g2; obtain ⟨rfl, rfl⟩ := g2
   go_wp2
   go_ret2
   exact ⟨_, rfl, Kd.R_nil _ _ _ _ _, HBb.out⟩
  | true =>
   simp only [if_true] at g2
   have hg : l0.length ≤ 1048576 ∧ 1 ≤ l0.length ∧ 0 ≤ u ∧ u ≤ 1000 := by
    by_cases g : l0.length ≤ 1048576 ∧ 1 ≤ l0.length ∧ 0 ≤ u ∧ u ≤ 1000
    ·exact g
    ·rw [if_neg g] at g2; cases g2
   rw [if_pos hg] at g2; obtain ⟨⟨M', s'⟩, h3, h4⟩ := Option.bind_eq_some_iff.1 g2; have H3 := Aside0.mk h3; have HN := Aside0.mk hg; have H4 := Aside0.mk h4; clear g2 h3 hg h4
   go_wp2_with (go_at_call 62; fail)
   refine (best_callsR A0 c0 l0 u le mo im M' s' W2 (Kd.C_below HR0.out HBb.out) HC0.out HN.out.1 HN.out.2.1 HN.out.2.2.1 HN.out.2.2.2 H3.out).mono ?_
   rintro e W5 ⟨v, rfl, hv, h5⟩
   have HB5 := am (below_step HBb.out h5); have hz := HBb.out.size; clear h5 hq1 hq2 hq3 hq4
   cases s' with
   | none =>
    obtain rfl := hv
    have hrun : ∀ w' : World, (binOp .neq 29 (.slice none 0 0) (.slice none 0 0)).run Try.prog w' = .ok (.bool false) w' := fun w' => neq_nilR w' 29 3 none 0 0 Try.underlying29
    have h4 := H4.out; simp only [Option.some.injEq, Prod.mk.injEq] at h4; obtain ⟨rfl, rfl⟩ := h4
    go_wp2
    go_ret2
    exact ⟨_, rfl, Kd.R_nil _ _ _ _ _, HB5.out⟩
   | some q =>
    obtain ⟨hql, hqr⟩ := hv; obtain ⟨g, cp, rfl, _⟩ := Kd.R_form hqr (by have := HN.out.2.1; omega)
    have hrun : ∀ w' : World, (binOp .neq 29 (.slice (some ⟨g, 0, none⟩) q.1.length cp) (.slice none 0 0)).run Try.prog w' = .ok (.bool true) w' := fun w' => neq_nilR w' 29 3 (some ⟨g, 0, none⟩) q.1.length cp Try.underlying29
    have h4 := H4.out; simp only [Option.some.injEq, Prod.mk.injEq] at h4; obtain ⟨rfl, rfl⟩ := h4; have HQ := am (Kd.R_lower (Kd.R_mono hqr (fun _ _ => trivial)) hz); clear hql hqr
    go_wp2
    go_ret2
    exact ⟨_, rfl, HQ.out, HB5.out⟩


/-! ### spec_CheapestBlend: function 29 -/
def spec_CheapestBlend.f (k : Nat) (l0 : List (S63)) (a1_0 : Int) (a1_1 : Int) (a1_2 : Int) (a1_3 : Int) : Option (List Int × Int × Bool) := (spec_blAsked.f k l0 a1_0 a1_1 a1_2 a1_3).bind fun t193 => (if t193 = true then ((spec_blBest.f k l0 a1_0 a1_1 a1_2 a1_3 3 1).bind fun bt194 => (if bt194.2 = true then ((spec_blSums.f k l0 bt194.1).bind fun t198 => (if 3 < (t198.length : Int) then (some (bt194.1, rd t198 3, true)) else (none))) else (some (([] : List Int), 0, false)))) else (some (([] : List Int), 0, false)))
def spec_CheapestBlend.T6 : Bool × List (List Nat × List Nat) := (true, [([], []), ([], []), ([], []), ([1, 2], [1, 2]), ([3], [3]), ([4], [4]), ([0, 3, 0], [0]), ([5, 6, 0, 1, 2, 3, 4, 5, 6], [5]), ([7, 0, 1, 2, 3, 4, 5, 6, 7], [])])
def spec_CheapestBlend.B6 : List Nat := [0, 0, 0, 6, 14, 30, 15, 127, 255]
theorem spec_CheapestBlend.tab6 : rtab .any (opsOf Try.f29 6) = spec_CheapestBlend.T6 := by kernel_rfl
theorem spec_CheapestBlend.bits6 : waitsOk spec_CheapestBlend.T6.2 spec_CheapestBlend.B6 = true := by kernel_rfl
set_option maxHeartbeats 8000000 in
set_option maxRecDepth 100000 in
theorem spec_CheapestBlend.calls (k : Nat) (A0 : Option Addr) (c0 : Nat) (l0 : List (S63)) (a1_0 : Int) (a1_1 : Int) (a1_2 : Int) (a1_3 : Int) (r1 : List Int) (r2 : Int) (r3 : Bool) (w : World) (hr0 : Kd.C k63 w A0 l0.length l0) (hc0 : l0.length ≤ c0) (h : spec_CheapestBlend.f k l0 a1_0 a1_1 a1_2 a1_3 = some (r1, r2, r3)) :
  Calls Try.prog 29 #[.slice A0 l0.length c0, .agg #[.int .i64 a1_0, .int .i64 a1_1, .int .i64 a1_2, .int .i64 a1_3]] w fun e w' => ∃ v0_ : Value, e = .returned (.tuple #[v0_, .int .i64 r2, .bool r3]) ∧ Kd.V (Kd.int .i64) 3 w' w.heap.size (fun k_ => (w.heap.size ≤ k_)) v0_ r1 ∧ Below w.heap.size w w' := by
 have hu45 := Try.underlying45
 have HR0 := Aside0.mk hr0
 have HC0 := Aside0.mk hc0
 clear hr0 hc0
 have HB := am (Below.refl w.heap.size w)
 have H : ((spec_blAsked.f k l0 a1_0 a1_1 a1_2 a1_3).bind fun t193 => (if t193 = true then ((spec_blBest.f k l0 a1_0 a1_1 a1_2 a1_3 3 1).bind fun bt194 => (if bt194.2 = true then ((spec_blSums.f k l0 bt194.1).bind fun t198 => (if 3 < (t198.length : Int) then (some (bt194.1, rd t198 3, true)) else (none))) else (some (([] : List Int), 0, false)))) else (some (([] : List Int), 0, false)))) = some (r1, r2, r3) := h
 clear h
 replace H := Option.bind_eq_some_iff.mp H
 obtain ⟨t193, A30, H⟩ := H
 replace H : (if t193 = true then ((spec_blBest.f k l0 a1_0 a1_1 a1_2 a1_3 3 1).bind fun bt194 => (if bt194.2 = true then ((spec_blSums.f k l0 bt194.1).bind fun t198 => (if 3 < (t198.length : Int) then (some (bt194.1, rd t198 3, true)) else (none))) else (some (([] : List Int), 0, false)))) else (some (([] : List Int), 0, false))) = some (r1, r2, r3) := H
 have A3 := Aside0.mk A30
 clear A30
 by_cases c4 : t193 = true
 ·subst c4
  have H1 : ((spec_blBest.f k l0 a1_0 a1_1 a1_2 a1_3 3 1).bind fun bt194 => (if bt194.2 = true then ((spec_blSums.f k l0 bt194.1).bind fun t198 => (if 3 < (t198.length : Int) then (some (bt194.1, rd t198 3, true)) else (none))) else (some (([] : List Int), 0, false)))) = some (r1, r2, r3) := by rw [if_pos rfl] at H; exact H
  clear H
  have H := H1
  clear H1
  replace H := Option.bind_eq_some_iff.mp H
  obtain ⟨⟨t194, t197⟩, A50, H⟩ := H
  replace H : (if t197 = true then ((spec_blSums.f k l0 t194).bind fun t198 => (if 3 < (t198.length : Int) then (some (t194, rd t198 3, true)) else (none))) else (some (([] : List Int), 0, false))) = some (r1, r2, r3) := H
  have A5 := Aside0.mk A50
  clear A50
  by_cases c6 : t197 = true
  ·subst c6
   have H1 : ((spec_blSums.f k l0 t194).bind fun t198 => (if 3 < (t198.length : Int) then (some (t194, rd t198 3, true)) else (none))) = some (r1, r2, r3) := by rw [if_pos rfl] at H; exact H
   clear H; have H := H1; clear H1; replace H := Option.bind_eq_some_iff.mp H; obtain ⟨t198, A70, H⟩ := H; replace H : (if 3 < (t198.length : Int) then (some (t194, rd t198 3, true)) else (none)) = some (r1, r2, r3) := H; have A7 := Aside0.mk A70; clear A70
   by_cases c8 : 3 < (t198.length : Int)
   ·rw [if_pos c8] at H
    have c8b0 : decide (3 < (t198.length : Int)) = true := decide_eq_true c8; have c8b1 : decide (3 < t198.length) = true := decide_eq_true (by omega); clear c8; simp only [Option.some.injEq, Prod.mk.injEq] at H; obtain ⟨rfl, rfl, rfl⟩ := H
    go_enter Try.func29, Try.ntmps29
    try go_wp2_with (first | ((with_reducible refine gate_dst (N := 3) rfl ?_); refine box_event ?hg (N := 3) ?hd (cs := #[.int .i64 a1_0, .int .i64 a1_1, .int .i64 a1_2, .int .i64 a1_3]) (t := 45) ?hr ?_; (case hd => rfl); (case hg => rfl); (case hr => exact zo'); intro gb192 hg w9 hbox hb; have n0_ := am (below_step za' hb); have n1_ := am (hbox); have n2_ := am ((by rw [hg]; exact (below_size za') : w.heap.size ≤ gb192)); have n3_ := am ((by rw [hg]; exact (below_size za') : w.heap.size ≤ gb192)); clear HB; have HB := n0_; have BK192 := n1_; have GW192 := n2_; have GE192 := n3_; clear n0_ n1_ n2_ n3_; clear hb hbox hg; have hcz10_0 : w9.cell? ⟨gb192, 0, none⟩ = some (.int .i64 a1_0) := (blk_cell BK192.out 0).trans rfl; have hcz10_1 : w9.cell? ⟨gb192, 1, none⟩ = some (.int .i64 a1_1) := (blk_cell BK192.out 1).trans rfl; have hcz10_2 : w9.cell? ⟨gb192, 2, none⟩ = some (.int .i64 a1_2) := (blk_cell BK192.out 2).trans rfl; have hcz10_3 : w9.cell? ⟨gb192, 3, none⟩ = some (.int .i64 a1_3) := (blk_cell BK192.out 3).trans rfl; have hfz10_0 := blk_frozen BK192.out 0; have hfz10_1 := blk_frozen BK192.out 1; have hfz10_2 := blk_frozen BK192.out 2; have hfz10_3 := blk_frozen BK192.out 3) | ((with_reducible refine gate_callee (f := 54) rfl ?_); refine goesL_ (some 11) rfl rfl Try.func54 (by kernel_rfl) rfl #[.slice A0 l0.length c0, .agg #[.int .i64 a1_0, .int .i64 a1_1, .int .i64 a1_2, .int .i64 a1_3]] rfl zb' ?_; (with_reducible refine (spec_blAsked.calls k _ _ l0 a1_0 a1_1 a1_2 a1_3 true _ ?side1 ?side2 A3.out).mono ?_); (case side1 => exact zh'); (case side2 => exact zj4'); rintro e w11 ⟨rfl, hb⟩; refine ⟨_, rfl, ?_⟩; have n0_ := am (blk_below (g := gb192) (o := o1') zb3' hb); have n1_ := am (below_step zg1' hb); clear BK192; clear HB; have BK192 := n0_; have HB := n1_; clear n0_ n1_; (try clear hb); (try clear hb2); (try clear hk); (try clear hi); have hcz12_0 : w11.cell? ⟨gb192, 0, none⟩ = some (.int .i64 a1_0) := (blk_cell BK192.out 0).trans rfl; have hcz12_1 : w11.cell? ⟨gb192, 1, none⟩ = some (.int .i64 a1_1) := (blk_cell BK192.out 1).trans rfl; have hcz12_2 : w11.cell? ⟨gb192, 2, none⟩ = some (.int .i64 a1_2) := (blk_cell BK192.out 2).trans rfl; have hcz12_3 : w11.cell? ⟨gb192, 3, none⟩ = some (.int .i64 a1_3) := (blk_cell BK192.out 3).trans rfl; have hfz12_0 := blk_frozen BK192.out 0; have hfz12_1 := blk_frozen BK192.out 1; have hfz12_2 := blk_frozen BK192.out 2; have hfz12_3 := blk_frozen BK192.out 3) | ((with_reducible refine gate_callee (f := 61) rfl ?_); refine goesL_ (some 16) rfl rfl Try.func61 (by kernel_rfl) rfl #[.slice A0 l0.length c0, .agg #[.int .i64 a1_0, .int .i64 a1_1, .int .i64 a1_2, .int .i64 a1_3], .int .i64 3, .int .i64 1] rfl zb' ?_; (with_reducible refine (spec_blBest.calls k _ _ l0 a1_0 a1_1 a1_2 a1_3 3 1 t194 true _ ?side1 ?side2 A5.out).mono ?_); (case side1 => exact zh'); (case side2 => exact zj4'); rintro e w13 ⟨v195, rfl, ho0, hb⟩; refine ⟨_, rfl, ?_⟩; have n0_ := am (Kd.V_lower (Kd.V_mono (ok' := fun k_ => (w.heap.size ≤ k_) ∧ k_ ≠ gb192) ho0 (fun k_ hk_ => ⟨(Nat.le_trans (below_size zg1') hk_), (Kd.freshB (g := gb192) (o := o1') zb3' k_ hk_)⟩)) (below_size zg1')); have n1_ := am (blk_below (g := gb192) (o := o1') zb3' hb); have n2_ := am (below_step zg1' hb); clear BK192; clear HB; have HO196 := n0_; have BK192 := n1_; have HB := n2_; clear n0_ n1_ n2_; (try clear hb); (try clear hb2); (try clear hk); (try clear hi); (try clear ho0)))
    have n0_ := am (Kd.V_drew HO196.out); have n1_ := am (blk_drew BK192.out); have n2_ := am (below_drew1 HB.out); clear HO196; clear BK192; clear HB; have HO196 := n0_; have BK192 := n1_; have HB := n2_; clear n0_ n1_ n2_; obtain ⟨Ao15, co15, eo15⟩ := Kd.V_slice HO196.out
    (first | subst eo15 | (injection eo15 with f1_ f2_ f3_; have f4_ := f1_.symm; have f5_ := f3_.symm; clear f1_ f2_ f3_; subst f4_; subst f5_))
    refine start_ (n := 9) (S := fun _ => True) (ds := []) #[Z,Z,Z,Z,Z,Z,Z,Z,Z] (by kernel_rfl) rfl rfl trivial (fun hHeld => ?_); refine with_tabW spec_CheapestBlend.tab6 spec_CheapestBlend.bits6 (fun HT_ HW_ => ?_)
    generalize w13.drew = w14 at HO196 BK192 HB hHeld ⊢
    refine pure_ (i := 0) (N := some 21) (v := ?_) (a' := ?_) #[Y,Z,Z,Z,Z,Z,Z,Z,Z] rfl rfl (any_of HT_.out (by kernel_rfl)) (fun _ _ _ h => h) (Or.inl ⟨by rfl, ?_⟩) ?_ ?_
    rotate_left
    ·intro w'
     go_simp
     with_reducible rfl
    rotate_left
    ·simp only [Act.put, s1, s2, s3, i64_w, i32_w]
     rfl
    refine pure_ (i := 1) (N := some 22) (v := ?_) (a' := ?_) #[Y,Y,Z,Z,Z,Z,Z,Z,Z] rfl rfl (any_of HT_.out (by kernel_rfl)) (fun _ _ _ h => h) (Or.inl ⟨by rfl, ?_⟩) ?_ ?_
    rotate_left
    ·intro w'
     go_simp
     with_reducible rfl
    rotate_left
    ·simp only [Act.put, s1, s2, s3, i64_w, i32_w]
     rfl
    refine pure_ (i := 2) (N := some 23) (v := ?_) (a' := ?_) #[Y,Y,Y,Z,Z,Z,Z,Z,Z] rfl rfl (any_of HT_.out (by kernel_rfl)) (fun _ _ _ h => h) (Or.inl ⟨by rfl, ?_⟩) ?_ ?_
    rotate_left
    ·intro w'
     go_simp
     with_reducible rfl
    rotate_left
    ·simp only [Act.put, s1, s2, s3, i64_w, i32_w]
     rfl
    refine one_ (i := 3) (N := some 24) #[Y,Y,Y,Y,Z,Z,Z,Z,Z] rfl rfl (one_of HT_.out (by kernel_rfl)) (by decide) (fun K hK => ?_)
    refine goes_ Try.func57 (by kernel_rfl) rfl #[.slice A0 l0.length c0, .slice Ao15 t194.length co15] (by rfl) rfl rfl zb' ?_
    with_reducible refine (spec_blSums.calls k _ _ l0 _ _ t194 t198 _ ?side1 ?side2 ?side3 ?side4 A7.out).mono ?_
    (case side1 => exact zh')
    (case side2 => exact zj4')
    (case side3 => repeat (first | exact (Kd.V_reads' HO196.out).2.2 | (with_reducible refine Kd.C_alloc ?_ _) | (with_reducible refine Kd.C_drewN ?_ _) | (with_reducible refine Kd.C_drew ?_)))
    (case side4 => exact (Kd.V_reads' HO196.out).2.1)
    rintro e w16 ⟨v199, rfl, ho0, hb⟩
    have HS0_ := trivial
    refine ⟨_, rfl, ?_⟩
    have n0_ := am (Kd.V_elder' (by (with_reducible repeat (first | apply Kd.V_alloc | apply Kd.V_drewN | apply Kd.V_drew)); exact HO196.out) (Kd.R_base ho0) hb); have n1_ := am (Kd.R_lower (Kd.R_newM (M := fun k_ => (w.heap.size ≤ k_)) ho0 (below_size zg1') (fun k_ h_ => h_)) (below_size zg1')); have n2_ := am (blk_below (g := gb192) (o := o1') zb3' hb); have n3_ := am (below_step zg1' hb); clear HO196; clear BK192; clear HB; have HO196 := n0_; have HO200 := n1_; have BK192 := n2_; have HB := n3_; clear n0_ n1_ n2_ n3_; (try clear hb); (try clear hb2); (try clear hk); (try clear hi); (try clear ho0); obtain ⟨Ao17, co17, eo17⟩ := Kd.R_slice HO200.out
    (first | subst eo17 | (injection eo17 with f1_ f2_ f3_; have f4_ := f1_.symm; have f5_ := f3_.symm; clear f1_ f2_ f3_; subst f4_; subst f5_))
    have p201 : 0 ≤ (3 : Int) := (by omega); have q201 : 3 < (t198.length : Int) := odt; obtain ⟨ad201, e201, hx201_0⟩ := Kd.at_int (Kd.R_reads' HO200.out).2.2 3 p201 q201; cases e201; (try simp only [show (3 : Int).toNat = 3 from rfl, Nat.reduceMul, Nat.reduceEqDiff, Go.Addr.add, ↓reduceIte] at hx201_0); have qi201 : (3 < t198.length) = True := eq_true (by omega); (try rw [show ((3 : Int)).toNat = 3 from rfl] at hx201_0); replace p201 := eq_true p201; replace q201 := eq_true q201
    refine hK.out _ _ (HS0_) (fun hHeld => ?_)
    clear hK K
    refine norm_ (a' := ?_) ?_ ?_
    rotate_left
    ·show Act.put _ (some 24) _ = _
     simp only [Act.put, s1, s2, s3, i64_w, i32_w]
     rfl
    refine pure_ (i := 4) (N := some 25) (v := ?_) (a' := ?_) #[Y,Y,Y,Y,Y,Z,Z,Z,Z] rfl rfl (any_of HT_.out (by kernel_rfl)) (fun _ _ _ h => h) (Or.inl ⟨by rfl, ?_⟩) ?_ ?_
    rotate_left
    ·intro w'
     go_simp
     with_reducible rfl
    rotate_left
    ·simp only [Act.put, s1, s2, s3, i64_w, i32_w]
     rfl
    refine pure_ (i := 6) (N := some 4) (v := ?_) (a' := ?_) #[Y,Y,Y,Y,Y,Z,Y,Z,Z] rfl rfl (any_of HT_.out (by kernel_rfl)) (fun _ _ _ h => h) (Or.inl ⟨by rfl, ?_⟩) ?_ ?_
    rotate_left
    ·intro w'
     go_simp
     with_reducible rfl
    rotate_left
    ·simp only [Act.put, s1, s2, s3, i64_w, i32_w]
     rfl
    refine one_ (i := 5) (N := some 26) #[Y,Y,Y,Y,Y,Y,Y,Z,Z] rfl rfl (one_of HT_.out (by kernel_rfl)) (by decide) (fun K hK => ?_)
    go_simp
    refine hK.out _ _ trivial (fun hHeld => ?_)
    clear hK K
    refine pure_ (i := 7) (N := some 5) (v := ?_) (a' := ?_) #[Y,Y,Y,Y,Y,Y,Y,Y,Z] rfl rfl (any_of HT_.out (by kernel_rfl)) (fun _ _ _ h => h) (Or.inl ⟨by rfl, ?_⟩) ?_ ?_
    rotate_left
    ·intro w'
     go_simp
     with_reducible rfl
    rotate_left
    ·simp only [Act.put, s1, s2, s3, i64_w, i32_w]
     rfl
    refine pure_ (i := 8) (N := some 6) (v := ?_) (a' := ?_) #[Y,Y,Y,Y,Y,Y,Y,Y,Y] rfl rfl (any_of HT_.out (by kernel_rfl)) (fun _ _ _ h => h) (Or.inl ⟨by rfl, ?_⟩) ?_ ?_
    rotate_left
    ·intro w'
     go_simp
     with_reducible rfl
    rotate_left
    ·simp only [Act.put, s1, s2, s3, i64_w, i32_w]
     rfl
    refine done_ (done_of HT_.out (by kernel_rfl)) ?_
    try go_wp2
    go_ret3
    exact ⟨_, by first | rfl | (simp [errW_none, errW_some] <;> rfl) | (simp [*, errW_none, errW_some] <;> rfl), by (with_reducible repeat (first | apply Kd.V_alloc | apply Kd.V_drewN | apply Kd.V_drew)); exact Kd.V_mono HO196.out (fun _ hk => hk.1.1), by repeat (first | (with_reducible first | exact HB.out | apply ba | apply bn | apply below_drew1 | refine below_set ?_ GE192.out) | exact HB.out)⟩
   ·rw [if_neg c8] at H
    exact absurd H (by simp)
  ·replace c6 := Bool.eq_false_iff.mpr c6
   subst c6
   have H1 : (some (([] : List Int), 0, false)) = some (r1, r2, r3) := by rw [if_neg (show ¬ (false = true) by decide)] at H; exact H
   clear H; have H := H1; clear H1; simp only [Option.some.injEq, Prod.mk.injEq] at H; obtain ⟨rfl, rfl, rfl⟩ := H
   go_enter Try.func29, Try.ntmps29
   go_wp2_with (first | ((with_reducible refine gate_dst (N := 3) rfl ?_); refine box_event ?hg (N := 3) ?hd (cs := #[.int .i64 a1_0, .int .i64 a1_1, .int .i64 a1_2, .int .i64 a1_3]) (t := 45) ?hr ?_; (case hd => rfl); (case hg => rfl); (case hr => exact zo'); intro gb192 hg w18 hbox hb; have n0_ := am (below_step za' hb); have n1_ := am (hbox); have n2_ := am ((by rw [hg]; exact (below_size za') : w.heap.size ≤ gb192)); have n3_ := am ((by rw [hg]; exact (below_size za') : w.heap.size ≤ gb192)); clear HB; have HB := n0_; have BK192 := n1_; have GW192 := n2_; have GE192 := n3_; clear n0_ n1_ n2_ n3_; clear hb hbox hg; have hcz19_0 : w18.cell? ⟨gb192, 0, none⟩ = some (.int .i64 a1_0) := (blk_cell BK192.out 0).trans rfl; have hcz19_1 : w18.cell? ⟨gb192, 1, none⟩ = some (.int .i64 a1_1) := (blk_cell BK192.out 1).trans rfl; have hcz19_2 : w18.cell? ⟨gb192, 2, none⟩ = some (.int .i64 a1_2) := (blk_cell BK192.out 2).trans rfl; have hcz19_3 : w18.cell? ⟨gb192, 3, none⟩ = some (.int .i64 a1_3) := (blk_cell BK192.out 3).trans rfl; have hfz19_0 := blk_frozen BK192.out 0; have hfz19_1 := blk_frozen BK192.out 1; have hfz19_2 := blk_frozen BK192.out 2; have hfz19_3 := blk_frozen BK192.out 3) | ((with_reducible refine gate_callee (f := 54) rfl ?_); refine goesL_ (some 11) rfl rfl Try.func54 (by kernel_rfl) rfl #[.slice A0 l0.length c0, .agg #[.int .i64 a1_0, .int .i64 a1_1, .int .i64 a1_2, .int .i64 a1_3]] rfl zb' ?_; (with_reducible refine (spec_blAsked.calls k _ _ l0 a1_0 a1_1 a1_2 a1_3 true _ ?side1 ?side2 A3.out).mono ?_); (case side1 => exact zh'); (case side2 => exact zj4'); rintro e w20 ⟨rfl, hb⟩; refine ⟨_, rfl, ?_⟩; have n0_ := am (blk_below (g := gb192) (o := o1') zb3' hb); have n1_ := am (below_step zg1' hb); clear BK192; clear HB; have BK192 := n0_; have HB := n1_; clear n0_ n1_; (try clear hb); (try clear hb2); (try clear hk); (try clear hi); have hcz21_0 : w20.cell? ⟨gb192, 0, none⟩ = some (.int .i64 a1_0) := (blk_cell BK192.out 0).trans rfl; have hcz21_1 : w20.cell? ⟨gb192, 1, none⟩ = some (.int .i64 a1_1) := (blk_cell BK192.out 1).trans rfl; have hcz21_2 : w20.cell? ⟨gb192, 2, none⟩ = some (.int .i64 a1_2) := (blk_cell BK192.out 2).trans rfl; have hcz21_3 : w20.cell? ⟨gb192, 3, none⟩ = some (.int .i64 a1_3) := (blk_cell BK192.out 3).trans rfl; have hfz21_0 := blk_frozen BK192.out 0; have hfz21_1 := blk_frozen BK192.out 1; have hfz21_2 := blk_frozen BK192.out 2; have hfz21_3 := blk_frozen BK192.out 3) | ((with_reducible refine gate_callee (f := 61) rfl ?_); refine goesL_ (some 16) rfl rfl Try.func61 (by kernel_rfl) rfl #[.slice A0 l0.length c0, .agg #[.int .i64 a1_0, .int .i64 a1_1, .int .i64 a1_2, .int .i64 a1_3], .int .i64 3, .int .i64 1] rfl zb' ?_; (with_reducible refine (spec_blBest.calls k _ _ l0 a1_0 a1_1 a1_2 a1_3 3 1 t194 false _ ?side1 ?side2 A5.out).mono ?_); (case side1 => exact zh'); (case side2 => exact zj4'); rintro e w22 ⟨v195, rfl, ho0, hb⟩; refine ⟨_, rfl, ?_⟩; have n0_ := am (Kd.V_lower (Kd.V_mono (ok' := fun k_ => (w.heap.size ≤ k_) ∧ k_ ≠ gb192) ho0 (fun k_ hk_ => ⟨(Nat.le_trans (below_size zg1') hk_), (Kd.freshB (g := gb192) (o := o1') zb3' k_ hk_)⟩)) (below_size zg1')); have n1_ := am (blk_below (g := gb192) (o := o1') zb3' hb); have n2_ := am (below_step zg1' hb); clear BK192; clear HB; have HO196 := n0_; have BK192 := n1_; have HB := n2_; clear n0_ n1_ n2_; (try clear hb); (try clear hb2); (try clear hk); (try clear hi); (try clear ho0)))
   go_ret3
   exact ⟨_, by first | rfl | (simp [errW_none, errW_some] <;> rfl) | (simp [*, errW_none, errW_some] <;> rfl), (Kd.V_nil _ _ _ _ _), by repeat (first | (with_reducible first | exact HB.out | apply ba | apply bn | apply below_drew1 | refine below_set ?_ GE192.out) | exact HB.out)⟩
 ·replace c4 := Bool.eq_false_iff.mpr c4
  subst c4
  have H1 : (some (([] : List Int), 0, false)) = some (r1, r2, r3) := by rw [if_neg (show ¬ (false = true) by decide)] at H; exact H
  clear H
  have H := H1
  clear H1
  simp only [Option.some.injEq, Prod.mk.injEq] at H
  obtain ⟨rfl, rfl, rfl⟩ := H
  go_enter Try.func29, Try.ntmps29
  go_wp2_with (first | ((with_reducible refine gate_dst (N := 3) rfl ?_); refine box_event ?hg (N := 3) ?hd (cs := #[.int .i64 a1_0, .int .i64 a1_1, .int .i64 a1_2, .int .i64 a1_3]) (t := 45) ?hr ?_; (case hd => rfl); (case hg => rfl); (case hr => exact zo'); intro gb192 hg w23 hbox hb; have n0_ := am (below_step za' hb); have n1_ := am (hbox); have n2_ := am ((by rw [hg]; exact (below_size za') : w.heap.size ≤ gb192)); have n3_ := am ((by rw [hg]; exact (below_size za') : w.heap.size ≤ gb192)); clear HB; have HB := n0_; have BK192 := n1_; have GW192 := n2_; have GE192 := n3_; clear n0_ n1_ n2_ n3_; clear hb hbox hg; have hcz24_0 : w23.cell? ⟨gb192, 0, none⟩ = some (.int .i64 a1_0) := (blk_cell BK192.out 0).trans rfl; have hcz24_1 : w23.cell? ⟨gb192, 1, none⟩ = some (.int .i64 a1_1) := (blk_cell BK192.out 1).trans rfl; have hcz24_2 : w23.cell? ⟨gb192, 2, none⟩ = some (.int .i64 a1_2) := (blk_cell BK192.out 2).trans rfl; have hcz24_3 : w23.cell? ⟨gb192, 3, none⟩ = some (.int .i64 a1_3) := (blk_cell BK192.out 3).trans rfl; have hfz24_0 := blk_frozen BK192.out 0; have hfz24_1 := blk_frozen BK192.out 1; have hfz24_2 := blk_frozen BK192.out 2; have hfz24_3 := blk_frozen BK192.out 3) | ((with_reducible refine gate_callee (f := 54) rfl ?_); refine goesL_ (some 11) rfl rfl Try.func54 (by kernel_rfl) rfl #[.slice A0 l0.length c0, .agg #[.int .i64 a1_0, .int .i64 a1_1, .int .i64 a1_2, .int .i64 a1_3]] rfl zb' ?_; (with_reducible refine (spec_blAsked.calls k _ _ l0 a1_0 a1_1 a1_2 a1_3 false _ ?side1 ?side2 A3.out).mono ?_); (case side1 => exact zh'); (case side2 => exact zj4'); rintro e w25 ⟨rfl, hb⟩; refine ⟨_, rfl, ?_⟩; have n0_ := am (blk_below (g := gb192) (o := o1') zb3' hb); have n1_ := am (below_step zg1' hb); clear BK192; clear HB; have BK192 := n0_; have HB := n1_; clear n0_ n1_; (try clear hb); (try clear hb2); (try clear hk); (try clear hi)))
  go_ret3
  exact ⟨_, by first | rfl | (simp [errW_none, errW_some] <;> rfl) | (simp [*, errW_none, errW_some] <;> rfl), (Kd.V_nil _ _ _ _ _), by repeat (first | (with_reducible first | exact HB.out | apply ba | apply bn | apply below_drew1 | refine below_set ?_ GE192.out) | exact HB.out)⟩

end Go.Proofs.Ytcinecbfkeefaaa.PFnBlends
