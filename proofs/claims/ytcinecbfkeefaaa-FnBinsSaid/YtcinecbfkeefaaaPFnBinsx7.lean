/- Text written by a program for this claim: contracts of the functions of one law. -/
import Derived.Test.YtcinecbfkeefaaaPFnBinsx0
import Derived.Test.YtcinecbfkeefaaaPFnBinsx3
import Derived.Test.YtcinecbfkeefaaaPFnBinsx5
namespace Go.Proofs.Ytcinecbfkeefaaa.PFnBins
open Go.RowKit Go.Proofs.YtcinecbfkeefaaaW.PrintWords Go.Proofs.YtcinecbfkeefaaaW.PrintLast Go.Proofs.YtcinecbfkeefaaaW.PrintMore
attribute [local go_sem] max2_int min2_int max_two min_two max_three min_three max_four min_four   -- for this text's walks alone
set_option linter.unusedVariables false
set_option linter.unusedSimpArgs false
open ShortPFnBins0

/-! ### impl_GradeRange: function 35 -/
/-- The rounds over the units of a bin: n, n + 1, .. -/
def partK {σ : Type} (rec : Int → List Int → σ → Option (List Int × σ)) (i : Nat) (left : Int) : Nat → Nat → List Int → σ → Option (List Int × σ)
 | 0, _, M, s => some (M, s)
 | e + 1, n, M, s => (rec (left - (n : Int)) (M.set i (n : Int)) s).bind fun q => partK rec i left e (n + 1) q.1 q.2
def partF {σ : Type} (l : List S63) (step : σ → List Int → Option σ) : Nat → Int → List Int → σ → Option (List Int × σ)
 | 0, left, M, s => if left = 0 then (step s M).bind fun s' => some (M, s') else some (M, s)
 | d + 1, left, M, s => (partK (partF l step d) (l.length - (d + 1)) left (mn left (rd_T63 l ((l.length - (d + 1) : Nat) : Int)).f0 + 1).toNat 0 M s).bind fun q => some (q.1.set (l.length - (d + 1)) 0, q.2)
def partFill.f {σ : Type} := @partF σ
/-- The variables of a filling, in the blocks from B on. -/
structure FillEnv (B n : Nat) (A0 : Option Addr) (c0 : Nat) (cv : Value) (W : World) (M : List Int) : Prop where
 hl : W.heap[B]? = some (.cells #[.slice A0 n c0] 31 (0, 0))
 hc : W.heap[B + 1]? = some (.cells #[cv] 84 (0, 0))
 hM : W.heap[B + 2]? = some (.cells (nums .i64 M).toArray 3 (0, 0))
 hm : W.heap[B + 3]? = some (.cells #[.slice (some ⟨B + 2, 0, none⟩) n n] 29 (0, 0))
 hf : W.heap[B + 4]? = some (.cells #[.func (.func 80) #[] #[.pointer (some ⟨B, 0, none⟩), .pointer (some ⟨B + 1, 0, none⟩), .pointer (some ⟨B + 3, 0, none⟩), .pointer (some ⟨B + 4, 0, none⟩)]] 102 (0, 0))
 lM : M.length = n
section
variable {B n : Nat} {A0 : Option Addr} {c0 : Nat} {cv : Value} {W W' : World} {M : List Int}
theorem FillEnv.kept {S : Nat → Prop} (E : FillEnv B n A0 c0 cv W M) (h : Kept W W' S) (hS : ∀ k, S k → k < B) : FillEnv B n A0 c0 cv W' M where
 hl := blk_kept E.hl h (fun hk => by have := hS _ hk; omega)
 hc := blk_kept E.hc h (fun hk => by have := hS _ hk; omega)
 hM := blk_kept E.hM h (fun hk => by have := hS _ hk; omega)
 hm := blk_kept E.hm h (fun hk => by have := hS _ hk; omega)
 hf := blk_kept E.hf h (fun hk => by have := hS _ hk; omega)
 lM := E.lM
theorem FillEnv.setM (E : FillEnv B n A0 c0 cv W M) (i : Nat) (x : Int) : FillEnv B n A0 c0 cv (W.setCell ⟨B + 2, i, none⟩ (.int .i64 x)) (M.set i x) where
 hl := blk_far E.hl (by simp) _
 hc := blk_far E.hc (by simp) _
 hM := by rw [blk_set E.hM]; simp [nums, List.map_set]
 hm := blk_far E.hm (by simp) _
 hf := blk_far E.hf (by simp) _
 lM := by rw [List.length_set]; exact E.lM
theorem FillEnv.cells (E : FillEnv B n A0 c0 cv W M) : W.cell? ⟨B, 0, none⟩ = some (.slice A0 n c0) ∧ W.cell? ⟨B + 1, 0, none⟩ = some cv ∧ W.cell? ⟨B + 3, 0, none⟩ = some (.slice (some ⟨B + 2, 0, none⟩) n n) ∧ W.cell? ⟨B + 4, 0, none⟩ = some (.func (.func 80) #[] #[.pointer (some ⟨B, 0, none⟩), .pointer (some ⟨B + 1, 0, none⟩), .pointer (some ⟨B + 3, 0, none⟩), .pointer (some ⟨B + 4, 0, none⟩)]) :=
 ⟨(blk_cell E.hl 0).trans rfl, (blk_cell E.hc 0).trans rfl, (blk_cell E.hm 0).trans rfl, (blk_cell E.hf 0).trans rfl⟩
theorem FillEnv.atM (E : FillEnv B n A0 c0 cv W M) (k : Nat) (hk : k < n) : W.cell? ⟨B + 2, k, none⟩ = some (.int .i64 (M.getD k 0)) ∧ W.frozen? ⟨B + 2, k, none⟩ = false := by
 have hl := E.lM
 refine ⟨?_, blk_frozen E.hM _⟩
 rw [blk_cell E.hM]
 simp [nums, List.getD_eq_getElem?_getD, List.getElem?_eq_getElem (show k < M.length by omega)]
theorem FillEnv.reads (E : FillEnv B n A0 c0 cv W M) (hn : n ≤ 9223372036854775807) : (Kd.int .i64).C W (some ⟨B + 2, 0, none⟩) M.length M := by
 refine Kd.C_of_reads (d := (0 : Int)) (h1 := fun _ => rfl) ⟨rfl, by rw [E.lM]; exact hn, fun _ => ⟨_, rfl, fun j hj => ?_⟩⟩
 rw [add_plain]
 exact (E.atM j (by have := E.lM; omega)).1
theorem FillEnv.made (W : World) (n : Nat) (A0 : Option Addr) (c0 : Nat) (cv : Value) : FillEnv W.heap.size n A0 c0 cv
  (((((W.alloc (.cells #[.slice A0 n c0] 31)).alloc (.cells #[cv] 84)).alloc (.cells (madeCells #[.int .i64 0] n) 3)).alloc (.cells #[.slice (some ⟨W.heap.size + 1 + 1, 0, none⟩) n n] 29)).alloc (.cells #[.func (.func 80) #[] #[.pointer (some ⟨W.heap.size, 0, none⟩), .pointer (some ⟨W.heap.size + 1, 0, none⟩), .pointer (some ⟨W.heap.size + 1 + 1 + 1, 0, none⟩), .pointer (some ⟨W.heap.size + 1 + 1 + 1 + 1, 0, none⟩)]] 102)) (List.replicate n 0) := by
 have e1 : (madeCells #[Value.int .i64 0] n) = (nums .i64 (List.replicate n 0)).toArray := by
  apply Array.ext'
  simp only [nums, List.map_replicate]
  apply List.ext_getElem
  ·simp [madeCells]
  ·intro i h1 h2
   simp [madeCells, Nat.mod_one]
 rw [e1]
 have z1 := size_al (.cells #[.slice A0 n c0] 31) (rfl : W.heap.size = W.heap.size)
 have z2 := size_al (.cells #[cv] 84) z1
 have z3 := size_al (.cells (nums .i64 (List.replicate n 0)).toArray 3) z2
 have z4 := size_al (.cells #[.slice (some ⟨W.heap.size + 1 + 1, 0, none⟩) n n] 29) z3
 exact ⟨blk_alloc (blk_alloc (blk_alloc (blk_alloc (blk_new _ _) _) _) _) _,
  blk_alloc (blk_alloc (blk_alloc (blk_here _ z1) _) _) _,
  blk_alloc (blk_alloc (blk_here _ z2) _) _,
  blk_alloc (blk_here _ z3) _,
  blk_here _ z4, by simp⟩
end

section
variable {σ : Type} (step : σ → List Int → Option σ) (Inv : σ → World → Prop) (okc : Nat → Prop) (b0 : Nat) (w0 : World) (B n q0 q1 q2 : Nat)
/-- What is asked of the function that is called. -/
def CallOkG : Prop := ∀ (s s' : σ) (m : List Int) (A : Option Addr) (c : Nat) (W : World), step s m = some s' → m.length = n → (Kd.int .i64).C W A m.length m → m.length ≤ c → Inv s W → Below b0 w0 W → B + 5 ≤ W.heap.size →
 Calls Try.prog 68 #[.slice A n c, .pointer (some ⟨q0, 0, none⟩), .pointer (some ⟨q1, 0, none⟩), .pointer (some ⟨q2, 0, none⟩)] W fun e W' => e = .returned (.tuple #[]) ∧ Inv s' W' ∧ Kept W W' okc ∧ Below b0 w0 W'
/-- What stands at each moment of the filling. -/
structure FillStG (A0 : Option Addr) (c0 : Nat) (W : World) (M : List Int) (s : σ) : Prop where
 E : FillEnv B n A0 c0 (.func (.func 68) #[] #[.pointer (some ⟨q0, 0, none⟩), .pointer (some ⟨q1, 0, none⟩), .pointer (some ⟨q2, 0, none⟩)]) W M
 I : Inv s W
 bel : Below b0 w0 W
variable {step Inv okc b0 w0 B n q0 q1 q2}
theorem FillStG.size {A0 : Option Addr} {c0 : Nat} {W : World} {M} {s : σ} (h : FillStG Inv b0 w0 B n q0 q1 q2 A0 c0 W M s) : B + 5 ≤ W.heap.size := by have := blk_lt h.E.hf; omega
theorem FillStG.setM {A0 : Option Addr} {c0 : Nat} {W : World} {M} {s : σ} (h : FillStG Inv b0 w0 B n q0 q1 q2 A0 c0 W M s) (hI : ∀ s W W', Inv s W → Kept W W' (fun k => k = B + 2) → Inv s W') (hb : b0 ≤ B) (i : Nat) (x : Int) :
  FillStG Inv b0 w0 B n q0 q1 q2 A0 c0 (W.setCell ⟨B + 2, i, none⟩ (.int .i64 x)) (M.set i x) s where
 E := h.E.setM i x
 I := hI _ _ _ h.I ((Kept.refl W (fun k => k = B + 2)).setCell (.inl rfl) _)
 bel := h.bel.setCell (by simp; omega) _
def FillPostG (Inv : σ → World → Prop) (b0 : Nat) (w0 : World) (B n q0 q1 q2 : Nat) (A0 : Option Addr) (c0 : Nat) (okc : Nat → Prop) (W : World) (M' : List Int) (s' : σ) (W' : World) : Prop := FillStG Inv b0 w0 B n q0 q1 q2 A0 c0 W' M' s' ∧ Kept W W' (fun k => k = B + 2 ∨ okc k)
set_option maxHeartbeats 8000000 in
set_option maxRecDepth 100000 in
theorem fill_callsG {A0 : Option Addr} {c0 : Nat} (l : List S63) (hln : l.length = n) (hr : Kd.C k63 w0 A0 l.length l) (hbw : b0 = w0.heap.size) (hn : n ≤ 1048576) (hb : b0 ≤ B) (hI : ∀ s W W', Inv s W → Kept W W' (fun k => k = B + 2) → Inv s W') (hokc : ∀ k, okc k → k < B) (HCB : CallOkG step Inv okc b0 w0 B n q0 q1 q2) : ∀ (d i : Nat), i + d = n → ∀ (left : Int), 0 ≤ left → left ≤ 1000 → ∀ (M : List Int) (s : σ) (M' : List Int) (s' : σ) (W : World), partF l step d left M s = some (M', s') → FillStG Inv b0 w0 B n q0 q1 q2 A0 c0 W M s →
  Calls Try.prog 80 #[.int .i64 (i : Int), .int .i64 left, .pointer (some ⟨B, 0, none⟩), .pointer (some ⟨B + 1, 0, none⟩), .pointer (some ⟨B + 3, 0, none⟩), .pointer (some ⟨B + 4, 0, none⟩)] W fun e W' => e = .returned (.tuple #[]) ∧ FillPostG Inv b0 w0 B n q0 q1 q2 A0 c0 okc W M' s' W' := by
 subst hbw
 have HH := Aside0.mk hI
 have HK := Aside0.mk hokc
 have HC := Aside0.mk HCB
 have HR := Aside0.mk hr
 have HL := Aside0.mk hln
 clear hI hokc HCB hr hln
 intro d
 induction d with
 | zero =>
  intro i hi left hl0 hl1 M s M' s' W h S
  obtain rfl : i = n := by omega
  have HS := Aside0.mk S
  obtain ⟨hc1, hc2, hc3, hc4⟩ := S.E.cells
  simp only [partF] at h
  by_cases hz : left = 0
  ·rw [if_pos hz] at h
   obtain ⟨s1, h1, h2⟩ := Option.bind_eq_some_iff.1 h; simp only [Option.some.injEq, Prod.mk.injEq] at h2; obtain ⟨rfl, rfl⟩ := h2; have H1 := Aside0.mk h1; subst hz; clear h h1 hc4 S hl0 hl1
   go_enter Try.func80, Try.ntmps80
   go_wp2_with fail
   refine (HC.out _ _ _ _ _ _ H1.out HS.out.E.lM (HS.out.E.reads (by omega)) (by rw [HS.out.E.lM]; exact Nat.le_refl _) HS.out.I HS.out.bel HS.out.size).mono ?_
   rintro e W1 ⟨rfl, h3, h4, h5⟩
   have HP : Aside0 (FillPostG Inv w0.heap.size w0 B i q0 q1 q2 A0 c0 okc W M s1 W1) := ⟨⟨HS.out.E.kept h4 HK.out, h3, h5⟩, h4.mono (fun k hk => .inr hk)⟩; clear h3 h4 h5
   go_wp2
   refine bodyPost_ret (results_none rfl _ _ _) rfl ?_
   exact ⟨rfl, HP.out⟩
  ·rw [if_neg hz] at h
   simp only [Option.some.injEq, Prod.mk.injEq] at h; obtain ⟨rfl, rfl⟩ := h; have hzb : (left == 0) = false := beq_eq_false_iff_ne.2 hz; clear hz hc2 hc3 hc4 S hl0 hl1
   go_enter Try.func80, Try.ntmps80
   go_wp2
   refine bodyPost_ret (results_none rfl _ _ _) rfl ?_
   exact ⟨rfl, HS.out, Kept.refl _ _⟩
 | succ d ih =>
  intro i hi left hl0 hl1 M s M' s' W h S
  have HS := Aside0.mk S
  have hne : ((i : Int) == (n : Int)) = false := by rw [beq_eq_false_iff_ne]; omega
  have hln := HL.out
  have hi0 : l.length - (d + 1) = i := by omega
  simp only [partF] at h
  rw [hi0] at h
  obtain ⟨⟨M9, s9⟩, h1, h2⟩ := Option.bind_eq_some_iff.1 h
  simp only [Option.some.injEq, Prod.mk.injEq] at h2
  obtain ⟨rfl, rfl⟩ := h2
  have hlt : i < n := by omega
  obtain ⟨ad0, e0, hy0, hy1, hy2, hy3⟩ := at_T63 HR.out (i : Int) (by omega) (by omega)
  subst e0
  rw [Int.toNat_natCast] at hy0
  obtain ⟨u, hu⟩ : ∃ u, u = (rd_T63 l (i : Int)).f0 := ⟨_, rfl⟩
  rw [← hu] at h1 hy0
  obtain ⟨T, hT⟩ : ∃ T, T = (mn left u + 1).toNat := ⟨_, rfl⟩
  rw [← hT] at h1
  have HY := Aside0.mk hy0
  have HT := Aside0.mk hT
  have H' := Aside0.mk h1
  have IH := Aside0.mk ih
  have HI := Aside0.mk hi
  have H0 := Aside0.mk hl0
  have HT2 : Aside0 (mn left u ≤ left) := ⟨by unfold mn; split <;> omega⟩
  obtain ⟨hc1, hc2, hc3, hc4⟩ := S.E.cells
  clear h h1 S hi0 hc2 hc3 hc4 ih hi hy0 hy1 hy2 hy3 hu hT hln
  go_enter Try.func80, Try.ntmps80
  go_wp2
  go_loopg [8] T (fun kq v8 w' => ∃ (m : Nat) (M1 : List Int) (s1 : σ), v8 = .int .i64 (m : Int) ∧ Aside0 (m + kq = T) ∧ Aside0 (partK (partF l step d) i left kq m M1 s1 = some (M9, s9)) ∧ Aside0 (FillPostG Inv w0.heap.size w0 B n q0 q1 q2 (some ad0) c0 okc W M1 s1 w'))
  case atStart => exact ⟨0, M, s, rfl, ⟨Nat.zero_add _⟩, H', ⟨HS.out, Kept.refl _ _⟩⟩
  case round =>
   clear H' HS hc1; obtain ⟨m, M1, s1, rfl, HN, HA, HP⟩ := hrel; obtain ⟨hc1, hc2, hc3, hc4⟩ := HP.out.1.E.cells; have hy : wr.cell? (ad0.add (i * 4)) = some (.int .i64 u) := (HP.out.1.bel.cell (World.block_lt_of_cell? w0 _ HY.out)).trans HY.out; obtain ⟨hcm, hfm⟩ := HP.out.1.E.atM i hlt; have HUL : Aside0 ((u < left ∧ mn left u = u) ∨ (left ≤ u ∧ mn left u = left)) := ⟨by unfold mn; split <;> omega⟩
   cases gk with
   | zero =>
    have H := HA.out; simp only [partK, Option.some.injEq, Prod.mk.injEq] at H; obtain ⟨rfl, rfl⟩ := H; clear HA; have HZ : Aside0 (FillPostG Inv w0.heap.size w0 B n q0 q1 q2 (some ad0) c0 okc W (M1.set i 0) s1 (wr.setCell ⟨B + 2, i, none⟩ (.int .i64 0))) := ⟨HP.out.1.setM HH.out hb i 0, HP.out.2.setCell (.inl (.inl rfl)) _⟩
    rcases HUL.out with ⟨h5, h6⟩ | ⟨h5, h6⟩
    ·have hb1 : decide ((m : Int) ≤ u) = false := decide_eq_false (by have := HN.out; have := HT.out; omega)
     clear h6
     go_wp2
     refine bodyPost_end (results_none rfl _ _ _) rfl ?_
     exact ⟨rfl, HZ.out⟩
    ·have hb1 : decide ((m : Int) ≤ left) = false := decide_eq_false (by have := HN.out; have := HT.out; omega)
     clear h6
     go_wp2
     refine bodyPost_end (results_none rfl _ _ _) rfl ?_
     exact ⟨rfl, HZ.out⟩
   | succ k1 =>
    have hm1 : (m : Int) ≤ mn left u := by have := HN.out; have := HT.out; omega
    have hml : (m : Int) ≤ left := by have := HT2.out; omega
    have H := HA.out; clear HA; simp only [partK] at H; obtain ⟨⟨M2, s2⟩, h1, h2⟩ := Option.bind_eq_some_iff.1 H; have H1 := Aside0.mk h1; have H' := Aside0.mk h2; have S2 := am (HP.out.1.setM HH.out hb i (m : Int)); have HK2 : Aside0 (Kept W (wr.setCell ⟨B + 2, i, none⟩ (.int .i64 (m : Int))) (fun k => k = B + 2 ∨ okc k)) := ⟨HP.out.2.setCell (.inl (.inl rfl)) _⟩; clear H h1 h2
    rcases HUL.out with ⟨h5, h6⟩ | ⟨h5, h6⟩
    ·have hb1 : decide ((m : Int) ≤ u) = true := decide_eq_true (by omega)
     clear h6 hm1
     have q1 : ((i : Int) + 1) = ((i + 1 : Nat) : Int) := by omega
     have Q1 := Aside0.mk q1; clear q1
     go_wp2_with (go_at_call 80; rw [Q1.out]; refine (IH.out (i + 1) (by have := HI.out; omega) (left - (m : Int)) (by omega) (by omega) _ _ _ _ _ H1.out S2.out).mono ?_; rintro e W1 ⟨rfl, h3⟩; have HQ : Aside0 (FillPostG Inv w0.heap.size w0 B n q0 q1 q2 (some ad0) c0 okc W M2 s2 W1) := ⟨h3.1, HK2.out.then_ h3.2 (fun k hk => .inl hk)⟩; clear h3)
     go_roundg k1
     case measure => omega
     case rel => exact ⟨m + 1, M2, s2, by go_num, ⟨by have := HN.out; omega⟩, H', HQ⟩
    ·have hb1 : decide ((m : Int) ≤ left) = true := decide_eq_true (by omega)
     clear h6 hm1
     have q1 : ((i : Int) + 1) = ((i + 1 : Nat) : Int) := by omega
     have Q1 := Aside0.mk q1; clear q1
     go_wp2_with (go_at_call 80; rw [Q1.out]; refine (IH.out (i + 1) (by have := HI.out; omega) (left - (m : Int)) (by omega) (by omega) _ _ _ _ _ H1.out S2.out).mono ?_; rintro e W1 ⟨rfl, h3⟩; have HQ : Aside0 (FillPostG Inv w0.heap.size w0 B n q0 q1 q2 (some ad0) c0 okc W M2 s2 W1) := ⟨h3.1, HK2.out.then_ h3.2 (fun k hk => .inl hk)⟩; clear h3)
     go_roundg k1
     case measure => omega
     case rel => exact ⟨m + 1, M2, s2, by go_num, ⟨by have := HN.out; omega⟩, H', HQ⟩
set_option maxHeartbeats 8000000 in
set_option maxRecDepth 100000 in
theorem each_callsG {A0 : Option Addr} {c0 : Nat} (l : List S63) (W : World) (hr : Kd.C k63 w0 A0 l.length l) (hbw : b0 = w0.heap.size) (hn : l.length ≤ 1048576) (hb : b0 ≤ W.heap.size) (hI : ∀ s W1 W', Inv s W1 → Kept W1 W' (fun k => k = W.heap.size + 2) → Inv s W') (hokc : ∀ k, okc k → k < W.heap.size) (HCB : CallOkG step Inv okc b0 w0 W.heap.size l.length q0 q1 q2) (units : Int) (hu0 : 0 ≤ units) (hu1 : units ≤ 1000) (s : σ) (M' : List Int) (s' : σ) (h : partF l step l.length units (List.replicate l.length 0) s = some (M', s')) (hi : Inv s W) (hB : Below b0 w0 W) :
  Calls Try.prog 58 #[.slice A0 l.length c0, .int .i64 units, .func (.func 68) #[] #[.pointer (some ⟨q0, 0, none⟩), .pointer (some ⟨q1, 0, none⟩), .pointer (some ⟨q2, 0, none⟩)]] W fun e W' => e = .returned (.tuple #[]) ∧ Inv s' W' ∧ Kept W W' okc ∧ Below b0 w0 W' := by
 have HR := Aside0.mk hr
 have HH := Aside0.mk hI
 have HK := Aside0.mk hokc
 have HC := Aside0.mk HCB
 have H := Aside0.mk h
 have HI := Aside0.mk hi
 have HB := Aside0.mk hB
 have HW := Aside0.mk hbw
 have hmk1 := print_make (P := Try.prog) 29 3 .i64 8 Try.underlying29 info3 (by omega) l.length (by omega)
 clear hr hI hokc HCB h hi hB hbw
 go_enter Try.func58, Try.ntmps58
 have hE := FillEnv.made W l.length A0 c0 (.func (.func 68) #[] #[.pointer (some ⟨q0, 0, none⟩), .pointer (some ⟨q1, 0, none⟩), .pointer (some ⟨q2, 0, none⟩)])
 have hal : Kept W (((((W.alloc (.cells #[.slice A0 l.length c0] 31)).alloc (.cells #[.func (.func 68) #[] #[.pointer (some ⟨q0, 0, none⟩), .pointer (some ⟨q1, 0, none⟩), .pointer (some ⟨q2, 0, none⟩)]] 84)).alloc (.cells (madeCells #[.int .i64 0] l.length) 3)).alloc (.cells #[.slice (some ⟨W.heap.size + 1 + 1, 0, none⟩) l.length l.length] 29)).alloc (.cells #[.func (.func 80) #[] #[.pointer (some ⟨W.heap.size, 0, none⟩), .pointer (some ⟨W.heap.size + 1, 0, none⟩), .pointer (some ⟨W.heap.size + 1 + 1 + 1, 0, none⟩), .pointer (some ⟨W.heap.size + 1 + 1 + 1 + 1, 0, none⟩)]] 102)) (fun _ => False) := ((((((Kept.refl _ _).alloc _).alloc _).alloc _).alloc _).alloc _)
 have hS : FillStG Inv b0 w0 W.heap.size l.length q0 q1 q2 A0 c0 _ _ s := ⟨hE, HH.out _ _ _ HI.out (hal.mono (fun _ h => h.elim)), HB.out.trans ((below_alloc (below_alloc (below_alloc (below_alloc (below_alloc (Below.refl _ _) _) _) _) _) _).mono hb)⟩
 have HS := Aside0.mk hS
 have HAL := Aside0.mk hal
 clear hE hal hS
 go_wp2_with (go_at_call 80; refine (fill_callsG l rfl HR.out HW.out hn hb HH.out HK.out HC.out l.length 0 (by omega) units hu0 hu1 _ s M' s' _ H.out HS.out).mono ?_; rintro e W1 ⟨rfl, h3⟩; have HQ : Aside0 (Inv s' W1 ∧ Kept W W1 okc ∧ Below b0 w0 W1) := ⟨h3.1.I, (HAL.out.mono (fun _ h => h.elim)).then_ h3.2 (fun k hk => by (rcases hk with hk | hk; exact .inr (by omega); exact .inl hk)), h3.1.bel⟩; clear h3)
 refine bodyPost_end (results_none rfl _ _ _) rfl ?_
 exact ⟨rfl, HQ.out⟩
end

def impl_GradeRange.step (l : List S63) (s : Int × Int) (m : List Int) : Option (Int × Int) := some ((if s.1 < 0 then (sumsTo l m m.length).2.1 else if (sumsTo l m m.length).2.1 < s.1 then (sumsTo l m m.length).2.1 else s.1), mx s.2 (sumsTo l m m.length).2.1)
def impl_GradeRange.f (k : Nat) (l0 : List S63) (u : Int) : Option (Int × Int × Bool) := (impl_AreBins.f k l0).bind fun t => if t = true then (if u < 0 then some (0, 0, false) else if u > 12 then some (0, 0, false) else if l0.length ≤ 1048576 then ((partF l0 (impl_GradeRange.step l0) l0.length u (List.replicate l0.length 0) (-1, -1)).bind fun q => if q.2.1 < 0 then some (0, 0, false) else some (q.2.1, q.2.2, true)) else none) else some (0, 0, false)
/-- What the variables hold between two calls: the bins, the least and the greatest sum. -/
structure GrInv (h hn n : Nat) (A0 : Option Addr) (c0 : Nat) (s : Int × Int) (W : World) : Prop where
 ha : W.heap[h]? = some (.cells #[.slice A0 n c0] 31 (0, 0))
 hs : W.heap[hn]? = some (.cells #[.int .i64 s.1] 3 (0, 0))
 hm : W.heap[hn + 1]? = some (.cells #[.int .i64 s.2] 3 (0, 0))
theorem GrInv.kept {h hn n : Nat} {A0 : Option Addr} {c0 : Nat} {s : Int × Int} {W W' : World} {S : Nat → Prop} (I : GrInv h hn n A0 c0 s W) (hk : Kept W W' S) (h1 : ¬ S h) (h2 : ¬ S hn) (h3 : ¬ S (hn + 1)) : GrInv h hn n A0 c0 s W' :=
 ⟨blk_kept I.ha hk h1, blk_kept I.hs hk h2, blk_kept I.hm hk h3⟩
theorem ix41 (x0 x x2 x3 : Int) (w' : World) : (Instr.index 88 (.agg #[.int .i64 x0, .int .i64 x, .int .i64 x2, .int .i64 x3]) (.int .i64 1)).run Try.prog w' = .ok (.int .i64 x) w' := by
 have h := Try.underlying88
 simp [Instr.index, run_underlying h, asIntOf, go_sem]
theorem ix42 (x0 x x2 x3 : Int) (w' : World) : (Instr.index 88 (.agg #[.int .i64 x0, .int .i64 x, .int .i64 x2, .int .i64 x3]) (.int .i64 2)).run Try.prog w' = .ok (.int .i64 x2) w' := by
 have h := Try.underlying88
 simp [Instr.index, run_underlying h, asIntOf, go_sem]
set_option maxHeartbeats 8000000 in
set_option maxRecDepth 100000 in
theorem gr_call (A0 : Option Addr) (c0 : Nat) (l0 : List S63) (w : World) (hn : Nat) (hnw : w.heap.size + 1 ≤ hn) (hr0 : Kd.C k63 w A0 l0.length l0) (hc0 : l0.length ≤ c0) :
  CallOkG (impl_GradeRange.step l0) (GrInv w.heap.size hn l0.length A0 c0) (fun k => k = hn ∨ k = hn + 1) w.heap.size w (hn + 1 + 1) l0.length w.heap.size hn (hn + 1) := by
 have HR0 := Aside0.mk hr0
 have HC0 := Aside0.mk hc0
 clear hr0 hc0
 intro s s' m A c W hs hlm hrm hcm hi hB hsz
 have HRm := Aside0.mk hrm
 have HCm := Aside0.mk hcm
 have HLm := Aside0.mk hlm
 have HI := Aside0.mk hi
 have HB := Aside0.mk hB
 have HW := Aside0.mk hnw
 unfold impl_GradeRange.step at hs
 simp only [Option.some.injEq] at hs
 obtain ⟨x0, x, x2, x3, hx⟩ : ∃ x0 x x2 x3, sumsTo l0 m m.length = (x0, x, x2, x3) := ⟨_, _, _, _, rfl⟩
 rw [hx] at hs
 have H2 := Aside0.mk hs
 have hcall := impl_blendSums.callsO A0 c0 l0 A c m W (Kd.C_below HR0.out HB.out) HC0.out HRm.out HCm.out (by rw [HLm.out]; exact Nat.le_refl _)
 rw [hx] at hcall
 have HCA := Aside0.mk hcall
 clear hs hcm hrm hi hB hsz hlm hcall hx
 have hargs : Value.slice A l0.length c = Value.slice A m.length c := by rw [HLm.out]
 rw [hargs]
 clear hargs
 obtain ⟨s1, s2⟩ := s
 have hq0 : W.cell? ⟨w.heap.size, 0, none⟩ = some (.slice A0 l0.length c0) := (blk_cell HI.out.ha 0).trans rfl
 go_enter Try.func68, Try.ntmps68
 go_wp2_with (go_at_call 66; fail)
 refine HCA.out.mono ?_
 rintro e W1 ⟨rfl, hb⟩
 have HI1 := am (HI.out.kept (Kept.of_below hb (fun _ => False)) (fun h => h) (fun h => h) (fun h => h))
 have HB1 := am (below_step HB.out hb)
 have HK1 := am (Kept.of_below hb (fun k => k = hn ∨ k = hn + 1))
 clear hb hq0 HI HB HRm HCA
 have hx1 : W1.cell? ⟨hn, 0, none⟩ = some (.int .i64 s1) := (blk_cell HI1.out.hs 0).trans rfl
 have hf1 : W1.frozen? ⟨hn, 0, none⟩ = false := blk_frozen HI1.out.hs 0
 have hx2 : W1.cell? ⟨hn + 1, 0, none⟩ = some (.int .i64 s2) := (blk_cell HI1.out.hm 0).trans rfl
 have hf2 : W1.frozen? ⟨hn + 1, 0, none⟩ = false := blk_frozen HI1.out.hm 0
 have H2' := H2.out
 clear H2
 have hix := ix41 x0 x x2 x3
 try simp only at H2'
 have fin : ∀ (y : Int) (WW : World), WW = (W1.setCell ⟨hn, 0, none⟩ (.int .i64 y)).setCell ⟨hn + 1, 0, none⟩ (.int .i64 (mx s2 x)) → s' = (y, mx s2 x) → GrInv w.heap.size hn l0.length A0 c0 s' WW ∧ Kept W WW (fun k => k = hn ∨ k = hn + 1) ∧ Below w.heap.size w WW := by
  intro y WW hWW hs'
  have hw := HW.out
  subst hWW hs'
  exact ⟨⟨blk_far (blk_far HI1.out.ha (by simp; omega) _) (by simp; omega) _, blk_far ((blk_set HI1.out.hs 0 _).trans rfl) (by simp) _, (blk_set (blk_far HI1.out.hm (by simp) _) 0 _).trans rfl⟩, (HK1.out.setCell (.inl (.inl rfl)) _).setCell (.inl (.inr rfl)) _, (HB1.out.setCell (by simp; omega) _).setCell (by simp; omega) _⟩
 have fin2 : ∀ (WW : World), WW = W1.setCell ⟨hn + 1, 0, none⟩ (.int .i64 (mx s2 x)) → s' = (s1, mx s2 x) → GrInv w.heap.size hn l0.length A0 c0 s' WW ∧ Kept W WW (fun k => k = hn ∨ k = hn + 1) ∧ Below w.heap.size w WW := by
  intro WW hWW hs'
  have hw := HW.out
  subst hWW hs'
  exact ⟨⟨blk_far HI1.out.ha (by simp; omega) _, blk_far HI1.out.hs (by simp) _, (blk_set HI1.out.hm 0 _).trans rfl⟩, HK1.out.setCell (.inl (.inr rfl)) _, HB1.out.setCell (by simp; omega) _⟩
 have HF := Aside0.mk fin
 have HF2 := Aside0.mk fin2
 clear fin fin2 HI1 HB1 HK1
 by_cases hm : s2 < x
 ·by_cases b1 : s1 < 0
  ·skip
   have em : mx s2 x = x := if_pos hm; have EM := Aside0.mk em; clear em; rw [if_pos b1] at H2'; have d1 : decide (s1 < 0) = true := decide_eq_true b1; have H2 := Aside0.mk H2'; clear H2'
   go_wp2
   refine bodyPost_end (results_none rfl _ _ _) rfl ?_
   exact ⟨rfl, HF.out x _ (by rw [EM.out]) H2.out.symm⟩
  ·by_cases b2 : x < s1
   ·skip
    have em : mx s2 x = x := if_pos hm; have EM := Aside0.mk em; clear em; rw [if_neg b1, if_pos b2] at H2'; have d1 : decide (s1 < 0) = false := decide_eq_false b1; have d2 : decide (x < s1) = true := decide_eq_true b2; have H2 := Aside0.mk H2'; clear H2'
    go_wp2
    refine bodyPost_end (results_none rfl _ _ _) rfl ?_
    exact ⟨rfl, HF.out x _ (by rw [EM.out]) H2.out.symm⟩
   ·skip
    have em : mx s2 x = x := if_pos hm; have EM := Aside0.mk em; clear em; rw [if_neg b1, if_neg b2] at H2'; have d1 : decide (s1 < 0) = false := decide_eq_false b1; have d2 : decide (x < s1) = false := decide_eq_false b2; have H2 := Aside0.mk H2'; clear H2'
    go_wp2
    refine bodyPost_end (results_none rfl _ _ _) rfl ?_
    exact ⟨rfl, HF2.out _ (by rw [EM.out]) H2.out.symm⟩
 ·by_cases b1 : s1 < 0
  ·skip
   have em : mx s2 x = s2 := if_neg hm; have EM := Aside0.mk em; clear em; rw [if_pos b1] at H2'; have d1 : decide (s1 < 0) = true := decide_eq_true b1; have H2 := Aside0.mk H2'; clear H2'
   go_wp2
   refine bodyPost_end (results_none rfl _ _ _) rfl ?_
   exact ⟨rfl, HF.out x _ (by rw [EM.out]) H2.out.symm⟩
  ·by_cases b2 : x < s1
   ·skip
    have em : mx s2 x = s2 := if_neg hm; have EM := Aside0.mk em; clear em; rw [if_neg b1, if_pos b2] at H2'; have d1 : decide (s1 < 0) = false := decide_eq_false b1; have d2 : decide (x < s1) = true := decide_eq_true b2; have H2 := Aside0.mk H2'; clear H2'
    go_wp2
    refine bodyPost_end (results_none rfl _ _ _) rfl ?_
    exact ⟨rfl, HF.out x _ (by rw [EM.out]) H2.out.symm⟩
   ·skip
    have em : mx s2 x = s2 := if_neg hm; have EM := Aside0.mk em; clear em; rw [if_neg b1, if_neg b2] at H2'; have d1 : decide (s1 < 0) = false := decide_eq_false b1; have d2 : decide (x < s1) = false := decide_eq_false b2; have H2 := Aside0.mk H2'; clear H2'
    go_wp2
    refine bodyPost_end (results_none rfl _ _ _) rfl ?_
    exact ⟨rfl, HF2.out _ (by rw [EM.out]) H2.out.symm⟩
set_option maxHeartbeats 8000000 in
set_option maxRecDepth 100000 in
theorem impl_GradeRange.calls (k : Nat) (A0 : Option Addr) (c0 : Nat) (l0 : List S63) (u : Int) (r1 r2 : Int) (r3 : Bool) (w : World) (hr0 : Kd.C k63 w A0 l0.length l0) (hc0 : l0.length ≤ c0) (h : impl_GradeRange.f k l0 u = some (r1, r2, r3)) :
  Calls Try.prog 35 #[.slice A0 l0.length c0, .int .i64 u] w fun e w' => e = .returned (.tuple #[.int .i64 r1, .int .i64 r2, .bool r3]) ∧ Below w.heap.size w w' := by
 have HR0 := Aside0.mk hr0
 have HC0 := Aside0.mk hc0
 unfold impl_GradeRange.f at h
 obtain ⟨t, h1, h2⟩ := Option.bind_eq_some_iff.1 h
 have H1 := Aside0.mk h1
 clear hr0 hc0 h h1
 go_enter Try.func35, Try.ntmps35
 go_wp2_with (go_at_call 40; fail)
 refine (impl_AreBins.calls k A0 c0 l0 t _ (Kd.C_alloc HR0.out _) HC0.out H1.out).mono ?_
 rintro e W1 ⟨rfl, hb⟩
 have hb1 : (W1.heap[w.heap.size]?) = some (.cells #[.slice A0 l0.length c0] 31 (0, 0)) := (hb.block _ (by simp)).trans (blk_new _ _)
 have hz1 : w.heap.size + 1 ≤ W1.heap.size := by have := hb.size; simp only [World.size_alloc] at this; exact this
 have HB := am (below_step (below_alloc (Below.refl w.heap.size w) _) hb)
 have HB1 := Aside0.mk hb1
 have HZ := Aside0.mk hz1
 have H2 := Aside0.mk h2
 clear hb hb1 hz1 h2
 cases t with
 | false =>
  have h2 := H2.out
  simp only [Bool.false_eq_true, if_false, Option.some.injEq, Prod.mk.injEq] at h2
  obtain ⟨rfl, rfl, rfl⟩ := h2
  clear HB1 HZ H2
  go_wp2
  go_ret3
  exact ⟨rfl, HB.out⟩
 | true =>
  have h2 := H2.out
  clear H2
  simp only [if_true] at h2
  by_cases c1 : u < 0
  ·rw [if_pos c1] at h2
   simp only [Option.some.injEq, Prod.mk.injEq] at h2; obtain ⟨rfl, rfl, rfl⟩ := h2; have d1 : decide (u < 0) = true := decide_eq_true c1; clear HB1 HZ
   go_wp2
   go_ret3
   exact ⟨rfl, HB.out⟩
  ·rw [if_neg c1] at h2
   have d1 : decide (u < 0) = false := decide_eq_false c1
   by_cases c2 : u > 12
   ·rw [if_pos c2] at h2
    simp only [Option.some.injEq, Prod.mk.injEq] at h2; obtain ⟨rfl, rfl, rfl⟩ := h2; have d2 : decide (u > 12) = true := decide_eq_true c2; clear HB1 HZ
    go_wp2
    go_ret3
    exact ⟨rfl, HB.out⟩
   ·rw [if_neg c2] at h2
    have d2 : decide (u > 12) = false := decide_eq_false c2
    have hg : l0.length ≤ 1048576 := by
     by_cases g : l0.length ≤ 1048576
     ·exact g
     ·rw [if_neg g] at h2; cases h2
    rw [if_pos hg] at h2; obtain ⟨⟨M', s'⟩, h3, h4⟩ := Option.bind_eq_some_iff.1 h2; have H3 := Aside0.mk h3; have H4 := Aside0.mk h4; have HN := Aside0.mk hg; have hI : GrInv w.heap.size W1.heap.size l0.length A0 c0 (-1, -1) ((W1.alloc (.cells #[.int .i64 (-1)] 3)).alloc (.cells #[.int .i64 (-1)] 3)) := ⟨blk_alloc (blk_alloc HB1.out _) _, blk_alloc (blk_new _ _) _, (by have h := blk_new (W1.alloc (.cells #[.int .i64 (-1)] 3)) (.cells #[.int .i64 (-1)] 3); rw [World.size_alloc] at h; exact h)⟩; have hq0 : ((W1.alloc (.cells #[.int .i64 (-1)] 3)).alloc (.cells #[.int .i64 (-1)] 3)).cell? ⟨w.heap.size, 0, none⟩ = some (.slice A0 l0.length c0) := (blk_cell hI.ha 0).trans rfl; have HI := Aside0.mk hI; clear h2 h3 h4 hg hI
    go_wp2_with (go_at_call 58; fail)
    generalize hW : (W1.alloc (.cells #[.int .i64 (-1)] 3)).alloc (.cells #[.int .i64 (-1)] 3) = W3
    have hz3 : W3.heap.size = W1.heap.size + 1 + 1 := by rw [← hW]; simp
    have hI : GrInv w.heap.size W1.heap.size l0.length A0 c0 (-1, -1) W3 := by rw [← hW]; exact HI.out
    have hB3 : Below w.heap.size w W3 := by rw [← hW]; exact (HB.out.alloc HB.out.size _).alloc (by have := HB.out.size; simp; omega) _
    have hz := HZ.out; clear hW hq0 HI
    refine (each_callsG (step := impl_GradeRange.step l0) (Inv := GrInv w.heap.size W1.heap.size l0.length A0 c0) (okc := fun k => k = W1.heap.size ∨ k = W1.heap.size + 1) (b0 := w.heap.size) (w0 := w) (q0 := w.heap.size) (q1 := W1.heap.size) (q2 := W1.heap.size + 1) l0 W3 HR0.out rfl HN.out (by omega) (fun s W4 W5 h1 h2 => h1.kept h2 (by omega) (by omega) (by omega)) (fun k hk => by omega) (by rw [hz3]; exact gr_call A0 c0 l0 w W1.heap.size hz HR0.out HC0.out) u (by omega) (by omega) (-1, -1) M' s' H3.out hI hB3).mono ?_
    rintro e W5 ⟨rfl, h3, h4, h5⟩
    obtain ⟨s1', s2'⟩ := s'; have hx : W5.cell? ⟨W1.heap.size, 0, none⟩ = some (.int .i64 s1') := (blk_cell h3.hs 0).trans rfl; have hy : W5.cell? ⟨W1.heap.size + 1, 0, none⟩ = some (.int .i64 s2') := (blk_cell h3.hm 0).trans rfl; have HB5 := Aside0.mk h5; clear h3 h4 h5 hI hB3 hz3 hz; have h4 := H4.out; clear H4
    try simp only at h4
    by_cases c3 : s1' < 0
    ·rw [if_pos c3] at h4
     simp only [Option.some.injEq, Prod.mk.injEq] at h4; obtain ⟨rfl, rfl, rfl⟩ := h4; have d3 : decide (s1' < 0) = true := decide_eq_true c3
     go_wp2
     go_ret3
     exact ⟨rfl, HB5.out⟩
    ·rw [if_neg c3] at h4
     simp only [Option.some.injEq, Prod.mk.injEq] at h4; obtain ⟨rfl, rfl, rfl⟩ := h4; have d3 : decide (s1' < 0) = false := decide_eq_false c3
     go_wp2
     go_region
     go_wp2
     go_ret3
     exact ⟨rfl, below_drew HB5.out⟩


/-! ### spec_l1Least: function 78 -/
def spec_l1Least.f (a0 : Int) (a1 : Int) : Option (Int) := if a0 < a1 then (some a0) else (some a1)
set_option maxHeartbeats 8000000 in
set_option maxRecDepth 100000 in
theorem spec_l1Least.calls (a0 : Int) (a1 : Int) (r : Int) (w : World) (h : spec_l1Least.f a0 a1 = some r) :
  Calls Try.prog 78 #[.int .i64 a0, .int .i64 a1] w fun e w' => e = .returned (.int .i64 r) ∧ Drawn0 w w' := by
 have H : (if a0 < a1 then (some a0) else (some a1)) = some r := h
 clear h
 by_cases c3 : a0 < a1
 ·rw [if_pos c3] at H
  have c3b0 : decide (a0 < a1) = true := decide_eq_true c3
  clear c3
  obtain rfl := Option.some.inj H
  go_enter Try.func78, Try.ntmps78
  go_wp2
  go_ret
  exact ⟨by first | rfl | (simp; done) | (simp [*]; done), by repeat (first | exact Drawn0.refl _ | apply Drawn0.step)⟩
 ·rw [if_neg c3] at H
  have c3b0 : decide (a0 < a1) = false := decide_eq_false c3
  clear c3
  obtain rfl := Option.some.inj H
  go_enter Try.func78, Try.ntmps78
  go_wp2
  go_ret
  exact ⟨by first | rfl | (simp; done) | (simp [*]; done), by repeat (first | exact Drawn0.refl _ | apply Drawn0.step)⟩

/-! ### spec_blAll: function 55 -/
mutual
def spec_blAll.l0 : Nat → List (S63) → Int → List (List Int) → Int → Option ((List (List Int)))
 | 0, _, _, _, _ => none
 | k + 1, x0, x1, x5, x6 => if 0 < (x0.length : Int) then ((spec_l1Least.f x1 ((rd_T63 x0 0).f0)).bind fun t213 => (if x6 ≤ t213 then (if 1 ≤ (x0.length : Int) then ((spec_blAll.f k (x0.drop 1) (wrap64 (x1 - x6))).bind fun t218 => (spec_blAll.l1 k x0 x1 x5 x6 t218 (t218.length : Int) 0)) else (none)) else (some x5))) else (none)
def spec_blAll.l1 : Nat → List (S63) → Int → List (List Int) → Int → List (List Int) → Int → Int → Option ((List (List Int)))
 | 0, _, _, _, _, _, _, _ => none
 | k + 1, x0, x1, x5, x6, x31, x32, x33 => if x33 < x32 then (if 0 ≤ x33 then (if x33 < (x31.length : Int) then ((some (([x6] : List Int) : List Int)).bind fun y222 => (if y222.length + (rd_L7 x31 x33).length < 17592186044416 then (if x5.length < 5864062014805 then (spec_blAll.l1 k x0 x1 (x5 ++ [(y222 ++ (rd_L7 x31 x33))]) x6 x31 x32 (wrap64 (x33 + 1))) else (none)) else (none))) else (none)) else (none)) else (spec_blAll.l0 k x0 x1 x5 (wrap64 (x6 + 1)))
def spec_blAll.f : Nat → List (S63) → Int → Option ((List (List Int)))
 | 0, _, _ => none
 | k + 1, l0, a1 => if (l0.length : Int) = 0 then (if a1 = 0 then (some (([(([] : List Int))] : List (List Int)))) else (some ([] : List (List Int)))) else (spec_blAll.l0 k l0 a1 ([] : List (List Int)) 0)
end
set_option maxHeartbeats 8000000 in
set_option maxRecDepth 100000 in
theorem spec_blAll.calls (k : Nat) : ∀ (A0 : Option Addr) (c0 : Nat) (l0 : List (S63)) (a1 : Int) (r : List (List Int)) (w : World) (hr0 : Kd.C k63 w A0 l0.length l0) (hc0 : l0.length ≤ c0) (h : spec_blAll.f k l0 a1 = some r),
  Calls Try.prog 55 #[.slice A0 l0.length c0, .int .i64 a1] w fun e w' => ∃ v0_ : Value, e = .returned (v0_) ∧ Kd.N (Kd.slice 3 (Kd.int .i64)) 29 w' w.heap.size (fun k_ => (w.heap.size ≤ k_)) v0_ r ∧ Below w.heap.size w w' := by
 induction k using Nat.strongRecOn with
 | _ k ih =>
 intro A0 c0 l0 a1 r w hr0 hc0 h
 cases k with
 | zero => exact absurd h (by simp [spec_blAll.f])
 | succ k =>
 simp only [spec_blAll.f] at h
 have HR0 := Aside0.mk hr0
 have HC0 := Aside0.mk hc0
 clear hr0 hc0
 have HB := am (Below.refl w.heap.size w)
 have H : (if (l0.length : Int) = 0 then (if a1 = 0 then (some (([(([] : List Int))] : List (List Int)))) else (some ([] : List (List Int)))) else (spec_blAll.l0 k l0 a1 ([] : List (List Int)) 0)) = some r := h
 clear h
 by_cases c3 : (l0.length : Int) = 0
 ·rw [if_pos c3] at H
  have c3b0 : ((l0.length : Int) == 0) = true := beq_iff_eq.mpr c3
  have c3b1 : ((l0.length : Int) != 0) = false := bne_eq_false_iff_eq.mpr c3
  clear c3
  by_cases c4 : a1 = 0
  ·rw [if_pos c4] at H
   have c4b0 : (a1 == 0) = true := beq_iff_eq.mpr c4; have c4b1 : (a1 != 0) = false := bne_eq_false_iff_eq.mpr c4; clear c4
   obtain ⟨y206, hy206⟩ : ∃ y_ : List Int, y_ = (([] : List Int)) := ⟨_, rfl⟩
   replace H : (some (([y206] : List (List Int)))) = some r := by first | (rw [hy206]; with_reducible exact H) | (have H2_ := (Option.bind_some _ _).symm.trans H; rw [hy206]; with_reducible exact H2_) | (have H2_ := (Option.bind_some _ _).symm.trans H; with_reducible exact H2_) | with_reducible exact H | (rw [hy206]; exact H) | exact H
   have Ny206 := Aside0.mk hy206; clear hy206
   obtain ⟨y209, hy209⟩ : ∃ y_ : List (List Int), y_ = (([y206] : List (List Int))) := ⟨_, rfl⟩
   replace H : (some y209) = some r := by first | (rw [hy209]; with_reducible exact H) | (have H2_ := (Option.bind_some _ _).symm.trans H; rw [hy209]; with_reducible exact H2_) | (have H2_ := (Option.bind_some _ _).symm.trans H; with_reducible exact H2_) | with_reducible exact H | (rw [hy209]; exact H) | exact H
   have Ny209 := Aside0.mk hy209; clear hy209; obtain rfl := Option.some.inj H
   go_enter Try.func55, Try.ntmps55
   go_wp2_with (first | ((with_reducible refine gate_dst (N := 14) rfl ?_); refine Kd.R_lit (Kd.int .i64) _ 3 ?hg (N := 14) ?hd (xs := ([] : List Int)) (inner := []) (ok := fun _ => True) (okp := fun _ => True) ?hr ?hp (fun _ hk => hk) trivial (Below.refl _ _) (Nat.le_refl _) (by simp) ?_; (case hd => rfl); (case hg => rfl); (case hr => exact zv'); (case hp => exact (Reps.none _ _)); intro v207 w5 ho6 hb hg_ hnew_; clear hg_ hnew_; (first | rw [← Ny206.out] at ho6 | (simp only [Int.reduceToNat] at ho6; rw [← Ny206.out] at ho6)); have n0_ := am (Kd.R_lower (Kd.R_newM (M := fun k_ => (w.heap.size ≤ k_)) ho6 (below_size za') (fun k_ h_ => h_)) (below_size za')); have n1_ := am (below_step za' hb); clear HB; have HO208 := n0_; have HB := n1_; clear n0_ n1_; clear hb ho6; obtain ⟨Ao7, co7, eo7⟩ := Kd.R_slice HO208.out; subst eo7) | ((with_reducible refine gate_dst (N := 15) rfl ?_); refine Kd.N_lit (Kd.slice 3 (Kd.int .i64)) _ 29 ?hg (N' := 15) ?hd (xs := ([y206] : List (List Int))) (inner := [.slice Ao7 y206.length co7]) (ok := (fun k_ => (w.heap.size ≤ k_))) (okp := (fun k_ => (w.heap.size ≤ k_))) ?hr ?hp (fun _ hk => hk) ((show ∀ k_, w5.heap.size ≤ k_ → (fun k_ => (w.heap.size ≤ k_)) k_ from fun k_ hk => (Nat.le_trans (below_size za') hk)) _ (Nat.le_refl _)) (Below.refl _ _) (Nat.le_refl _) (by simp) ?_; (case hd => rfl); (case hg => rfl); (case hr => exact zv'); (case hp => exact (Reps.one (show Kd.FK (Kd.slice 3 (Kd.int .i64)) _ _ y206 [.slice Ao7 y206.length co7] from (Kd.FK_slice_mk (Kd.R_reads' (Kd.R_mono (ok' := (fun k_ => (w.heap.size ≤ k_))) (HO208.out) (fun k_ hk => hk.1))).2.1 (Kd.R_F (Kd.R_mono (ok' := (fun k_ => (w.heap.size ≤ k_))) (HO208.out) (fun k_ hk => hk.1))))) (Reps.none _ _))); intro v210 w8 ho9 hb hg_ hnew_; clear hg_ hnew_; (first | rw [← Ny209.out] at ho9 | (simp only [Int.reduceToNat] at ho9; rw [← Ny209.out] at ho9)); have n0_ := am (Kd.N_lower ho9 (below_size za')); have n1_ := am (below_step za' hb); clear HB; clear HO208; have HO211 := n0_; have HB := n1_; clear n0_ n1_; clear hb ho9))
   go_ret
   exact ⟨_, by first | rfl | (simp [errW_none, errW_some] <;> rfl) | (simp [*, errW_none, errW_some] <;> rfl), by (with_reducible repeat (first | apply Kd.N_alloc | apply Kd.N_drewN | apply Kd.N_drew)); exact HO211.out, by repeat (first | (with_reducible first | exact HB.out | apply ba | apply bn | apply below_drew1) | exact HB.out)⟩
  ·rw [if_neg c4] at H
   have c4b0 : (a1 == 0) = false := beq_eq_false_iff_ne.mpr c4; have c4b1 : (a1 != 0) = true := bne_iff_ne.mpr c4; obtain rfl := Option.some.inj H
   go_enter Try.func55, Try.ntmps55
   go_wp2
   go_ret
   exact ⟨_, by first | rfl | (simp [errW_none, errW_some] <;> rfl) | (simp [*, errW_none, errW_some] <;> rfl), by first | exact Kd.S_nil _ _ _ _ _ | exact Kd.N_nil _ _ _ _ _ | exact Kd.V_nil _ _ _ _ _ | exact Kd.Q_nil _ _ _ _ _ | exact Kd.R_nil _ _ _ _ _, by repeat (first | (with_reducible first | exact HB.out | apply ba | apply bn | apply below_drew1) | exact HB.out)⟩
 ·rw [if_neg c3] at H
  have c3b0 : ((l0.length : Int) == 0) = false := beq_eq_false_iff_ne.mpr c3
  have c3b1 : ((l0.length : Int) != 0) = true := bne_iff_ne.mpr c3
  have c3b2 : ¬ (l0 = []) := fun h_ => c3 (by rw [h_]; rfl)
  have H' := Aside0.mk H
  clear H
  go_enter Try.func55, Try.ntmps55
  go_wp2
  go_loopg [5, 6] k (fun kq v5 v6 w' => ∃ (x5_1 : List (List Int)) (x6_1 : Int), v6 = .int .i64 x6_1 ∧ Aside0 (spec_blAll.l0 kq l0 a1 x5_1 x6_1 = some r) ∧ Aside0 (kq ≤ k) ∧ Aside0 (Kd.N (Kd.slice 3 (Kd.int .i64)) 29 w' w.heap.size (fun k_ => (w.heap.size ≤ k_)) v5 x5_1) ∧ Aside0 (Below w.heap.size w w'))
  case atStart => exact ⟨(([] : List (List Int))), (0), zh', H', ⟨Nat.le_refl _⟩, ⟨by first | exact Kd.S_nil _ _ _ _ _ | exact Kd.N_nil _ _ _ _ _ | exact Kd.V_nil _ _ _ _ _ | exact Kd.Q_nil _ _ _ _ _ | exact Kd.R_nil _ _ _ _ _⟩, ⟨za'⟩⟩
  case round =>
   clear H'; (try clear p2); (try clear c3); (try clear c3b0); (try clear c3b1); (try clear c3b2); (try clear c4); (try clear c4b0); (try clear c4b1); (try clear c5); obtain ⟨x5_1, x6_1, rfl, HA, HK1, HO_5, HB⟩ := hrel
   cases gk with
   | zero => exact absurd HA.out (by simp [spec_blAll.l0])
   | succ k1 =>
    have H := HA.out; clear HA; simp only [spec_blAll.l0] at H
    by_cases c10 : 0 < (l0.length : Int)
    ·rw [if_pos c10] at H
     have c10b0 : decide (0 < (l0.length : Int)) = true := decide_eq_true c10; have c10b1 : decide (0 < l0.length) = true := decide_eq_true (by omega); clear c10; replace H := Option.bind_eq_some_iff.mp H; obtain ⟨t213, A110, H⟩ := H; replace H : (if x6_1 ≤ t213 then (if 1 ≤ (l0.length : Int) then ((spec_blAll.f k1 (l0.drop 1) (wrap64 (a1 - x6_1))).bind fun t218 => (spec_blAll.l1 k1 l0 a1 x5_1 x6_1 t218 (t218.length : Int) 0)) else (none)) else (some x5_1)) = some r := H; have A11 := Aside0.mk A110; clear A110
     by_cases c12 : x6_1 ≤ t213
     ·rw [if_pos c12] at H
      have c12b0 : decide (x6_1 ≤ t213) = true := decide_eq_true c12; clear c12
      by_cases c13 : 1 ≤ (l0.length : Int)
      ·rw [if_pos c13] at H
       have c13b0 := eq_true c13; have c13b1 : decide (1 ≤ (l0.length : Int)) = true := decide_eq_true c13; clear c13
       obtain ⟨y214, hy214⟩ : ∃ y_ : List (S63), y_ = (l0.drop 1) := ⟨_, rfl⟩
       replace H : ((spec_blAll.f k1 y214 (wrap64 (a1 - x6_1))).bind fun t218 => (spec_blAll.l1 k1 l0 a1 x5_1 x6_1 t218 (t218.length : Int) 0)) = some r := by first | (rw [hy214]; with_reducible exact H) | (have H2_ := (Option.bind_some _ _).symm.trans H; rw [hy214]; with_reducible exact H2_) | (have H2_ := (Option.bind_some _ _).symm.trans H; with_reducible exact H2_) | with_reducible exact H | (rw [hy214]; exact H) | exact H
       have Ny214 := Aside0.mk hy214; clear hy214; replace H := Option.bind_eq_some_iff.mp H; obtain ⟨t218, A140, H⟩ := H; replace H : (spec_blAll.l1 k1 l0 a1 x5_1 x6_1 t218 (t218.length : Int) 0) = some r := H; have A14 := Aside0.mk A140; clear A140; have H' := Aside0.mk H; clear H; have p212 : 0 ≤ (0 : Int) := (by omega); have q212 : 0 < (l0.length : Int) := odt; obtain ⟨ad212, e212, hx212_0, hx212_1, hx212_2, hx212_3⟩ := at_T63 HR0.out 0 p212 q212; cases e212; have qi212 : (0 < l0.length) = True := eq_true (by omega); (try rw [show ((0 : Int)).toNat = 0 from rfl] at hx212_0); (try rw [show 0 * 4 = 0 from rfl] at hx212_0); (try rw [Addr.add_zero'] at hx212_0); (try rw [show ((0 : Int)).toNat = 0 from rfl] at hx212_1); (try rw [show 0 * 4 = 0 from rfl] at hx212_1); (try rw [Addr.add_zero'] at hx212_1); (try rw [show ((0 : Int)).toNat = 0 from rfl] at hx212_2); (try rw [show 0 * 4 = 0 from rfl] at hx212_2); (try rw [Addr.add_zero'] at hx212_2); (try rw [show ((0 : Int)).toNat = 0 from rfl] at hx212_3); (try rw [show 0 * 4 = 0 from rfl] at hx212_3); (try rw [Addr.add_zero'] at hx212_3)
       try replace hx212_0 := (HB.out.cell (World.block_lt_of_cell? w _ hx212_0)).trans hx212_0
       try replace hx212_1 := (HB.out.cell (World.block_lt_of_cell? w _ hx212_1)).trans hx212_1
       try replace hx212_2 := (HB.out.cell (World.block_lt_of_cell? w _ hx212_2)).trans hx212_2
       try replace hx212_3 := (HB.out.cell (World.block_lt_of_cell? w _ hx212_3)).trans hx212_3
       replace p212 := eq_true p212; replace q212 := eq_true q212
       go_wp2_with (first | ((with_reducible refine gate_callee (f := 78) rfl ?_); refine goesL_ (some 22) rfl rfl Try.func78 (by kernel_rfl) rfl #[.int .i64 a1, .int .i64 ((rd_T63 l0 0).f0)] rfl zd' ?_; (with_reducible refine (spec_l1Least.calls a1 ((rd_T63 l0 0).f0) t213 _ A11.out).mono ?_); rintro e w' ⟨rfl, ⟨nd, rfl⟩⟩; refine ⟨_, rfl, ?_⟩; have q15 : (1 : Int) ≤ ((l0.length : Int) : Int) := odt; obtain ⟨i015, hi015, _, hsz15, _⟩ := info_parts info63; have hroom15 : l0.length ≤ c0 := HC0.out; have hC15 : Kd.C k63 _ (some ad212) l0.length l0 := HR0.out; have hcut15 := cut_from (P := Try.prog) 31 63 .i64 Try.underlying31 hi015 4 hsz15 (some ad212) l0.length c0 1 (by omega) q15; have hr15 := Kd.C_drop (m := (1 : Int).toNat) (c := c0) hC15 (by omega) hroom15; obtain ⟨A15, hA15⟩ : ∃ A1, A1 = (if c0 = (1 : Int).toNat then (some ad212) else ((some ad212) : Option Addr).map (·.add ((1 : Int).toNat * 4))) := ⟨_, rfl⟩; obtain ⟨c15, hc15⟩ : ∃ c1, c1 = c0 - (1 : Int).toNat := ⟨_, rfl⟩; have hy15 : y214.length = l0.length - (1 : Int).toNat := (by rw [Ny214.out, List.length_drop] <;> omega); rw [show (l0).drop (1 : Int).toNat = y214 from Ny214.out.symm] at hr15; replace hr15 : Kd.C k63 _ A15 y214.length y214 := (by rw [hA15]; exact hr15); rw [← hy15, ← hA15, ← hc15] at hcut15; have HR217 := Aside0.mk hr15; have HC217 := am (show y214.length ≤ c15 from by rw [hy15, hc15]; exact Nat.sub_le_sub_right hroom15 _); clear hr15 hC15 hroom15 hi015 hsz15 hc15; have KY15 := Aside0.mk hy15; have KA15 := Aside0.mk hA15; clear hy15 hA15; replace q15 := eq_true q15) | ((with_reducible refine gate_callee (f := 55) rfl ?_); refine goesL_ (some 31) rfl rfl Try.func55 (by kernel_rfl) rfl #[.slice A15 y214.length c15, .int .i64 (wrap64 (a1 - x6_1))] rfl zd' ?_; (with_reducible refine (ih k1 (by have := HK1.out; omega) _ _ y214 (wrap64 (a1 - x6_1)) t218 _ ?side1 ?side2 A14.out).mono ?_); (case side1 => repeat (first | exact (Kd.C_below HR217.out za') | (with_reducible refine Kd.C_alloc ?_ _) | (with_reducible refine Kd.C_drewN ?_ _) | (with_reducible refine Kd.C_drew ?_))); (case side2 => exact HC217.out); rintro e w16 ⟨v219, rfl, ho0, hb⟩; refine ⟨_, rfl, ?_⟩; have n0_ := am (Kd.N_elder' ze2' (Kd.N_base ho0) hb); have n1_ := am (Kd.N_lower (Kd.N_mono (ok' := fun k_ => (w.heap.size ≤ k_) ∧ some k_ ≠ (u5 : Value).ownBlock) ho0 (fun k_ hk_ => ⟨(Nat.le_trans (below_size za') hk_), (Kd.fresh' (Kd.N_lt ze2') k_ hk_)⟩)) (below_size za')); have n2_ := am (below_step za' hb); clear HO_5; clear HB; have HO_5 := n0_; have HO220 := n1_; have HB := n2_; clear n0_ n1_ n2_; (try clear hb); (try clear hb2); (try clear hk); (try clear hi); (try clear ho0); obtain ⟨Ao17, co17, eo17⟩ := Kd.N_slice HO220.out; subst eo17))
       go_loopg [5, 33] k1 (fun kq v5 v33 w' => ∃ (x5_2 : List (List Int)) (x33_2 : Int), v33 = .int .i64 x33_2 ∧ Aside0 (spec_blAll.l1 kq l0 a1 x5_2 x6_1 t218 (t218.length : Int) x33_2 = some r) ∧ Aside0 (kq ≤ k1) ∧ Aside0 (Kd.N (Kd.slice 3 (Kd.int .i64)) 29 w' w.heap.size (fun k_ => (w.heap.size ≤ k_) ∧ some k_ ≠ ((.slice Ao17 t218.length co17) : Value).ownBlock) v5 x5_2) ∧ Aside0 (Kd.N (Kd.slice 3 (Kd.int .i64)) 29 w' w.heap.size (fun k_ => (w.heap.size ≤ k_) ∧ some k_ ≠ (v5 : Value).ownBlock) (.slice Ao17 t218.length co17) t218) ∧ Aside0 (Below w.heap.size w w'))
       case atStart => exact ⟨(x5_1), (0), zh', H', ⟨Nat.le_refl _⟩, ⟨ze2'⟩, ⟨by (with_reducible repeat (first | apply Kd.N_alloc | apply Kd.N_drewN | apply Kd.N_drew)); exact HO220.out⟩, ⟨za'⟩⟩
       case round =>
        clear H'; (try clear c1); (try clear q1); (try clear p2); (try clear q2); (try clear hx2); (try clear qi2); (try clear c3); (try clear c3b0); (try clear c3b1); (try clear c3b2); (try clear c4); (try clear c4b0); (try clear c4b1); (try clear c5); (try clear p6); (try clear c7); (try clear c10); (try clear c10b0); (try clear c10b1); (try clear c12); (try clear c12b0); (try clear c13); (try clear c13b0); (try clear c13b1); (try clear c15); (try clear q15); (try clear hx212_0); (try clear hx212_1); (try clear hx212_2); (try clear hx212_3); (try clear p2); (try clear p212); (try clear q15); (try clear q212); obtain ⟨x5_2, x33_2, rfl, HA, HK2, HO_5, HO_31, HB⟩ := hrel
        cases gk with
        | zero => exact absurd HA.out (by simp [spec_blAll.l1])
        | succ k2 =>
         have H := HA.out; clear HA; simp only [spec_blAll.l1] at H
         by_cases c18 : x33_2 < (t218.length : Int)
         ·rw [if_pos c18] at H
          have c18b0 : decide (x33_2 < (t218.length : Int)) = true := decide_eq_true c18; clear c18
          by_cases c19 : 0 ≤ x33_2
          ·rw [if_pos c19] at H
           have c19b0 : decide (0 ≤ x33_2) = true := decide_eq_true c19; clear c19
           by_cases c20 : x33_2 < (t218.length : Int)
           ·rw [if_pos c20] at H
            have c20b0 : decide (x33_2 < (t218.length : Int)) = true := decide_eq_true c20; clear c20
            obtain ⟨y222, hy222⟩ : ∃ y_ : List Int, y_ = (([x6_1] : List Int)) := ⟨_, rfl⟩
            replace H : (if y222.length + (rd_L7 t218 x33_2).length < 17592186044416 then (if x5_2.length < 5864062014805 then (spec_blAll.l1 k2 l0 a1 (x5_2 ++ [(y222 ++ (rd_L7 t218 x33_2))]) x6_1 t218 (t218.length : Int) (wrap64 (x33_2 + 1))) else (none)) else (none)) = some r := by first | (rw [hy222]; with_reducible exact H) | (have H2_ := (Option.bind_some _ _).symm.trans H; rw [hy222]; with_reducible exact H2_) | (have H2_ := (Option.bind_some _ _).symm.trans H; with_reducible exact H2_) | with_reducible exact H | (rw [hy222]; exact H) | exact H
            have Ny222 := Aside0.mk hy222; clear hy222
            by_cases c21 : y222.length + (rd_L7 t218 x33_2).length < 17592186044416
            ·rw [if_pos c21] at H
             have LMc21 := Aside0.mk c21; clear c21
             obtain ⟨y225, hy225⟩ : ∃ y_ : List Int, y_ = (y222 ++ (rd_L7 t218 x33_2)) := ⟨_, rfl⟩
             replace H : (if x5_2.length < 5864062014805 then (spec_blAll.l1 k2 l0 a1 (x5_2 ++ [y225]) x6_1 t218 (t218.length : Int) (wrap64 (x33_2 + 1))) else (none)) = some r := by first | (rw [hy225]; with_reducible exact H) | (have H2_ := (Option.bind_some _ _).symm.trans H; rw [hy225]; with_reducible exact H2_) | (have H2_ := (Option.bind_some _ _).symm.trans H; with_reducible exact H2_) | with_reducible exact H | (rw [hy225]; exact H) | exact H
             have Ny225 := Aside0.mk hy225; clear hy225
             by_cases c22 : x5_2.length < 5864062014805
             ·rw [if_pos c22] at H
              have LMc22 := Aside0.mk c22; clear c22
              obtain ⟨y228, hy228⟩ : ∃ y_ : List (List Int), y_ = (x5_2 ++ [y225]) := ⟨_, rfl⟩
              replace H : (spec_blAll.l1 k2 l0 a1 y228 x6_1 t218 (t218.length : Int) (wrap64 (x33_2 + 1))) = some r := by first | (rw [hy228]; with_reducible exact H) | (have H2_ := (Option.bind_some _ _).symm.trans H; rw [hy228]; with_reducible exact H2_) | (have H2_ := (Option.bind_some _ _).symm.trans H; with_reducible exact H2_) | with_reducible exact H | (rw [hy228]; exact H) | exact H
              have Ny228 := Aside0.mk hy228; clear hy228; have H' := Aside0.mk H; clear H; have p221 : 0 ≤ (x33_2 : Int) := odt; have q221 : x33_2 < (t218.length : Int) := odt; obtain ⟨ad221, A221_0, c221_0, e221, hx221_0, hl221_0, hi221_0⟩ := at_L7 (Kd.N_reads' HO_31.out).2.2 x33_2 p221 q221; cases e221; obtain ⟨ce221, hce221, hMe221, hcc221⟩ := Kd.N_get HO_31.out [] x33_2 p221 (by first | exact q221 | exact odt | (have e_ := (Kd.N_reads' HO_31.out).1; omega)); obtain ⟨ua221_0, uc221_0, rfl, ul221_0, ge221_0⟩ := Kd.FK_slice_open hMe221; have hv221_0 := hcc221 0 _ rfl; rw [Nat.add_zero, show ((Kd.slice 3 (Kd.int .i64))).sz = 1 from rfl, Nat.mul_one] at hv221_0; replace hv221_0 := Option.some.inj (hv221_0.symm.trans hx221_0)
              injection hv221_0 with hva_ hvn_ hvc_
              rw [hva_] at ge221_0; rw [hvc_] at ul221_0; have HL221_0 := am (show Kd.V (Kd.int .i64) 3 _ w.heap.size _ _ (rd_L7 t218 x33_2) from Kd.V_mk ul221_0 ge221_0); clear hva_ hvn_ hvc_ ge221_0 ul221_0; clear hcc221 hce221; have HR221_0 := Aside0.mk hi221_0; have HC221_0 := Aside0.mk hl221_0; clear hi221_0 hl221_0; replace p221 := eq_true p221; replace q221 := eq_true q221
              go_wp2_with (first | ((with_reducible refine gate_dst (N := 39) rfl ?_); refine Kd.R_lit (Kd.int .i64) _ 3 ?hg (N := 39) ?hd (xs := ([x6_1] : List Int)) (inner := [.int .i64 x6_1]) (ok := fun _ => True) (okp := fun _ => True) ?hr ?hp (fun _ hk => hk) trivial (Below.refl _ _) (Nat.le_refl _) (by simp) ?_; (case hd => rfl); (case hg => rfl); (case hr => exact zv'); (case hp => exact (Reps.one (show Kd.M (Kd.int .i64) _ _ _ x6_1 [.int .i64 x6_1] from rfl) (Reps.none _ _))); intro v223 w23 ho24 hb hg_ hnew_; clear hg_ hnew_; (first | rw [← Ny222.out] at ho24 | (simp only [Int.reduceToNat] at ho24; rw [← Ny222.out] at ho24)); have n0_ := am (Kd.N_elder' ze2' (Kd.R_base ho24) hb); have n1_ := am (Kd.N_elder' zy2' (Kd.R_base ho24) hb); have n2_ := am (Kd.V_elder' (by (with_reducible repeat (first | apply Kd.V_alloc | apply Kd.V_drewN | apply Kd.V_drew)); exact HL221_0.out) (Kd.R_base ho24) hb); have n3_ := am (Kd.R_lower (Kd.R_newM (M := fun k_ => (w.heap.size ≤ k_)) ho24 (below_size za') (fun k_ h_ => h_)) (below_size za')); have n4_ := am (Kd.C_below zz2' hb); have n5_ := am (below_step za' hb); clear HO_5; clear HO_31; clear HL221_0; clear HR221_0; clear HB; have HO_5 := n0_; have HO_31 := n1_; have HL221_0 := n2_; have HO224 := n3_; have HR221_0 := n4_; have HB := n5_; clear n0_ n1_ n2_ n3_ n4_ n5_; clear hb ho24) | ((with_reducible refine gate_builtin (b := .append) (xs := #[.tmp 39, .tmp 40]) rfl ?_); at_builtin; refine Kd.R_append_rows (Kd.int .i64) (w0 := w) w.heap.size rfl (.tmp 39) (.tmp 40) 29 3 (.int .i64 0) 8 rfl Try.underlying29 info3 rfl (by decide) (by omega) v223 y222 (rd_L7 t218 x33_2) _ _ _ (fun k_ => (w.heap.size ≤ k_)) (fun _ => False) rfl rfl ?aO ?aR (fun _ _ h => h) (fun _ h => h.elim) ?aF ?aB ?aS ?aL ?_; (case aR => repeat (first | exact zz2' | (with_reducible refine Kd.C_alloc ?_ _) | (with_reducible refine Kd.C_drewN ?_ _) | (with_reducible refine Kd.C_drew ?_))); (case aB => exact za'); (case aF => exact (fun k_ hk => (Nat.le_trans (below_size za') hk))); (case aO => exact (by (with_reducible repeat (first | apply Kd.R_alloc | apply Kd.R_drewN | apply Kd.R_drew)); exact Kd.R_mono HO224.out (fun _ hk => hk.1))); (case aS => exact (below_size za')); (case aL => have := LMc21.out; omega); intro v226 w25 ho hb hg hat; rw [← Ny225.out] at ho; have n0_ := am (Kd.N_afterv (ok := (fun k_ => (w.heap.size ≤ k_) ∧ some k_ ≠ (.slice (some ad221) t218.length co17 : Value).ownBlock)) ze2' hg hat); have n1_ := am (Kd.N_afterv (ok := (fun k_ => (w.heap.size ≤ k_) ∧ some k_ ≠ (u5 : Value).ownBlock)) zy2' hg hat); have n2_ := am (Kd.V_afterv (ok := (fun k_ => (w.heap.size ≤ k_) ∧ some k_ ≠ (u5 : Value).ownBlock ∧ some k_ ≠ (.slice (some ad221) t218.length co17 : Value).ownBlock)) (by (with_reducible repeat (first | apply Kd.V_alloc | apply Kd.V_drewN | apply Kd.V_drew)); exact Kd.V_mono HL221_0.out (fun _ hk => ⟨⟨hk.1.1.1, ⟨hk.1.1.2, hk.1.2⟩⟩, hk.2⟩)) hg hat); have n3_ := am (hb); have n4_ := am (ho); clear HO_5; clear HO_31; clear HL221_0; clear HB; clear HO224; have HO_5 := n0_; have HO_31 := n1_; have HL221_0 := n2_; have HB := n3_; have HO227 := n4_; clear n0_ n1_ n2_ n3_ n4_; clear ho hb hg hat; obtain ⟨Ao27, co27, eo27⟩ := Kd.R_slice HO227.out; subst eo27) | ((with_reducible refine gate_builtin (b := .append) (xs := #[.tmp 37, .tmp 42]) rfl ?_); at_builtin; refine Kd.N_append (Kd.slice 3 (Kd.int .i64)) (w0 := w) w.heap.size rfl (.tmp 37) (.tmp 42) 78 29 (.slice none 0 0) 24 rfl Try.underlying78 info29 rfl (by decide) (by omega) u5 x5_2 y225 [.slice Ao27 y225.length co27] (fun k_ => (w.heap.size ≤ k_) ∧ some k_ ≠ (.slice (some ad221) t218.length co17 : Value).ownBlock) (fun k_ => ((fun k_ => (w.heap.size ≤ k_) ∧ some k_ ≠ (.slice (some ad221) t218.length co17 : Value).ownBlock)) k_ ∧ some k_ ≠ (u5 : Value).ownBlock) rfl rfl ?aP (fun _ hk => hk) ?aF ?aO ?aB ?aS ?aL ?_; (case aP => exact (Kd.FK_slice_mk (Kd.R_reads' (Kd.R_mono (ok' := (fun k_ => ((fun k_ => (w.heap.size ≤ k_) ∧ some k_ ≠ (.slice (some ad221) t218.length co17 : Value).ownBlock)) k_ ∧ some k_ ≠ (u5 : Value).ownBlock)) (Kd.R_apart' (Kd.R_apart' (HO227.out) (Kd.N_typed HO_31.out) (by decide)) (Kd.N_typed HO_5.out) (by decide)) (fun k_ hk => ⟨⟨hk.1.1, hk.1.2⟩, hk.2⟩))).2.1 (Kd.R_F (Kd.R_mono (ok' := (fun k_ => ((fun k_ => (w.heap.size ≤ k_) ∧ some k_ ≠ (.slice (some ad221) t218.length co17 : Value).ownBlock)) k_ ∧ some k_ ≠ (u5 : Value).ownBlock)) (Kd.R_apart' (Kd.R_apart' (HO227.out) (Kd.N_typed HO_31.out) (by decide)) (Kd.N_typed HO_5.out) (by decide)) (fun k_ hk => ⟨⟨hk.1.1, hk.1.2⟩, hk.2⟩))))); (case aB => exact za'); (case aF => exact (fun k_ hk => ⟨(Nat.le_trans (below_size za') hk), Kd.fresh' (Kd.N_lt zy2') k_ hk⟩)); (case aO => exact (by (with_reducible repeat (first | apply Kd.N_alloc | apply Kd.N_drewN | apply Kd.N_drew)); exact Kd.N_mono HO_5.out (fun _ hk => ⟨hk.1.1, hk.1.2⟩))); (case aS => exact (below_size za')); (case aL => have := LMc22.out; omega); intro v229 w26 ho hb hg hat; rw [← Ny228.out] at ho; have n0_ := am (Kd.N_afterv (ok := (fun k_ => (w.heap.size ≤ k_) ∧ some k_ ≠ (.slice Ao27 y225.length co27 : Value).ownBlock)) (by (with_reducible repeat (first | apply Kd.N_alloc | apply Kd.N_drewN | apply Kd.N_drew)); exact Kd.N_mono HO_31.out (fun _ hk => ⟨⟨hk.1.1, hk.2⟩, hk.1.2⟩)) hg hat); have n1_ := am (Kd.V_afterv (ok := (fun k_ => (w.heap.size ≤ k_) ∧ some k_ ≠ (.slice (some ad221) t218.length co17 : Value).ownBlock ∧ some k_ ≠ (.slice Ao27 y225.length co27 : Value).ownBlock)) (by (with_reducible repeat (first | apply Kd.V_alloc | apply Kd.V_drewN | apply Kd.V_drew)); exact Kd.V_mono HL221_0.out (fun _ hk => ⟨⟨hk.1.1, ⟨hk.1.2.2, hk.2⟩⟩, hk.1.2.1⟩)) hg hat); have n2_ := am (hb); have n3_ := am (ho); clear HO_31; clear HL221_0; clear HB; clear HO_5; clear HO227; have HO_31 := n0_; have HL221_0 := n1_; have HB := n2_; have HO230 := n3_; clear n0_ n1_ n2_ n3_; clear ho hb hg hat))
              go_roundg k2
              case measure => have := HK1.out; have := HK2.out; omega
              case rel => exact ⟨(y228), (wrap64 (x33_2 + 1)), zh', H', ⟨by have := HK1.out; have := HK2.out; omega⟩, ⟨by (with_reducible repeat (first | apply Kd.N_alloc | apply Kd.N_drewN | apply Kd.N_drew)); exact HO230.out⟩, ⟨by (with_reducible repeat (first | apply Kd.N_alloc | apply Kd.N_drewN | apply Kd.N_drew)); exact Kd.N_mono HO_31.out (fun _ hk => ⟨hk.1.1, hk.2⟩)⟩, ⟨za'⟩⟩
             ·rw [if_neg c22] at H
              exact absurd H (by simp)
            ·rw [if_neg c21] at H
             exact absurd H (by simp)
           ·rw [if_neg c20] at H
            exact absurd H (by simp)
          ·rw [if_neg c19] at H
           exact absurd H (by simp)
         ·rw [if_neg c18] at H
          have c18b0 : decide (x33_2 < (t218.length : Int)) = false := decide_eq_false c18; clear c18; have H' := Aside0.mk H; clear H
          go_wp2
          go_roundg k2
          case measure => have := HK1.out; have := HK2.out; omega
          case rel => exact ⟨(x5_2), (wrap64 (x6_1 + 1)), zh', H', ⟨by have := HK1.out; have := HK2.out; omega⟩, ⟨by (with_reducible repeat (first | apply Kd.N_alloc | apply Kd.N_drewN | apply Kd.N_drew)); exact Kd.N_mono HO_5.out (fun _ hk => hk.1)⟩, ⟨za'⟩⟩
      ·rw [if_neg c13] at H
       exact absurd H (by simp)
     ·rw [if_neg c12] at H
      have c12b0 : decide (x6_1 ≤ t213) = false := decide_eq_false c12; clear c12; obtain rfl := Option.some.inj H; have p212 : 0 ≤ (0 : Int) := (by omega); have q212 : 0 < (l0.length : Int) := odt; obtain ⟨ad212, e212, hx212_0, hx212_1, hx212_2, hx212_3⟩ := at_T63 HR0.out 0 p212 q212; cases e212; have qi212 : (0 < l0.length) = True := eq_true (by omega); (try rw [show ((0 : Int)).toNat = 0 from rfl] at hx212_0); (try rw [show 0 * 4 = 0 from rfl] at hx212_0); (try rw [Addr.add_zero'] at hx212_0); (try rw [show ((0 : Int)).toNat = 0 from rfl] at hx212_1); (try rw [show 0 * 4 = 0 from rfl] at hx212_1); (try rw [Addr.add_zero'] at hx212_1); (try rw [show ((0 : Int)).toNat = 0 from rfl] at hx212_2); (try rw [show 0 * 4 = 0 from rfl] at hx212_2); (try rw [Addr.add_zero'] at hx212_2); (try rw [show ((0 : Int)).toNat = 0 from rfl] at hx212_3); (try rw [show 0 * 4 = 0 from rfl] at hx212_3); (try rw [Addr.add_zero'] at hx212_3)
      try replace hx212_0 := (HB.out.cell (World.block_lt_of_cell? w _ hx212_0)).trans hx212_0
      try replace hx212_1 := (HB.out.cell (World.block_lt_of_cell? w _ hx212_1)).trans hx212_1
      try replace hx212_2 := (HB.out.cell (World.block_lt_of_cell? w _ hx212_2)).trans hx212_2
      try replace hx212_3 := (HB.out.cell (World.block_lt_of_cell? w _ hx212_3)).trans hx212_3
      replace p212 := eq_true p212; replace q212 := eq_true q212
      go_wp2_with (first | ((with_reducible refine gate_callee (f := 78) rfl ?_); refine goesL_ (some 22) rfl rfl Try.func78 (by kernel_rfl) rfl #[.int .i64 a1, .int .i64 ((rd_T63 l0 0).f0)] rfl zd' ?_; (with_reducible refine (spec_l1Least.calls a1 ((rd_T63 l0 0).f0) t213 _ A11.out).mono ?_); rintro e w' ⟨rfl, ⟨nd, rfl⟩⟩; refine ⟨_, rfl, ?_⟩))
      go_ret
      exact ⟨_, by first | rfl | (simp [errW_none, errW_some] <;> rfl) | (simp [*, errW_none, errW_some] <;> rfl), by (with_reducible repeat (first | apply Kd.N_alloc | apply Kd.N_drewN | apply Kd.N_drew)); exact HO_5.out, by repeat (first | (with_reducible first | exact HB.out | apply ba | apply bn | apply below_drew1) | exact HB.out)⟩
    ·rw [if_neg c10] at H
     exact absurd H (by simp)

end Go.Proofs.Ytcinecbfkeefaaa.PFnBins
