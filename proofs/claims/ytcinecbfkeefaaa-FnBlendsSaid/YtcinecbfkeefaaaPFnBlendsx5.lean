/- Text written by a program for this claim: contracts of the functions of one law. -/
import Derived.Test.YtcinecbfkeefaaaPFnBlendsx0
import Derived.Test.YtcinecbfkeefaaaPFnBlendsx1
import Derived.Test.YtcinecbfkeefaaaPFnBlendsx2
import Derived.Test.YtcinecbfkeefaaaPFnBlendsx3
import Derived.Test.YtcinecbfkeefaaaPFnBlendsx4
namespace Go.Proofs.Ytcinecbfkeefaaa.PFnBlends
open Go.RowKit Go.Proofs.YtcinecbfkeefaaaW.PrintWords Go.Proofs.YtcinecbfkeefaaaW.PrintLast Go.Proofs.YtcinecbfkeefaaaW.PrintMore
attribute [local go_sem] max2_int min2_int max_two min_two max_three min_three max_four min_four   -- for this text's walks alone
set_option linter.unusedVariables false
set_option linter.unusedSimpArgs false
open ShortPFnBlends0

/-! ### impl_CountBlends: function 25 -/
/-- The rounds over the units of a bin: n, n + 1, .. -/
def partK {σ : Type} (rec : Int → List Int → σ → Option (List Int × σ)) (i : Nat) (left : Int) : Nat → Nat → List Int → σ → Option (List Int × σ)
 | 0, _, M, s => some (M, s)
 | e + 1, n, M, s => (rec (left - (n : Int)) (M.set i (n : Int)) s).bind fun q => partK rec i left e (n + 1) q.1 q.2
def partF {σ : Type} (l : List S63) (step : σ → List Int → Option σ) : Nat → Int → List Int → σ → Option (List Int × σ)
 | 0, left, M, s => if left = 0 then (step s M).bind fun s' => some (M, s') else some (M, s)
 | d + 1, left, M, s => (partK (partF l step d) (l.length - (d + 1)) left (mn left (rd_T63 l ((l.length - (d + 1) : Nat) : Int)).f0 + 1).toNat 0 M s).bind fun q => some (q.1.set (l.length - (d + 1)) 0, q.2)
def partFill.f {σ : Type} := @partF σ
/-- The variables of a filling, in the blocks from B on. -/
structure FillEnv (B n : Nat) (A0 : Option Addr) (c0 : Nat) (cv : Value) (W : World) (M : List Int) : Prop where
 hl : W.heap[B]? = some (.cells #[.slice A0 n c0] 31 (0, 0))
 hc : W.heap[B + 1]? = some (.cells #[cv] 84 (0, 0))
 hM : W.heap[B + 2]? = some (.cells (nums .i64 M).toArray 3 (0, 0))
 hm : W.heap[B + 3]? = some (.cells #[.slice (some ⟨B + 2, 0, none⟩) n n] 29 (0, 0))
 hf : W.heap[B + 4]? = some (.cells #[.func (.func 80) #[] #[.pointer (some ⟨B, 0, none⟩), .pointer (some ⟨B + 1, 0, none⟩), .pointer (some ⟨B + 3, 0, none⟩), .pointer (some ⟨B + 4, 0, none⟩)]] 102 (0, 0))
 lM : M.length = n
section
variable {B n : Nat} {A0 : Option Addr} {c0 : Nat} {cv : Value} {W W' : World} {M : List Int}
theorem FillEnv.kept {S : Nat → Prop} (E : FillEnv B n A0 c0 cv W M) (h : Kept W W' S) (hS : ∀ k, S k → k < B) : FillEnv B n A0 c0 cv W' M where
 hl := blk_kept E.hl h (fun hk => by have := hS _ hk; omega)
 hc := blk_kept E.hc h (fun hk => by have := hS _ hk; omega)
 hM := blk_kept E.hM h (fun hk => by have := hS _ hk; omega)
 hm := blk_kept E.hm h (fun hk => by have := hS _ hk; omega)
 hf := blk_kept E.hf h (fun hk => by have := hS _ hk; omega)
 lM := E.lM
theorem FillEnv.setM (E : FillEnv B n A0 c0 cv W M) (i : Nat) (x : Int) : FillEnv B n A0 c0 cv (W.setCell ⟨B + 2, i, none⟩ (.int .i64 x)) (M.set i x) where
 hl := blk_far E.hl (by simp) _
 hc := blk_far E.hc (by simp) _
 hM := by rw [blk_set E.hM]; simp [nums, List.map_set]
 hm := blk_far E.hm (by simp) _
 hf := blk_far E.hf (by simp) _
 lM := by rw [List.length_set]; exact E.lM
theorem FillEnv.cells (E : FillEnv B n A0 c0 cv W M) : W.cell? ⟨B, 0, none⟩ = some (.slice A0 n c0) ∧ W.cell? ⟨B + 1, 0, none⟩ = some cv ∧ W.cell? ⟨B + 3, 0, none⟩ = some (.slice (some ⟨B + 2, 0, none⟩) n n) ∧ W.cell? ⟨B + 4, 0, none⟩ = some (.func (.func 80) #[] #[.pointer (some ⟨B, 0, none⟩), .pointer (some ⟨B + 1, 0, none⟩), .pointer (some ⟨B + 3, 0, none⟩), .pointer (some ⟨B + 4, 0, none⟩)]) :=
 ⟨(blk_cell E.hl 0).trans rfl, (blk_cell E.hc 0).trans rfl, (blk_cell E.hm 0).trans rfl, (blk_cell E.hf 0).trans rfl⟩
theorem FillEnv.atM (E : FillEnv B n A0 c0 cv W M) (k : Nat) (hk : k < n) : W.cell? ⟨B + 2, k, none⟩ = some (.int .i64 (M.getD k 0)) ∧ W.frozen? ⟨B + 2, k, none⟩ = false := by
 have hl := E.lM
 refine ⟨?_, blk_frozen E.hM _⟩
 rw [blk_cell E.hM]
 simp [nums, List.getD_eq_getElem?_getD, List.getElem?_eq_getElem (show k < M.length by omega)]
theorem FillEnv.reads (E : FillEnv B n A0 c0 cv W M) (hn : n ≤ 9223372036854775807) : (Kd.int .i64).C W (some ⟨B + 2, 0, none⟩) M.length M := by
 refine Kd.C_of_reads (d := (0 : Int)) (h1 := fun _ => rfl) ⟨rfl, by rw [E.lM]; exact hn, fun _ => ⟨_, rfl, fun j hj => ?_⟩⟩
 rw [add_plain]
 exact (E.atM j (by have := E.lM; omega)).1
theorem FillEnv.made (W : World) (n : Nat) (A0 : Option Addr) (c0 : Nat) (cv : Value) : FillEnv W.heap.size n A0 c0 cv
  (((((W.alloc (.cells #[.slice A0 n c0] 31)).alloc (.cells #[cv] 84)).alloc (.cells (madeCells #[.int .i64 0] n) 3)).alloc (.cells #[.slice (some ⟨W.heap.size + 1 + 1, 0, none⟩) n n] 29)).alloc (.cells #[.func (.func 80) #[] #[.pointer (some ⟨W.heap.size, 0, none⟩), .pointer (some ⟨W.heap.size + 1, 0, none⟩), .pointer (some ⟨W.heap.size + 1 + 1 + 1, 0, none⟩), .pointer (some ⟨W.heap.size + 1 + 1 + 1 + 1, 0, none⟩)]] 102)) (List.replicate n 0) := by
 have e1 : (madeCells #[Value.int .i64 0] n) = (nums .i64 (List.replicate n 0)).toArray := by
  apply Array.ext'
  simp only [nums, List.map_replicate]
  apply List.ext_getElem
  ·simp [madeCells]
  ·intro i h1 h2
   simp [madeCells, Nat.mod_one]
 rw [e1]
 have z1 := size_al (.cells #[.slice A0 n c0] 31) (rfl : W.heap.size = W.heap.size)
 have z2 := size_al (.cells #[cv] 84) z1
 have z3 := size_al (.cells (nums .i64 (List.replicate n 0)).toArray 3) z2
 have z4 := size_al (.cells #[.slice (some ⟨W.heap.size + 1 + 1, 0, none⟩) n n] 29) z3
 exact ⟨blk_alloc (blk_alloc (blk_alloc (blk_alloc (blk_new _ _) _) _) _) _,
  blk_alloc (blk_alloc (blk_alloc (blk_here _ z1) _) _) _,
  blk_alloc (blk_alloc (blk_here _ z2) _) _,
  blk_alloc (blk_here _ z3) _,
  blk_here _ z4, by simp⟩
end

section
variable {σ : Type} (step : σ → List Int → Option σ) (Inv : σ → World → Prop) (okc : Nat → Prop) (b0 : Nat) (w0 : World) (B n q0 q1 q2 : Nat)
/-- What is asked of the function that is called. -/
def CallOk3 : Prop := ∀ (s s' : σ) (m : List Int) (A : Option Addr) (c : Nat) (W : World), step s m = some s' → m.length = n → (Kd.int .i64).C W A m.length m → m.length ≤ c → Inv s W → Below b0 w0 W → B + 5 ≤ W.heap.size →
 Calls Try.prog 59 #[.slice A n c, .pointer (some ⟨q0, 0, none⟩), .pointer (some ⟨q1, 0, none⟩), .pointer (some ⟨q2, 0, none⟩)] W fun e W' => e = .returned (.tuple #[]) ∧ Inv s' W' ∧ Kept W W' okc ∧ Below b0 w0 W'
/-- What stands at each moment of the filling. -/
structure FillSt3 (A0 : Option Addr) (c0 : Nat) (W : World) (M : List Int) (s : σ) : Prop where
 E : FillEnv B n A0 c0 (.func (.func 59) #[] #[.pointer (some ⟨q0, 0, none⟩), .pointer (some ⟨q1, 0, none⟩), .pointer (some ⟨q2, 0, none⟩)]) W M
 I : Inv s W
 bel : Below b0 w0 W
variable {step Inv okc b0 w0 B n q0 q1 q2}
theorem FillSt3.size {A0 : Option Addr} {c0 : Nat} {W : World} {M} {s : σ} (h : FillSt3 Inv b0 w0 B n q0 q1 q2 A0 c0 W M s) : B + 5 ≤ W.heap.size := by have := blk_lt h.E.hf; omega
theorem FillSt3.setM {A0 : Option Addr} {c0 : Nat} {W : World} {M} {s : σ} (h : FillSt3 Inv b0 w0 B n q0 q1 q2 A0 c0 W M s) (hI : ∀ s W W', Inv s W → Kept W W' (fun k => k = B + 2) → Inv s W') (hb : b0 ≤ B) (i : Nat) (x : Int) :
  FillSt3 Inv b0 w0 B n q0 q1 q2 A0 c0 (W.setCell ⟨B + 2, i, none⟩ (.int .i64 x)) (M.set i x) s where
 E := h.E.setM i x
 I := hI _ _ _ h.I ((Kept.refl W (fun k => k = B + 2)).setCell (.inl rfl) _)
 bel := h.bel.setCell (by simp; omega) _
def FillPost3 (Inv : σ → World → Prop) (b0 : Nat) (w0 : World) (B n q0 q1 q2 : Nat) (A0 : Option Addr) (c0 : Nat) (okc : Nat → Prop) (W : World) (M' : List Int) (s' : σ) (W' : World) : Prop := FillSt3 Inv b0 w0 B n q0 q1 q2 A0 c0 W' M' s' ∧ Kept W W' (fun k => k = B + 2 ∨ okc k)
set_option maxHeartbeats 8000000 in
set_option maxRecDepth 100000 in
theorem fill_calls3 {A0 : Option Addr} {c0 : Nat} (l : List S63) (hln : l.length = n) (hr : Kd.C k63 w0 A0 l.length l) (hbw : b0 = w0.heap.size) (hn : n ≤ 1048576) (hb : b0 ≤ B) (hI : ∀ s W W', Inv s W → Kept W W' (fun k => k = B + 2) → Inv s W') (hokc : ∀ k, okc k → k < B) (HCB : CallOk3 step Inv okc b0 w0 B n q0 q1 q2) : ∀ (d i : Nat), i + d = n → ∀ (left : Int), 0 ≤ left → left ≤ 1000 → ∀ (M : List Int) (s : σ) (M' : List Int) (s' : σ) (W : World), partF l step d left M s = some (M', s') → FillSt3 Inv b0 w0 B n q0 q1 q2 A0 c0 W M s →
  Calls Try.prog 80 #[.int .i64 (i : Int), .int .i64 left, .pointer (some ⟨B, 0, none⟩), .pointer (some ⟨B + 1, 0, none⟩), .pointer (some ⟨B + 3, 0, none⟩), .pointer (some ⟨B + 4, 0, none⟩)] W fun e W' => e = .returned (.tuple #[]) ∧ FillPost3 Inv b0 w0 B n q0 q1 q2 A0 c0 okc W M' s' W' := by
 subst hbw
 have HH := Aside0.mk hI
 have HK := Aside0.mk hokc
 have HC := Aside0.mk HCB
 have HR := Aside0.mk hr
 have HL := Aside0.mk hln
 clear hI hokc HCB hr hln
 intro d
 induction d with
 | zero =>
  intro i hi left hl0 hl1 M s M' s' W h S
  obtain rfl : i = n := by omega
  have HS := Aside0.mk S
  obtain ⟨hc1, hc2, hc3, hc4⟩ := S.E.cells
  simp only [partF] at h
  by_cases hz : left = 0
  ·rw [if_pos hz] at h
   obtain ⟨s1, h1, h2⟩ := Option.bind_eq_some_iff.1 h; simp only [Option.some.injEq, Prod.mk.injEq] at h2; obtain ⟨rfl, rfl⟩ := h2; have H1 := Aside0.mk h1; subst hz; clear h h1 hc4 S hl0 hl1
   go_enter Try.func80, Try.ntmps80
   go_wp2_with fail
   refine (HC.out _ _ _ _ _ _ H1.out HS.out.E.lM (HS.out.E.reads (by omega)) (by rw [HS.out.E.lM]; exact Nat.le_refl _) HS.out.I HS.out.bel HS.out.size).mono ?_
   rintro e W1 ⟨rfl, h3, h4, h5⟩
   have HP : Aside0 (FillPost3 Inv w0.heap.size w0 B i q0 q1 q2 A0 c0 okc W M s1 W1) := ⟨⟨HS.out.E.kept h4 HK.out, h3, h5⟩, h4.mono (fun k hk => .inr hk)⟩; clear h3 h4 h5
   go_wp2
   refine bodyPost_ret (results_none rfl _ _ _) rfl ?_
   exact ⟨rfl, HP.out⟩
  ·rw [if_neg hz] at h
   simp only [Option.some.injEq, Prod.mk.injEq] at h; obtain ⟨rfl, rfl⟩ := h; have hzb : (left == 0) = false := beq_eq_false_iff_ne.2 hz; clear hz hc2 hc3 hc4 S hl0 hl1
   go_enter Try.func80, Try.ntmps80
   go_wp2
   refine bodyPost_ret (results_none rfl _ _ _) rfl ?_
   exact ⟨rfl, HS.out, Kept.refl _ _⟩
 | succ d ih =>
  intro i hi left hl0 hl1 M s M' s' W h S
  have HS := Aside0.mk S
  have hne : ((i : Int) == (n : Int)) = false := by rw [beq_eq_false_iff_ne]; omega
  have hln := HL.out
  have hi0 : l.length - (d + 1) = i := by omega
  simp only [partF] at h
  rw [hi0] at h
  obtain ⟨⟨M9, s9⟩, h1, h2⟩ := Option.bind_eq_some_iff.1 h
  simp only [Option.some.injEq, Prod.mk.injEq] at h2
  obtain ⟨rfl, rfl⟩ := h2
  have hlt : i < n := by omega
  obtain ⟨ad0, e0, hy0, hy1, hy2, hy3⟩ := at_T63 HR.out (i : Int) (by omega) (by omega)
  subst e0
  rw [Int.toNat_natCast] at hy0
  obtain ⟨u, hu⟩ : ∃ u, u = (rd_T63 l (i : Int)).f0 := ⟨_, rfl⟩
  rw [← hu] at h1 hy0
  obtain ⟨T, hT⟩ : ∃ T, T = (mn left u + 1).toNat := ⟨_, rfl⟩
  rw [← hT] at h1
  have HY := Aside0.mk hy0
  have HT := Aside0.mk hT
  have H' := Aside0.mk h1
  have IH := Aside0.mk ih
  have HI := Aside0.mk hi
  have H0 := Aside0.mk hl0
  have HT2 : Aside0 (mn left u ≤ left) := ⟨by unfold mn; split <;> omega⟩
  obtain ⟨hc1, hc2, hc3, hc4⟩ := S.E.cells
  clear h h1 S hi0 hc2 hc3 hc4 ih hi hy0 hy1 hy2 hy3 hu hT hln
  go_enter Try.func80, Try.ntmps80
  go_wp2
  go_loopg [8] T (fun kq v8 w' => ∃ (m : Nat) (M1 : List Int) (s1 : σ), v8 = .int .i64 (m : Int) ∧ Aside0 (m + kq = T) ∧ Aside0 (partK (partF l step d) i left kq m M1 s1 = some (M9, s9)) ∧ Aside0 (FillPost3 Inv w0.heap.size w0 B n q0 q1 q2 (some ad0) c0 okc W M1 s1 w'))
  case atStart => exact ⟨0, M, s, rfl, ⟨Nat.zero_add _⟩, H', ⟨HS.out, Kept.refl _ _⟩⟩
  case round =>
   clear H' HS hc1; obtain ⟨m, M1, s1, rfl, HN, HA, HP⟩ := hrel; obtain ⟨hc1, hc2, hc3, hc4⟩ := HP.out.1.E.cells; have hy : wr.cell? (ad0.add (i * 4)) = some (.int .i64 u) := (HP.out.1.bel.cell (World.block_lt_of_cell? w0 _ HY.out)).trans HY.out; obtain ⟨hcm, hfm⟩ := HP.out.1.E.atM i hlt; have HUL : Aside0 ((u < left ∧ mn left u = u) ∨ (left ≤ u ∧ mn left u = left)) := ⟨by unfold mn; split <;> omega⟩
   cases gk with
   | zero =>
    have H := HA.out; simp only [partK, Option.some.injEq, Prod.mk.injEq] at H; obtain ⟨rfl, rfl⟩ := H; clear HA; have HZ : Aside0 (FillPost3 Inv w0.heap.size w0 B n q0 q1 q2 (some ad0) c0 okc W (M1.set i 0) s1 (wr.setCell ⟨B + 2, i, none⟩ (.int .i64 0))) := ⟨HP.out.1.setM HH.out hb i 0, HP.out.2.setCell (.inl (.inl rfl)) _⟩
    rcases HUL.out with ⟨h5, h6⟩ | ⟨h5, h6⟩
    ·have hb1 : decide ((m : Int) ≤ u) = false := decide_eq_false (by have := HN.out; have := HT.out; omega)
     clear h6
     go_wp2
     refine bodyPost_end (results_none rfl _ _ _) rfl ?_
     exact ⟨rfl, HZ.out⟩
    ·have hb1 : decide ((m : Int) ≤ left) = false := decide_eq_false (by have := HN.out; have := HT.out; omega)
     clear h6
     go_wp2
     refine bodyPost_end (results_none rfl _ _ _) rfl ?_
     exact ⟨rfl, HZ.out⟩
   | succ k1 =>
    have hm1 : (m : Int) ≤ mn left u := by have := HN.out; have := HT.out; omega
    have hml : (m : Int) ≤ left := by have := HT2.out; omega
    have H := HA.out; clear HA; simp only [partK] at H; obtain ⟨⟨M2, s2⟩, h1, h2⟩ := Option.bind_eq_some_iff.1 H; have H1 := Aside0.mk h1; have H' := Aside0.mk h2; have S2 := am (HP.out.1.setM HH.out hb i (m : Int)); have HK2 : Aside0 (Kept W (wr.setCell ⟨B + 2, i, none⟩ (.int .i64 (m : Int))) (fun k => k = B + 2 ∨ okc k)) := ⟨HP.out.2.setCell (.inl (.inl rfl)) _⟩; clear H h1 h2
    rcases HUL.out with ⟨h5, h6⟩ | ⟨h5, h6⟩
    ·have hb1 : decide ((m : Int) ≤ u) = true := decide_eq_true (by omega)
     clear h6 hm1
     have q1 : ((i : Int) + 1) = ((i + 1 : Nat) : Int) := by omega
     have Q1 := Aside0.mk q1; clear q1
     go_wp2_with (go_at_call 80; rw [Q1.out]; refine (IH.out (i + 1) (by have := HI.out; omega) (left - (m : Int)) (by omega) (by omega) _ _ _ _ _ H1.out S2.out).mono ?_; rintro e W1 ⟨rfl, h3⟩; have HQ : Aside0 (FillPost3 Inv w0.heap.size w0 B n q0 q1 q2 (some ad0) c0 okc W M2 s2 W1) := ⟨h3.1, HK2.out.then_ h3.2 (fun k hk => .inl hk)⟩; clear h3)
     go_roundg k1
     case measure => omega
     case rel => exact ⟨m + 1, M2, s2, by go_num, ⟨by have := HN.out; omega⟩, H', HQ⟩
    ·have hb1 : decide ((m : Int) ≤ left) = true := decide_eq_true (by omega)
     clear h6 hm1
     have q1 : ((i : Int) + 1) = ((i + 1 : Nat) : Int) := by omega
     have Q1 := Aside0.mk q1; clear q1
     go_wp2_with (go_at_call 80; rw [Q1.out]; refine (IH.out (i + 1) (by have := HI.out; omega) (left - (m : Int)) (by omega) (by omega) _ _ _ _ _ H1.out S2.out).mono ?_; rintro e W1 ⟨rfl, h3⟩; have HQ : Aside0 (FillPost3 Inv w0.heap.size w0 B n q0 q1 q2 (some ad0) c0 okc W M2 s2 W1) := ⟨h3.1, HK2.out.then_ h3.2 (fun k hk => .inl hk)⟩; clear h3)
     go_roundg k1
     case measure => omega
     case rel => exact ⟨m + 1, M2, s2, by go_num, ⟨by have := HN.out; omega⟩, H', HQ⟩
set_option maxHeartbeats 8000000 in
set_option maxRecDepth 100000 in
theorem each_calls3 {A0 : Option Addr} {c0 : Nat} (l : List S63) (W : World) (hr : Kd.C k63 w0 A0 l.length l) (hbw : b0 = w0.heap.size) (hn : l.length ≤ 1048576) (hb : b0 ≤ W.heap.size) (hI : ∀ s W1 W', Inv s W1 → Kept W1 W' (fun k => k = W.heap.size + 2) → Inv s W') (hokc : ∀ k, okc k → k < W.heap.size) (HCB : CallOk3 step Inv okc b0 w0 W.heap.size l.length q0 q1 q2) (units : Int) (hu0 : 0 ≤ units) (hu1 : units ≤ 1000) (s : σ) (M' : List Int) (s' : σ) (h : partF l step l.length units (List.replicate l.length 0) s = some (M', s')) (hi : Inv s W) (hB : Below b0 w0 W) :
  Calls Try.prog 58 #[.slice A0 l.length c0, .int .i64 units, .func (.func 59) #[] #[.pointer (some ⟨q0, 0, none⟩), .pointer (some ⟨q1, 0, none⟩), .pointer (some ⟨q2, 0, none⟩)]] W fun e W' => e = .returned (.tuple #[]) ∧ Inv s' W' ∧ Kept W W' okc ∧ Below b0 w0 W' := by
 have HR := Aside0.mk hr
 have HH := Aside0.mk hI
 have HK := Aside0.mk hokc
 have HC := Aside0.mk HCB
 have H := Aside0.mk h
 have HI := Aside0.mk hi
 have HB := Aside0.mk hB
 have HW := Aside0.mk hbw
 have hmk1 := print_make (P := Try.prog) 29 3 .i64 8 Try.underlying29 info3 (by omega) l.length (by omega)
 clear hr hI hokc HCB h hi hB hbw
 go_enter Try.func58, Try.ntmps58
 have hE := FillEnv.made W l.length A0 c0 (.func (.func 59) #[] #[.pointer (some ⟨q0, 0, none⟩), .pointer (some ⟨q1, 0, none⟩), .pointer (some ⟨q2, 0, none⟩)])
 have hal : Kept W (((((W.alloc (.cells #[.slice A0 l.length c0] 31)).alloc (.cells #[.func (.func 59) #[] #[.pointer (some ⟨q0, 0, none⟩), .pointer (some ⟨q1, 0, none⟩), .pointer (some ⟨q2, 0, none⟩)]] 84)).alloc (.cells (madeCells #[.int .i64 0] l.length) 3)).alloc (.cells #[.slice (some ⟨W.heap.size + 1 + 1, 0, none⟩) l.length l.length] 29)).alloc (.cells #[.func (.func 80) #[] #[.pointer (some ⟨W.heap.size, 0, none⟩), .pointer (some ⟨W.heap.size + 1, 0, none⟩), .pointer (some ⟨W.heap.size + 1 + 1 + 1, 0, none⟩), .pointer (some ⟨W.heap.size + 1 + 1 + 1 + 1, 0, none⟩)]] 102)) (fun _ => False) := ((((((Kept.refl _ _).alloc _).alloc _).alloc _).alloc _).alloc _)
 have hS : FillSt3 Inv b0 w0 W.heap.size l.length q0 q1 q2 A0 c0 _ _ s := ⟨hE, HH.out _ _ _ HI.out (hal.mono (fun _ h => h.elim)), HB.out.trans ((below_alloc (below_alloc (below_alloc (below_alloc (below_alloc (Below.refl _ _) _) _) _) _) _).mono hb)⟩
 have HS := Aside0.mk hS
 have HAL := Aside0.mk hal
 clear hE hal hS
 go_wp2_with (go_at_call 80; refine (fill_calls3 l rfl HR.out HW.out hn hb HH.out HK.out HC.out l.length 0 (by omega) units hu0 hu1 _ s M' s' _ H.out HS.out).mono ?_; rintro e W1 ⟨rfl, h3⟩; have HQ : Aside0 (Inv s' W1 ∧ Kept W W1 okc ∧ Below b0 w0 W1) := ⟨h3.1.I, (HAL.out.mono (fun _ h => h.elim)).then_ h3.2 (fun k hk => by (rcases hk with hk | hk; exact .inr (by omega); exact .inl hk)), h3.1.bel⟩; clear h3)
 refine bodyPost_end (results_none rfl _ _ _) rfl ?_
 exact ⟨rfl, HQ.out⟩
end

def impl_CountBlends.step (l : List S63) (u le mo im : Int) (s : Int) (m : List Int) : Option Int := some (if meetsB (sumsTo l m m.length) u le mo im = true then wrap64 (s + 1) else s)
def impl_CountBlends.f (k : Nat) (l0 : List S63) (u le mo im : Int) : Option (Int × Bool) := (impl_AreBins.f k l0).bind fun t => if t = true then ((impl_IsWanted.f u le mo im).bind fun t2 => if t2 = true then (if l0.length ≤ 1048576 ∧ 0 ≤ u ∧ u ≤ 1000 then (partF l0 (impl_CountBlends.step l0 u le mo im) l0.length u (List.replicate l0.length 0) 0).bind fun q => some (q.2, true) else none) else some (0, false)) else some (0, false)
/-- What the variables hold between two calls: the bins, what is wanted, the number. -/
structure CbInv (h hn n : Nat) (A0 : Option Addr) (c0 : Nat) (u le mo im : Int) (s : Int) (W : World) : Prop where
 ha : W.heap[h]? = some (.cells #[.slice A0 n c0] 31 (0, 0))
 hw : W.heap[h + 1]? = some (.cells #[.int .i64 u, .int .i64 le, .int .i64 mo, .int .i64 im] 45 (0, 0))
 hs : W.heap[hn]? = some (.cells #[.int .i64 s] 3 (0, 0))
theorem CbInv.kept {h hn n : Nat} {A0 : Option Addr} {c0 : Nat} {u le mo im : Int} {s : Int} {W W' : World} {S : Nat → Prop} (I : CbInv h hn n A0 c0 u le mo im s W) (hk : Kept W W' S) (h1 : ¬ S h) (h2 : ¬ S (h + 1)) (h3 : ¬ S hn) : CbInv h hn n A0 c0 u le mo im s W' :=
 ⟨blk_kept I.ha hk h1, blk_kept I.hw hk h2, blk_kept I.hs hk h3⟩
set_option maxHeartbeats 8000000 in
set_option maxRecDepth 100000 in
theorem cb_call (A0 : Option Addr) (c0 : Nat) (l0 : List S63) (u le mo im : Int) (w : World) (hn : Nat) (hnw : w.heap.size + 2 ≤ hn) (hr0 : Kd.C k63 w A0 l0.length l0) (hc0 : l0.length ≤ c0) :
  CallOk3 (impl_CountBlends.step l0 u le mo im) (CbInv w.heap.size hn l0.length A0 c0 u le mo im) (fun k => k = hn) w.heap.size w (hn + 1) l0.length w.heap.size (w.heap.size + 1) hn := by
 have HR0 := Aside0.mk hr0
 have HC0 := Aside0.mk hc0
 clear hr0 hc0
 intro s s' m A c W hs hlm hrm hcm hi hB hsz
 have HRm := Aside0.mk hrm
 have HCm := Aside0.mk hcm
 have HLm := Aside0.mk hlm
 have HI := Aside0.mk hi
 have HB := Aside0.mk hB
 have HW := Aside0.mk hnw
 unfold impl_CountBlends.step at hs
 simp only [Option.some.injEq] at hs
 have H2 := Aside0.mk hs
 clear hs hcm hrm hi hB hsz hlm
 have hargs : Value.slice A l0.length c = Value.slice A m.length c := by rw [HLm.out]
 rw [hargs]
 clear hargs
 have hq0 : W.cell? ⟨w.heap.size, 0, none⟩ = some (.slice A0 l0.length c0) := (blk_cell HI.out.ha 0).trans rfl
 have hq1 : W.cell? ⟨w.heap.size + 1, 0, none⟩ = some (.int .i64 u) := (blk_cell HI.out.hw 0).trans rfl
 have hq2 : W.cell? ⟨w.heap.size + 1, 1, none⟩ = some (.int .i64 le) := (blk_cell HI.out.hw 1).trans rfl
 have hq3 : W.cell? ⟨w.heap.size + 1, 2, none⟩ = some (.int .i64 mo) := (blk_cell HI.out.hw 2).trans rfl
 have hq4 : W.cell? ⟨w.heap.size + 1, 3, none⟩ = some (.int .i64 im) := (blk_cell HI.out.hw 3).trans rfl
 go_enter Try.func59, Try.ntmps59
 go_wp2_with (go_at_call 60; fail)
 refine (impl_meetsWanted.callsO A0 c0 l0 u le mo im A c m W (Kd.C_below HR0.out HB.out) HC0.out HRm.out HCm.out zx5').mono ?_
 rintro e W1 ⟨rfl, hb⟩
 have HI1 := am (HI.out.kept (Kept.of_below hb (fun _ => False)) (fun h => h) (fun h => h) (fun h => h))
 have HB1 := am (below_step HB.out hb)
 have HK1 := am (Kept.of_below hb (fun k => k = hn))
 clear hb hq0 hq1 hq2 hq3 hq4 HI HB HRm
 have hx : W1.cell? ⟨hn, 0, none⟩ = some (.int .i64 s) := (blk_cell HI1.out.hs 0).trans rfl
 have hf : W1.frozen? ⟨hn, 0, none⟩ = false := blk_frozen HI1.out.hs 0
 have H2' := H2.out
 clear H2
 cases b1 : meetsB (sumsTo l0 m m.length) u le mo im with
 | true =>
  rw [b1, if_pos rfl] at H2'
  have H2 := Aside0.mk H2'
  clear H2' b1
  go_wp2
  obtain rfl := H2.out
  have hw := HW.out
  refine bodyPost_end (results_none rfl _ _ _) rfl ?_
  exact ⟨rfl, ⟨blk_far HI1.out.ha (by simp; omega) _, blk_far HI1.out.hw (by simp; omega) _, by rw [blk_set HI1.out.hs]; rfl⟩, HK1.out.setCell (.inl rfl) _, HB1.out.setCell (by simp; omega) _⟩
 | false =>
  rw [b1, if_neg (by simp)] at H2'
  obtain rfl := H2'
  clear b1
  go_wp2
  refine bodyPost_end (results_none rfl _ _ _) rfl ?_
  exact ⟨rfl, HI1.out, HK1.out, HB1.out⟩
set_option maxHeartbeats 8000000 in
set_option maxRecDepth 100000 in
theorem impl_CountBlends.calls (k : Nat) (A0 : Option Addr) (c0 : Nat) (l0 : List S63) (u le mo im : Int) (r1 : Int) (r2 : Bool) (w : World) (hr0 : Kd.C k63 w A0 l0.length l0) (hc0 : l0.length ≤ c0) (h : impl_CountBlends.f k l0 u le mo im = some (r1, r2)) :
  Calls Try.prog 25 #[.slice A0 l0.length c0, .agg #[.int .i64 u, .int .i64 le, .int .i64 mo, .int .i64 im]] w fun e w' => e = .returned (.tuple #[.int .i64 r1, .bool r2]) ∧ Below w.heap.size w w' := by
 have HR0 := Aside0.mk hr0
 have HC0 := Aside0.mk hc0
 unfold impl_CountBlends.f at h
 obtain ⟨t, h1, h2⟩ := Option.bind_eq_some_iff.1 h
 have H1 := Aside0.mk h1
 clear hr0 hc0 h h1
 cases t with
 | false =>
  simp only [Bool.false_eq_true, if_false, Option.some.injEq, Prod.mk.injEq] at h2
  obtain ⟨rfl, rfl⟩ := h2
  go_enter Try.func25, Try.ntmps25
  go_wp2_with (go_at_call 40; fail)
  refine (impl_AreBins.calls k A0 c0 l0 false _ (Kd.C_alloc (Kd.C_alloc HR0.out _) _) HC0.out H1.out).mono ?_
  rintro e W1 ⟨rfl, hb⟩
  have HB := am (below_step (below_alloc (below_alloc (Below.refl w.heap.size w) _) _) hb)
  clear hb
  go_wp2
  go_ret2
  exact ⟨rfl, HB.out⟩
 | true =>
  simp only [if_true] at h2
  obtain ⟨t2, g1, g2⟩ := Option.bind_eq_some_iff.1 h2
  have G1 := Aside0.mk g1
  clear h2 g1
  have key : ∀ (P : World → Ending → World → Prop), True := fun _ => trivial
  go_enter Try.func25, Try.ntmps25
  go_wp2_with (go_at_call 40; fail)
  refine (impl_AreBins.calls k A0 c0 l0 true _ (Kd.C_alloc (Kd.C_alloc HR0.out _) _) HC0.out H1.out).mono ?_
  rintro e W1 ⟨rfl, hb⟩
  have hb1 : (W1.heap[w.heap.size]?) = some (.cells #[.slice A0 l0.length c0] 31 (0, 0)) := (hb.block _ (by simp; omega)).trans (blk_alloc (blk_new _ _) _)
  have hb2 : (W1.heap[w.heap.size + 1]?) = some (.cells #[.int .i64 u, .int .i64 le, .int .i64 mo, .int .i64 im] 45 (0, 0)) := (hb.block _ (by simp)).trans (blk_here _ (size_al _ rfl))
  have hz1 := hb.size
  simp only [World.size_alloc] at hz1
  have HB := am (below_step (below_alloc (below_alloc (Below.refl w.heap.size w) _) _) hb)
  have hq1 : W1.cell? ⟨w.heap.size + 1, 0, none⟩ = some (.int .i64 u) := (blk_cell hb2 0).trans rfl
  have hq2 : W1.cell? ⟨w.heap.size + 1, 1, none⟩ = some (.int .i64 le) := (blk_cell hb2 1).trans rfl
  have hq3 : W1.cell? ⟨w.heap.size + 1, 2, none⟩ = some (.int .i64 mo) := (blk_cell hb2 2).trans rfl
  have hq4 : W1.cell? ⟨w.heap.size + 1, 3, none⟩ = some (.int .i64 im) := (blk_cell hb2 3).trans rfl
  have HB1 := Aside0.mk hb1
  have HB2 := Aside0.mk hb2
  have HZ := Aside0.mk hz1
  clear hb hb1 hb2 hz1 key
  go_wp2_with (go_at_call 47; fail)
  refine (impl_IsWanted.calls u le mo im t2 W1 G1.out).mono ?_
  rintro e W2 ⟨rfl, hb⟩
  have HBb := am (below_step HB.out hb)
  have hb1 : (W2.heap[w.heap.size]?) = some (.cells #[.slice A0 l0.length c0] 31 (0, 0)) := (hb.block _ (blk_lt HB1.out)).trans HB1.out
  have hb2 : (W2.heap[w.heap.size + 1]?) = some (.cells #[.int .i64 u, .int .i64 le, .int .i64 mo, .int .i64 im] 45 (0, 0)) := (hb.block _ (blk_lt HB2.out)).trans HB2.out
  have hz2 : w.heap.size + 1 + 1 ≤ W2.heap.size := Nat.le_trans HZ.out hb.size
  clear hb HB1 HB2 HZ hq1 hq2 hq3 hq4 HB
  cases t2 with
  | false =>
   simp only [Bool.false_eq_true, if_false, Option.some.injEq, Prod.mk.injEq] at g2; obtain ⟨rfl, rfl⟩ := g2; clear hb1 hb2 hz2
   go_wp2
   go_ret2
   exact ⟨rfl, HBb.out⟩
  | true =>
   simp only [if_true] at g2
   have hg : l0.length ≤ 1048576 ∧ 0 ≤ u ∧ u ≤ 1000 := by
    by_cases g : l0.length ≤ 1048576 ∧ 0 ≤ u ∧ u ≤ 1000
    ·exact g
    ·rw [if_neg g] at g2; cases g2
   rw [if_pos hg] at g2; obtain ⟨⟨M', s'⟩, h3, h4⟩ := Option.bind_eq_some_iff.1 g2; simp only [Option.some.injEq, Prod.mk.injEq] at h4; obtain ⟨rfl, rfl⟩ := h4; have H3 := Aside0.mk h3; have HN := Aside0.mk hg; have hI : CbInv w.heap.size W2.heap.size l0.length A0 c0 u le mo im 0 (W2.alloc (.cells #[.int .i64 0] 3)) := ⟨blk_alloc hb1 _, blk_alloc hb2 _, blk_new _ _⟩; have hq0 : (W2.alloc (.cells #[.int .i64 0] 3)).cell? ⟨w.heap.size, 0, none⟩ = some (.slice A0 l0.length c0) := (blk_cell hI.ha 0).trans rfl; have hq1 : (W2.alloc (.cells #[.int .i64 0] 3)).cell? ⟨w.heap.size + 1, 0, none⟩ = some (.int .i64 u) := (blk_cell hI.hw 0).trans rfl; have HI := Aside0.mk hI; have HZ := Aside0.mk hz2; clear g2 h3 hg hb1 hb2 hz2 hI
   go_wp2_with (go_at_call 58; fail)
   generalize hW : W2.alloc (.cells #[.int .i64 0] 3) = W3
   have hz3 : W3.heap.size = W2.heap.size + 1 := by rw [← hW]; simp
   have hI : CbInv w.heap.size W2.heap.size l0.length A0 c0 u le mo im 0 W3 := by rw [← hW]; exact HI.out
   have hB3 : Below w.heap.size w W3 := by rw [← hW]; exact HBb.out.alloc HBb.out.size _
   have hz := HZ.out; clear hW hq0 hq1 HI
   refine (each_calls3 (step := impl_CountBlends.step l0 u le mo im) (Inv := CbInv w.heap.size W2.heap.size l0.length A0 c0 u le mo im) (okc := fun k => k = W2.heap.size) (b0 := w.heap.size) (w0 := w) (q0 := w.heap.size) (q1 := w.heap.size + 1) (q2 := W2.heap.size) l0 W3 HR0.out rfl HN.out.1 (by omega) (fun s W4 W5 h1 h2 => h1.kept h2 (by omega) (by omega) (by omega)) (fun k hk => by omega) (by rw [hz3]; exact cb_call A0 c0 l0 u le mo im w W2.heap.size hz HR0.out HC0.out) u HN.out.2.1 HN.out.2.2 0 M' s' H3.out hI hB3).mono ?_
   rintro e W5 ⟨rfl, h3, h4, h5⟩
   have hx : W5.cell? ⟨W2.heap.size, 0, none⟩ = some (.int .i64 s') := (blk_cell h3.hs 0).trans rfl; have HB5 := Aside0.mk h5; clear h3 h4 h5 hI hB3 hz3 hz
   go_wp2
   go_ret2
   exact ⟨rfl, HB5.out⟩


/-! ### spec_blBest: function 61 -/
def spec_blBest.l0 : Nat → List (S63) → Int → Int → List Int → Int → List (List Int) → Int → Int → Int → Int → Int → Int → Option (List Int × Bool)
 | 0, _, _, _, _, _, _, _, _, _, _, _, _ => none
 | k + 1, x0, x2, x3, x10, x11, x18, x19, x20, x175000, x175001, x175002, x175003 => if x20 < x19 then (if 0 ≤ x20 then (if x20 < (x18.length : Int) then ((spec_blSums.f k x0 (rd_L2 x18 x20)).bind fun t179 => ((spec_blMeets.f x175000 x175001 x175002 x175003 t179).bind fun t182 => (if t182 = true then (if (x10.length : Int) = 0 then (if 0 ≤ x2 then (if x2 < (t179.length : Int) then (spec_blBest.l0 k x0 x2 x3 (rd_L2 x18 x20) (wrap64 (x3 * (rd t179 x2))) x18 x19 (wrap64 (x20 + 1)) x175000 x175001 x175002 x175003) else (none)) else (none)) else (if 0 ≤ x2 then (if x2 < (t179.length : Int) then (if (wrap64 (x3 * (rd t179 x2))) < x11 then (spec_blBest.l0 k x0 x2 x3 (rd_L2 x18 x20) (wrap64 (x3 * (rd t179 x2))) x18 x19 (wrap64 (x20 + 1)) x175000 x175001 x175002 x175003) else (spec_blBest.l0 k x0 x2 x3 x10 x11 x18 x19 (wrap64 (x20 + 1)) x175000 x175001 x175002 x175003)) else (none)) else (none))) else (spec_blBest.l0 k x0 x2 x3 x10 x11 x18 x19 (wrap64 (x20 + 1)) x175000 x175001 x175002 x175003)))) else (none)) else (none)) else (some (x10, decide ((x10.length : Int) > 0)))
def spec_blBest.f (k : Nat) (l0 : List (S63)) (a1_0 : Int) (a1_1 : Int) (a1_2 : Int) (a1_3 : Int) (a2 : Int) (a3 : Int) : Option (List Int × Bool) := (spec_blAll.f k l0 a1_0).bind fun t175 => (spec_blBest.l0 k l0 a2 a3 ([] : List Int) 0 t175 (t175.length : Int) 0 a1_0 a1_1 a1_2 a1_3)
set_option maxHeartbeats 8000000 in
set_option maxRecDepth 100000 in
theorem spec_blBest.calls (k : Nat) (A0 : Option Addr) (c0 : Nat) (l0 : List (S63)) (a1_0 : Int) (a1_1 : Int) (a1_2 : Int) (a1_3 : Int) (a2 : Int) (a3 : Int) (r1 : List Int) (r2 : Bool) (w : World) (hr0 : Kd.C k63 w A0 l0.length l0) (hc0 : l0.length ≤ c0) (h : spec_blBest.f k l0 a1_0 a1_1 a1_2 a1_3 a2 a3 = some (r1, r2)) :
  Calls Try.prog 61 #[.slice A0 l0.length c0, .agg #[.int .i64 a1_0, .int .i64 a1_1, .int .i64 a1_2, .int .i64 a1_3], .int .i64 a2, .int .i64 a3] w fun e w' => ∃ v0_ : Value, e = .returned (.tuple #[v0_, .bool r2]) ∧ Kd.V (Kd.int .i64) 3 w' w.heap.size (fun k_ => (w.heap.size ≤ k_)) v0_ r1 ∧ Below w.heap.size w w' := by
 have hu45 := Try.underlying45
 have HR0 := Aside0.mk hr0
 have HC0 := Aside0.mk hc0
 clear hr0 hc0
 have HB := am (Below.refl w.heap.size w)
 have H : ((spec_blAll.f k l0 a1_0).bind fun t175 => (spec_blBest.l0 k l0 a2 a3 ([] : List Int) 0 t175 (t175.length : Int) 0 a1_0 a1_1 a1_2 a1_3)) = some (r1, r2) := h
 clear h
 replace H := Option.bind_eq_some_iff.mp H
 obtain ⟨t175, A50, H⟩ := H
 replace H : (spec_blBest.l0 k l0 a2 a3 ([] : List Int) 0 t175 (t175.length : Int) 0 a1_0 a1_1 a1_2 a1_3) = some (r1, r2) := H
 have A5 := Aside0.mk A50
 clear A50
 have H' := Aside0.mk H
 clear H
 go_enter Try.func61, Try.ntmps61
 go_wp2_with (first | ((with_reducible refine gate_dst (N := 5) rfl ?_); (try (refine gate_guard (by rfl) ?_; dsimp only)); refine box_event ?hg (N := 5) ?hd (cs := #[.int .i64 a1_0, .int .i64 a1_1, .int .i64 a1_2, .int .i64 a1_3]) (t := 45) ?hr ?_; (case hd => rfl); (case hg => rfl); (case hr => exact zo'); intro gb174 hg w6 hbox hb; have n0_ := am (below_step za' hb); have n1_ := am (hbox); have n2_ := am ((by rw [hg]; exact (below_size za') : w.heap.size ≤ gb174)); have n3_ := am ((by rw [hg]; exact (below_size za') : w.heap.size ≤ gb174)); clear HB; have HB := n0_; have BK174 := n1_; have GW174 := n2_; have GE174 := n3_; clear n0_ n1_ n2_ n3_; clear hb hbox hg; have hcz7_0 : w6.cell? ⟨gb174, 0, none⟩ = some (.int .i64 a1_0) := (blk_cell BK174.out 0).trans rfl; have hcz7_1 : w6.cell? ⟨gb174, 1, none⟩ = some (.int .i64 a1_1) := (blk_cell BK174.out 1).trans rfl; have hcz7_2 : w6.cell? ⟨gb174, 2, none⟩ = some (.int .i64 a1_2) := (blk_cell BK174.out 2).trans rfl; have hcz7_3 : w6.cell? ⟨gb174, 3, none⟩ = some (.int .i64 a1_3) := (blk_cell BK174.out 3).trans rfl; have hfz7_0 := blk_frozen BK174.out 0; have hfz7_1 := blk_frozen BK174.out 1; have hfz7_2 := blk_frozen BK174.out 2; have hfz7_3 := blk_frozen BK174.out 3) | ((with_reducible refine gate_callee (f := 55) rfl ?_); refine goesL_ (some 18) rfl rfl Try.func55 (by kernel_rfl) rfl #[.slice A0 l0.length c0, .int .i64 a1_0] rfl zb' ?_; (with_reducible refine (spec_blAll.calls k _ _ l0 a1_0 t175 _ ?side1 ?side2 A5.out).mono ?_); (case side1 => exact zh'); (case side2 => exact zj4'); rintro e w8 ⟨v176, rfl, ho0, hb⟩; refine ⟨_, rfl, ?_⟩; have n0_ := am (Kd.N_lower (Kd.N_mono (ok' := fun k_ => (w.heap.size ≤ k_) ∧ k_ ≠ gb174) ho0 (fun k_ hk_ => ⟨(Nat.le_trans (below_size zr') hk_), (Kd.freshB (g := gb174) (o := o1') zw1' k_ hk_)⟩)) (below_size zr')); have n1_ := am (blk_below (g := gb174) (o := o1') zw1' hb); have n2_ := am (below_step zr' hb); clear BK174; clear HB; have HO177 := n0_; have BK174 := n1_; have HB := n2_; clear n0_ n1_ n2_; (try clear hb); (try clear hb2); (try clear hk); (try clear hi); (try clear ho0); obtain ⟨Ao9, co9, eo9⟩ := Kd.N_slice HO177.out; subst eo9))
 go_loopg [10, 11, 20] k (fun kq v10 v11 v20 w' => ∃ (x10_1 : List Int) (x11_1 : Int) (x20_1 : Int), v11 = .int .i64 x11_1 ∧ v20 = .int .i64 x20_1 ∧ Aside0 (spec_blBest.l0 kq l0 a2 a3 x10_1 x11_1 t175 (t175.length : Int) x20_1 a1_0 a1_1 a1_2 a1_3 = some (r1, r2)) ∧ Aside0 (kq ≤ k) ∧ Aside0 (Kd.V (Kd.int .i64) 3 w' w.heap.size (fun k_ => (w.heap.size ≤ k_) ∧ some k_ ≠ ((.slice Ao9 t175.length co9) : Value).ownBlock ∧ k_ ≠ gb174) v10 x10_1) ∧ Aside0 (Kd.N (Kd.slice 3 (Kd.int .i64)) 29 w' w.heap.size (fun k_ => (w.heap.size ≤ k_) ∧ k_ ≠ gb174) (.slice Ao9 t175.length co9) t175) ∧ Aside0 (w'.heap[gb174]? = some (.cells #[.int .i64 a1_0, .int .i64 a1_1, .int .i64 a1_2, .int .i64 a1_3] 45 (0, 0))) ∧ Aside0 (Below w.heap.size w w'))
 case atStart => exact ⟨(([] : List Int)), (0), (0), zx', zx', H', ⟨Nat.le_refl _⟩, ⟨(Kd.V_nil _ _ _ _ _)⟩, ⟨by (with_reducible repeat (first | apply Kd.N_alloc | apply Kd.N_drewN | apply Kd.N_drew)); exact HO177.out⟩, ⟨zw1'⟩, ⟨zr'⟩⟩
 case round =>
  clear H'
  try clear p2
  try clear c5
  try clear c6
  try clear hcz7_0
  try clear hcz7_1
  try clear hcz7_2
  try clear hcz7_3
  try clear hfz7_0
  try clear hfz7_1
  try clear hfz7_2
  try clear hfz7_3
  obtain ⟨x10_1, x11_1, x20_1, rfl, rfl, HA, HK1, HO_10, HO_18, BK174, HB⟩ := hrel
  cases gk with
  | zero => exact absurd HA.out (by simp [spec_blBest.l0])
  | succ k1 =>
   have H := HA.out; clear HA; simp only [spec_blBest.l0] at H
   by_cases c10 : x20_1 < (t175.length : Int)
   ·rw [if_pos c10] at H
    have c10b0 : decide (x20_1 < (t175.length : Int)) = true := decide_eq_true c10; clear c10
    by_cases c11 : 0 ≤ x20_1
    ·rw [if_pos c11] at H
     have c11b0 : decide (0 ≤ x20_1) = true := decide_eq_true c11; clear c11
     by_cases c12 : x20_1 < (t175.length : Int)
     ·rw [if_pos c12] at H
      have c12b0 : decide (x20_1 < (t175.length : Int)) = true := decide_eq_true c12; clear c12; replace H := Option.bind_eq_some_iff.mp H; obtain ⟨t179, A130, H⟩ := H; replace H : ((spec_blMeets.f a1_0 a1_1 a1_2 a1_3 t179).bind fun t182 => (if t182 = true then (if (x10_1.length : Int) = 0 then (if 0 ≤ a2 then (if a2 < (t179.length : Int) then (spec_blBest.l0 k1 l0 a2 a3 (rd_L2 t175 x20_1) (wrap64 (a3 * (rd t179 a2))) t175 (t175.length : Int) (wrap64 (x20_1 + 1)) a1_0 a1_1 a1_2 a1_3) else (none)) else (none)) else (if 0 ≤ a2 then (if a2 < (t179.length : Int) then (if (wrap64 (a3 * (rd t179 a2))) < x11_1 then (spec_blBest.l0 k1 l0 a2 a3 (rd_L2 t175 x20_1) (wrap64 (a3 * (rd t179 a2))) t175 (t175.length : Int) (wrap64 (x20_1 + 1)) a1_0 a1_1 a1_2 a1_3) else (spec_blBest.l0 k1 l0 a2 a3 x10_1 x11_1 t175 (t175.length : Int) (wrap64 (x20_1 + 1)) a1_0 a1_1 a1_2 a1_3)) else (none)) else (none))) else (spec_blBest.l0 k1 l0 a2 a3 x10_1 x11_1 t175 (t175.length : Int) (wrap64 (x20_1 + 1)) a1_0 a1_1 a1_2 a1_3))) = some (r1, r2) := H; have A13 := Aside0.mk A130; clear A130; replace H := Option.bind_eq_some_iff.mp H; obtain ⟨t182, A140, H⟩ := H; replace H : (if t182 = true then (if (x10_1.length : Int) = 0 then (if 0 ≤ a2 then (if a2 < (t179.length : Int) then (spec_blBest.l0 k1 l0 a2 a3 (rd_L2 t175 x20_1) (wrap64 (a3 * (rd t179 a2))) t175 (t175.length : Int) (wrap64 (x20_1 + 1)) a1_0 a1_1 a1_2 a1_3) else (none)) else (none)) else (if 0 ≤ a2 then (if a2 < (t179.length : Int) then (if (wrap64 (a3 * (rd t179 a2))) < x11_1 then (spec_blBest.l0 k1 l0 a2 a3 (rd_L2 t175 x20_1) (wrap64 (a3 * (rd t179 a2))) t175 (t175.length : Int) (wrap64 (x20_1 + 1)) a1_0 a1_1 a1_2 a1_3) else (spec_blBest.l0 k1 l0 a2 a3 x10_1 x11_1 t175 (t175.length : Int) (wrap64 (x20_1 + 1)) a1_0 a1_1 a1_2 a1_3)) else (none)) else (none))) else (spec_blBest.l0 k1 l0 a2 a3 x10_1 x11_1 t175 (t175.length : Int) (wrap64 (x20_1 + 1)) a1_0 a1_1 a1_2 a1_3)) = some (r1, r2) := H
      have A14 := Aside0.mk A140; clear A140
      by_cases c15 : t182 = true
      ·subst c15
       have H1 : (if (x10_1.length : Int) = 0 then (if 0 ≤ a2 then (if a2 < (t179.length : Int) then (spec_blBest.l0 k1 l0 a2 a3 (rd_L2 t175 x20_1) (wrap64 (a3 * (rd t179 a2))) t175 (t175.length : Int) (wrap64 (x20_1 + 1)) a1_0 a1_1 a1_2 a1_3) else (none)) else (none)) else (if 0 ≤ a2 then (if a2 < (t179.length : Int) then (if (wrap64 (a3 * (rd t179 a2))) < x11_1 then (spec_blBest.l0 k1 l0 a2 a3 (rd_L2 t175 x20_1) (wrap64 (a3 * (rd t179 a2))) t175 (t175.length : Int) (wrap64 (x20_1 + 1)) a1_0 a1_1 a1_2 a1_3) else (spec_blBest.l0 k1 l0 a2 a3 x10_1 x11_1 t175 (t175.length : Int) (wrap64 (x20_1 + 1)) a1_0 a1_1 a1_2 a1_3)) else (none)) else (none))) = some (r1, r2) := by rw [if_pos rfl] at H; exact H
       clear H; have H := H1; clear H1
       by_cases c16 : (x10_1.length : Int) = 0
       ·rw [if_pos c16] at H
        have c16b0 : ((x10_1.length : Int) == 0) = true := beq_iff_eq.mpr c16; have c16b1 : ((x10_1.length : Int) != 0) = false := bne_eq_false_iff_eq.mpr c16; clear c16
        by_cases c17 : 0 ≤ a2
        ·rw [if_pos c17] at H
         have c17b0 : decide (0 ≤ a2) = true := decide_eq_true c17; clear c17
         by_cases c18 : a2 < (t179.length : Int)
         ·rw [if_pos c18] at H
          have c18b0 : decide (a2 < (t179.length : Int)) = true := decide_eq_true c18; clear c18; have H' := Aside0.mk H; clear H; have p178 : 0 ≤ (x20_1 : Int) := odt; have q178 : x20_1 < (t175.length : Int) := odt; obtain ⟨ad178, A178_0, c178_0, e178, hx178_0, hl178_0, hi178_0⟩ := at_L2 (Kd.N_reads' HO_18.out).2.2 x20_1 p178 q178; cases e178; obtain ⟨ce178, hce178, hMe178, hcc178⟩ := Kd.N_get HO_18.out [] x20_1 p178 zq4'; obtain ⟨ua178_0, uc178_0, rfl, ul178_0, ge178_0⟩ := Kd.FK_slice_open hMe178; have hv178_0 := hcc178 0 _ rfl; rw [Nat.add_zero, show ((Kd.slice 3 (Kd.int .i64))).sz = 1 from rfl, Nat.mul_one] at hv178_0; replace hv178_0 := Option.some.inj (hv178_0.symm.trans hx178_0)
          injection hv178_0 with hva_ hvn_ hvc_
          rw [hva_] at ge178_0; rw [hvc_] at ul178_0; have HL178_0 := am (show Kd.V (Kd.int .i64) 3 _ w.heap.size _ _ (rd_L2 t175 x20_1) from Kd.V_mk ul178_0 ge178_0); clear hva_ hvn_ hvc_ ge178_0 ul178_0; clear hcc178 hce178; have HR178_0 := Aside0.mk hi178_0; have HC178_0 := Aside0.mk hl178_0; clear hi178_0 hl178_0; replace p178 := eq_true p178; replace q178 := eq_true q178
          go_wp2_with (first | ((with_reducible refine gate_callee (f := 57) rfl ?_); refine goesL_ (some 26) rfl rfl Try.func57 (by kernel_rfl) rfl #[.slice A0 l0.length c0, .slice A178_0 (rd_L2 t175 x20_1).length c178_0] rfl zb' ?_; (with_reducible refine (spec_blSums.calls k1 _ _ l0 _ _ (rd_L2 t175 x20_1) t179 _ ?side1 ?side2 ?side3 ?side4 A13.out).mono ?_); (case side1 => exact zh'); (case side2 => exact zj4'); (case side3 => exact zr3'); (case side4 => exact HC178_0.out); rintro e w19 ⟨v180, rfl, ho0, hb⟩; refine ⟨_, rfl, ?_⟩; have n0_ := am (Kd.V_elder' zp2' (Kd.R_base ho0) hb); have n1_ := am (Kd.N_elder' zq2' (Kd.R_base ho0) hb); have n2_ := am (Kd.V_elder' zo2' (Kd.R_base ho0) hb); have n3_ := am (Kd.R_lower (Kd.R_newM (M := fun k_ => (w.heap.size ≤ k_)) ho0 (below_size zr') (fun k_ h_ => h_)) (below_size zr')); have n4_ := am (blk_below (g := gb174) (o := o1') zw1' hb); have n5_ := am (Kd.C_below zv' hb); have n6_ := am (below_step zr' hb); clear HO_10; clear HO_18; clear HL178_0; clear BK174; clear HR178_0; clear HB; have HO_10 := n0_; have HO_18 := n1_; have HL178_0 := n2_; have HO181 := n3_; have BK174 := n4_; have HR178_0 := n5_; have HB := n6_; clear n0_ n1_ n2_ n3_ n4_ n5_ n6_; (try clear hb); (try clear hb2); (try clear hk); (try clear hi); (try clear ho0); have hcz20_0 : w19.cell? ⟨gb174, 0, none⟩ = some (.int .i64 a1_0) := (blk_cell BK174.out 0).trans rfl; have hcz20_1 : w19.cell? ⟨gb174, 1, none⟩ = some (.int .i64 a1_1) := (blk_cell BK174.out 1).trans rfl; have hcz20_2 : w19.cell? ⟨gb174, 2, none⟩ = some (.int .i64 a1_2) := (blk_cell BK174.out 2).trans rfl; have hcz20_3 : w19.cell? ⟨gb174, 3, none⟩ = some (.int .i64 a1_3) := (blk_cell BK174.out 3).trans rfl; have hfz20_0 := blk_frozen BK174.out 0; have hfz20_1 := blk_frozen BK174.out 1; have hfz20_2 := blk_frozen BK174.out 2; have hfz20_3 := blk_frozen BK174.out 3; obtain ⟨Ao21, co21, eo21⟩ := Kd.R_slice HO181.out; subst eo21) | ((with_reducible refine gate_callee (f := 56) rfl ?_); refine goesL_ (some 29) rfl rfl Try.func56 (by kernel_rfl) rfl #[.agg #[.int .i64 a1_0, .int .i64 a1_1, .int .i64 a1_2, .int .i64 a1_3], .slice Ao21 t179.length co21] rfl zb' ?_; (with_reducible refine (spec_blMeets.calls a1_0 a1_1 a1_2 a1_3 _ _ t179 true _ ?side1 ?side2 A14.out).mono ?_); (case side1 => exact zf3'); (case side2 => exact (Kd.R_reads' HO181.out).2.1); rintro e w22 ⟨rfl, hb⟩; refine ⟨_, rfl, ?_⟩; have n0_ := am (Kd.V_below zp2' hb); have n1_ := am (Kd.N_below zq2' hb); have n2_ := am (Kd.V_below zo2' hb); have n3_ := am (Kd.R_below zh4' hb); have n4_ := am (blk_below (g := gb174) (o := o1') zw1' hb); have n5_ := am (Kd.C_below zv' hb); have n6_ := am (below_step zr' hb); clear HO_10; clear HO_18; clear HL178_0; clear HO181; clear BK174; clear HR178_0; clear HB; have HO_10 := n0_; have HO_18 := n1_; have HL178_0 := n2_; have HO181 := n3_; have BK174 := n4_; have HR178_0 := n5_; have HB := n6_; clear n0_ n1_ n2_ n3_ n4_ n5_ n6_; (try clear hb); (try clear hb2); (try clear hk); (try clear hi); obtain ⟨Ao23, co23, eo23⟩ := Kd.V_slice HO_10.out; subst eo23; have p183 : 0 ≤ (a2 : Int) := odt; have q183 : a2 < (t179.length : Int) := odt; obtain ⟨ad183, e183, hx183_0⟩ := Kd.at_int (Kd.R_reads' HO181.out).2.2 a2 p183 q183; cases e183; replace p183 := eq_true p183; replace q183 := eq_true q183))
          go_roundg k1
          case measure => have := HK1.out; omega
          case rel => exact ⟨(rd_L2 t175 x20_1), (wrap64 (a3 * (rd t179 a2))), (wrap64 (x20_1 + 1)), zx', zx', H', ⟨zv4'⟩, ⟨zi5'⟩, ⟨zs3'⟩, ⟨zw1'⟩, ⟨zr'⟩⟩
         ·rw [if_neg c18] at H
          exact absurd H (by simp)
        ·rw [if_neg c17] at H
         exact absurd H (by simp)
       ·rw [if_neg c16] at H
        have c16b0 : ((x10_1.length : Int) == 0) = false := beq_eq_false_iff_ne.mpr c16; have c16b1 : ((x10_1.length : Int) != 0) = true := bne_iff_ne.mpr c16
        have c16b2 : ¬ (x10_1 = []) := fun h_ => c16 (by rw [h_]; rfl)
        by_cases c24 : 0 ≤ a2
        ·rw [if_pos c24] at H
         have c24b0 : decide (0 ≤ a2) = true := decide_eq_true c24; clear c24
         by_cases c25 : a2 < (t179.length : Int)
         ·rw [if_pos c25] at H
          have c25b0 : decide (a2 < (t179.length : Int)) = true := decide_eq_true c25; clear c25
          by_cases c26 : (wrap64 (a3 * (rd t179 a2))) < x11_1
          ·rw [if_pos c26] at H
           have c26b0 : decide ((wrap64 (a3 * (rd t179 a2))) < x11_1) = true := decide_eq_true c26; clear c26; have H' := Aside0.mk H; clear H; have p178 : 0 ≤ (x20_1 : Int) := odt; have q178 : x20_1 < (t175.length : Int) := odt; obtain ⟨ad178, A178_0, c178_0, e178, hx178_0, hl178_0, hi178_0⟩ := at_L2 (Kd.N_reads' HO_18.out).2.2 x20_1 p178 q178; cases e178; obtain ⟨ce178, hce178, hMe178, hcc178⟩ := Kd.N_get HO_18.out [] x20_1 p178 zq4'; obtain ⟨ua178_0, uc178_0, rfl, ul178_0, ge178_0⟩ := Kd.FK_slice_open hMe178; have hv178_0 := hcc178 0 _ rfl; rw [Nat.add_zero, show ((Kd.slice 3 (Kd.int .i64))).sz = 1 from rfl, Nat.mul_one] at hv178_0; replace hv178_0 := Option.some.inj (hv178_0.symm.trans hx178_0)
           injection hv178_0 with hva_ hvn_ hvc_
           rw [hva_] at ge178_0; rw [hvc_] at ul178_0; have HL178_0 := am (show Kd.V (Kd.int .i64) 3 _ w.heap.size _ _ (rd_L2 t175 x20_1) from Kd.V_mk ul178_0 ge178_0); clear hva_ hvn_ hvc_ ge178_0 ul178_0; clear hcc178 hce178; have HR178_0 := Aside0.mk hi178_0; have HC178_0 := Aside0.mk hl178_0; clear hi178_0 hl178_0; replace p178 := eq_true p178; replace q178 := eq_true q178
           go_wp2_with (first | ((with_reducible refine gate_callee (f := 57) rfl ?_); refine goesL_ (some 26) rfl rfl Try.func57 (by kernel_rfl) rfl #[.slice A0 l0.length c0, .slice A178_0 (rd_L2 t175 x20_1).length c178_0] rfl zb' ?_; (with_reducible refine (spec_blSums.calls k1 _ _ l0 _ _ (rd_L2 t175 x20_1) t179 _ ?side1 ?side2 ?side3 ?side4 A13.out).mono ?_); (case side1 => exact zh'); (case side2 => exact zj4'); (case side3 => exact zr3'); (case side4 => exact HC178_0.out); rintro e w27 ⟨v180, rfl, ho0, hb⟩; refine ⟨_, rfl, ?_⟩; have n0_ := am (Kd.V_elder' zp2' (Kd.R_base ho0) hb); have n1_ := am (Kd.N_elder' zq2' (Kd.R_base ho0) hb); have n2_ := am (Kd.V_elder' zo2' (Kd.R_base ho0) hb); have n3_ := am (Kd.R_lower (Kd.R_newM (M := fun k_ => (w.heap.size ≤ k_)) ho0 (below_size zr') (fun k_ h_ => h_)) (below_size zr')); have n4_ := am (blk_below (g := gb174) (o := o1') zw1' hb); have n5_ := am (Kd.C_below zv' hb); have n6_ := am (below_step zr' hb); clear HO_10; clear HO_18; clear HL178_0; clear BK174; clear HR178_0; clear HB; have HO_10 := n0_; have HO_18 := n1_; have HL178_0 := n2_; have HO181 := n3_; have BK174 := n4_; have HR178_0 := n5_; have HB := n6_; clear n0_ n1_ n2_ n3_ n4_ n5_ n6_; (try clear hb); (try clear hb2); (try clear hk); (try clear hi); (try clear ho0); have hcz28_0 : w27.cell? ⟨gb174, 0, none⟩ = some (.int .i64 a1_0) := (blk_cell BK174.out 0).trans rfl; have hcz28_1 : w27.cell? ⟨gb174, 1, none⟩ = some (.int .i64 a1_1) := (blk_cell BK174.out 1).trans rfl; have hcz28_2 : w27.cell? ⟨gb174, 2, none⟩ = some (.int .i64 a1_2) := (blk_cell BK174.out 2).trans rfl; have hcz28_3 : w27.cell? ⟨gb174, 3, none⟩ = some (.int .i64 a1_3) := (blk_cell BK174.out 3).trans rfl; have hfz28_0 := blk_frozen BK174.out 0; have hfz28_1 := blk_frozen BK174.out 1; have hfz28_2 := blk_frozen BK174.out 2; have hfz28_3 := blk_frozen BK174.out 3; obtain ⟨Ao29, co29, eo29⟩ := Kd.R_slice HO181.out; subst eo29) | ((with_reducible refine gate_callee (f := 56) rfl ?_); refine goesL_ (some 29) rfl rfl Try.func56 (by kernel_rfl) rfl #[.agg #[.int .i64 a1_0, .int .i64 a1_1, .int .i64 a1_2, .int .i64 a1_3], .slice Ao29 t179.length co29] rfl zb' ?_; (with_reducible refine (spec_blMeets.calls a1_0 a1_1 a1_2 a1_3 _ _ t179 true _ ?side1 ?side2 A14.out).mono ?_); (case side1 => exact zf3'); (case side2 => exact (Kd.R_reads' HO181.out).2.1); rintro e w30 ⟨rfl, hb⟩; refine ⟨_, rfl, ?_⟩; have n0_ := am (Kd.V_below zp2' hb); have n1_ := am (Kd.N_below zq2' hb); have n2_ := am (Kd.V_below zo2' hb); have n3_ := am (Kd.R_below zh4' hb); have n4_ := am (blk_below (g := gb174) (o := o1') zw1' hb); have n5_ := am (Kd.C_below zv' hb); have n6_ := am (below_step zr' hb); clear HO_10; clear HO_18; clear HL178_0; clear HO181; clear BK174; clear HR178_0; clear HB; have HO_10 := n0_; have HO_18 := n1_; have HL178_0 := n2_; have HO181 := n3_; have BK174 := n4_; have HR178_0 := n5_; have HB := n6_; clear n0_ n1_ n2_ n3_ n4_ n5_ n6_; (try clear hb); (try clear hb2); (try clear hk); (try clear hi); obtain ⟨Ao31, co31, eo31⟩ := Kd.V_slice HO_10.out; subst eo31; have p184 : 0 ≤ (a2 : Int) := odt; have q184 : a2 < (t179.length : Int) := odt; obtain ⟨ad184, e184, hx184_0⟩ := Kd.at_int (Kd.R_reads' HO181.out).2.2 a2 p184 q184; cases e184; replace p184 := eq_true p184; replace q184 := eq_true q184; have p185 : 0 ≤ (a2 : Int) := odt; have q185 : a2 < (t179.length : Int) := odt; obtain ⟨ad185, e185, hx185_0⟩ := Kd.at_int (Kd.R_reads' HO181.out).2.2 a2 p185 q185; obtain rfl : ad184 = ad185 := (by injection e185); replace p185 := eq_true p185; replace q185 := eq_true q185))
           go_roundg k1
           case measure => have := HK1.out; omega
           case rel => exact ⟨(rd_L2 t175 x20_1), (wrap64 (a3 * (rd t179 a2))), (wrap64 (x20_1 + 1)), zx', zx', H', ⟨zv4'⟩, ⟨zi5'⟩, ⟨zs3'⟩, ⟨zw1'⟩, ⟨zr'⟩⟩
          ·rw [if_neg c26] at H
           have c26b0 : decide ((wrap64 (a3 * (rd t179 a2))) < x11_1) = false := decide_eq_false c26; clear c26; have H' := Aside0.mk H; clear H; have p178 : 0 ≤ (x20_1 : Int) := odt; have q178 : x20_1 < (t175.length : Int) := odt; obtain ⟨ad178, A178_0, c178_0, e178, hx178_0, hl178_0, hi178_0⟩ := at_L2 (Kd.N_reads' HO_18.out).2.2 x20_1 p178 q178; cases e178; obtain ⟨ce178, hce178, hMe178, hcc178⟩ := Kd.N_get HO_18.out [] x20_1 p178 zq4'; obtain ⟨ua178_0, uc178_0, rfl, ul178_0, ge178_0⟩ := Kd.FK_slice_open hMe178; have hv178_0 := hcc178 0 _ rfl; rw [Nat.add_zero, show ((Kd.slice 3 (Kd.int .i64))).sz = 1 from rfl, Nat.mul_one] at hv178_0; replace hv178_0 := Option.some.inj (hv178_0.symm.trans hx178_0)
           injection hv178_0 with hva_ hvn_ hvc_
           rw [hva_] at ge178_0; rw [hvc_] at ul178_0; have HL178_0 := am (show Kd.V (Kd.int .i64) 3 _ w.heap.size _ _ (rd_L2 t175 x20_1) from Kd.V_mk ul178_0 ge178_0); clear hva_ hvn_ hvc_ ge178_0 ul178_0; clear hcc178 hce178; have HR178_0 := Aside0.mk hi178_0; have HC178_0 := Aside0.mk hl178_0; clear hi178_0 hl178_0; replace p178 := eq_true p178; replace q178 := eq_true q178
           go_wp2_with (first | ((with_reducible refine gate_callee (f := 57) rfl ?_); refine goesL_ (some 26) rfl rfl Try.func57 (by kernel_rfl) rfl #[.slice A0 l0.length c0, .slice A178_0 (rd_L2 t175 x20_1).length c178_0] rfl zb' ?_; (with_reducible refine (spec_blSums.calls k1 _ _ l0 _ _ (rd_L2 t175 x20_1) t179 _ ?side1 ?side2 ?side3 ?side4 A13.out).mono ?_); (case side1 => exact zh'); (case side2 => exact zj4'); (case side3 => exact zr3'); (case side4 => exact HC178_0.out); rintro e w32 ⟨v180, rfl, ho0, hb⟩; refine ⟨_, rfl, ?_⟩; have n0_ := am (Kd.V_elder' zp2' (Kd.R_base ho0) hb); have n1_ := am (Kd.N_elder' zq2' (Kd.R_base ho0) hb); have n2_ := am (Kd.V_elder' zo2' (Kd.R_base ho0) hb); have n3_ := am (Kd.R_lower (Kd.R_newM (M := fun k_ => (w.heap.size ≤ k_)) ho0 (below_size zr') (fun k_ h_ => h_)) (below_size zr')); have n4_ := am (blk_below (g := gb174) (o := o1') zw1' hb); have n5_ := am (Kd.C_below zv' hb); have n6_ := am (below_step zr' hb); clear HO_10; clear HO_18; clear HL178_0; clear BK174; clear HR178_0; clear HB; have HO_10 := n0_; have HO_18 := n1_; have HL178_0 := n2_; have HO181 := n3_; have BK174 := n4_; have HR178_0 := n5_; have HB := n6_; clear n0_ n1_ n2_ n3_ n4_ n5_ n6_; (try clear hb); (try clear hb2); (try clear hk); (try clear hi); (try clear ho0); have hcz33_0 : w32.cell? ⟨gb174, 0, none⟩ = some (.int .i64 a1_0) := (blk_cell BK174.out 0).trans rfl; have hcz33_1 : w32.cell? ⟨gb174, 1, none⟩ = some (.int .i64 a1_1) := (blk_cell BK174.out 1).trans rfl; have hcz33_2 : w32.cell? ⟨gb174, 2, none⟩ = some (.int .i64 a1_2) := (blk_cell BK174.out 2).trans rfl; have hcz33_3 : w32.cell? ⟨gb174, 3, none⟩ = some (.int .i64 a1_3) := (blk_cell BK174.out 3).trans rfl; have hfz33_0 := blk_frozen BK174.out 0; have hfz33_1 := blk_frozen BK174.out 1; have hfz33_2 := blk_frozen BK174.out 2; have hfz33_3 := blk_frozen BK174.out 3; obtain ⟨Ao34, co34, eo34⟩ := Kd.R_slice HO181.out; subst eo34) | ((with_reducible refine gate_callee (f := 56) rfl ?_); refine goesL_ (some 29) rfl rfl Try.func56 (by kernel_rfl) rfl #[.agg #[.int .i64 a1_0, .int .i64 a1_1, .int .i64 a1_2, .int .i64 a1_3], .slice Ao34 t179.length co34] rfl zb' ?_; (with_reducible refine (spec_blMeets.calls a1_0 a1_1 a1_2 a1_3 _ _ t179 true _ ?side1 ?side2 A14.out).mono ?_); (case side1 => exact zf3'); (case side2 => exact (Kd.R_reads' HO181.out).2.1); rintro e w35 ⟨rfl, hb⟩; refine ⟨_, rfl, ?_⟩; have n0_ := am (Kd.V_below zp2' hb); have n1_ := am (Kd.N_below zq2' hb); have n2_ := am (Kd.V_below zo2' hb); have n3_ := am (Kd.R_below zh4' hb); have n4_ := am (blk_below (g := gb174) (o := o1') zw1' hb); have n5_ := am (Kd.C_below zv' hb); have n6_ := am (below_step zr' hb); clear HO_10; clear HO_18; clear HL178_0; clear HO181; clear BK174; clear HR178_0; clear HB; have HO_10 := n0_; have HO_18 := n1_; have HL178_0 := n2_; have HO181 := n3_; have BK174 := n4_; have HR178_0 := n5_; have HB := n6_; clear n0_ n1_ n2_ n3_ n4_ n5_ n6_; (try clear hb); (try clear hb2); (try clear hk); (try clear hi); obtain ⟨Ao36, co36, eo36⟩ := Kd.V_slice HO_10.out; subst eo36; have p184 : 0 ≤ (a2 : Int) := odt; have q184 : a2 < (t179.length : Int) := odt; obtain ⟨ad184, e184, hx184_0⟩ := Kd.at_int (Kd.R_reads' HO181.out).2.2 a2 p184 q184; cases e184; replace p184 := eq_true p184; replace q184 := eq_true q184))
           go_roundg k1
           case measure => have := HK1.out; omega
           case rel => exact ⟨(x10_1), (x11_1), (wrap64 (x20_1 + 1)), zx', zx', H', ⟨zv4'⟩, ⟨zj5'⟩, ⟨zs3'⟩, ⟨zw1'⟩, ⟨zr'⟩⟩
         ·rw [if_neg c25] at H
          exact absurd H (by simp)
        ·rw [if_neg c24] at H
         exact absurd H (by simp)
      ·replace c15 := Bool.eq_false_iff.mpr c15
       subst c15
       have H1 : (spec_blBest.l0 k1 l0 a2 a3 x10_1 x11_1 t175 (t175.length : Int) (wrap64 (x20_1 + 1)) a1_0 a1_1 a1_2 a1_3) = some (r1, r2) := by rw [if_neg (show ¬ (false = true) by decide)] at H; exact H
       clear H; have H := H1; clear H1; have H' := Aside0.mk H; clear H; have p178 : 0 ≤ (x20_1 : Int) := odt; have q178 : x20_1 < (t175.length : Int) := odt; obtain ⟨ad178, A178_0, c178_0, e178, hx178_0, hl178_0, hi178_0⟩ := at_L2 (Kd.N_reads' HO_18.out).2.2 x20_1 p178 q178; cases e178; obtain ⟨ce178, hce178, hMe178, hcc178⟩ := Kd.N_get HO_18.out [] x20_1 p178 zq4'; obtain ⟨ua178_0, uc178_0, rfl, ul178_0, ge178_0⟩ := Kd.FK_slice_open hMe178; have hv178_0 := hcc178 0 _ rfl; rw [Nat.add_zero, show ((Kd.slice 3 (Kd.int .i64))).sz = 1 from rfl, Nat.mul_one] at hv178_0; replace hv178_0 := Option.some.inj (hv178_0.symm.trans hx178_0)
       injection hv178_0 with hva_ hvn_ hvc_
       rw [hva_] at ge178_0; rw [hvc_] at ul178_0; have HL178_0 := am (show Kd.V (Kd.int .i64) 3 _ w.heap.size _ _ (rd_L2 t175 x20_1) from Kd.V_mk ul178_0 ge178_0); clear hva_ hvn_ hvc_ ge178_0 ul178_0; clear hcc178 hce178; have HR178_0 := Aside0.mk hi178_0; have HC178_0 := Aside0.mk hl178_0; clear hi178_0 hl178_0; replace p178 := eq_true p178; replace q178 := eq_true q178
       go_wp2_with (first | ((with_reducible refine gate_callee (f := 57) rfl ?_); refine goesL_ (some 26) rfl rfl Try.func57 (by kernel_rfl) rfl #[.slice A0 l0.length c0, .slice A178_0 (rd_L2 t175 x20_1).length c178_0] rfl zb' ?_; (with_reducible refine (spec_blSums.calls k1 _ _ l0 _ _ (rd_L2 t175 x20_1) t179 _ ?side1 ?side2 ?side3 ?side4 A13.out).mono ?_); (case side1 => exact zh'); (case side2 => exact zj4'); (case side3 => exact zr3'); (case side4 => exact HC178_0.out); rintro e w37 ⟨v180, rfl, ho0, hb⟩; refine ⟨_, rfl, ?_⟩; have n0_ := am (Kd.V_elder' zp2' (Kd.R_base ho0) hb); have n1_ := am (Kd.N_elder' zq2' (Kd.R_base ho0) hb); have n2_ := am (Kd.V_elder' zo2' (Kd.R_base ho0) hb); have n3_ := am (Kd.R_lower (Kd.R_newM (M := fun k_ => (w.heap.size ≤ k_)) ho0 (below_size zr') (fun k_ h_ => h_)) (below_size zr')); have n4_ := am (blk_below (g := gb174) (o := o1') zw1' hb); have n5_ := am (Kd.C_below zv' hb); have n6_ := am (below_step zr' hb); clear HO_10; clear HO_18; clear HL178_0; clear BK174; clear HR178_0; clear HB; have HO_10 := n0_; have HO_18 := n1_; have HL178_0 := n2_; have HO181 := n3_; have BK174 := n4_; have HR178_0 := n5_; have HB := n6_; clear n0_ n1_ n2_ n3_ n4_ n5_ n6_; (try clear hb); (try clear hb2); (try clear hk); (try clear hi); (try clear ho0); have hcz38_0 : w37.cell? ⟨gb174, 0, none⟩ = some (.int .i64 a1_0) := (blk_cell BK174.out 0).trans rfl; have hcz38_1 : w37.cell? ⟨gb174, 1, none⟩ = some (.int .i64 a1_1) := (blk_cell BK174.out 1).trans rfl; have hcz38_2 : w37.cell? ⟨gb174, 2, none⟩ = some (.int .i64 a1_2) := (blk_cell BK174.out 2).trans rfl; have hcz38_3 : w37.cell? ⟨gb174, 3, none⟩ = some (.int .i64 a1_3) := (blk_cell BK174.out 3).trans rfl; have hfz38_0 := blk_frozen BK174.out 0; have hfz38_1 := blk_frozen BK174.out 1; have hfz38_2 := blk_frozen BK174.out 2; have hfz38_3 := blk_frozen BK174.out 3; obtain ⟨Ao39, co39, eo39⟩ := Kd.R_slice HO181.out; subst eo39) | ((with_reducible refine gate_callee (f := 56) rfl ?_); refine goesL_ (some 29) rfl rfl Try.func56 (by kernel_rfl) rfl #[.agg #[.int .i64 a1_0, .int .i64 a1_1, .int .i64 a1_2, .int .i64 a1_3], .slice Ao39 t179.length co39] rfl zb' ?_; (with_reducible refine (spec_blMeets.calls a1_0 a1_1 a1_2 a1_3 _ _ t179 false _ ?side1 ?side2 A14.out).mono ?_); (case side1 => exact zf3'); (case side2 => exact (Kd.R_reads' HO181.out).2.1); rintro e w40 ⟨rfl, hb⟩; refine ⟨_, rfl, ?_⟩; have n0_ := am (Kd.V_below zp2' hb); have n1_ := am (Kd.N_below zq2' hb); have n2_ := am (Kd.V_below zo2' hb); have n3_ := am (Kd.R_below zh4' hb); have n4_ := am (blk_below (g := gb174) (o := o1') zw1' hb); have n5_ := am (Kd.C_below zv' hb); have n6_ := am (below_step zr' hb); clear HO_10; clear HO_18; clear HL178_0; clear HO181; clear BK174; clear HR178_0; clear HB; have HO_10 := n0_; have HO_18 := n1_; have HL178_0 := n2_; have HO181 := n3_; have BK174 := n4_; have HR178_0 := n5_; have HB := n6_; clear n0_ n1_ n2_ n3_ n4_ n5_ n6_; (try clear hb); (try clear hb2); (try clear hk); (try clear hi)))
       go_roundg k1
       case measure => have := HK1.out; omega
       case rel => exact ⟨(x10_1), (x11_1), (wrap64 (x20_1 + 1)), zx', zx', H', ⟨zv4'⟩, ⟨zj5'⟩, ⟨zs3'⟩, ⟨zw1'⟩, ⟨zr'⟩⟩
     ·rw [if_neg c12] at H
      exact absurd H (by simp)
    ·rw [if_neg c11] at H
     exact absurd H (by simp)
   ·rw [if_neg c10] at H
    have c10b0 : decide (x20_1 < (t175.length : Int)) = false := decide_eq_false c10; clear c10; simp only [Option.some.injEq, Prod.mk.injEq] at H; obtain ⟨rfl, rfl⟩ := H; obtain ⟨Ao41, co41, eo41⟩ := Kd.V_slice HO_10.out; subst eo41
    go_wp2
    go_ret2
    exact ⟨_, by first | rfl | (simp [errW_none, errW_some] <;> rfl) | (simp [*, errW_none, errW_some] <;> rfl), by (with_reducible repeat (first | apply Kd.V_alloc | apply Kd.V_drewN | apply Kd.V_drew)); exact Kd.V_mono HO_10.out (fun _ hk => hk.1), by repeat (first | (with_reducible first | exact HB.out | apply ba | apply bn | apply below_drew1 | refine below_set ?_ GE174.out) | exact HB.out)⟩

/-! ### spec_RichestBlend: function 26 -/
def spec_RichestBlend.f (k : Nat) (l0 : List (S63)) (a1_0 : Int) (a1_1 : Int) (a1_2 : Int) (a1_3 : Int) : Option (List Int × Bool) := (spec_blAsked.f k l0 a1_0 a1_1 a1_2 a1_3).bind fun t187 => (if t187 = true then ((spec_blBest.f k l0 a1_0 a1_1 a1_2 a1_3 1 (-1)).bind fun bt188 => (some (bt188.1, bt188.2))) else (some (([] : List Int), false)))
set_option maxHeartbeats 8000000 in
set_option maxRecDepth 100000 in
theorem spec_RichestBlend.calls (k : Nat) (A0 : Option Addr) (c0 : Nat) (l0 : List (S63)) (a1_0 : Int) (a1_1 : Int) (a1_2 : Int) (a1_3 : Int) (r1 : List Int) (r2 : Bool) (w : World) (hr0 : Kd.C k63 w A0 l0.length l0) (hc0 : l0.length ≤ c0) (h : spec_RichestBlend.f k l0 a1_0 a1_1 a1_2 a1_3 = some (r1, r2)) :
  Calls Try.prog 26 #[.slice A0 l0.length c0, .agg #[.int .i64 a1_0, .int .i64 a1_1, .int .i64 a1_2, .int .i64 a1_3]] w fun e w' => ∃ v0_ : Value, e = .returned (.tuple #[v0_, .bool r2]) ∧ Kd.V (Kd.int .i64) 3 w' w.heap.size (fun k_ => (w.heap.size ≤ k_)) v0_ r1 ∧ Below w.heap.size w w' := by
 have hu45 := Try.underlying45
 have HR0 := Aside0.mk hr0
 have HC0 := Aside0.mk hc0
 clear hr0 hc0
 have HB := am (Below.refl w.heap.size w)
 have H : ((spec_blAsked.f k l0 a1_0 a1_1 a1_2 a1_3).bind fun t187 => (if t187 = true then ((spec_blBest.f k l0 a1_0 a1_1 a1_2 a1_3 1 (-1)).bind fun bt188 => (some (bt188.1, bt188.2))) else (some (([] : List Int), false)))) = some (r1, r2) := h
 clear h
 replace H := Option.bind_eq_some_iff.mp H
 obtain ⟨t187, A30, H⟩ := H
 replace H : (if t187 = true then ((spec_blBest.f k l0 a1_0 a1_1 a1_2 a1_3 1 (-1)).bind fun bt188 => (some (bt188.1, bt188.2))) else (some (([] : List Int), false))) = some (r1, r2) := H
 have A3 := Aside0.mk A30
 clear A30
 by_cases c4 : t187 = true
 ·subst c4
  have H1 : ((spec_blBest.f k l0 a1_0 a1_1 a1_2 a1_3 1 (-1)).bind fun bt188 => (some (bt188.1, bt188.2))) = some (r1, r2) := by rw [if_pos rfl] at H; exact H
  clear H
  have H := H1
  clear H1
  replace H := Option.bind_eq_some_iff.mp H
  obtain ⟨⟨t188, t191⟩, A50, H⟩ := H
  replace H : (some (t188, t191)) = some (r1, r2) := H
  have A5 := Aside0.mk A50
  clear A50
  simp only [Option.some.injEq, Prod.mk.injEq] at H
  obtain ⟨rfl, rfl⟩ := H
  go_enter Try.func26, Try.ntmps26
  go_wp2_with (first | ((with_reducible refine gate_dst (N := 3) rfl ?_); refine box_event ?hg (N := 3) ?hd (cs := #[.int .i64 a1_0, .int .i64 a1_1, .int .i64 a1_2, .int .i64 a1_3]) (t := 45) ?hr ?_; (case hd => rfl); (case hg => rfl); (case hr => exact zo'); intro gb186 hg w6 hbox hb; have n0_ := am (below_step za' hb); have n1_ := am (hbox); have n2_ := am ((by rw [hg]; exact (below_size za') : w.heap.size ≤ gb186)); have n3_ := am ((by rw [hg]; exact (below_size za') : w.heap.size ≤ gb186)); clear HB; have HB := n0_; have BK186 := n1_; have GW186 := n2_; have GE186 := n3_; clear n0_ n1_ n2_ n3_; clear hb hbox hg; have hcz7_0 : w6.cell? ⟨gb186, 0, none⟩ = some (.int .i64 a1_0) := (blk_cell BK186.out 0).trans rfl; have hcz7_1 : w6.cell? ⟨gb186, 1, none⟩ = some (.int .i64 a1_1) := (blk_cell BK186.out 1).trans rfl; have hcz7_2 : w6.cell? ⟨gb186, 2, none⟩ = some (.int .i64 a1_2) := (blk_cell BK186.out 2).trans rfl; have hcz7_3 : w6.cell? ⟨gb186, 3, none⟩ = some (.int .i64 a1_3) := (blk_cell BK186.out 3).trans rfl; have hfz7_0 := blk_frozen BK186.out 0; have hfz7_1 := blk_frozen BK186.out 1; have hfz7_2 := blk_frozen BK186.out 2; have hfz7_3 := blk_frozen BK186.out 3) | ((with_reducible refine gate_callee (f := 54) rfl ?_); refine goesL_ (some 8) rfl rfl Try.func54 (by kernel_rfl) rfl #[.slice A0 l0.length c0, .agg #[.int .i64 a1_0, .int .i64 a1_1, .int .i64 a1_2, .int .i64 a1_3]] rfl zb' ?_; (with_reducible refine (spec_blAsked.calls k _ _ l0 a1_0 a1_1 a1_2 a1_3 true _ ?side1 ?side2 A3.out).mono ?_); (case side1 => exact zh'); (case side2 => exact zj4'); rintro e w8 ⟨rfl, hb⟩; refine ⟨_, rfl, ?_⟩; have n0_ := am (blk_below (g := gb186) (o := o1') zp4' hb); have n1_ := am (below_step zy2' hb); clear BK186; clear HB; have BK186 := n0_; have HB := n1_; clear n0_ n1_; (try clear hb); (try clear hb2); (try clear hk); (try clear hi); have hcz9_0 : w8.cell? ⟨gb186, 0, none⟩ = some (.int .i64 a1_0) := (blk_cell BK186.out 0).trans rfl; have hcz9_1 : w8.cell? ⟨gb186, 1, none⟩ = some (.int .i64 a1_1) := (blk_cell BK186.out 1).trans rfl; have hcz9_2 : w8.cell? ⟨gb186, 2, none⟩ = some (.int .i64 a1_2) := (blk_cell BK186.out 2).trans rfl; have hcz9_3 : w8.cell? ⟨gb186, 3, none⟩ = some (.int .i64 a1_3) := (blk_cell BK186.out 3).trans rfl; have hfz9_0 := blk_frozen BK186.out 0; have hfz9_1 := blk_frozen BK186.out 1; have hfz9_2 := blk_frozen BK186.out 2; have hfz9_3 := blk_frozen BK186.out 3) | ((with_reducible refine gate_callee (f := 61) rfl ?_); refine goesL_ (some 12) rfl rfl Try.func61 (by kernel_rfl) rfl #[.slice A0 l0.length c0, .agg #[.int .i64 a1_0, .int .i64 a1_1, .int .i64 a1_2, .int .i64 a1_3], .int .i64 1, .int .i64 (-1)] rfl zb' ?_; (with_reducible refine (spec_blBest.calls k _ _ l0 a1_0 a1_1 a1_2 a1_3 1 (-1) t188 t191 _ ?side1 ?side2 A5.out).mono ?_); (case side1 => exact zh'); (case side2 => exact zj4'); rintro e w10 ⟨v189, rfl, ho0, hb⟩; refine ⟨_, rfl, ?_⟩; have n0_ := am (Kd.V_lower (Kd.V_mono (ok' := fun k_ => (w.heap.size ≤ k_) ∧ k_ ≠ gb186) ho0 (fun k_ hk_ => ⟨(Nat.le_trans (below_size zy2') hk_), (Kd.freshB (g := gb186) (o := o1') zp4' k_ hk_)⟩)) (below_size zy2')); have n1_ := am (blk_below (g := gb186) (o := o1') zp4' hb); have n2_ := am (below_step zy2' hb); clear BK186; clear HB; have HO190 := n0_; have BK186 := n1_; have HB := n2_; clear n0_ n1_ n2_; (try clear hb); (try clear hb2); (try clear hk); (try clear hi); (try clear ho0)))
  go_ret2
  exact ⟨_, by first | rfl | (simp [errW_none, errW_some] <;> rfl) | (simp [*, errW_none, errW_some] <;> rfl), by (with_reducible repeat (first | apply Kd.V_alloc | apply Kd.V_drewN | apply Kd.V_drew)); exact Kd.V_mono HO190.out (fun _ hk => hk.1), by repeat (first | (with_reducible first | exact HB.out | apply ba | apply bn | apply below_drew1 | refine below_set ?_ GE186.out) | exact HB.out)⟩
 ·replace c4 := Bool.eq_false_iff.mpr c4
  subst c4
  have H1 : (some (([] : List Int), false)) = some (r1, r2) := by rw [if_neg (show ¬ (false = true) by decide)] at H; exact H
  clear H
  have H := H1
  clear H1
  simp only [Option.some.injEq, Prod.mk.injEq] at H
  obtain ⟨rfl, rfl⟩ := H
  go_enter Try.func26, Try.ntmps26
  go_wp2_with (first | ((with_reducible refine gate_dst (N := 3) rfl ?_); refine box_event ?hg (N := 3) ?hd (cs := #[.int .i64 a1_0, .int .i64 a1_1, .int .i64 a1_2, .int .i64 a1_3]) (t := 45) ?hr ?_; (case hd => rfl); (case hg => rfl); (case hr => exact zo'); intro gb186 hg w11 hbox hb; have n0_ := am (below_step za' hb); have n1_ := am (hbox); have n2_ := am ((by rw [hg]; exact (below_size za') : w.heap.size ≤ gb186)); have n3_ := am ((by rw [hg]; exact (below_size za') : w.heap.size ≤ gb186)); clear HB; have HB := n0_; have BK186 := n1_; have GW186 := n2_; have GE186 := n3_; clear n0_ n1_ n2_ n3_; clear hb hbox hg; have hcz12_0 : w11.cell? ⟨gb186, 0, none⟩ = some (.int .i64 a1_0) := (blk_cell BK186.out 0).trans rfl; have hcz12_1 : w11.cell? ⟨gb186, 1, none⟩ = some (.int .i64 a1_1) := (blk_cell BK186.out 1).trans rfl; have hcz12_2 : w11.cell? ⟨gb186, 2, none⟩ = some (.int .i64 a1_2) := (blk_cell BK186.out 2).trans rfl; have hcz12_3 : w11.cell? ⟨gb186, 3, none⟩ = some (.int .i64 a1_3) := (blk_cell BK186.out 3).trans rfl; have hfz12_0 := blk_frozen BK186.out 0; have hfz12_1 := blk_frozen BK186.out 1; have hfz12_2 := blk_frozen BK186.out 2; have hfz12_3 := blk_frozen BK186.out 3) | ((with_reducible refine gate_callee (f := 54) rfl ?_); refine goesL_ (some 8) rfl rfl Try.func54 (by kernel_rfl) rfl #[.slice A0 l0.length c0, .agg #[.int .i64 a1_0, .int .i64 a1_1, .int .i64 a1_2, .int .i64 a1_3]] rfl zb' ?_; (with_reducible refine (spec_blAsked.calls k _ _ l0 a1_0 a1_1 a1_2 a1_3 false _ ?side1 ?side2 A3.out).mono ?_); (case side1 => exact zh'); (case side2 => exact zj4'); rintro e w13 ⟨rfl, hb⟩; refine ⟨_, rfl, ?_⟩; have n0_ := am (blk_below (g := gb186) (o := o1') zp4' hb); have n1_ := am (below_step zy2' hb); clear BK186; clear HB; have BK186 := n0_; have HB := n1_; clear n0_ n1_; (try clear hb); (try clear hb2); (try clear hk); (try clear hi)))
  go_ret2
  exact ⟨_, by first | rfl | (simp [errW_none, errW_some] <;> rfl) | (simp [*, errW_none, errW_some] <;> rfl), (Kd.V_nil _ _ _ _ _), by repeat (first | (with_reducible first | exact HB.out | apply ba | apply bn | apply below_drew1 | refine below_set ?_ GE186.out) | exact HB.out)⟩

end Go.Proofs.Ytcinecbfkeefaaa.PFnBlends
