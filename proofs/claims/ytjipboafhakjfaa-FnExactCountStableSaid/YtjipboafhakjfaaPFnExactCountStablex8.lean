/- Text written by a program for this claim: contracts of the functions of one law. -/
import Derived.Test.YtjipboafhakjfaaPFnExactCountStablex0
import Derived.Test.YtjipboafhakjfaaPFnExactCountStablex1
import Derived.Test.YtjipboafhakjfaaPFnExactCountStablex5
import Derived.Test.YtjipboafhakjfaaPFnExactCountStablex6
import Derived.Test.YtjipboafhakjfaaPFnExactCountStablex7
namespace Go.Proofs.Ytjipboafhakjfaa.PFnExactCountStable
open Go.RowKit Go.Proofs.YtjipboafhakjfaaW.PrintWords Go.Proofs.YtjipboafhakjfaaW.PrintLast Go.Proofs.YtjipboafhakjfaaW.PrintMore
attribute [local go_sem] max2_int min2_int max_two min_two max_three min_three max_four min_four   -- for this text's walks alone
set_option linter.unusedVariables false
set_option linter.unusedSimpArgs false

/-! ### impl_CountStable: function 43 -/
/-- The rounds over the shovels: those that are free are tried in order. -/
def fillK {σ : Type} (rec : List Int → List Bool → σ → Option (List Int × List Bool × σ)) (i n : Nat) : Nat → List Int → List Bool → σ → Option (List Int × List Bool × σ)
  | 0, M, U, s => some (M, U, s)
  | e + 1, M, U, s => if U.getD (n - (e + 1)) false = true then fillK rec i n e M U s else (rec (M.set i ((n - (e + 1) : Nat) : Int)) (U.set (n - (e + 1)) true) s).bind fun q => fillK rec i n e q.1 (q.2.1.set (n - (e + 1)) false) q.2.2
def fillF {σ : Type} (step : σ → List Int → Option σ) (n : Nat) : Nat → List Int → List Bool → σ → Option (List Int × List Bool × σ)
  | 0, M, U, s => (step s M).bind fun s' => some (M, U, s')
  | d + 1, M, U, s => fillK (fillF step n d) (n - (d + 1)) n n M U s
def matchFill.f {σ : Type} := @fillF σ
/-- The variables of a filling, in the blocks from B on. -/
structure FillEnv (B n : Nat) (cv : Value) (W : World) (M : List Int) (U : List Bool) : Prop where
  hn : W.heap[B]? = some (.cells #[.int .i64 (n : Int)] 3 (0, 0))
  hc : W.heap[B + 1]? = some (.cells #[cv] 65 (0, 0))
  hM : W.heap[B + 2]? = some (.cells (nums .i64 M).toArray 3 (0, 0))
  hm : W.heap[B + 3]? = some (.cells #[.slice (some ⟨B + 2, 0, none⟩) n n] 27 (0, 0))
  hU : W.heap[B + 4]? = some (.cells (bools U).toArray 4 (0, 0))
  hu : W.heap[B + 5]? = some (.cells #[.slice (some ⟨B + 4, 0, none⟩) n n] 80 (0, 0))
  hf : W.heap[B + 6]? = some (.cells #[.func (.func 89) #[] #[.pointer (some ⟨B, 0, none⟩), .pointer (some ⟨B + 1, 0, none⟩), .pointer (some ⟨B + 3, 0, none⟩), .pointer (some ⟨B + 5, 0, none⟩), .pointer (some ⟨B + 6, 0, none⟩)]] 81 (0, 0))
  lM : M.length = n
  lU : U.length = n
section
variable {B n : Nat} {cv : Value} {W W' : World} {M : List Int} {U : List Bool}
theorem FillEnv.kept {S : Nat → Prop} (E : FillEnv B n cv W M U) (h : Kept W W' S) (hS : ∀ k, S k → k < B) : FillEnv B n cv W' M U where
  hn := blk_kept E.hn h (fun hk => by have := hS _ hk; omega)
  hc := blk_kept E.hc h (fun hk => by have := hS _ hk; omega)
  hM := blk_kept E.hM h (fun hk => by have := hS _ hk; omega)
  hm := blk_kept E.hm h (fun hk => by have := hS _ hk; omega)
  hU := blk_kept E.hU h (fun hk => by have := hS _ hk; omega)
  hu := blk_kept E.hu h (fun hk => by have := hS _ hk; omega)
  hf := blk_kept E.hf h (fun hk => by have := hS _ hk; omega)
  lM := E.lM
  lU := E.lU
theorem FillEnv.setM (E : FillEnv B n cv W M U) (i : Nat) (x : Int) : FillEnv B n cv (W.setCell ⟨B + 2, i, none⟩ (.int .i64 x)) (M.set i x) U where
  hn := blk_far E.hn (by simp) _
  hc := blk_far E.hc (by simp) _
  hM := by rw [blk_set E.hM]; simp [nums, List.map_set]
  hm := blk_far E.hm (by simp) _
  hU := blk_far E.hU (by simp) _
  hu := blk_far E.hu (by simp) _
  hf := blk_far E.hf (by simp) _
  lM := by rw [List.length_set]; exact E.lM
  lU := E.lU
theorem FillEnv.setU (E : FillEnv B n cv W M U) (i : Nat) (x : Bool) : FillEnv B n cv (W.setCell ⟨B + 4, i, none⟩ (.bool x)) M (U.set i x) where
  hn := blk_far E.hn (by simp) _
  hc := blk_far E.hc (by simp) _
  hM := blk_far E.hM (by simp) _
  hm := blk_far E.hm (by simp) _
  hU := by rw [blk_set E.hU]; simp [bools, List.map_set]
  hu := blk_far E.hu (by simp) _
  hf := blk_far E.hf (by simp) _
  lM := E.lM
  lU := by rw [List.length_set]; exact E.lU
theorem FillEnv.cells (E : FillEnv B n cv W M U) : W.cell? ⟨B, 0, none⟩ = some (.int .i64 (n : Int)) ∧ W.cell? ⟨B + 1, 0, none⟩ = some cv ∧ W.cell? ⟨B + 3, 0, none⟩ = some (.slice (some ⟨B + 2, 0, none⟩) n n) ∧ W.cell? ⟨B + 5, 0, none⟩ = some (.slice (some ⟨B + 4, 0, none⟩) n n) ∧ W.cell? ⟨B + 6, 0, none⟩ = some (.func (.func 89) #[] #[.pointer (some ⟨B, 0, none⟩), .pointer (some ⟨B + 1, 0, none⟩), .pointer (some ⟨B + 3, 0, none⟩), .pointer (some ⟨B + 5, 0, none⟩), .pointer (some ⟨B + 6, 0, none⟩)]) :=
  ⟨by rw [blk_cell E.hn]; rfl, by rw [blk_cell E.hc]; rfl, by rw [blk_cell E.hm]; rfl, by rw [blk_cell E.hu]; rfl, by rw [blk_cell E.hf]; rfl⟩
theorem FillEnv.atU (E : FillEnv B n cv W M U) (k : Nat) (hk : k < n) : W.cell? ⟨B + 4, k, none⟩ = some (.bool (U.getD k false)) ∧ W.frozen? ⟨B + 4, k, none⟩ = false := by
  have hl := E.lU
  refine ⟨?_, blk_frozen E.hU _⟩
  rw [blk_cell E.hU]
  simp [bools, List.getD_eq_getElem?_getD, List.getElem?_eq_getElem (show k < U.length by omega)]
theorem FillEnv.atM (E : FillEnv B n cv W M U) (k : Nat) (hk : k < n) : W.cell? ⟨B + 2, k, none⟩ = some (.int .i64 (M.getD k 0)) ∧ W.frozen? ⟨B + 2, k, none⟩ = false := by
  have hl := E.lM
  refine ⟨?_, blk_frozen E.hM _⟩
  rw [blk_cell E.hM]
  simp [nums, List.getD_eq_getElem?_getD, List.getElem?_eq_getElem (show k < M.length by omega)]
theorem FillEnv.reads (E : FillEnv B n cv W M U) (hn : n ≤ 9223372036854775807) : (Kd.int .i64).C W (some ⟨B + 2, 0, none⟩) M.length M := by
  refine Kd.C_of_reads (d := (0 : Int)) (h1 := fun _ => rfl) ⟨rfl, by rw [E.lM]; exact hn, fun _ => ⟨_, rfl, fun j hj => ?_⟩⟩
  rw [add_plain]
  exact (E.atM j (by have := E.lM; omega)).1
end
theorem blk_here {W : World} {B : Nat} (o : Obj) (h : W.heap.size = B) : (W.alloc o).heap[B]? = some o := by subst h; exact blk_new W o
theorem size_al {W : World} {B : Nat} (o : Obj) (h : W.heap.size = B) : (W.alloc o).heap.size = B + 1 := by subst h; simp
theorem FillEnv.made (W : World) (n : Nat) (cv : Value) : FillEnv W.heap.size n cv
    (((((((W.alloc (.cells #[.int .i64 (n : Int)] 3)).alloc (.cells #[cv] 65)).alloc (.cells (madeCells #[.int .i64 0] n) 3)).alloc (.cells #[.slice (some ⟨W.heap.size + 1 + 1, 0, none⟩) n n] 27)).alloc (.cells (madeCells #[.bool false] n) 4)).alloc (.cells #[.slice (some ⟨W.heap.size + 1 + 1 + 1 + 1, 0, none⟩) n n] 80)).alloc (.cells #[.func (.func 89) #[] #[.pointer (some ⟨W.heap.size, 0, none⟩), .pointer (some ⟨W.heap.size + 1, 0, none⟩), .pointer (some ⟨W.heap.size + 1 + 1 + 1, 0, none⟩), .pointer (some ⟨W.heap.size + 1 + 1 + 1 + 1 + 1, 0, none⟩), .pointer (some ⟨W.heap.size + 1 + 1 + 1 + 1 + 1 + 1, 0, none⟩)]] 81)) (List.replicate n 0) (List.replicate n false) := by
  have e1 : (madeCells #[Value.int .i64 0] n) = (nums .i64 (List.replicate n 0)).toArray := by
    apply Array.ext'
    simp only [nums, List.map_replicate]
    apply List.ext_getElem
    · simp [madeCells]
    · intro i h1 h2
      simp [madeCells, Nat.mod_one]
  have e2 : (madeCells #[Value.bool false] n) = (bools (List.replicate n false)).toArray := by
    apply Array.ext'
    simp only [bools, List.map_replicate]
    apply List.ext_getElem
    · simp [madeCells]
    · intro i h1 h2
      simp [madeCells, Nat.mod_one]
  rw [e1, e2]
  have z1 := size_al (.cells #[.int .i64 (n : Int)] 3) (rfl : W.heap.size = W.heap.size)
  have z2 := size_al (.cells #[cv] 65) z1
  have z3 := size_al (.cells (nums .i64 (List.replicate n 0)).toArray 3) z2
  have z4 := size_al (.cells #[.slice (some ⟨W.heap.size + 1 + 1, 0, none⟩) n n] 27) z3
  have z5 := size_al (.cells (bools (List.replicate n false)).toArray 4) z4
  have z6 := size_al (.cells #[.slice (some ⟨W.heap.size + 1 + 1 + 1 + 1, 0, none⟩) n n] 80) z5
  exact ⟨blk_alloc (blk_alloc (blk_alloc (blk_alloc (blk_alloc (blk_alloc (blk_new _ _) _) _) _) _) _) _,
    blk_alloc (blk_alloc (blk_alloc (blk_alloc (blk_alloc (blk_here _ z1) _) _) _) _) _,
    blk_alloc (blk_alloc (blk_alloc (blk_alloc (blk_here _ z2) _) _) _) _,
    blk_alloc (blk_alloc (blk_alloc (blk_here _ z3) _) _) _,
    blk_alloc (blk_alloc (blk_here _ z4) _) _,
    blk_alloc (blk_here _ z5) _,
    blk_here _ z6, by simp, by simp⟩
section
variable {σ : Type} (step : σ → List Int → Option σ) (Inv : σ → World → Prop) (okc : Nat → Prop) (b0 : Nat) (w0 : World) (B n q0 q1 q2 : Nat)
/-- What is asked of the function that is called. -/
def CallOk : Prop := ∀ (s s' : σ) (m : List Int) (A : Option Addr) (c : Nat) (W : World), step s m = some s' → m.length = n → (Kd.int .i64).C W A m.length m → m.length ≤ c → Inv s W → Below b0 w0 W → B + 7 ≤ W.heap.size →
  Calls Try.prog 72 #[.slice A n c, .pointer (some ⟨q0, 0, none⟩), .pointer (some ⟨q1, 0, none⟩), .pointer (some ⟨q2, 0, none⟩)] W fun e W' => e = .returned (.tuple #[]) ∧ Inv s' W' ∧ Kept W W' okc ∧ Below b0 w0 W'
/-- What stands at each moment of the filling. -/
structure FillSt (W : World) (M : List Int) (U : List Bool) (s : σ) : Prop where
  E : FillEnv B n (.func (.func 72) #[] #[.pointer (some ⟨q0, 0, none⟩), .pointer (some ⟨q1, 0, none⟩), .pointer (some ⟨q2, 0, none⟩)]) W M U
  I : Inv s W
  bel : Below b0 w0 W
variable {step Inv okc b0 w0 B n q0 q1 q2}
theorem FillSt.size {W : World} {M U} {s : σ} (h : FillSt Inv b0 w0 B n q0 q1 q2 W M U s) : B + 7 ≤ W.heap.size := by have := blk_lt h.E.hf; omega
theorem FillSt.setM {W : World} {M U} {s : σ} (h : FillSt Inv b0 w0 B n q0 q1 q2 W M U s) (hI : ∀ s W W', Inv s W → Kept W W' (fun k => k = B + 2 ∨ k = B + 4) → Inv s W') (hb : b0 ≤ B) (i : Nat) (x : Int) :
    FillSt Inv b0 w0 B n q0 q1 q2 (W.setCell ⟨B + 2, i, none⟩ (.int .i64 x)) (M.set i x) U s where
  E := h.E.setM i x
  I := hI _ _ _ h.I ((Kept.refl _ _).setCell (.inl (.inl rfl)) _)
  bel := h.bel.setCell (by simp; omega) _
theorem FillSt.setU {W : World} {M U} {s : σ} (h : FillSt Inv b0 w0 B n q0 q1 q2 W M U s) (hI : ∀ s W W', Inv s W → Kept W W' (fun k => k = B + 2 ∨ k = B + 4) → Inv s W') (hb : b0 ≤ B) (i : Nat) (x : Bool) :
    FillSt Inv b0 w0 B n q0 q1 q2 (W.setCell ⟨B + 4, i, none⟩ (.bool x)) M (U.set i x) s where
  E := h.E.setU i x
  I := hI _ _ _ h.I ((Kept.refl _ _).setCell (.inl (.inr rfl)) _)
  bel := h.bel.setCell (by simp; omega) _
def FillPost (Inv : σ → World → Prop) (b0 : Nat) (w0 : World) (B n q0 q1 q2 : Nat) (okc : Nat → Prop) (W : World) (M' : List Int) (U' : List Bool) (s' : σ) (W' : World) : Prop := FillSt Inv b0 w0 B n q0 q1 q2 W' M' U' s' ∧ Kept W W' (fun k => k = B + 2 ∨ k = B + 4 ∨ okc k)
set_option maxHeartbeats 8000000 in
set_option maxRecDepth 100000 in
theorem fill_calls (hn : n ≤ 1048576) (hb : b0 ≤ B) (hI : ∀ s W W', Inv s W → Kept W W' (fun k => k = B + 2 ∨ k = B + 4) → Inv s W') (hokc : ∀ k, okc k → k < B) (HCB : CallOk step Inv okc b0 w0 B n q0 q1 q2) : ∀ (d i : Nat), i + d = n → ∀ (M : List Int) (U : List Bool) (s : σ) (M' : List Int) (U' : List Bool) (s' : σ) (W : World), fillF step n d M U s = some (M', U', s') → FillSt Inv b0 w0 B n q0 q1 q2 W M U s →
    Calls Try.prog 89 #[.int .i64 (i : Int), .pointer (some ⟨B, 0, none⟩), .pointer (some ⟨B + 1, 0, none⟩), .pointer (some ⟨B + 3, 0, none⟩), .pointer (some ⟨B + 5, 0, none⟩), .pointer (some ⟨B + 6, 0, none⟩)] W fun e W' => e = .returned (.tuple #[]) ∧ FillPost Inv b0 w0 B n q0 q1 q2 okc W M' U' s' W' := by
  have HH := Aside0.mk hI
  have HK := Aside0.mk hokc
  have HC := Aside0.mk HCB
  clear hI hokc HCB
  intro d
  induction d with
  | zero =>
    intro i hi M U s M' U' s' W h S
    obtain rfl : i = n := by omega
    have HS := Aside0.mk S
    obtain ⟨hc1, hc2, hc3, hc4, hc5⟩ := S.E.cells
    have H : (step s M).bind (fun s' => some (M, U, s')) = some (M', U', s') := h
    obtain ⟨s1, h1, h2⟩ := Option.bind_eq_some_iff.1 H
    simp only [Option.some.injEq, Prod.mk.injEq] at h2
    obtain ⟨rfl, rfl, rfl⟩ := h2
    have H1 := Aside0.mk h1
    clear h H h1 hc4 hc5 S
    go_enter Try.func89, Try.ntmps89
    go_wp2_with fail
    refine (HC.out _ _ _ _ _ _ H1.out HS.out.E.lM (HS.out.E.reads (by omega)) (by rw [HS.out.E.lM]; exact Nat.le_refl _) HS.out.I HS.out.bel HS.out.size).mono ?_
    rintro e W1 ⟨rfl, h3, h4, h5⟩
    have HP : Aside0 (FillPost Inv b0 w0 B i q0 q1 q2 okc W M U s1 W1) := ⟨⟨HS.out.E.kept h4 HK.out, h3, h5⟩, h4.mono (fun k hk => .inr (.inr hk))⟩
    clear h3 h4 h5
    go_wp2
    refine bodyPost_ret (results_none rfl _ _ _) rfl ?_
    exact ⟨rfl, HP.out⟩
  | succ d ih =>
    intro i hi M U s M' U' s' W h S
    have HS := Aside0.mk S
    have hne : ((i : Int) == (n : Int)) = false := by rw [beq_eq_false_iff_ne]; omega
    have hi0 : n - (d + 1) = i := by omega
    have H : fillK (fillF step n d) i n n M U s = some (M', U', s') := by rw [← hi0]; exact h
    obtain ⟨hc1, hc2, hc3, hc4, hc5⟩ := S.E.cells
    have H' := Aside0.mk H
    have IH := Aside0.mk ih
    have HI := Aside0.mk hi
    have hlt : i < n := by omega
    clear h H S hi0 hc2 hc3 hc4 hc5 ih hi
    go_enter Try.func89, Try.ntmps89
    go_wp2
    go_loopg [15] n (fun kq v15 w' => ∃ (M1 : List Int) (U1 : List Bool) (s1 : σ), v15 = .int .i64 ((n - kq : Nat) : Int) ∧ Aside0 (kq ≤ n) ∧ Aside0 (fillK (fillF step n d) i n kq M1 U1 s1 = some (M', U', s')) ∧ Aside0 (FillPost Inv b0 w0 B n q0 q1 q2 okc W M1 U1 s1 w'))
    case atStart => exact ⟨M, U, s, by rw [Nat.sub_self]; rfl, ⟨Nat.le_refl _⟩, H', ⟨HS.out, Kept.refl _ _⟩⟩
    case round =>
      clear H' HS hc1
      obtain ⟨M1, U1, s1, rfl, HN, HA, HP⟩ := hrel
      obtain ⟨hc1, hc2, hc3, hc4, hc5⟩ := HP.out.1.E.cells
      cases gk with
      | zero =>
        have H := HA.out
        simp only [fillK, Option.some.injEq, Prod.mk.injEq] at H
        obtain ⟨rfl, rfl, rfl⟩ := H
        clear HA
        simp only [Nat.sub_zero]
        go_wp2
        refine bodyPost_end (results_none rfl _ _ _) rfl ?_
        exact ⟨rfl, HP.out⟩
      | succ k1 =>
        obtain ⟨kk, hkk⟩ : ∃ kk, kk = n - (k1 + 1) := ⟨_, rfl⟩
        have hk0 : kk < n := by have := HN.out; omega
        have hk1 : n - k1 = kk + 1 := by have := HN.out; omega
        have H := HA.out
        clear HA
        simp only [fillK] at H
        rw [← hkk] at H ⊢
        have hcu := (HP.out.1.E.atU kk hk0).1
        have hb1 : decide ((kk : Int) < (n : Int)) = true := decide_eq_true (by omega)
        have HK1 := Aside0.mk hk1
        have HK0 := Aside0.mk hkk
        clear hk1 hkk
        by_cases hu : U1.getD kk false = true
        · rw [if_pos hu] at H
          have H' := Aside0.mk H
          clear H
          rw [hu] at hcu
          clear hu
          go_wp2
          go_roundg k1
          case measure => omega
          case rel => exact ⟨M1, U1, s1, by rw [HK1.out]; go_num, ⟨by have := HN.out; omega⟩, H', HP⟩
        · rw [if_neg hu] at H
          rw [Bool.not_eq_true] at hu
          rw [hu] at hcu
          clear hu
          obtain ⟨⟨M2, U2, s2⟩, h1, h2⟩ := Option.bind_eq_some_iff.1 H
          have H1 := Aside0.mk h1
          have H' := Aside0.mk h2
          clear H h1 h2
          have hfu := (HP.out.1.E.atU kk hk0).2
          obtain ⟨hcm, hfm⟩ := HP.out.1.E.atM i hlt
          go_wp2_with fail
          rw [show ((i : Int) + 1) = ((i + 1 : Nat) : Int) from by omega]
          have S2 := (HP.out.1.setU HH.out hb kk true).setM HH.out hb i (kk : Int)
          refine (IH.out (i + 1) (by have := HI.out; omega) _ _ _ _ _ _ _ H1.out S2).mono ?_
          rintro e W1 ⟨rfl, h3⟩
          have HQ : Aside0 (FillPost Inv b0 w0 B n q0 q1 q2 okc W M2 U2 s2 W1) := ⟨h3.1, ((HP.out.2.setCell (.inl (.inr (.inl rfl))) _).setCell (.inl (.inl rfl)) _).then_ h3.2 (fun k hk => .inl hk)⟩
          clear h3 S2 hc1 hc2 hc3 hc4 hc5 hcu hfu hcm hfm HP
          obtain ⟨hc1, hc2, hc3, hc4, hc5⟩ := HQ.out.1.E.cells
          obtain ⟨hcu, hfu⟩ := HQ.out.1.E.atU kk hk0
          go_wp2
          have HR : Aside0 (FillPost Inv b0 w0 B n q0 q1 q2 okc W M2 (U2.set kk false) s2 (W1.setCell ⟨B + 4, kk, none⟩ (.bool false))) := ⟨HQ.out.1.setU HH.out hb kk false, HQ.out.2.setCell (.inl (.inr (.inl rfl))) _⟩
          go_roundg k1
          case measure => omega
          case rel => exact ⟨M2, U2.set kk false, s2, by rw [HK1.out]; go_num, ⟨by have := HN.out; omega⟩, H', HR⟩
end
section
variable {σ : Type} {step : σ → List Int → Option σ} {Inv : σ → World → Prop} {okc : Nat → Prop} {b0 : Nat} {w0 : World} {n q0 q1 q2 : Nat}
set_option maxHeartbeats 8000000 in
set_option maxRecDepth 100000 in
theorem each_calls (W : World) (hn : n ≤ 1048576) (hb : b0 ≤ W.heap.size) (hI : ∀ s W1 W', Inv s W1 → Kept W1 W' (fun k => k = W.heap.size + 2 ∨ k = W.heap.size + 4) → Inv s W') (hokc : ∀ k, okc k → k < W.heap.size) (HCB : CallOk step Inv okc b0 w0 W.heap.size n q0 q1 q2) (s : σ) (M' : List Int) (U' : List Bool) (s' : σ) (h : fillF step n n (List.replicate n 0) (List.replicate n false) s = some (M', U', s')) (hi : Inv s W) (hB : Below b0 w0 W) :
    Calls Try.prog 71 #[.int .i64 (n : Int), .func (.func 72) #[] #[.pointer (some ⟨q0, 0, none⟩), .pointer (some ⟨q1, 0, none⟩), .pointer (some ⟨q2, 0, none⟩)]] W fun e W' => e = .returned (.tuple #[]) ∧ Inv s' W' ∧ Kept W W' okc ∧ Below b0 w0 W' := by
  have HH := Aside0.mk hI
  have HK := Aside0.mk hokc
  have HC := Aside0.mk HCB
  have H := Aside0.mk h
  have HI := Aside0.mk hi
  have HB := Aside0.mk hB
  have hmk1 := print_make (P := Try.prog) 27 3 .i64 8 Try.underlying27 info3 (by omega) n (by omega)
  have hmk2 := print_make_of (P := Try.prog) 80 4 (.bool false) 1 Try.underlying80 info4 rfl (by omega) n (by omega)
  clear hI hokc HCB h hi hB
  go_enter Try.func71, Try.ntmps71
  go_wp2_with fail
  have hal : Kept W (((((((W.alloc (.cells #[.int .i64 (n : Int)] 3)).alloc (.cells #[.func (.func 72) #[] #[.pointer (some ⟨q0, 0, none⟩), .pointer (some ⟨q1, 0, none⟩), .pointer (some ⟨q2, 0, none⟩)]] 65)).alloc (.cells (madeCells #[.int .i64 0] n) 3)).alloc (.cells #[.slice (some ⟨W.heap.size + 1 + 1, 0, none⟩) n n] 27)).alloc (.cells (madeCells #[.bool false] n) 4)).alloc (.cells #[.slice (some ⟨W.heap.size + 1 + 1 + 1 + 1, 0, none⟩) n n] 80)).alloc (.cells #[.func (.func 89) #[] #[.pointer (some ⟨W.heap.size, 0, none⟩), .pointer (some ⟨W.heap.size + 1, 0, none⟩), .pointer (some ⟨W.heap.size + 1 + 1 + 1, 0, none⟩), .pointer (some ⟨W.heap.size + 1 + 1 + 1 + 1 + 1, 0, none⟩), .pointer (some ⟨W.heap.size + 1 + 1 + 1 + 1 + 1 + 1, 0, none⟩)]] 81)) (fun _ => False) := ((((((((Kept.refl _ _).alloc _).alloc _).alloc _).alloc _).alloc _).alloc _).alloc _)
  have hE := FillEnv.made W n (.func (.func 72) #[] #[.pointer (some ⟨q0, 0, none⟩), .pointer (some ⟨q1, 0, none⟩), .pointer (some ⟨q2, 0, none⟩)])
  have hS : FillSt Inv b0 w0 W.heap.size n q0 q1 q2 _ _ _ s := ⟨hE, HH.out _ _ _ HI.out (hal.mono (fun _ h => h.elim)), HB.out.trans ((below_alloc (below_alloc (below_alloc (below_alloc (below_alloc (below_alloc (below_alloc (Below.refl _ _) _) _) _) _) _) _) _).mono hb)⟩
  refine (fill_calls hn hb HH.out HK.out HC.out n 0 (by omega) _ _ s M' U' s' _ H.out hS).mono ?_
  rintro e W1 ⟨rfl, h3⟩
  have HQ : Aside0 (Inv s' W1 ∧ Kept W W1 okc ∧ Below b0 w0 W1) := ⟨h3.1.I, (hal.mono (fun _ h => h.elim)).then_ h3.2 (fun k hk => by
    rcases hk with hk | hk | hk
    · exact .inr (by omega)
    · exact .inr (by omega)
    · exact .inl hk), h3.1.bel⟩
  clear h3 hS hE hal
  go_wp2
  refine bodyPost_end (results_none rfl _ _ _) rfl ?_
  exact ⟨rfl, HQ.out⟩
end

def impl_CountStable.step (k : Nat) (l0 l1 : List (List Int)) (s : Int) (m : List Int) : Option Int := (impl_blockingPairs.f k l0 l1 m).bind fun q => some (if (q.length : Int) = 0 then wrap64 (s + 1) else s)
def impl_CountStable.f (k : Nat) (l0 : List (List Int)) (l1 : List (List Int)) : Option (Int × Bool) := (impl_areSides.f k l0 l1).bind fun t => if t = true then (if l0.length ≤ 1048576 then (fillF (impl_CountStable.step k l0 l1) l0.length l0.length (List.replicate l0.length 0) (List.replicate l0.length false) 0).bind fun q => some (q.2.2, true) else none) else some (0, false)
theorem fillK_mono {σ : Type} {rec rec' : List Int → List Bool → σ → Option (List Int × List Bool × σ)} (h : ∀ M U s, LeO (rec M U s) (rec' M U s)) (i n : Nat) : ∀ e M U s, LeO (fillK rec i n e M U s) (fillK rec' i n e M U s) := by
  intro e
  induction e with
  | zero => intro M U s; exact LeO.refl _
  | succ e ih =>
    intro M U s
    simp only [fillK]
    exact LeO.ite (ih _ _ _) (LeO.bind (h _ _ _) (fun _ => ih _ _ _))
theorem fillF_mono {σ : Type} {step step' : σ → List Int → Option σ} (h : ∀ s m, LeO (step s m) (step' s m)) (n : Nat) : ∀ d M U s, LeO (fillF step n d M U s) (fillF step' n d M U s) := by
  intro d
  induction d with
  | zero => intro M U s; exact LeO.bind (h _ _) (fun _ => LeO.refl _)
  | succ d ih => intro M U s; exact fillK_mono ih _ _ _ _ _ _
theorem impl_CountStable.mono : ∀ a0 a1 k, LeO (impl_CountStable.f k a0 a1) (impl_CountStable.f (k + 1) a0 a1) := by
  intro a0 a1 k
  unfold impl_CountStable.f
  refine LeO.bind (impl_areSides.mono _ _ _) (fun _ => LeO.ite (LeO.ite (LeO.bind (fillF_mono (fun s m => ?_) _ _ _ _ _) (fun _ => LeO.refl _)) (LeO.none _)) (LeO.refl _))
  exact LeO.bind (impl_blockingPairs.mono _ _ _ _) (fun _ => LeO.refl _)
/-- What the variables hold between two calls: both sides, and the number. -/
structure CsInv (h hn n m : Nat) (A0 : Option Addr) (c0 : Nat) (A1 : Option Addr) (c1 : Nat) (s : Int) (W : World) : Prop where
  ha : W.heap[h]? = some (.cells #[.slice A0 n c0] 22 (0, 0))
  hb : W.heap[h + 1]? = some (.cells #[.slice A1 m c1] 22 (0, 0))
  hs : W.heap[hn]? = some (.cells #[.int .i64 s] 3 (0, 0))
theorem CsInv.kept {h hn n m : Nat} {A0 : Option Addr} {c0 : Nat} {A1 : Option Addr} {c1 : Nat} {s : Int} {W W' : World} {S : Nat → Prop} (I : CsInv h hn n m A0 c0 A1 c1 s W) (hk : Kept W W' S) (h1 : ¬ S h) (h2 : ¬ S (h + 1)) (h3 : ¬ S hn) : CsInv h hn n m A0 c0 A1 c1 s W' :=
  ⟨blk_kept I.ha hk h1, blk_kept I.hb hk h2, blk_kept I.hs hk h3⟩
set_option maxHeartbeats 8000000 in
set_option maxRecDepth 100000 in
theorem cs_call (k : Nat) (A0 : Option Addr) (c0 : Nat) (l0 : List (List Int)) (A1 : Option Addr) (c1 : Nat) (l1 : List (List Int)) (w : World) (hn : Nat) (hnw : w.heap.size + 2 ≤ hn) (hr0 : Kd.C (Kd.slice 3 (Kd.int .i64)) w A0 l0.length l0) (hc0 : l0.length ≤ c0) (hr1 : Kd.C (Kd.slice 3 (Kd.int .i64)) w A1 l1.length l1) (hc1 : l1.length ≤ c1) :
    CallOk (impl_CountStable.step k l0 l1) (CsInv w.heap.size hn l0.length l1.length A0 c0 A1 c1) (fun k => k = hn) w.heap.size w (hn + 1) l0.length w.heap.size (w.heap.size + 1) hn := by
  have HR0 := Aside0.mk hr0
  have HC0 := Aside0.mk hc0
  have HR1 := Aside0.mk hr1
  have HC1 := Aside0.mk hc1
  clear hr0 hc0 hr1 hc1
  intro s s' m A c W hs hlm hrm hcm hi hB hsz
  have HRm := Aside0.mk hrm
  have HCm := Aside0.mk hcm
  have HLm := Aside0.mk hlm
  have HI := Aside0.mk hi
  have HB := Aside0.mk hB
  have HZ := Aside0.mk hsz
  obtain ⟨q, h1, h2⟩ := Option.bind_eq_some_iff.1 hs
  have H1 := Aside0.mk h1
  have HW := Aside0.mk hnw
  simp only [Option.some.injEq] at h2
  have H2 := Aside0.mk h2
  clear hs h1 h2 hcm hrm hi hB hsz hlm
  have hargs : Value.slice A l0.length c = Value.slice A m.length c := by rw [HLm.out]
  rw [hargs]
  clear hargs
  have hq0 : W.cell? ⟨w.heap.size, 0, none⟩ = some (.slice A0 l0.length c0) := (blk_cell HI.out.ha 0).trans rfl
  have hq1 : W.cell? ⟨w.heap.size + 1, 0, none⟩ = some (.slice A1 l1.length c1) := (blk_cell HI.out.hb 0).trans rfl
  go_enter Try.func72, Try.ntmps72
  go_wp2_with fail
  refine (impl_blockingPairs.calls k A0 c0 l0 A1 c1 l1 A c m q W (Kd.C_below HR0.out HB.out) HC0.out (Kd.C_below HR1.out HB.out) HC1.out HRm.out HCm.out H1.out).mono ?_
  rintro e W1 ⟨v, rfl, ho, hb⟩
  obtain ⟨Av, cv, eqv⟩ := Kd.S_slice ho
  subst eqv
  have HI1 := Aside0.mk (HI.out.kept (Kept.of_below hb (fun _ => False)) (fun h => h) (fun h => h) (fun h => h))
  have HB1 := Aside0.mk (below_step HB.out hb)
  have HK1 := Aside0.mk (Kept.of_below hb (fun k => k = hn))
  clear hb ho hq0 hq1 HI HB HRm H1
  have hx : W1.cell? ⟨hn, 0, none⟩ = some (.int .i64 s) := (blk_cell HI1.out.hs 0).trans rfl
  have hf : W1.frozen? ⟨hn, 0, none⟩ = false := blk_frozen HI1.out.hs 0
  have H2' := H2.out
  clear H2
  by_cases b1 : (q.length : Int) = 0
  · rw [if_pos b1] at H2'
    have b1b : ((q.length : Int) == 0) = true := beq_iff_eq.2 b1
    have H2 := Aside0.mk H2'
    have b1c := Aside0.mk b1
    clear H2' b1
    go_wp2
    obtain rfl := H2.out
    have hw := HW.out
    refine bodyPost_end (results_none rfl _ _ _) rfl ?_
    exact ⟨rfl, ⟨blk_far HI1.out.ha (by simp; omega) _, blk_far HI1.out.hb (by simp; omega) _, by rw [blk_set HI1.out.hs]; rfl⟩, HK1.out.setCell (.inl rfl) _, HB1.out.setCell (by simp; omega) _⟩
  · rw [if_neg b1] at H2'
    have b1b : ((q.length : Int) == 0) = false := beq_eq_false_iff_ne.2 b1
    clear b1
    obtain rfl := H2'
    go_wp2
    refine bodyPost_end (results_none rfl _ _ _) rfl ?_
    exact ⟨rfl, HI1.out, HK1.out, HB1.out⟩
set_option maxHeartbeats 8000000 in
set_option maxRecDepth 100000 in
theorem impl_CountStable.calls (k : Nat) (A0 : Option Addr) (c0 : Nat) (l0 : List (List Int)) (A1 : Option Addr) (c1 : Nat) (l1 : List (List Int)) (r1 : Int) (r2 : Bool) (w : World) (hr0 : Kd.C (Kd.slice 3 (Kd.int .i64)) w A0 l0.length l0) (hc0 : l0.length ≤ c0) (hr1 : Kd.C (Kd.slice 3 (Kd.int .i64)) w A1 l1.length l1) (hc1 : l1.length ≤ c1) (h : impl_CountStable.f k l0 l1 = some (r1, r2)) :
    Calls Try.prog 43 #[.slice A0 l0.length c0, .slice A1 l1.length c1] w fun e w' => e = .returned (.tuple #[.int .i64 r1, .bool r2]) ∧ Below w.heap.size w w' := by
  have HR0 := Aside0.mk hr0
  have HC0 := Aside0.mk hc0
  have HR1 := Aside0.mk hr1
  have HC1 := Aside0.mk hc1
  unfold impl_CountStable.f at h
  obtain ⟨t, h1, h2⟩ := Option.bind_eq_some_iff.1 h
  have H1 := Aside0.mk h1
  clear hr0 hc0 hr1 hc1 h h1
  cases t with
  | false =>
    simp only [Bool.false_eq_true, if_false, Option.some.injEq, Prod.mk.injEq] at h2
    obtain ⟨rfl, rfl⟩ := h2
    go_enter Try.func43, Try.ntmps43
    go_wp2_with fail
    refine (impl_areSides.calls k A0 c0 l0 A1 c1 l1 false _ (Kd.C_alloc (Kd.C_alloc HR0.out _) _) HC0.out (Kd.C_alloc (Kd.C_alloc HR1.out _) _) HC1.out H1.out).mono ?_
    rintro e W1 ⟨rfl, hb⟩
    have HB := Aside0.mk (below_step (below_alloc (below_alloc (Below.refl w.heap.size w) _) _) hb)
    clear hb
    go_wp2
    go_ret2
    exact ⟨rfl, HB.out⟩
  | true =>
    simp only [if_true] at h2
    have hn : l0.length ≤ 1048576 := by
      by_cases g : l0.length ≤ 1048576
      · exact g
      · rw [if_neg g] at h2; cases h2
    rw [if_pos hn] at h2
    obtain ⟨⟨M', U', s'⟩, h3, h4⟩ := Option.bind_eq_some_iff.1 h2
    simp only [Option.some.injEq, Prod.mk.injEq] at h4
    obtain ⟨rfl, rfl⟩ := h4
    have H3 := Aside0.mk h3
    have HN := Aside0.mk hn
    clear h2 h3 hn
    go_enter Try.func43, Try.ntmps43
    go_wp2_with fail
    refine (impl_areSides.calls k A0 c0 l0 A1 c1 l1 true _ (Kd.C_alloc (Kd.C_alloc HR0.out _) _) HC0.out (Kd.C_alloc (Kd.C_alloc HR1.out _) _) HC1.out H1.out).mono ?_
    rintro e W1 ⟨rfl, hb⟩
    have hb1 : (W1.heap[w.heap.size]?) = some (.cells #[.slice A0 l0.length c0] 22 (0, 0)) := (hb.block _ (by simp; omega)).trans (blk_alloc (blk_new _ _) _)
    have hb2 : (W1.heap[w.heap.size + 1]?) = some (.cells #[.slice A1 l1.length c1] 22 (0, 0)) := (hb.block _ (by simp)).trans (blk_here _ (size_al _ rfl))
    have hz1 := hb.size
    simp only [World.size_alloc] at hz1
    have HB := Aside0.mk (below_step (below_alloc (below_alloc (Below.refl w.heap.size w) _) _) hb)
    clear hb
    have hq0 : (W1.alloc (.cells #[.int .i64 0] 3)).cell? ⟨w.heap.size, 0, none⟩ = some (.slice A0 l0.length c0) := (blk_cell (blk_alloc hb1 _) 0).trans rfl
    have HBa := Aside0.mk hb1
    have HBb := Aside0.mk hb2
    have HZ := Aside0.mk hz1
    clear hb1 hb2 hz1
    go_wp2_with fail
    generalize hW : W1.alloc (.cells #[.int .i64 0] 3) = W2
    have hz2 : W2.heap.size = W1.heap.size + 1 := by rw [← hW]; simp
    have hI : CsInv w.heap.size W1.heap.size l0.length l1.length A0 c0 A1 c1 0 W2 := by rw [← hW]; exact ⟨blk_alloc HBa.out _, blk_alloc HBb.out _, blk_new _ _⟩
    have hB2 : Below w.heap.size w W2 := by rw [← hW]; exact HB.out.alloc HB.out.size _
    have hz := HZ.out
    clear hW hq0
    refine (each_calls (step := impl_CountStable.step k l0 l1) (Inv := CsInv w.heap.size W1.heap.size l0.length l1.length A0 c0 A1 c1) (okc := fun k => k = W1.heap.size) (b0 := w.heap.size) (w0 := w) (n := l0.length) (q0 := w.heap.size) (q1 := w.heap.size + 1) (q2 := W1.heap.size) W2 HN.out (by omega) (fun s W3 W4 h1 h2 => h1.kept h2 (by omega) (by omega) (by omega)) (fun k hk => by omega) (by rw [hz2]; exact cs_call k A0 c0 l0 A1 c1 l1 w W1.heap.size hz HR0.out HC0.out HR1.out HC1.out) 0 M' U' s' H3.out hI hB2).mono ?_
    rintro e W5 ⟨rfl, h3, h4, h5⟩
    have hx : W5.cell? ⟨W1.heap.size, 0, none⟩ = some (.int .i64 s') := (blk_cell h3.hs 0).trans rfl
    have HB5 := Aside0.mk h5
    clear h3 h4 h5 hI hB2 hz2 hz
    go_wp2
    go_ret2
    exact ⟨rfl, HB5.out⟩


/-! ### laws_FnExactCountStable: function 12 -/
def laws_FnExactCountStable.j0 : Nat → List (List Int) → List (List Int) → List (List Int) → List (List Int) → Bool → Option (Bool)
  | 0, _, _, _, _, _ => none
  | k + 1, x0, x1, x8, x9, x47 => if x47 = true then (some false) else ((laws_toIntSS.f k x0).bind fun t291 => ((laws_eqIntSS.f k x8 t291).bind fun t294 => (if t294 = true then ((laws_toIntSS.f k x1).bind fun t295 => ((laws_eqIntSS.f k x9 t295).bind fun t298 => (if t298 = true then (some true) else (some false)))) else (some false))))
def laws_FnExactCountStable.f (k : Nat) (l0 : List (List Int)) (l1 : List (List Int)) : Option (Bool) := (laws_szIntSS.f k l0 1048576).bind fun t273 => (if t273 < 0 then (some true) else ((laws_szIntSS.f k l1 t273).bind fun t274 => (if t274 < 0 then (some true) else ((laws_toIntSS.f k l0).bind fun t275 => ((laws_toIntSS.f k l1).bind fun t278 => ((spec_CountStable.f k t275 t278).bind fun bt281 => ((laws_toIntSS.f k l0).bind fun t283 => ((laws_toIntSS.f k l1).bind fun t286 => ((impl_CountStable.f k t283 t286).bind fun bt289 => (if bt289.1 = bt281.1 then (laws_FnExactCountStable.j0 k l0 l1 t283 t286 (bt289.2 != bt281.2)) else (laws_FnExactCountStable.j0 k l0 l1 t283 t286 true)))))))))))
theorem laws_FnExactCountStable.mono_l : ∀ k, (∀ y0 y1 y2 y3 y4, LeO (laws_FnExactCountStable.j0 k y0 y1 y2 y3 y4) (laws_FnExactCountStable.j0 (k + 1) y0 y1 y2 y3 y4))
  | 0 => fun _ _ _ _ _ r h => by simp [laws_FnExactCountStable.j0] at h
  | k + 1 => by
    have ih0 := laws_FnExactCountStable.mono_l k
    · intro y0 y1 y2 y3 y4
      unfold laws_FnExactCountStable.j0
      repeat' first
      | (with_reducible exact ih0 _ _ _ _ _)
      | (with_reducible exact impl_CountStable.mono _ _ _)
      | (with_reducible exact laws_eqIntSS.mono _ _ _)
      | (with_reducible exact laws_szIntSS.mono _ _ _)
      | (with_reducible exact laws_toIntSS.mono _ _)
      | (with_reducible exact spec_CountStable.mono _ _ _)
      | (with_reducible exact LeO.refl _)
      | (with_reducible exact LeO.none _)
      | (with_reducible refine LeO.ite ?_ ?_)
      | (with_reducible refine LeO.bind ?_ (fun _ => ?_))
      | exact ih0 _ _ _ _ _
      | exact impl_CountStable.mono _ _ _
      | exact laws_eqIntSS.mono _ _ _
      | exact laws_szIntSS.mono _ _ _
      | exact laws_toIntSS.mono _ _
      | exact spec_CountStable.mono _ _ _
      | exact LeO.none _
      | refine LeO.ite ?_ ?_
      | refine LeO.bind ?_ (fun _ => ?_)
theorem laws_FnExactCountStable.mono : ∀ a0 a1 k, LeO (laws_FnExactCountStable.f k a0 a1) (laws_FnExactCountStable.f (k + 1) a0 a1) := by
  intro a0 a1 k
  have ih0 := laws_FnExactCountStable.mono_l k
  unfold laws_FnExactCountStable.f
  repeat' first
      | (with_reducible exact ih0 _ _ _ _ _)
      | (with_reducible exact impl_CountStable.mono _ _ _)
      | (with_reducible exact laws_eqIntSS.mono _ _ _)
      | (with_reducible exact laws_szIntSS.mono _ _ _)
      | (with_reducible exact laws_toIntSS.mono _ _)
      | (with_reducible exact spec_CountStable.mono _ _ _)
      | (with_reducible exact LeO.refl _)
      | (with_reducible exact LeO.none _)
      | (with_reducible refine LeO.ite ?_ ?_)
      | (with_reducible refine LeO.bind ?_ (fun _ => ?_))
      | exact ih0 _ _ _ _ _
      | exact impl_CountStable.mono _ _ _
      | exact laws_eqIntSS.mono _ _ _
      | exact laws_szIntSS.mono _ _ _
      | exact laws_toIntSS.mono _ _
      | exact spec_CountStable.mono _ _ _
      | exact LeO.none _
      | refine LeO.ite ?_ ?_
      | refine LeO.bind ?_ (fun _ => ?_)
set_option maxHeartbeats 8000000 in
set_option maxRecDepth 100000 in
theorem laws_FnExactCountStable.calls (k : Nat) (A0 : Option Addr) (c0 : Nat) (l0 : List (List Int)) (A1 : Option Addr) (c1 : Nat) (l1 : List (List Int)) (r : Bool) (w : World) (hr0 : Kd.C (Kd.slice 3 (Kd.int .i64)) w A0 l0.length l0) (hc0 : l0.length ≤ c0) (hr1 : Kd.C (Kd.slice 3 (Kd.int .i64)) w A1 l1.length l1) (hc1 : l1.length ≤ c1) (h : laws_FnExactCountStable.f k l0 l1 = some r) :
    Calls Try.prog 12 #[.slice A0 l0.length c0, .slice A1 l1.length c1] w fun e w' => e = .returned (.bool r) ∧ Below w.heap.size w w' := by
  have HR0 := Aside0.mk hr0
  have HC0 := Aside0.mk hc0
  clear hr0 hc0
  have HR1 := Aside0.mk hr1
  have HC1 := Aside0.mk hc1
  clear hr1 hc1
  have HB := Aside0.mk (Below.refl w.heap.size w)
  have H : ((laws_szIntSS.f k l0 1048576).bind fun t273 => (if t273 < 0 then (some true) else ((laws_szIntSS.f k l1 t273).bind fun t274 => (if t274 < 0 then (some true) else ((laws_toIntSS.f k l0).bind fun t275 => ((laws_toIntSS.f k l1).bind fun t278 => ((spec_CountStable.f k t275 t278).bind fun bt281 => ((laws_toIntSS.f k l0).bind fun t283 => ((laws_toIntSS.f k l1).bind fun t286 => ((impl_CountStable.f k t283 t286).bind fun bt289 => (if bt289.1 = bt281.1 then (laws_FnExactCountStable.j0 k l0 l1 t283 t286 (bt289.2 != bt281.2)) else (laws_FnExactCountStable.j0 k l0 l1 t283 t286 true)))))))))))) = some r := h
  clear h
  replace H := Option.bind_eq_some_iff.mp H
  obtain ⟨t273, A30, H⟩ := H
  replace H : (if t273 < 0 then (some true) else ((laws_szIntSS.f k l1 t273).bind fun t274 => (if t274 < 0 then (some true) else ((laws_toIntSS.f k l0).bind fun t275 => ((laws_toIntSS.f k l1).bind fun t278 => ((spec_CountStable.f k t275 t278).bind fun bt281 => ((laws_toIntSS.f k l0).bind fun t283 => ((laws_toIntSS.f k l1).bind fun t286 => ((impl_CountStable.f k t283 t286).bind fun bt289 => (if bt289.1 = bt281.1 then (laws_FnExactCountStable.j0 k l0 l1 t283 t286 (bt289.2 != bt281.2)) else (laws_FnExactCountStable.j0 k l0 l1 t283 t286 true))))))))))) = some r := H
  have A3 := Aside0.mk A30
  clear A30
  by_cases c4 : t273 < 0
  · rw [if_pos c4] at H
    have c4b0 : decide (t273 < 0) = true := decide_eq_true c4
    clear c4
    obtain rfl := Option.some.inj H
    go_enter Try.func12, Try.ntmps12
    go_wp2_with (first | ((with_reducible refine gate_callee (f := 15) rfl ?_); refine goesL_ (some 14) rfl rfl Try.func15 (by kernel_rfl) rfl #[.slice A0 l0.length c0, .int .i64 1048576] rfl (by (try simp only [List.map_toArray, List.map_cons, List.map_nil]); first | done | rfl | (simp only [List.length_drop, List.length_take]; rfl)) ?_; (with_reducible refine (laws_szIntSS.calls k _ _ l0 1048576 t273 _ ?side1 ?side2 A3.out).mono ?_); (case side1 => repeat (first | exact HR0.out | (with_reducible refine Kd.C_alloc ?_ _) | (with_reducible refine Kd.C_drewN ?_ _) | (with_reducible refine Kd.C_drew ?_))); (case side2 => exact HC0.out); rintro e w' ⟨rfl, ⟨nd, rfl⟩⟩; refine ⟨_, rfl, ?_⟩))
    go_ret
    exact ⟨by first | rfl | (simp [errW_none, errW_some] <;> rfl) | (simp [*, errW_none, errW_some] <;> rfl), by repeat (first | (with_reducible first | exact HB.out | apply below_alloc | apply pw_below_drewN | apply below_drew1) | exact HB.out)⟩
  · rw [if_neg c4] at H
    have c4b0 : decide (t273 < 0) = false := decide_eq_false c4
    clear c4
    replace H := Option.bind_eq_some_iff.mp H
    obtain ⟨t274, A50, H⟩ := H
    replace H : (if t274 < 0 then (some true) else ((laws_toIntSS.f k l0).bind fun t275 => ((laws_toIntSS.f k l1).bind fun t278 => ((spec_CountStable.f k t275 t278).bind fun bt281 => ((laws_toIntSS.f k l0).bind fun t283 => ((laws_toIntSS.f k l1).bind fun t286 => ((impl_CountStable.f k t283 t286).bind fun bt289 => (if bt289.1 = bt281.1 then (laws_FnExactCountStable.j0 k l0 l1 t283 t286 (bt289.2 != bt281.2)) else (laws_FnExactCountStable.j0 k l0 l1 t283 t286 true))))))))) = some r := H
    have A5 := Aside0.mk A50
    clear A50
    by_cases c6 : t274 < 0
    · rw [if_pos c6] at H
      have c6b0 : decide (t274 < 0) = true := decide_eq_true c6
      clear c6
      obtain rfl := Option.some.inj H
      go_enter Try.func12, Try.ntmps12
      go_wp2_with (first | ((with_reducible refine gate_callee (f := 15) rfl ?_); refine goesL_ (some 14) rfl rfl Try.func15 (by kernel_rfl) rfl #[.slice A0 l0.length c0, .int .i64 1048576] rfl (by (try simp only [List.map_toArray, List.map_cons, List.map_nil]); first | done | rfl | (simp only [List.length_drop, List.length_take]; rfl)) ?_; (with_reducible refine (laws_szIntSS.calls k _ _ l0 1048576 t273 _ ?side1 ?side2 A3.out).mono ?_); (case side1 => repeat (first | exact HR0.out | (with_reducible refine Kd.C_alloc ?_ _) | (with_reducible refine Kd.C_drewN ?_ _) | (with_reducible refine Kd.C_drew ?_))); (case side2 => exact HC0.out); rintro e w' ⟨rfl, ⟨nd, rfl⟩⟩; refine ⟨_, rfl, ?_⟩) | ((with_reducible refine gate_callee (f := 15) rfl ?_); refine goesL_ (some 19) rfl rfl Try.func15 (by kernel_rfl) rfl #[.slice A1 l1.length c1, .int .i64 t273] rfl (by (try simp only [List.map_toArray, List.map_cons, List.map_nil]); first | done | rfl | (simp only [List.length_drop, List.length_take]; rfl)) ?_; (with_reducible refine (laws_szIntSS.calls k _ _ l1 t273 t274 _ ?side1 ?side2 A5.out).mono ?_); (case side1 => repeat (first | exact HR1.out | (with_reducible refine Kd.C_alloc ?_ _) | (with_reducible refine Kd.C_drewN ?_ _) | (with_reducible refine Kd.C_drew ?_))); (case side2 => exact HC1.out); rintro e w' ⟨rfl, ⟨nd, rfl⟩⟩; refine ⟨_, rfl, ?_⟩))
      go_ret
      exact ⟨by first | rfl | (simp [errW_none, errW_some] <;> rfl) | (simp [*, errW_none, errW_some] <;> rfl), by repeat (first | (with_reducible first | exact HB.out | apply below_alloc | apply pw_below_drewN | apply below_drew1) | exact HB.out)⟩
    · rw [if_neg c6] at H
      have c6b0 : decide (t274 < 0) = false := decide_eq_false c6
      clear c6
      replace H := Option.bind_eq_some_iff.mp H
      obtain ⟨t275, A70, H⟩ := H
      replace H : ((laws_toIntSS.f k l1).bind fun t278 => ((spec_CountStable.f k t275 t278).bind fun bt281 => ((laws_toIntSS.f k l0).bind fun t283 => ((laws_toIntSS.f k l1).bind fun t286 => ((impl_CountStable.f k t283 t286).bind fun bt289 => (if bt289.1 = bt281.1 then (laws_FnExactCountStable.j0 k l0 l1 t283 t286 (bt289.2 != bt281.2)) else (laws_FnExactCountStable.j0 k l0 l1 t283 t286 true))))))) = some r := H
      have A7 := Aside0.mk A70
      clear A70
      replace H := Option.bind_eq_some_iff.mp H
      obtain ⟨t278, A80, H⟩ := H
      replace H : ((spec_CountStable.f k t275 t278).bind fun bt281 => ((laws_toIntSS.f k l0).bind fun t283 => ((laws_toIntSS.f k l1).bind fun t286 => ((impl_CountStable.f k t283 t286).bind fun bt289 => (if bt289.1 = bt281.1 then (laws_FnExactCountStable.j0 k l0 l1 t283 t286 (bt289.2 != bt281.2)) else (laws_FnExactCountStable.j0 k l0 l1 t283 t286 true)))))) = some r := H
      have A8 := Aside0.mk A80
      clear A80
      replace H := Option.bind_eq_some_iff.mp H
      obtain ⟨⟨t281, t282⟩, A90, H⟩ := H
      replace H : ((laws_toIntSS.f k l0).bind fun t283 => ((laws_toIntSS.f k l1).bind fun t286 => ((impl_CountStable.f k t283 t286).bind fun bt289 => (if bt289.1 = t281 then (laws_FnExactCountStable.j0 k l0 l1 t283 t286 (bt289.2 != t282)) else (laws_FnExactCountStable.j0 k l0 l1 t283 t286 true))))) = some r := H
      have A9 := Aside0.mk A90
      clear A90
      replace H := Option.bind_eq_some_iff.mp H
      obtain ⟨t283, A100, H⟩ := H
      replace H : ((laws_toIntSS.f k l1).bind fun t286 => ((impl_CountStable.f k t283 t286).bind fun bt289 => (if bt289.1 = t281 then (laws_FnExactCountStable.j0 k l0 l1 t283 t286 (bt289.2 != t282)) else (laws_FnExactCountStable.j0 k l0 l1 t283 t286 true)))) = some r := H
      have A10 := Aside0.mk A100
      clear A100
      replace H := Option.bind_eq_some_iff.mp H
      obtain ⟨t286, A110, H⟩ := H
      replace H : ((impl_CountStable.f k t283 t286).bind fun bt289 => (if bt289.1 = t281 then (laws_FnExactCountStable.j0 k l0 l1 t283 t286 (bt289.2 != t282)) else (laws_FnExactCountStable.j0 k l0 l1 t283 t286 true))) = some r := H
      have A11 := Aside0.mk A110
      clear A110
      replace H := Option.bind_eq_some_iff.mp H
      obtain ⟨⟨t289, t290⟩, A120, H⟩ := H
      replace H : (if t289 = t281 then (laws_FnExactCountStable.j0 k l0 l1 t283 t286 (t290 != t282)) else (laws_FnExactCountStable.j0 k l0 l1 t283 t286 true)) = some r := H
      have A12 := Aside0.mk A120
      clear A120
      have HC13 := Aside0.mk H
      clear H
      go_enter Try.func12, Try.ntmps12
      go_upto_region 12 with (first | ((with_reducible refine gate_callee (f := 15) rfl ?_); refine goesL_ (some 14) rfl rfl Try.func15 (by kernel_rfl) rfl #[.slice A0 l0.length c0, .int .i64 1048576] rfl (by (try simp only [List.map_toArray, List.map_cons, List.map_nil]); first | done | rfl | (simp only [List.length_drop, List.length_take]; rfl)) ?_; (with_reducible refine (laws_szIntSS.calls k _ _ l0 1048576 t273 _ ?side1 ?side2 A3.out).mono ?_); (case side1 => repeat (first | exact HR0.out | (with_reducible refine Kd.C_alloc ?_ _) | (with_reducible refine Kd.C_drewN ?_ _) | (with_reducible refine Kd.C_drew ?_))); (case side2 => exact HC0.out); rintro e w' ⟨rfl, ⟨nd, rfl⟩⟩; refine ⟨_, rfl, ?_⟩) | ((with_reducible refine gate_callee (f := 15) rfl ?_); refine goesL_ (some 19) rfl rfl Try.func15 (by kernel_rfl) rfl #[.slice A1 l1.length c1, .int .i64 t273] rfl (by (try simp only [List.map_toArray, List.map_cons, List.map_nil]); first | done | rfl | (simp only [List.length_drop, List.length_take]; rfl)) ?_; (with_reducible refine (laws_szIntSS.calls k _ _ l1 t273 t274 _ ?side1 ?side2 A5.out).mono ?_); (case side1 => repeat (first | exact HR1.out | (with_reducible refine Kd.C_alloc ?_ _) | (with_reducible refine Kd.C_drewN ?_ _) | (with_reducible refine Kd.C_drew ?_))); (case side2 => exact HC1.out); rintro e w' ⟨rfl, ⟨nd, rfl⟩⟩; refine ⟨_, rfl, ?_⟩) | ((with_reducible refine gate_callee (f := 17) rfl ?_); refine goesL_ (some 24) rfl rfl Try.func17 (by kernel_rfl) rfl #[.slice A0 l0.length c0] rfl (by (try simp only [List.map_toArray, List.map_cons, List.map_nil]); first | done | rfl | (simp only [List.length_drop, List.length_take]; rfl)) ?_; (with_reducible refine (laws_toIntSS.calls k _ _ l0 t275 _ ?side1 ?side2 A7.out).mono ?_); (case side1 => repeat (first | exact HR0.out | (with_reducible refine Kd.C_alloc ?_ _) | (with_reducible refine Kd.C_drewN ?_ _) | (with_reducible refine Kd.C_drew ?_))); (case side2 => exact HC0.out); rintro e w14 ⟨v276, rfl, ho0, hb⟩; refine ⟨_, rfl, ?_⟩; have n0_ := Aside0.mk (Kd.S_lower ho0 (below_size (by repeat (first | (with_reducible first | exact HB.out | apply below_alloc | apply pw_below_drewN | apply below_drew1) | exact HB.out)))); have n1_ := Aside0.mk (below_step (by repeat (first | (with_reducible first | exact HB.out | apply below_alloc | apply pw_below_drewN | apply below_drew1) | exact HB.out)) hb); clear HB; have HO277 := n0_; have HB := n1_; clear n0_ n1_; (try clear hb); (try clear hb2); (try clear hk); (try clear hi); (try clear ho0)) | ((with_reducible refine gate_callee (f := 17) rfl ?_); refine goesL_ (some 26) rfl rfl Try.func17 (by kernel_rfl) rfl #[.slice A1 l1.length c1] rfl (by (try simp only [List.map_toArray, List.map_cons, List.map_nil]); first | done | rfl | (simp only [List.length_drop, List.length_take]; rfl)) ?_; (with_reducible refine (laws_toIntSS.calls k _ _ l1 t278 _ ?side1 ?side2 A8.out).mono ?_); (case side1 => repeat (first | exact (Kd.C_below HR1.out HB.out) | (with_reducible refine Kd.C_alloc ?_ _) | (with_reducible refine Kd.C_drewN ?_ _) | (with_reducible refine Kd.C_drew ?_))); (case side2 => exact HC1.out); rintro e w15 ⟨v279, rfl, ho0, hb⟩; refine ⟨_, rfl, ?_⟩; have n0_ := Aside0.mk (Kd.S_elder' (by (with_reducible repeat (first | apply Kd.S_alloc | apply Kd.S_drewN | apply Kd.S_drew)); exact HO277.out) (Kd.S_base ho0) hb); have n1_ := Aside0.mk (Kd.S_lower (Kd.S_new' ho0 (Kd.S_lt (by (with_reducible repeat (first | apply Kd.S_alloc | apply Kd.S_drewN | apply Kd.S_drew)); exact HO277.out))) (below_size (by repeat (first | (with_reducible first | exact HB.out | apply below_alloc | apply pw_below_drewN | apply below_drew1) | exact HB.out)))); have n2_ := Aside0.mk (below_step (by repeat (first | (with_reducible first | exact HB.out | apply below_alloc | apply pw_below_drewN | apply below_drew1) | exact HB.out)) hb); clear HO277; clear HB; have HO277 := n0_; have HO280 := n1_; have HB := n2_; clear n0_ n1_ n2_; (try clear hb); (try clear hb2); (try clear hk); (try clear hi); (try clear ho0); obtain ⟨Ao16, co16, eo16⟩ := Kd.S_slice HO277.out; subst eo16; obtain ⟨Ao17, co17, eo17⟩ := Kd.S_slice HO280.out; subst eo17) | ((with_reducible refine gate_callee (f := 42) rfl ?_); refine goesL_ (some 27) rfl rfl Try.func42 (by kernel_rfl) rfl #[.slice Ao16 t275.length co16, .slice Ao17 t278.length co17] rfl (by (try simp only [List.map_toArray, List.map_cons, List.map_nil]); first | done | rfl | (simp only [List.length_drop, List.length_take]; rfl)) ?_; (with_reducible refine (spec_CountStable.calls k _ _ t275 _ _ t278 t281 t282 _ ?side1 ?side2 ?side3 ?side4 A9.out).mono ?_); (case side1 => repeat (first | exact (Kd.S_reads' HO277.out).2.2 | (with_reducible refine Kd.C_alloc ?_ _) | (with_reducible refine Kd.C_drewN ?_ _) | (with_reducible refine Kd.C_drew ?_))); (case side2 => exact (Kd.S_reads' HO277.out).2.1); (case side3 => repeat (first | exact (Kd.S_reads' HO280.out).2.2 | (with_reducible refine Kd.C_alloc ?_ _) | (with_reducible refine Kd.C_drewN ?_ _) | (with_reducible refine Kd.C_drew ?_))); (case side4 => exact (Kd.S_reads' HO280.out).2.1); rintro e w18 ⟨rfl, hb⟩; refine ⟨_, rfl, ?_⟩; have n0_ := Aside0.mk (Kd.S_below (by (with_reducible repeat (first | apply Kd.S_alloc | apply Kd.S_drewN | apply Kd.S_drew)); exact HO277.out) hb); have n1_ := Aside0.mk (Kd.S_below (by (with_reducible repeat (first | apply Kd.S_alloc | apply Kd.S_drewN | apply Kd.S_drew)); exact HO280.out) hb); have n2_ := Aside0.mk (below_step (by repeat (first | (with_reducible first | exact HB.out | apply below_alloc | apply pw_below_drewN | apply below_drew1) | exact HB.out)) hb); clear HO277; clear HO280; clear HB; have HO277 := n0_; have HO280 := n1_; have HB := n2_; clear n0_ n1_ n2_; (try clear hb); (try clear hb2); (try clear hk); (try clear hi)) | ((with_reducible refine gate_callee (f := 17) rfl ?_); refine goesL_ (some 31) rfl rfl Try.func17 (by kernel_rfl) rfl #[.slice A0 l0.length c0] rfl (by (try simp only [List.map_toArray, List.map_cons, List.map_nil]); first | done | rfl | (simp only [List.length_drop, List.length_take]; rfl)) ?_; (with_reducible refine (laws_toIntSS.calls k _ _ l0 t283 _ ?side1 ?side2 A10.out).mono ?_); (case side1 => repeat (first | exact (Kd.C_below HR0.out HB.out) | (with_reducible refine Kd.C_alloc ?_ _) | (with_reducible refine Kd.C_drewN ?_ _) | (with_reducible refine Kd.C_drew ?_))); (case side2 => exact HC0.out); rintro e w19 ⟨v284, rfl, ho0, hb⟩; refine ⟨_, rfl, ?_⟩; have n0_ := Aside0.mk (Kd.S_elder' (by (with_reducible repeat (first | apply Kd.S_alloc | apply Kd.S_drewN | apply Kd.S_drew)); exact HO277.out) (Kd.S_base ho0) hb); have n1_ := Aside0.mk (Kd.S_elder' (by (with_reducible repeat (first | apply Kd.S_alloc | apply Kd.S_drewN | apply Kd.S_drew)); exact HO280.out) (Kd.S_base ho0) hb); have n2_ := Aside0.mk (Kd.S_lower (Kd.S_new' (Kd.S_new' ho0 (Kd.S_lt (by (with_reducible repeat (first | apply Kd.S_alloc | apply Kd.S_drewN | apply Kd.S_drew)); exact HO277.out))) (Kd.S_lt (by (with_reducible repeat (first | apply Kd.S_alloc | apply Kd.S_drewN | apply Kd.S_drew)); exact HO280.out))) (below_size (by repeat (first | (with_reducible first | exact HB.out | apply below_alloc | apply pw_below_drewN | apply below_drew1) | exact HB.out)))); have n3_ := Aside0.mk (below_step (by repeat (first | (with_reducible first | exact HB.out | apply below_alloc | apply pw_below_drewN | apply below_drew1) | exact HB.out)) hb); clear HO277; clear HO280; clear HB; have HO277 := n0_; have HO280 := n1_; have HO285 := n2_; have HB := n3_; clear n0_ n1_ n2_ n3_; (try clear hb); (try clear hb2); (try clear hk); (try clear hi); (try clear ho0)) | ((with_reducible refine gate_callee (f := 17) rfl ?_); refine goesL_ (some 33) rfl rfl Try.func17 (by kernel_rfl) rfl #[.slice A1 l1.length c1] rfl (by (try simp only [List.map_toArray, List.map_cons, List.map_nil]); first | done | rfl | (simp only [List.length_drop, List.length_take]; rfl)) ?_; (with_reducible refine (laws_toIntSS.calls k _ _ l1 t286 _ ?side1 ?side2 A11.out).mono ?_); (case side1 => repeat (first | exact (Kd.C_below HR1.out HB.out) | (with_reducible refine Kd.C_alloc ?_ _) | (with_reducible refine Kd.C_drewN ?_ _) | (with_reducible refine Kd.C_drew ?_))); (case side2 => exact HC1.out); rintro e w20 ⟨v287, rfl, ho0, hb⟩; refine ⟨_, rfl, ?_⟩; have n0_ := Aside0.mk (Kd.S_elder' (by (with_reducible repeat (first | apply Kd.S_alloc | apply Kd.S_drewN | apply Kd.S_drew)); exact HO277.out) (Kd.S_base ho0) hb); have n1_ := Aside0.mk (Kd.S_elder' (by (with_reducible repeat (first | apply Kd.S_alloc | apply Kd.S_drewN | apply Kd.S_drew)); exact HO280.out) (Kd.S_base ho0) hb); have n2_ := Aside0.mk (Kd.S_elder' (by (with_reducible repeat (first | apply Kd.S_alloc | apply Kd.S_drewN | apply Kd.S_drew)); exact HO285.out) (Kd.S_base ho0) hb); have n3_ := Aside0.mk (Kd.S_lower (Kd.S_new' (Kd.S_new' (Kd.S_new' ho0 (Kd.S_lt (by (with_reducible repeat (first | apply Kd.S_alloc | apply Kd.S_drewN | apply Kd.S_drew)); exact HO277.out))) (Kd.S_lt (by (with_reducible repeat (first | apply Kd.S_alloc | apply Kd.S_drewN | apply Kd.S_drew)); exact HO280.out))) (Kd.S_lt (by (with_reducible repeat (first | apply Kd.S_alloc | apply Kd.S_drewN | apply Kd.S_drew)); exact HO285.out))) (below_size (by repeat (first | (with_reducible first | exact HB.out | apply below_alloc | apply pw_below_drewN | apply below_drew1) | exact HB.out)))); have n4_ := Aside0.mk (below_step (by repeat (first | (with_reducible first | exact HB.out | apply below_alloc | apply pw_below_drewN | apply below_drew1) | exact HB.out)) hb); clear HO277; clear HO280; clear HO285; clear HB; have HO277 := n0_; have HO280 := n1_; have HO285 := n2_; have HO288 := n3_; have HB := n4_; clear n0_ n1_ n2_ n3_ n4_; (try clear hb); (try clear hb2); (try clear hk); (try clear hi); (try clear ho0); obtain ⟨Ao21, co21, eo21⟩ := Kd.S_slice HO285.out; subst eo21; obtain ⟨Ao22, co22, eo22⟩ := Kd.S_slice HO288.out; subst eo22) | ((with_reducible refine gate_callee (f := 43) rfl ?_); refine goesL_ (some 37) rfl rfl Try.func43 (by kernel_rfl) rfl #[.slice Ao21 t283.length co21, .slice Ao22 t286.length co22] rfl (by (try simp only [List.map_toArray, List.map_cons, List.map_nil]); first | done | rfl | (simp only [List.length_drop, List.length_take]; rfl)) ?_; (with_reducible refine (impl_CountStable.calls k _ _ t283 _ _ t286 t289 t290 _ ?side1 ?side2 ?side3 ?side4 A12.out).mono ?_); (case side1 => repeat (first | exact (Kd.S_reads' HO285.out).2.2 | (with_reducible refine Kd.C_alloc ?_ _) | (with_reducible refine Kd.C_drewN ?_ _) | (with_reducible refine Kd.C_drew ?_))); (case side2 => exact (Kd.S_reads' HO285.out).2.1); (case side3 => repeat (first | exact (Kd.S_reads' HO288.out).2.2 | (with_reducible refine Kd.C_alloc ?_ _) | (with_reducible refine Kd.C_drewN ?_ _) | (with_reducible refine Kd.C_drew ?_))); (case side4 => exact (Kd.S_reads' HO288.out).2.1); rintro e w23 ⟨rfl, hb⟩; refine ⟨_, rfl, ?_⟩; have n0_ := Aside0.mk (Kd.S_below (by (with_reducible repeat (first | apply Kd.S_alloc | apply Kd.S_drewN | apply Kd.S_drew)); exact HO277.out) hb); have n1_ := Aside0.mk (Kd.S_below (by (with_reducible repeat (first | apply Kd.S_alloc | apply Kd.S_drewN | apply Kd.S_drew)); exact HO280.out) hb); have n2_ := Aside0.mk (Kd.S_below (by (with_reducible repeat (first | apply Kd.S_alloc | apply Kd.S_drewN | apply Kd.S_drew)); exact HO285.out) hb); have n3_ := Aside0.mk (Kd.S_below (by (with_reducible repeat (first | apply Kd.S_alloc | apply Kd.S_drewN | apply Kd.S_drew)); exact HO288.out) hb); have n4_ := Aside0.mk (below_step (by repeat (first | (with_reducible first | exact HB.out | apply below_alloc | apply pw_below_drewN | apply below_drew1) | exact HB.out)) hb); clear HO277; clear HO280; clear HO285; clear HO288; clear HB; have HO277 := n0_; have HO280 := n1_; have HO285 := n2_; have HO288 := n3_; have HB := n4_; clear n0_ n1_ n2_ n3_ n4_; (try clear hb); (try clear hb2); (try clear hk); (try clear hi)))
      (try simp only [Act.put, List.setIfInBounds_toArray, List.set_cons_zero, List.set_cons_succ])
      go_cut [47] (fun v47 wc => ∃ (kq : Nat) (x47_12 : Bool), v47 = .bool x47_12 ∧ Aside0 (laws_FnExactCountStable.j0 kq l0 l1 t283 t286 x47_12 = some r) ∧ Aside0 (kq ≤ k) ∧ Aside0 (Kd.S (Kd.slice 3 (Kd.int .i64)) 27 wc w.heap.size (fun k_ => some k_ ≠ ((.slice Ao22 t286.length co22) : Value).ownBlock) (.slice Ao21 t283.length co21) t283) ∧ Aside0 (Kd.S (Kd.slice 3 (Kd.int .i64)) 27 wc w.heap.size (fun k_ => some k_ ≠ ((.slice Ao21 t283.length co21) : Value).ownBlock) (.slice Ao22 t286.length co22) t286) ∧ Aside0 (Below w.heap.size w wc))
      case first =>
        have H := HC13.out
        clear HC13
        by_cases c24 : t289 = t281
        · rw [if_pos c24] at H
          have c24b0 : (t289 == t281) = true := beq_iff_eq.mpr c24
          have c24b1 : (t289 != t281) = false := bne_eq_false_iff_eq.mpr c24
          clear c24
          (first | rw [c24b0] | (simp only [i64_w, i32_w]; rw [c24b0]) | skip)
          have H' := Aside0.mk H
          clear H
          go_wp2
          go_meet
          case rel => exact ⟨_, ((t290 != t282)), (by first | rfl | (simp; done) | (simp [*]; done)), H', ⟨by first | omega | exact Nat.le_refl _⟩, ⟨by (with_reducible repeat (first | apply Kd.S_alloc | apply Kd.S_drewN | apply Kd.S_drew)); exact Kd.S_mono HO285.out (fun _ hk => hk.2)⟩, ⟨by (with_reducible repeat (first | apply Kd.S_alloc | apply Kd.S_drewN | apply Kd.S_drew)); exact Kd.S_mono HO288.out (fun _ hk => hk.2)⟩, ⟨by repeat (first | (with_reducible first | exact HB.out | apply below_alloc | apply pw_below_drewN | apply below_drew1) | exact HB.out)⟩⟩
        · rw [if_neg c24] at H
          have c24b0 : (t289 == t281) = false := beq_eq_false_iff_ne.mpr c24
          have c24b1 : (t289 != t281) = true := bne_iff_ne.mpr c24
          (first | rw [c24b0] | (simp only [i64_w, i32_w]; rw [c24b0]) | skip)
          have H' := Aside0.mk H
          clear H
          go_wp2
          go_meet
          case rel => exact ⟨_, (true), (by first | rfl | (simp; done) | (simp [*]; done)), H', ⟨by first | omega | exact Nat.le_refl _⟩, ⟨by (with_reducible repeat (first | apply Kd.S_alloc | apply Kd.S_drewN | apply Kd.S_drew)); exact Kd.S_mono HO285.out (fun _ hk => hk.2)⟩, ⟨by (with_reducible repeat (first | apply Kd.S_alloc | apply Kd.S_drewN | apply Kd.S_drew)); exact Kd.S_mono HO288.out (fun _ hk => hk.2)⟩, ⟨by repeat (first | (with_reducible first | exact HB.out | apply below_alloc | apply pw_below_drewN | apply below_drew1) | exact HB.out)⟩⟩
      case rest =>
        clear HC13
        try clear c1
        try clear c2
        try clear p2
        try clear c4
        try clear c4b0
        try clear c6
        try clear c6b0
        try clear c12
        try clear c15
        try clear c17
        try clear c24
        try clear c24b0
        try clear c24b1
        obtain ⟨kq, x47_12, rfl, HA, HJ12, HO_8, HO_9, HB⟩ := hcut
        cases kq with
        | zero => exact absurd HA.out (by simp [laws_FnExactCountStable.j0])
        | succ kj12 =>
          have H := HA.out
          clear HA
          simp only [laws_FnExactCountStable.j0] at H
          by_cases c25 : x47_12 = true
          · subst c25
            have H1 : (some false) = some r := by rw [if_pos rfl] at H; exact H
            clear H
            have H := H1
            clear H1
            obtain rfl := Option.some.inj H
            go_wp2
            go_ret
            exact ⟨by first | rfl | (simp [errW_none, errW_some] <;> rfl) | (simp [*, errW_none, errW_some] <;> rfl), by repeat (first | (with_reducible first | exact HB.out | apply below_alloc | apply pw_below_drewN | apply below_drew1) | exact HB.out)⟩
          · replace c25 := Bool.eq_false_iff.mpr c25
            subst c25
            have H1 : ((laws_toIntSS.f kj12 l0).bind fun t291 => ((laws_eqIntSS.f kj12 t283 t291).bind fun t294 => (if t294 = true then ((laws_toIntSS.f kj12 l1).bind fun t295 => ((laws_eqIntSS.f kj12 t286 t295).bind fun t298 => (if t298 = true then (some true) else (some false)))) else (some false)))) = some r := by rw [if_neg (show ¬ (false = true) by decide)] at H; exact H
            clear H
            have H := H1
            clear H1
            replace H := Option.bind_eq_some_iff.mp H
            obtain ⟨t291, A260, H⟩ := H
            replace H : ((laws_eqIntSS.f kj12 t283 t291).bind fun t294 => (if t294 = true then ((laws_toIntSS.f kj12 l1).bind fun t295 => ((laws_eqIntSS.f kj12 t286 t295).bind fun t298 => (if t298 = true then (some true) else (some false)))) else (some false))) = some r := H
            have A26 := Aside0.mk A260
            clear A260
            replace H := Option.bind_eq_some_iff.mp H
            obtain ⟨t294, A270, H⟩ := H
            replace H : (if t294 = true then ((laws_toIntSS.f kj12 l1).bind fun t295 => ((laws_eqIntSS.f kj12 t286 t295).bind fun t298 => (if t298 = true then (some true) else (some false)))) else (some false)) = some r := H
            have A27 := Aside0.mk A270
            clear A270
            by_cases c28 : t294 = true
            · subst c28
              have H1 : ((laws_toIntSS.f kj12 l1).bind fun t295 => ((laws_eqIntSS.f kj12 t286 t295).bind fun t298 => (if t298 = true then (some true) else (some false)))) = some r := by rw [if_pos rfl] at H; exact H
              clear H
              have H := H1
              clear H1
              replace H := Option.bind_eq_some_iff.mp H
              obtain ⟨t295, A290, H⟩ := H
              replace H : ((laws_eqIntSS.f kj12 t286 t295).bind fun t298 => (if t298 = true then (some true) else (some false))) = some r := H
              have A29 := Aside0.mk A290
              clear A290
              replace H := Option.bind_eq_some_iff.mp H
              obtain ⟨t298, A300, H⟩ := H
              replace H : (if t298 = true then (some true) else (some false)) = some r := H
              have A30 := Aside0.mk A300
              clear A300
              by_cases c31 : t298 = true
              · subst c31
                have H1 : (some true) = some r := by rw [if_pos rfl] at H; exact H
                clear H
                have H := H1
                clear H1
                obtain rfl := Option.some.inj H
                go_wp2_with (first | ((with_reducible refine gate_callee (f := 17) rfl ?_); refine goesL_ (some 50) rfl rfl Try.func17 (by kernel_rfl) rfl #[.slice A0 l0.length c0] rfl (by (try simp only [List.map_toArray, List.map_cons, List.map_nil]); first | done | rfl | (simp only [List.length_drop, List.length_take]; rfl)) ?_; (with_reducible refine (laws_toIntSS.calls kj12 _ _ l0 t291 _ ?side1 ?side2 A26.out).mono ?_); (case side1 => repeat (first | exact (Kd.C_below HR0.out HB.out) | (with_reducible refine Kd.C_alloc ?_ _) | (with_reducible refine Kd.C_drewN ?_ _) | (with_reducible refine Kd.C_drew ?_))); (case side2 => exact HC0.out); rintro e w32 ⟨v292, rfl, ho0, hb⟩; refine ⟨_, rfl, ?_⟩; have n0_ := Aside0.mk (Kd.S_elder' (by (with_reducible repeat (first | apply Kd.S_alloc | apply Kd.S_drewN | apply Kd.S_drew)); exact HO_8.out) (Kd.S_base ho0) hb); have n1_ := Aside0.mk (Kd.S_elder' (by (with_reducible repeat (first | apply Kd.S_alloc | apply Kd.S_drewN | apply Kd.S_drew)); exact HO_9.out) (Kd.S_base ho0) hb); have n2_ := Aside0.mk (Kd.S_lower (Kd.S_new' (Kd.S_new' ho0 (Kd.S_lt (by (with_reducible repeat (first | apply Kd.S_alloc | apply Kd.S_drewN | apply Kd.S_drew)); exact HO_8.out))) (Kd.S_lt (by (with_reducible repeat (first | apply Kd.S_alloc | apply Kd.S_drewN | apply Kd.S_drew)); exact HO_9.out))) (below_size (by repeat (first | (with_reducible first | exact HB.out | apply below_alloc | apply pw_below_drewN | apply below_drew1) | exact HB.out)))); have n3_ := Aside0.mk (below_step (by repeat (first | (with_reducible first | exact HB.out | apply below_alloc | apply pw_below_drewN | apply below_drew1) | exact HB.out)) hb); clear HO_8; clear HO_9; clear HB; have HO_8 := n0_; have HO_9 := n1_; have HO293 := n2_; have HB := n3_; clear n0_ n1_ n2_ n3_; (try clear hb); (try clear hb2); (try clear hk); (try clear hi); (try clear ho0); obtain ⟨Ao33, co33, eo33⟩ := Kd.S_slice HO293.out; subst eo33) | ((with_reducible refine gate_callee (f := 19) rfl ?_); refine goesL_ (some 51) rfl rfl Try.func19 (by kernel_rfl) rfl #[.slice Ao21 t283.length co21, .slice Ao33 t291.length co33] rfl (by (try simp only [List.map_toArray, List.map_cons, List.map_nil]); first | done | rfl | (simp only [List.length_drop, List.length_take]; rfl)) ?_; (with_reducible refine (laws_eqIntSS.calls kj12 _ _ t283 _ _ t291 true _ ?side1 ?side2 ?side3 ?side4 A27.out).mono ?_); (case side1 => repeat (first | exact (Kd.S_reads' HO_8.out).2.2 | (with_reducible refine Kd.C_alloc ?_ _) | (with_reducible refine Kd.C_drewN ?_ _) | (with_reducible refine Kd.C_drew ?_))); (case side2 => exact (Kd.S_reads' HO_8.out).2.1); (case side3 => repeat (first | exact (Kd.S_reads' HO293.out).2.2 | (with_reducible refine Kd.C_alloc ?_ _) | (with_reducible refine Kd.C_drewN ?_ _) | (with_reducible refine Kd.C_drew ?_))); (case side4 => exact (Kd.S_reads' HO293.out).2.1); rintro e w' ⟨rfl, ⟨nd, rfl⟩⟩; refine ⟨_, rfl, ?_⟩) | ((with_reducible refine gate_callee (f := 17) rfl ?_); refine goesL_ (some 55) rfl rfl Try.func17 (by kernel_rfl) rfl #[.slice A1 l1.length c1] rfl (by (try simp only [List.map_toArray, List.map_cons, List.map_nil]); first | done | rfl | (simp only [List.length_drop, List.length_take]; rfl)) ?_; (with_reducible refine (laws_toIntSS.calls kj12 _ _ l1 t295 _ ?side1 ?side2 A29.out).mono ?_); (case side1 => repeat (first | exact (Kd.C_below HR1.out (by repeat (first | (with_reducible first | exact HB.out | apply below_alloc | apply pw_below_drewN | apply below_drew1) | exact HB.out))) | (with_reducible refine Kd.C_alloc ?_ _) | (with_reducible refine Kd.C_drewN ?_ _) | (with_reducible refine Kd.C_drew ?_))); (case side2 => exact HC1.out); rintro e w34 ⟨v296, rfl, ho0, hb⟩; refine ⟨_, rfl, ?_⟩; have n0_ := Aside0.mk (Kd.S_elder' (by (with_reducible repeat (first | apply Kd.S_alloc | apply Kd.S_drewN | apply Kd.S_drew)); exact HO_8.out) (Kd.S_base ho0) hb); have n1_ := Aside0.mk (Kd.S_elder' (by (with_reducible repeat (first | apply Kd.S_alloc | apply Kd.S_drewN | apply Kd.S_drew)); exact HO_9.out) (Kd.S_base ho0) hb); have n2_ := Aside0.mk (Kd.S_elder' (by (with_reducible repeat (first | apply Kd.S_alloc | apply Kd.S_drewN | apply Kd.S_drew)); exact HO293.out) (Kd.S_base ho0) hb); have n3_ := Aside0.mk (Kd.S_lower (Kd.S_new' (Kd.S_new' (Kd.S_new' ho0 (Kd.S_lt (by (with_reducible repeat (first | apply Kd.S_alloc | apply Kd.S_drewN | apply Kd.S_drew)); exact HO_8.out))) (Kd.S_lt (by (with_reducible repeat (first | apply Kd.S_alloc | apply Kd.S_drewN | apply Kd.S_drew)); exact HO_9.out))) (Kd.S_lt (by (with_reducible repeat (first | apply Kd.S_alloc | apply Kd.S_drewN | apply Kd.S_drew)); exact HO293.out))) (below_size (by repeat (first | (with_reducible first | exact HB.out | apply below_alloc | apply pw_below_drewN | apply below_drew1) | exact HB.out)))); have n4_ := Aside0.mk (below_step (by repeat (first | (with_reducible first | exact HB.out | apply below_alloc | apply pw_below_drewN | apply below_drew1) | exact HB.out)) hb); clear HO_8; clear HO_9; clear HO293; clear HB; have HO_8 := n0_; have HO_9 := n1_; have HO293 := n2_; have HO297 := n3_; have HB := n4_; clear n0_ n1_ n2_ n3_ n4_; (try clear hb); (try clear hb2); (try clear hk); (try clear hi); (try clear ho0); obtain ⟨Ao35, co35, eo35⟩ := Kd.S_slice HO297.out; subst eo35) | ((with_reducible refine gate_callee (f := 19) rfl ?_); refine goesL_ (some 56) rfl rfl Try.func19 (by kernel_rfl) rfl #[.slice Ao22 t286.length co22, .slice Ao35 t295.length co35] rfl (by (try simp only [List.map_toArray, List.map_cons, List.map_nil]); first | done | rfl | (simp only [List.length_drop, List.length_take]; rfl)) ?_; (with_reducible refine (laws_eqIntSS.calls kj12 _ _ t286 _ _ t295 true _ ?side1 ?side2 ?side3 ?side4 A30.out).mono ?_); (case side1 => repeat (first | exact (Kd.S_reads' HO_9.out).2.2 | (with_reducible refine Kd.C_alloc ?_ _) | (with_reducible refine Kd.C_drewN ?_ _) | (with_reducible refine Kd.C_drew ?_))); (case side2 => exact (Kd.S_reads' HO_9.out).2.1); (case side3 => repeat (first | exact (Kd.S_reads' HO297.out).2.2 | (with_reducible refine Kd.C_alloc ?_ _) | (with_reducible refine Kd.C_drewN ?_ _) | (with_reducible refine Kd.C_drew ?_))); (case side4 => exact (Kd.S_reads' HO297.out).2.1); rintro e w' ⟨rfl, ⟨nd, rfl⟩⟩; refine ⟨_, rfl, ?_⟩))
                go_ret
                exact ⟨by first | rfl | (simp [errW_none, errW_some] <;> rfl) | (simp [*, errW_none, errW_some] <;> rfl), by repeat (first | (with_reducible first | exact HB.out | apply below_alloc | apply pw_below_drewN | apply below_drew1) | exact HB.out)⟩
              · replace c31 := Bool.eq_false_iff.mpr c31
                subst c31
                have H1 : (some false) = some r := by rw [if_neg (show ¬ (false = true) by decide)] at H; exact H
                clear H
                have H := H1
                clear H1
                obtain rfl := Option.some.inj H
                go_wp2_with (first | ((with_reducible refine gate_callee (f := 17) rfl ?_); refine goesL_ (some 50) rfl rfl Try.func17 (by kernel_rfl) rfl #[.slice A0 l0.length c0] rfl (by (try simp only [List.map_toArray, List.map_cons, List.map_nil]); first | done | rfl | (simp only [List.length_drop, List.length_take]; rfl)) ?_; (with_reducible refine (laws_toIntSS.calls kj12 _ _ l0 t291 _ ?side1 ?side2 A26.out).mono ?_); (case side1 => repeat (first | exact (Kd.C_below HR0.out HB.out) | (with_reducible refine Kd.C_alloc ?_ _) | (with_reducible refine Kd.C_drewN ?_ _) | (with_reducible refine Kd.C_drew ?_))); (case side2 => exact HC0.out); rintro e w36 ⟨v292, rfl, ho0, hb⟩; refine ⟨_, rfl, ?_⟩; have n0_ := Aside0.mk (Kd.S_elder' (by (with_reducible repeat (first | apply Kd.S_alloc | apply Kd.S_drewN | apply Kd.S_drew)); exact HO_8.out) (Kd.S_base ho0) hb); have n1_ := Aside0.mk (Kd.S_elder' (by (with_reducible repeat (first | apply Kd.S_alloc | apply Kd.S_drewN | apply Kd.S_drew)); exact HO_9.out) (Kd.S_base ho0) hb); have n2_ := Aside0.mk (Kd.S_lower (Kd.S_new' (Kd.S_new' ho0 (Kd.S_lt (by (with_reducible repeat (first | apply Kd.S_alloc | apply Kd.S_drewN | apply Kd.S_drew)); exact HO_8.out))) (Kd.S_lt (by (with_reducible repeat (first | apply Kd.S_alloc | apply Kd.S_drewN | apply Kd.S_drew)); exact HO_9.out))) (below_size (by repeat (first | (with_reducible first | exact HB.out | apply below_alloc | apply pw_below_drewN | apply below_drew1) | exact HB.out)))); have n3_ := Aside0.mk (below_step (by repeat (first | (with_reducible first | exact HB.out | apply below_alloc | apply pw_below_drewN | apply below_drew1) | exact HB.out)) hb); clear HO_8; clear HO_9; clear HB; have HO_8 := n0_; have HO_9 := n1_; have HO293 := n2_; have HB := n3_; clear n0_ n1_ n2_ n3_; (try clear hb); (try clear hb2); (try clear hk); (try clear hi); (try clear ho0); obtain ⟨Ao37, co37, eo37⟩ := Kd.S_slice HO293.out; subst eo37) | ((with_reducible refine gate_callee (f := 19) rfl ?_); refine goesL_ (some 51) rfl rfl Try.func19 (by kernel_rfl) rfl #[.slice Ao21 t283.length co21, .slice Ao37 t291.length co37] rfl (by (try simp only [List.map_toArray, List.map_cons, List.map_nil]); first | done | rfl | (simp only [List.length_drop, List.length_take]; rfl)) ?_; (with_reducible refine (laws_eqIntSS.calls kj12 _ _ t283 _ _ t291 true _ ?side1 ?side2 ?side3 ?side4 A27.out).mono ?_); (case side1 => repeat (first | exact (Kd.S_reads' HO_8.out).2.2 | (with_reducible refine Kd.C_alloc ?_ _) | (with_reducible refine Kd.C_drewN ?_ _) | (with_reducible refine Kd.C_drew ?_))); (case side2 => exact (Kd.S_reads' HO_8.out).2.1); (case side3 => repeat (first | exact (Kd.S_reads' HO293.out).2.2 | (with_reducible refine Kd.C_alloc ?_ _) | (with_reducible refine Kd.C_drewN ?_ _) | (with_reducible refine Kd.C_drew ?_))); (case side4 => exact (Kd.S_reads' HO293.out).2.1); rintro e w' ⟨rfl, ⟨nd, rfl⟩⟩; refine ⟨_, rfl, ?_⟩) | ((with_reducible refine gate_callee (f := 17) rfl ?_); refine goesL_ (some 55) rfl rfl Try.func17 (by kernel_rfl) rfl #[.slice A1 l1.length c1] rfl (by (try simp only [List.map_toArray, List.map_cons, List.map_nil]); first | done | rfl | (simp only [List.length_drop, List.length_take]; rfl)) ?_; (with_reducible refine (laws_toIntSS.calls kj12 _ _ l1 t295 _ ?side1 ?side2 A29.out).mono ?_); (case side1 => repeat (first | exact (Kd.C_below HR1.out (by repeat (first | (with_reducible first | exact HB.out | apply below_alloc | apply pw_below_drewN | apply below_drew1) | exact HB.out))) | (with_reducible refine Kd.C_alloc ?_ _) | (with_reducible refine Kd.C_drewN ?_ _) | (with_reducible refine Kd.C_drew ?_))); (case side2 => exact HC1.out); rintro e w38 ⟨v296, rfl, ho0, hb⟩; refine ⟨_, rfl, ?_⟩; have n0_ := Aside0.mk (Kd.S_elder' (by (with_reducible repeat (first | apply Kd.S_alloc | apply Kd.S_drewN | apply Kd.S_drew)); exact HO_8.out) (Kd.S_base ho0) hb); have n1_ := Aside0.mk (Kd.S_elder' (by (with_reducible repeat (first | apply Kd.S_alloc | apply Kd.S_drewN | apply Kd.S_drew)); exact HO_9.out) (Kd.S_base ho0) hb); have n2_ := Aside0.mk (Kd.S_elder' (by (with_reducible repeat (first | apply Kd.S_alloc | apply Kd.S_drewN | apply Kd.S_drew)); exact HO293.out) (Kd.S_base ho0) hb); have n3_ := Aside0.mk (Kd.S_lower (Kd.S_new' (Kd.S_new' (Kd.S_new' ho0 (Kd.S_lt (by (with_reducible repeat (first | apply Kd.S_alloc | apply Kd.S_drewN | apply Kd.S_drew)); exact HO_8.out))) (Kd.S_lt (by (with_reducible repeat (first | apply Kd.S_alloc | apply Kd.S_drewN | apply Kd.S_drew)); exact HO_9.out))) (Kd.S_lt (by (with_reducible repeat (first | apply Kd.S_alloc | apply Kd.S_drewN | apply Kd.S_drew)); exact HO293.out))) (below_size (by repeat (first | (with_reducible first | exact HB.out | apply below_alloc | apply pw_below_drewN | apply below_drew1) | exact HB.out)))); have n4_ := Aside0.mk (below_step (by repeat (first | (with_reducible first | exact HB.out | apply below_alloc | apply pw_below_drewN | apply below_drew1) | exact HB.out)) hb); clear HO_8; clear HO_9; clear HO293; clear HB; have HO_8 := n0_; have HO_9 := n1_; have HO293 := n2_; have HO297 := n3_; have HB := n4_; clear n0_ n1_ n2_ n3_ n4_; (try clear hb); (try clear hb2); (try clear hk); (try clear hi); (try clear ho0); obtain ⟨Ao39, co39, eo39⟩ := Kd.S_slice HO297.out; subst eo39) | ((with_reducible refine gate_callee (f := 19) rfl ?_); refine goesL_ (some 56) rfl rfl Try.func19 (by kernel_rfl) rfl #[.slice Ao22 t286.length co22, .slice Ao39 t295.length co39] rfl (by (try simp only [List.map_toArray, List.map_cons, List.map_nil]); first | done | rfl | (simp only [List.length_drop, List.length_take]; rfl)) ?_; (with_reducible refine (laws_eqIntSS.calls kj12 _ _ t286 _ _ t295 false _ ?side1 ?side2 ?side3 ?side4 A30.out).mono ?_); (case side1 => repeat (first | exact (Kd.S_reads' HO_9.out).2.2 | (with_reducible refine Kd.C_alloc ?_ _) | (with_reducible refine Kd.C_drewN ?_ _) | (with_reducible refine Kd.C_drew ?_))); (case side2 => exact (Kd.S_reads' HO_9.out).2.1); (case side3 => repeat (first | exact (Kd.S_reads' HO297.out).2.2 | (with_reducible refine Kd.C_alloc ?_ _) | (with_reducible refine Kd.C_drewN ?_ _) | (with_reducible refine Kd.C_drew ?_))); (case side4 => exact (Kd.S_reads' HO297.out).2.1); rintro e w' ⟨rfl, ⟨nd, rfl⟩⟩; refine ⟨_, rfl, ?_⟩))
                go_ret
                exact ⟨by first | rfl | (simp [errW_none, errW_some] <;> rfl) | (simp [*, errW_none, errW_some] <;> rfl), by repeat (first | (with_reducible first | exact HB.out | apply below_alloc | apply pw_below_drewN | apply below_drew1) | exact HB.out)⟩
            · replace c28 := Bool.eq_false_iff.mpr c28
              subst c28
              have H1 : (some false) = some r := by rw [if_neg (show ¬ (false = true) by decide)] at H; exact H
              clear H
              have H := H1
              clear H1
              obtain rfl := Option.some.inj H
              go_wp2_with (first | ((with_reducible refine gate_callee (f := 17) rfl ?_); refine goesL_ (some 50) rfl rfl Try.func17 (by kernel_rfl) rfl #[.slice A0 l0.length c0] rfl (by (try simp only [List.map_toArray, List.map_cons, List.map_nil]); first | done | rfl | (simp only [List.length_drop, List.length_take]; rfl)) ?_; (with_reducible refine (laws_toIntSS.calls kj12 _ _ l0 t291 _ ?side1 ?side2 A26.out).mono ?_); (case side1 => repeat (first | exact (Kd.C_below HR0.out HB.out) | (with_reducible refine Kd.C_alloc ?_ _) | (with_reducible refine Kd.C_drewN ?_ _) | (with_reducible refine Kd.C_drew ?_))); (case side2 => exact HC0.out); rintro e w40 ⟨v292, rfl, ho0, hb⟩; refine ⟨_, rfl, ?_⟩; have n0_ := Aside0.mk (Kd.S_elder' (by (with_reducible repeat (first | apply Kd.S_alloc | apply Kd.S_drewN | apply Kd.S_drew)); exact HO_8.out) (Kd.S_base ho0) hb); have n1_ := Aside0.mk (Kd.S_elder' (by (with_reducible repeat (first | apply Kd.S_alloc | apply Kd.S_drewN | apply Kd.S_drew)); exact HO_9.out) (Kd.S_base ho0) hb); have n2_ := Aside0.mk (Kd.S_lower (Kd.S_new' (Kd.S_new' ho0 (Kd.S_lt (by (with_reducible repeat (first | apply Kd.S_alloc | apply Kd.S_drewN | apply Kd.S_drew)); exact HO_8.out))) (Kd.S_lt (by (with_reducible repeat (first | apply Kd.S_alloc | apply Kd.S_drewN | apply Kd.S_drew)); exact HO_9.out))) (below_size (by repeat (first | (with_reducible first | exact HB.out | apply below_alloc | apply pw_below_drewN | apply below_drew1) | exact HB.out)))); have n3_ := Aside0.mk (below_step (by repeat (first | (with_reducible first | exact HB.out | apply below_alloc | apply pw_below_drewN | apply below_drew1) | exact HB.out)) hb); clear HO_8; clear HO_9; clear HB; have HO_8 := n0_; have HO_9 := n1_; have HO293 := n2_; have HB := n3_; clear n0_ n1_ n2_ n3_; (try clear hb); (try clear hb2); (try clear hk); (try clear hi); (try clear ho0); obtain ⟨Ao41, co41, eo41⟩ := Kd.S_slice HO293.out; subst eo41) | ((with_reducible refine gate_callee (f := 19) rfl ?_); refine goesL_ (some 51) rfl rfl Try.func19 (by kernel_rfl) rfl #[.slice Ao21 t283.length co21, .slice Ao41 t291.length co41] rfl (by (try simp only [List.map_toArray, List.map_cons, List.map_nil]); first | done | rfl | (simp only [List.length_drop, List.length_take]; rfl)) ?_; (with_reducible refine (laws_eqIntSS.calls kj12 _ _ t283 _ _ t291 false _ ?side1 ?side2 ?side3 ?side4 A27.out).mono ?_); (case side1 => repeat (first | exact (Kd.S_reads' HO_8.out).2.2 | (with_reducible refine Kd.C_alloc ?_ _) | (with_reducible refine Kd.C_drewN ?_ _) | (with_reducible refine Kd.C_drew ?_))); (case side2 => exact (Kd.S_reads' HO_8.out).2.1); (case side3 => repeat (first | exact (Kd.S_reads' HO293.out).2.2 | (with_reducible refine Kd.C_alloc ?_ _) | (with_reducible refine Kd.C_drewN ?_ _) | (with_reducible refine Kd.C_drew ?_))); (case side4 => exact (Kd.S_reads' HO293.out).2.1); rintro e w' ⟨rfl, ⟨nd, rfl⟩⟩; refine ⟨_, rfl, ?_⟩))
              go_ret
              exact ⟨by first | rfl | (simp [errW_none, errW_some] <;> rfl) | (simp [*, errW_none, errW_some] <;> rfl), by repeat (first | (with_reducible first | exact HB.out | apply below_alloc | apply pw_below_drewN | apply below_drew1) | exact HB.out)⟩

end Go.Proofs.Ytjipboafhakjfaa.PFnExactCountStable
