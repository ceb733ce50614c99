/- Text written by a program for this claim: contracts of the functions of one law. -/
import Derived.Test.YtcinecbfkeefaaaPFnExactCountBlendsx0
import Derived.Test.YtcinecbfkeefaaaPFnExactCountBlendsx5
namespace Go.Proofs.Ytcinecbfkeefaaa.PFnExactCountBlends
open Go.RowKit Go.Proofs.YtcinecbfkeefaaaW.PrintWords Go.Proofs.YtcinecbfkeefaaaW.PrintLast Go.Proofs.YtcinecbfkeefaaaW.PrintMore
attribute [local go_sem] max2_int min2_int max_two min_two max_three min_three max_four min_four   -- for this text's walks alone
set_option linter.unusedVariables false
set_option linter.unusedSimpArgs false

/-! ### impl_CountBlends: function 25 -/
/-- The sums of the first parts. -/
def sumsTo (l : List S63) (ps : List Int) : Nat → Int × Int × Int × Int
  | 0 => (0, 0, 0, 0)
  | i + 1 => (wrap64 ((sumsTo l ps i).1 + rd ps (i : Int)), wrap64 ((sumsTo l ps i).2.1 + wrap64 (rd ps (i : Int) * (rd_T63 l (i : Int)).f1)), wrap64 ((sumsTo l ps i).2.2.1 + wrap64 (rd ps (i : Int) * (rd_T63 l (i : Int)).f2)), wrap64 ((sumsTo l ps i).2.2.2 + wrap64 (rd ps (i : Int) * (rd_T63 l (i : Int)).f3)))
theorem size_al {W : World} {B : Nat} (o : Obj) (h : W.heap.size = B) : (W.alloc o).heap.size = B + 1 := by subst h; simp
theorem blk_here {W : World} {B : Nat} (o : Obj) (h : W.heap.size = B) : (W.alloc o).heap[B]? = some o := by subst h; exact blk_new W o
structure BsInv (h : Nat) (l : List S63) (ps : List Int) (i : Nat) (W : World) : Prop where
  r : W.heap[h]? = some (.cells #[.int .i64 0, .int .i64 0, .int .i64 0, .int .i64 0] 88 (0, 0))
  o : W.heap[h + 1]? = some (.cells #[.int .i64 (sumsTo l ps i).1, .int .i64 (sumsTo l ps i).2.1, .int .i64 (sumsTo l ps i).2.2.1, .int .i64 (sumsTo l ps i).2.2.2] 88 (0, 0))
set_option maxHeartbeats 8000000 in
set_option maxRecDepth 100000 in
theorem impl_blendSums.calls (A0 : Option Addr) (c0 : Nat) (l0 : List S63) (A1 : Option Addr) (c1 : Nat) (l1 : List Int) (w : World) (hr0 : Kd.C k63 w A0 l0.length l0) (hc0 : l0.length ≤ c0) (hr1 : Kd.C (Kd.int .i64) w A1 l1.length l1) (hc1 : l1.length ≤ c1) (hle : l1.length ≤ l0.length) :
    Calls Try.prog 66 #[.slice A0 l0.length c0, .slice A1 l1.length c1] w fun e w' => e = .returned (.agg #[.int .i64 (sumsTo l0 l1 l1.length).1, .int .i64 (sumsTo l0 l1 l1.length).2.1, .int .i64 (sumsTo l0 l1 l1.length).2.2.1, .int .i64 (sumsTo l0 l1 l1.length).2.2.2]) ∧ Below w.heap.size w w' := by
  have HR0 := Aside0.mk hr0
  have HC0 := Aside0.mk hc0
  have HR1 := Aside0.mk hr1
  have HC1 := Aside0.mk hc1
  have HLE := Aside0.mk hle
  have hmax := Kd.C_max hr1
  clear hr0 hc0 hr1 hc1 hle
  go_enter Try.func66, Try.ntmps66
  go_wp2
  go_loopg [11] l1.length (fun kq v11 w' => ∃ i : Nat, v11 = .int .i64 (i : Int) ∧ Aside0 (i + kq = l1.length) ∧ Aside0 (BsInv w.heap.size l0 l1 i w') ∧ Aside0 (Below w.heap.size w w'))
  case atStart => exact ⟨0, rfl, ⟨Nat.zero_add _⟩, ⟨⟨blk_alloc (blk_new _ _) _, blk_here _ (size_al _ rfl)⟩⟩, ⟨below_alloc (below_alloc (Below.refl _ _) _) _⟩⟩
  case round =>
    obtain ⟨i, rfl, HK, HI, HB⟩ := hrel
    cases gk with
    | zero =>
      have hk := HK.out
      rw [Nat.add_zero] at hk
      subst hk
      have hz0 : wr.cell? ⟨w.heap.size + 1, 0, none⟩ = some (.int .i64 (sumsTo l0 l1 l1.length).1) := (blk_cell HI.out.o 0).trans rfl
      have hz1 : wr.cell? ⟨w.heap.size + 1, 1, none⟩ = some (.int .i64 (sumsTo l0 l1 l1.length).2.1) := (blk_cell HI.out.o 1).trans rfl
      have hz2 : wr.cell? ⟨w.heap.size + 1, 2, none⟩ = some (.int .i64 (sumsTo l0 l1 l1.length).2.2.1) := (blk_cell HI.out.o 2).trans rfl
      have hz3 : wr.cell? ⟨w.heap.size + 1, 3, none⟩ = some (.int .i64 (sumsTo l0 l1 l1.length).2.2.2) := (blk_cell HI.out.o 3).trans rfl
      have hy0 : wr.cell? ⟨w.heap.size, 0, none⟩ = some (.int .i64 0) := (blk_cell HI.out.r 0).trans rfl
      have hy1 : wr.cell? ⟨w.heap.size, 1, none⟩ = some (.int .i64 0) := (blk_cell HI.out.r 1).trans rfl
      have hy2 : wr.cell? ⟨w.heap.size, 2, none⟩ = some (.int .i64 0) := (blk_cell HI.out.r 2).trans rfl
      have hy3 : wr.cell? ⟨w.heap.size, 3, none⟩ = some (.int .i64 0) := (blk_cell HI.out.r 3).trans rfl
      have hf0 := blk_frozen HI.out.r 0
      have hf1 := blk_frozen HI.out.r 1
      have hf2 := blk_frozen HI.out.r 2
      have hf3 := blk_frozen HI.out.r 3
      go_wp2
      exact bodyPost_ret (v := .agg #[.int .i64 (sumsTo l0 l1 l1.length).1, .int .i64 (sumsTo l0 l1 l1.length).2.1, .int .i64 (sumsTo l0 l1 l1.length).2.2.1, .int .i64 (sumsTo l0 l1 l1.length).2.2.2]) (by simp [results, Try.results66, go_sem, hf0, hf1, hf2, hf3, hy0, hy1, hy2, hy3]) rfl ⟨rfl, by (with_reducible repeat (first | refine below_drew ?_ | refine pw_below_drewN ?_ _ | refine Below.setCell ?_ (by simp) _)); exact HB.out⟩
    | succ k1 =>
      have hk := HK.out
      have hlt : i < l1.length := by omega
      have hle := HLE.out
      have hlt0 : i < l0.length := by omega
      have hb1 : decide ((i : Int) < (l1.length : Int)) = true := decide_eq_true (by omega)
      obtain ⟨ad1, e1, hx1⟩ := Kd.at_int (Kd.C_below HR1.out HB.out) (i : Int) (by omega) (by omega)
      subst e1
      obtain ⟨ad0, e0, hy0, hy1, hy2, hy3⟩ := at_T63 (Kd.C_below HR0.out HB.out) (i : Int) (by omega) (by omega)
      subst e0
      rw [Int.toNat_natCast] at hx1 hy0 hy1 hy2 hy3
      have hz0 : wr.cell? ⟨w.heap.size + 1, 0, none⟩ = some (.int .i64 (sumsTo l0 l1 i).1) := (blk_cell HI.out.o 0).trans rfl
      have hz1 : wr.cell? ⟨w.heap.size + 1, 1, none⟩ = some (.int .i64 (sumsTo l0 l1 i).2.1) := (blk_cell HI.out.o 1).trans rfl
      have hz2 : wr.cell? ⟨w.heap.size + 1, 2, none⟩ = some (.int .i64 (sumsTo l0 l1 i).2.2.1) := (blk_cell HI.out.o 2).trans rfl
      have hz3 : wr.cell? ⟨w.heap.size + 1, 3, none⟩ = some (.int .i64 (sumsTo l0 l1 i).2.2.2) := (blk_cell HI.out.o 3).trans rfl
      have hf0 := blk_frozen HI.out.o 0
      have hf1 := blk_frozen HI.out.o 1
      have hf2 := blk_frozen HI.out.o 2
      have hf3 := blk_frozen HI.out.o 3
      clear hk
      go_wp2
      go_region
      go_wp2
      go_region
      go_wp2
      go_region
      go_wp2
      go_roundg k1
      case measure => omega
      case rel => exact ⟨i + 1, by go_num, ⟨by have := HK.out; omega⟩, ⟨⟨by (with_reducible repeat (first | refine blk_drew ?_ | refine blk_drewN ?_ _ | refine blk_far ?_ (by simp) _)); exact HI.out.r, by (with_reducible repeat (first | refine blk_drew ?_ | refine blk_drewN ?_ _)); exact (blk_set (blk_set (blk_set (blk_set HI.out.o 0 _) 1 _) 2 _) 3 _).trans rfl⟩⟩, ⟨by (with_reducible repeat (first | refine below_drew ?_ | refine pw_below_drewN ?_ _ | refine Below.setCell ?_ (by simp) _)); exact HB.out⟩⟩
/-- Do sums meet what is wanted? -/
def meetsB (s : Int × Int × Int × Int) (u le mo im : Int) : Bool := (s.1 == u) && (decide (wrap64 (le * u) ≤ s.2.1) && (decide (s.2.1 ≤ wrap64 (mo * u)) && decide (s.2.2.1 ≤ wrap64 (im * u))))
set_option maxHeartbeats 8000000 in
set_option maxRecDepth 100000 in
theorem impl_meetsWanted.calls (A0 : Option Addr) (c0 : Nat) (l0 : List S63) (u le mo im : Int) (A1 : Option Addr) (c1 : Nat) (l1 : List Int) (w : World) (hr0 : Kd.C k63 w A0 l0.length l0) (hc0 : l0.length ≤ c0) (hr1 : Kd.C (Kd.int .i64) w A1 l1.length l1) (hc1 : l1.length ≤ c1) (hle : l1.length ≤ l0.length) :
    Calls Try.prog 60 #[.slice A0 l0.length c0, .agg #[.int .i64 u, .int .i64 le, .int .i64 mo, .int .i64 im], .slice A1 l1.length c1] w fun e w' => e = .returned (.bool (meetsB (sumsTo l0 l1 l1.length) u le mo im)) ∧ Below w.heap.size w w' := by
  have HR0 := Aside0.mk hr0
  have HC0 := Aside0.mk hc0
  have HR1 := Aside0.mk hr1
  have HC1 := Aside0.mk hc1
  have HLE := Aside0.mk hle
  obtain ⟨s0, s1, s2, s3, hs⟩ : ∃ s0 s1 s2 s3, sumsTo l0 l1 l1.length = (s0, s1, s2, s3) := ⟨_, _, _, _, rfl⟩
  rw [hs]
  have hcall : ∀ W : World, Below w.heap.size w W → Calls Try.prog 66 #[.slice A0 l0.length c0, .slice A1 l1.length c1] W fun e w' => e = .returned (.agg #[.int .i64 s0, .int .i64 s1, .int .i64 s2, .int .i64 s3]) ∧ Below W.heap.size W w' := fun W hW => by
    have h := impl_blendSums.calls A0 c0 l0 A1 c1 l1 W (Kd.C_below hr0 hW) hc0 (Kd.C_below hr1 hW) hc1 hle
    rw [hs] at h
    exact h
  have HCA := Aside0.mk hcall
  clear hr0 hc0 hr1 hc1 hle hs hcall
  go_enter Try.func60, Try.ntmps60
  go_wp2_with fail
  refine (HCA.out _ (below_alloc (Below.refl _ _) _)).mono ?_
  rintro e W1 ⟨rfl, hb⟩
  have hbx : W1.heap[w.heap.size]? = some (.cells #[.int .i64 u, .int .i64 le, .int .i64 mo, .int .i64 im] 45 (0, 0)) := (hb.block _ (by simp)).trans (blk_new _ _)
  have HB := Aside0.mk (below_step (below_alloc (Below.refl w.heap.size w) _) hb)
  clear hb
  have hx0 : (W1.alloc (.cells #[.int .i64 s0, .int .i64 s1, .int .i64 s2, .int .i64 s3] 88)).cell? ⟨w.heap.size, 0, none⟩ = some (.int .i64 u) := (blk_cell (blk_alloc hbx _) 0).trans rfl
  have hx1 : (W1.alloc (.cells #[.int .i64 s0, .int .i64 s1, .int .i64 s2, .int .i64 s3] 88)).cell? ⟨w.heap.size, 1, none⟩ = some (.int .i64 le) := (blk_cell (blk_alloc hbx _) 1).trans rfl
  have hx2 : (W1.alloc (.cells #[.int .i64 s0, .int .i64 s1, .int .i64 s2, .int .i64 s3] 88)).cell? ⟨w.heap.size, 2, none⟩ = some (.int .i64 mo) := (blk_cell (blk_alloc hbx _) 2).trans rfl
  have hx3 : (W1.alloc (.cells #[.int .i64 s0, .int .i64 s1, .int .i64 s2, .int .i64 s3] 88)).cell? ⟨w.heap.size, 3, none⟩ = some (.int .i64 im) := (blk_cell (blk_alloc hbx _) 3).trans rfl
  have HE : Aside0 (Below w.heap.size w (W1.alloc (.cells #[.int .i64 s0, .int .i64 s1, .int .i64 s2, .int .i64 s3] 88))) := ⟨HB.out.alloc HB.out.size _⟩
  clear hbx HB
  cases b1 : s0 == u with
  | false =>
    have HM : Aside0 (meetsB (s0, s1, s2, s3) u le mo im = false) := ⟨by simp [meetsB, b1]⟩
    go_wp2
    go_ret
    exact ⟨by rw [HM.out]; rfl, HE.out⟩
  | true =>
    cases b2 : decide (wrap64 (le * u) ≤ s1) with
    | false =>
      have HM : Aside0 (meetsB (s0, s1, s2, s3) u le mo im = false) := ⟨by simp only [meetsB, b1, b2, Bool.and_false, Bool.false_and]⟩
      go_wp2
      go_ret
      exact ⟨by rw [HM.out]; rfl, HE.out⟩
    | true =>
      cases b3 : decide (s1 ≤ wrap64 (mo * u)) with
      | false =>
        have HM : Aside0 (meetsB (s0, s1, s2, s3) u le mo im = false) := ⟨by simp only [meetsB, b1, b2, b3, Bool.and_false, Bool.false_and]⟩
        go_wp2
        go_ret
        exact ⟨by rw [HM.out]; rfl, HE.out⟩
      | true =>
        cases b4 : decide (s2 ≤ wrap64 (im * u)) with
        | false =>
          have HM : Aside0 (meetsB (s0, s1, s2, s3) u le mo im = false) := ⟨by simp only [meetsB, b1, b2, b3, b4, Bool.and_false, Bool.false_and]⟩
          go_wp2
          go_ret
          exact ⟨by rw [HM.out]; rfl, HE.out⟩
        | true =>
          have HM : Aside0 (meetsB (s0, s1, s2, s3) u le mo im = true) := ⟨by simp only [meetsB, b1, b2, b3, b4, Bool.and_self]⟩
          go_wp2
          go_ret
          exact ⟨by rw [HM.out]; rfl, HE.out⟩

/-- The rounds over the units of a bin: n, n + 1, .. -/
def partK {σ : Type} (rec : Int → List Int → σ → Option (List Int × σ)) (i : Nat) (left : Int) : Nat → Nat → List Int → σ → Option (List Int × σ)
  | 0, _, M, s => some (M, s)
  | e + 1, n, M, s => (rec (left - (n : Int)) (M.set i (n : Int)) s).bind fun q => partK rec i left e (n + 1) q.1 q.2
def partF {σ : Type} (l : List S63) (step : σ → List Int → Option σ) : Nat → Int → List Int → σ → Option (List Int × σ)
  | 0, left, M, s => if left = 0 then (step s M).bind fun s' => some (M, s') else some (M, s)
  | d + 1, left, M, s => (partK (partF l step d) (l.length - (d + 1)) left (mn left (rd_T63 l ((l.length - (d + 1) : Nat) : Int)).f0 + 1).toNat 0 M s).bind fun q => some (q.1.set (l.length - (d + 1)) 0, q.2)
def partFill.f {σ : Type} := @partF σ
theorem partK_mono {σ : Type} {rec rec' : Int → List Int → σ → Option (List Int × σ)} (h : ∀ a M s, LeO (rec a M s) (rec' a M s)) (i : Nat) (left : Int) : ∀ e n M s, LeO (partK rec i left e n M s) (partK rec' i left e n M s) := by
  intro e
  induction e with
  | zero => intro n M s; exact LeO.refl _
  | succ e ih => intro n M s; exact LeO.bind (h _ _ _) (fun _ => ih _ _ _)
theorem partF_mono {σ : Type} (l : List S63) {step step' : σ → List Int → Option σ} (h : ∀ s m, LeO (step s m) (step' s m)) : ∀ d a M s, LeO (partF l step d a M s) (partF l step' d a M s) := by
  intro d
  induction d with
  | zero => intro a M s; exact LeO.ite (LeO.bind (h _ _) (fun _ => LeO.refl _)) (LeO.refl _)
  | succ d ih => intro a M s; exact LeO.bind (partK_mono ih _ _ _ _ _ _) (fun _ => LeO.refl _)
/-- The variables of a filling, in the blocks from B on. -/
structure FillEnv (B n : Nat) (A0 : Option Addr) (c0 : Nat) (cv : Value) (W : World) (M : List Int) : Prop where
  hl : W.heap[B]? = some (.cells #[.slice A0 n c0] 31 (0, 0))
  hc : W.heap[B + 1]? = some (.cells #[cv] 84 (0, 0))
  hM : W.heap[B + 2]? = some (.cells (nums .i64 M).toArray 3 (0, 0))
  hm : W.heap[B + 3]? = some (.cells #[.slice (some ⟨B + 2, 0, none⟩) n n] 29 (0, 0))
  hf : W.heap[B + 4]? = some (.cells #[.func (.func 80) #[] #[.pointer (some ⟨B, 0, none⟩), .pointer (some ⟨B + 1, 0, none⟩), .pointer (some ⟨B + 3, 0, none⟩), .pointer (some ⟨B + 4, 0, none⟩)]] 102 (0, 0))
  lM : M.length = n
section
variable {B n : Nat} {A0 : Option Addr} {c0 : Nat} {cv : Value} {W W' : World} {M : List Int}
theorem FillEnv.kept {S : Nat → Prop} (E : FillEnv B n A0 c0 cv W M) (h : Kept W W' S) (hS : ∀ k, S k → k < B) : FillEnv B n A0 c0 cv W' M where
  hl := blk_kept E.hl h (fun hk => by have := hS _ hk; omega)
  hc := blk_kept E.hc h (fun hk => by have := hS _ hk; omega)
  hM := blk_kept E.hM h (fun hk => by have := hS _ hk; omega)
  hm := blk_kept E.hm h (fun hk => by have := hS _ hk; omega)
  hf := blk_kept E.hf h (fun hk => by have := hS _ hk; omega)
  lM := E.lM
theorem FillEnv.setM (E : FillEnv B n A0 c0 cv W M) (i : Nat) (x : Int) : FillEnv B n A0 c0 cv (W.setCell ⟨B + 2, i, none⟩ (.int .i64 x)) (M.set i x) where
  hl := blk_far E.hl (by simp) _
  hc := blk_far E.hc (by simp) _
  hM := by rw [blk_set E.hM]; simp [nums, List.map_set]
  hm := blk_far E.hm (by simp) _
  hf := blk_far E.hf (by simp) _
  lM := by rw [List.length_set]; exact E.lM
theorem FillEnv.cells (E : FillEnv B n A0 c0 cv W M) : W.cell? ⟨B, 0, none⟩ = some (.slice A0 n c0) ∧ W.cell? ⟨B + 1, 0, none⟩ = some cv ∧ W.cell? ⟨B + 3, 0, none⟩ = some (.slice (some ⟨B + 2, 0, none⟩) n n) ∧ W.cell? ⟨B + 4, 0, none⟩ = some (.func (.func 80) #[] #[.pointer (some ⟨B, 0, none⟩), .pointer (some ⟨B + 1, 0, none⟩), .pointer (some ⟨B + 3, 0, none⟩), .pointer (some ⟨B + 4, 0, none⟩)]) :=
  ⟨(blk_cell E.hl 0).trans rfl, (blk_cell E.hc 0).trans rfl, (blk_cell E.hm 0).trans rfl, (blk_cell E.hf 0).trans rfl⟩
theorem FillEnv.atM (E : FillEnv B n A0 c0 cv W M) (k : Nat) (hk : k < n) : W.cell? ⟨B + 2, k, none⟩ = some (.int .i64 (M.getD k 0)) ∧ W.frozen? ⟨B + 2, k, none⟩ = false := by
  have hl := E.lM
  refine ⟨?_, blk_frozen E.hM _⟩
  rw [blk_cell E.hM]
  simp [nums, List.getD_eq_getElem?_getD, List.getElem?_eq_getElem (show k < M.length by omega)]
theorem FillEnv.reads (E : FillEnv B n A0 c0 cv W M) (hn : n ≤ 9223372036854775807) : (Kd.int .i64).C W (some ⟨B + 2, 0, none⟩) M.length M := by
  refine Kd.C_of_reads (d := (0 : Int)) (h1 := fun _ => rfl) ⟨rfl, by rw [E.lM]; exact hn, fun _ => ⟨_, rfl, fun j hj => ?_⟩⟩
  rw [add_plain]
  exact (E.atM j (by have := E.lM; omega)).1
theorem FillEnv.made (W : World) (n : Nat) (A0 : Option Addr) (c0 : Nat) (cv : Value) : FillEnv W.heap.size n A0 c0 cv
    (((((W.alloc (.cells #[.slice A0 n c0] 31)).alloc (.cells #[cv] 84)).alloc (.cells (madeCells #[.int .i64 0] n) 3)).alloc (.cells #[.slice (some ⟨W.heap.size + 1 + 1, 0, none⟩) n n] 29)).alloc (.cells #[.func (.func 80) #[] #[.pointer (some ⟨W.heap.size, 0, none⟩), .pointer (some ⟨W.heap.size + 1, 0, none⟩), .pointer (some ⟨W.heap.size + 1 + 1 + 1, 0, none⟩), .pointer (some ⟨W.heap.size + 1 + 1 + 1 + 1, 0, none⟩)]] 102)) (List.replicate n 0) := by
  have e1 : (madeCells #[Value.int .i64 0] n) = (nums .i64 (List.replicate n 0)).toArray := by
    apply Array.ext'
    simp only [nums, List.map_replicate]
    apply List.ext_getElem
    · simp [madeCells]
    · intro i h1 h2
      simp [madeCells, Nat.mod_one]
  rw [e1]
  have z1 := size_al (.cells #[.slice A0 n c0] 31) (rfl : W.heap.size = W.heap.size)
  have z2 := size_al (.cells #[cv] 84) z1
  have z3 := size_al (.cells (nums .i64 (List.replicate n 0)).toArray 3) z2
  have z4 := size_al (.cells #[.slice (some ⟨W.heap.size + 1 + 1, 0, none⟩) n n] 29) z3
  exact ⟨blk_alloc (blk_alloc (blk_alloc (blk_alloc (blk_new _ _) _) _) _) _,
    blk_alloc (blk_alloc (blk_alloc (blk_here _ z1) _) _) _,
    blk_alloc (blk_alloc (blk_here _ z2) _) _,
    blk_alloc (blk_here _ z3) _,
    blk_here _ z4, by simp⟩
end
section
variable {σ : Type} (step : σ → List Int → Option σ) (Inv : σ → World → Prop) (okc : Nat → Prop) (b0 : Nat) (w0 : World) (B n q0 q1 q2 : Nat)
/-- What is asked of the function that is called. -/
def CallOk : Prop := ∀ (s s' : σ) (m : List Int) (A : Option Addr) (c : Nat) (W : World), step s m = some s' → m.length = n → (Kd.int .i64).C W A m.length m → m.length ≤ c → Inv s W → Below b0 w0 W → B + 5 ≤ W.heap.size →
  Calls Try.prog 59 #[.slice A n c, .pointer (some ⟨q0, 0, none⟩), .pointer (some ⟨q1, 0, none⟩), .pointer (some ⟨q2, 0, none⟩)] W fun e W' => e = .returned (.tuple #[]) ∧ Inv s' W' ∧ Kept W W' okc ∧ Below b0 w0 W'
/-- What stands at each moment of the filling. -/
structure FillSt (A0 : Option Addr) (c0 : Nat) (W : World) (M : List Int) (s : σ) : Prop where
  E : FillEnv B n A0 c0 (.func (.func 59) #[] #[.pointer (some ⟨q0, 0, none⟩), .pointer (some ⟨q1, 0, none⟩), .pointer (some ⟨q2, 0, none⟩)]) W M
  I : Inv s W
  bel : Below b0 w0 W
variable {step Inv okc b0 w0 B n q0 q1 q2}
theorem FillSt.size {A0 : Option Addr} {c0 : Nat} {W : World} {M} {s : σ} (h : FillSt Inv b0 w0 B n q0 q1 q2 A0 c0 W M s) : B + 5 ≤ W.heap.size := by have := blk_lt h.E.hf; omega
theorem FillSt.setM {A0 : Option Addr} {c0 : Nat} {W : World} {M} {s : σ} (h : FillSt Inv b0 w0 B n q0 q1 q2 A0 c0 W M s) (hI : ∀ s W W', Inv s W → Kept W W' (fun k => k = B + 2) → Inv s W') (hb : b0 ≤ B) (i : Nat) (x : Int) :
    FillSt Inv b0 w0 B n q0 q1 q2 A0 c0 (W.setCell ⟨B + 2, i, none⟩ (.int .i64 x)) (M.set i x) s where
  E := h.E.setM i x
  I := hI _ _ _ h.I ((Kept.refl W (fun k => k = B + 2)).setCell (.inl rfl) _)
  bel := h.bel.setCell (by simp; omega) _
def FillPost (Inv : σ → World → Prop) (b0 : Nat) (w0 : World) (B n q0 q1 q2 : Nat) (A0 : Option Addr) (c0 : Nat) (okc : Nat → Prop) (W : World) (M' : List Int) (s' : σ) (W' : World) : Prop := FillSt Inv b0 w0 B n q0 q1 q2 A0 c0 W' M' s' ∧ Kept W W' (fun k => k = B + 2 ∨ okc k)
set_option maxHeartbeats 8000000 in
set_option maxRecDepth 100000 in
theorem fill_calls {A0 : Option Addr} {c0 : Nat} (l : List S63) (hln : l.length = n) (hr : Kd.C k63 w0 A0 l.length l) (hbw : b0 = w0.heap.size) (hn : n ≤ 1048576) (hb : b0 ≤ B) (hI : ∀ s W W', Inv s W → Kept W W' (fun k => k = B + 2) → Inv s W') (hokc : ∀ k, okc k → k < B) (HCB : CallOk step Inv okc b0 w0 B n q0 q1 q2) : ∀ (d i : Nat), i + d = n → ∀ (left : Int), 0 ≤ left → left ≤ 1000 → ∀ (M : List Int) (s : σ) (M' : List Int) (s' : σ) (W : World), partF l step d left M s = some (M', s') → FillSt Inv b0 w0 B n q0 q1 q2 A0 c0 W M s →
    Calls Try.prog 80 #[.int .i64 (i : Int), .int .i64 left, .pointer (some ⟨B, 0, none⟩), .pointer (some ⟨B + 1, 0, none⟩), .pointer (some ⟨B + 3, 0, none⟩), .pointer (some ⟨B + 4, 0, none⟩)] W fun e W' => e = .returned (.tuple #[]) ∧ FillPost Inv b0 w0 B n q0 q1 q2 A0 c0 okc W M' s' W' := by
  subst hbw
  have HH := Aside0.mk hI
  have HK := Aside0.mk hokc
  have HC := Aside0.mk HCB
  have HR := Aside0.mk hr
  have HL := Aside0.mk hln
  clear hI hokc HCB hr hln
  intro d
  induction d with
  | zero =>
    intro i hi left hl0 hl1 M s M' s' W h S
    obtain rfl : i = n := by omega
    have HS := Aside0.mk S
    obtain ⟨hc1, hc2, hc3, hc4⟩ := S.E.cells
    simp only [partF] at h
    by_cases hz : left = 0
    · rw [if_pos hz] at h
      obtain ⟨s1, h1, h2⟩ := Option.bind_eq_some_iff.1 h
      simp only [Option.some.injEq, Prod.mk.injEq] at h2
      obtain ⟨rfl, rfl⟩ := h2
      have H1 := Aside0.mk h1
      subst hz
      clear h h1 hc4 S hl0 hl1
      go_enter Try.func80, Try.ntmps80
      go_wp2_with fail
      refine (HC.out _ _ _ _ _ _ H1.out HS.out.E.lM (HS.out.E.reads (by omega)) (by rw [HS.out.E.lM]; exact Nat.le_refl _) HS.out.I HS.out.bel HS.out.size).mono ?_
      rintro e W1 ⟨rfl, h3, h4, h5⟩
      have HP : Aside0 (FillPost Inv w0.heap.size w0 B i q0 q1 q2 A0 c0 okc W M s1 W1) := ⟨⟨HS.out.E.kept h4 HK.out, h3, h5⟩, h4.mono (fun k hk => .inr hk)⟩
      clear h3 h4 h5
      go_wp2
      refine bodyPost_ret (results_none rfl _ _ _) rfl ?_
      exact ⟨rfl, HP.out⟩
    · rw [if_neg hz] at h
      simp only [Option.some.injEq, Prod.mk.injEq] at h
      obtain ⟨rfl, rfl⟩ := h
      have hzb : (left == 0) = false := beq_eq_false_iff_ne.2 hz
      clear hz hc2 hc3 hc4 S hl0 hl1
      go_enter Try.func80, Try.ntmps80
      go_wp2
      refine bodyPost_ret (results_none rfl _ _ _) rfl ?_
      exact ⟨rfl, HS.out, Kept.refl _ _⟩
  | succ d ih =>
    intro i hi left hl0 hl1 M s M' s' W h S
    have HS := Aside0.mk S
    have hne : ((i : Int) == (n : Int)) = false := by rw [beq_eq_false_iff_ne]; omega
    have hln := HL.out
    have hi0 : l.length - (d + 1) = i := by omega
    simp only [partF] at h
    rw [hi0] at h
    obtain ⟨⟨M9, s9⟩, h1, h2⟩ := Option.bind_eq_some_iff.1 h
    simp only [Option.some.injEq, Prod.mk.injEq] at h2
    obtain ⟨rfl, rfl⟩ := h2
    have hlt : i < n := by omega
    obtain ⟨ad0, e0, hy0, hy1, hy2, hy3⟩ := at_T63 HR.out (i : Int) (by omega) (by omega)
    subst e0
    rw [Int.toNat_natCast] at hy0
    obtain ⟨u, hu⟩ : ∃ u, u = (rd_T63 l (i : Int)).f0 := ⟨_, rfl⟩
    rw [← hu] at h1 hy0
    obtain ⟨T, hT⟩ : ∃ T, T = (mn left u + 1).toNat := ⟨_, rfl⟩
    rw [← hT] at h1
    have HY := Aside0.mk hy0
    have HT := Aside0.mk hT
    have H' := Aside0.mk h1
    have IH := Aside0.mk ih
    have HI := Aside0.mk hi
    have H0 := Aside0.mk hl0
    have HT2 : Aside0 (mn left u ≤ left) := ⟨by unfold mn; split <;> omega⟩
    obtain ⟨hc1, hc2, hc3, hc4⟩ := S.E.cells
    clear h h1 S hi0 hc2 hc3 hc4 ih hi hy0 hy1 hy2 hy3 hu hT hln
    go_enter Try.func80, Try.ntmps80
    go_wp2
    go_loopg [8] T (fun kq v8 w' => ∃ (m : Nat) (M1 : List Int) (s1 : σ), v8 = .int .i64 (m : Int) ∧ Aside0 (m + kq = T) ∧ Aside0 (partK (partF l step d) i left kq m M1 s1 = some (M9, s9)) ∧ Aside0 (FillPost Inv w0.heap.size w0 B n q0 q1 q2 (some ad0) c0 okc W M1 s1 w'))
    case atStart => exact ⟨0, M, s, rfl, ⟨Nat.zero_add _⟩, H', ⟨HS.out, Kept.refl _ _⟩⟩
    case round =>
      clear H' HS hc1
      obtain ⟨m, M1, s1, rfl, HN, HA, HP⟩ := hrel
      obtain ⟨hc1, hc2, hc3, hc4⟩ := HP.out.1.E.cells
      have hy : wr.cell? (ad0.add (i * 4)) = some (.int .i64 u) := (HP.out.1.bel.cell (World.block_lt_of_cell? w0 _ HY.out)).trans HY.out
      obtain ⟨hcm, hfm⟩ := HP.out.1.E.atM i hlt
      have HUL : Aside0 ((u < left ∧ mn left u = u) ∨ (left ≤ u ∧ mn left u = left)) := ⟨by unfold mn; split <;> omega⟩
      cases gk with
      | zero =>
        have H := HA.out
        simp only [partK, Option.some.injEq, Prod.mk.injEq] at H
        obtain ⟨rfl, rfl⟩ := H
        clear HA
        have HZ : Aside0 (FillPost Inv w0.heap.size w0 B n q0 q1 q2 (some ad0) c0 okc W (M1.set i 0) s1 (wr.setCell ⟨B + 2, i, none⟩ (.int .i64 0))) := ⟨HP.out.1.setM HH.out hb i 0, HP.out.2.setCell (.inl (.inl rfl)) _⟩
        rcases HUL.out with ⟨h5, h6⟩ | ⟨h5, h6⟩
        · have hb1 : decide ((m : Int) ≤ u) = false := decide_eq_false (by have := HN.out; have := HT.out; omega)
          clear h6
          go_wp2
          refine bodyPost_end (results_none rfl _ _ _) rfl ?_
          exact ⟨rfl, HZ.out⟩
        · have hb1 : decide ((m : Int) ≤ left) = false := decide_eq_false (by have := HN.out; have := HT.out; omega)
          clear h6
          go_wp2
          refine bodyPost_end (results_none rfl _ _ _) rfl ?_
          exact ⟨rfl, HZ.out⟩
      | succ k1 =>
        have hm1 : (m : Int) ≤ mn left u := by have := HN.out; have := HT.out; omega
        have hml : (m : Int) ≤ left := by have := HT2.out; omega
        have H := HA.out
        clear HA
        simp only [partK] at H
        obtain ⟨⟨M2, s2⟩, h1, h2⟩ := Option.bind_eq_some_iff.1 H
        have H1 := Aside0.mk h1
        have H' := Aside0.mk h2
        have S2 := Aside0.mk (HP.out.1.setM HH.out hb i (m : Int))
        have HK2 : Aside0 (Kept W (wr.setCell ⟨B + 2, i, none⟩ (.int .i64 (m : Int))) (fun k => k = B + 2 ∨ okc k)) := ⟨HP.out.2.setCell (.inl (.inl rfl)) _⟩
        clear H h1 h2
        rcases HUL.out with ⟨h5, h6⟩ | ⟨h5, h6⟩
        · have hb1 : decide ((m : Int) ≤ u) = true := decide_eq_true (by omega)
          clear h6 hm1
          have q1 : ((i : Int) + 1) = ((i + 1 : Nat) : Int) := by omega
          have Q1 := Aside0.mk q1
          clear q1
          go_wp2_with (go_at_call 80; rw [Q1.out]; refine (IH.out (i + 1) (by have := HI.out; omega) (left - (m : Int)) (by omega) (by omega) _ _ _ _ _ H1.out S2.out).mono ?_; rintro e W1 ⟨rfl, h3⟩; have HQ : Aside0 (FillPost Inv w0.heap.size w0 B n q0 q1 q2 (some ad0) c0 okc W M2 s2 W1) := ⟨h3.1, HK2.out.then_ h3.2 (fun k hk => .inl hk)⟩; clear h3)
          go_roundg k1
          case measure => omega
          case rel => exact ⟨m + 1, M2, s2, by go_num, ⟨by have := HN.out; omega⟩, H', HQ⟩
        · have hb1 : decide ((m : Int) ≤ left) = true := decide_eq_true (by omega)
          clear h6 hm1
          have q1 : ((i : Int) + 1) = ((i + 1 : Nat) : Int) := by omega
          have Q1 := Aside0.mk q1
          clear q1
          go_wp2_with (go_at_call 80; rw [Q1.out]; refine (IH.out (i + 1) (by have := HI.out; omega) (left - (m : Int)) (by omega) (by omega) _ _ _ _ _ H1.out S2.out).mono ?_; rintro e W1 ⟨rfl, h3⟩; have HQ : Aside0 (FillPost Inv w0.heap.size w0 B n q0 q1 q2 (some ad0) c0 okc W M2 s2 W1) := ⟨h3.1, HK2.out.then_ h3.2 (fun k hk => .inl hk)⟩; clear h3)
          go_roundg k1
          case measure => omega
          case rel => exact ⟨m + 1, M2, s2, by go_num, ⟨by have := HN.out; omega⟩, H', HQ⟩
set_option maxHeartbeats 8000000 in
set_option maxRecDepth 100000 in
theorem each_calls {A0 : Option Addr} {c0 : Nat} (l : List S63) (W : World) (hr : Kd.C k63 w0 A0 l.length l) (hbw : b0 = w0.heap.size) (hn : l.length ≤ 1048576) (hb : b0 ≤ W.heap.size) (hI : ∀ s W1 W', Inv s W1 → Kept W1 W' (fun k => k = W.heap.size + 2) → Inv s W') (hokc : ∀ k, okc k → k < W.heap.size) (HCB : CallOk step Inv okc b0 w0 W.heap.size l.length q0 q1 q2) (units : Int) (hu0 : 0 ≤ units) (hu1 : units ≤ 1000) (s : σ) (M' : List Int) (s' : σ) (h : partF l step l.length units (List.replicate l.length 0) s = some (M', s')) (hi : Inv s W) (hB : Below b0 w0 W) :
    Calls Try.prog 58 #[.slice A0 l.length c0, .int .i64 units, .func (.func 59) #[] #[.pointer (some ⟨q0, 0, none⟩), .pointer (some ⟨q1, 0, none⟩), .pointer (some ⟨q2, 0, none⟩)]] W fun e W' => e = .returned (.tuple #[]) ∧ Inv s' W' ∧ Kept W W' okc ∧ Below b0 w0 W' := by
  have HR := Aside0.mk hr
  have HH := Aside0.mk hI
  have HK := Aside0.mk hokc
  have HC := Aside0.mk HCB
  have H := Aside0.mk h
  have HI := Aside0.mk hi
  have HB := Aside0.mk hB
  have HW := Aside0.mk hbw
  have hmk1 := print_make (P := Try.prog) 29 3 .i64 8 Try.underlying29 info3 (by omega) l.length (by omega)
  clear hr hI hokc HCB h hi hB hbw
  go_enter Try.func58, Try.ntmps58
  have hE := FillEnv.made W l.length A0 c0 (.func (.func 59) #[] #[.pointer (some ⟨q0, 0, none⟩), .pointer (some ⟨q1, 0, none⟩), .pointer (some ⟨q2, 0, none⟩)])
  have hal : Kept W (((((W.alloc (.cells #[.slice A0 l.length c0] 31)).alloc (.cells #[.func (.func 59) #[] #[.pointer (some ⟨q0, 0, none⟩), .pointer (some ⟨q1, 0, none⟩), .pointer (some ⟨q2, 0, none⟩)]] 84)).alloc (.cells (madeCells #[.int .i64 0] l.length) 3)).alloc (.cells #[.slice (some ⟨W.heap.size + 1 + 1, 0, none⟩) l.length l.length] 29)).alloc (.cells #[.func (.func 80) #[] #[.pointer (some ⟨W.heap.size, 0, none⟩), .pointer (some ⟨W.heap.size + 1, 0, none⟩), .pointer (some ⟨W.heap.size + 1 + 1 + 1, 0, none⟩), .pointer (some ⟨W.heap.size + 1 + 1 + 1 + 1, 0, none⟩)]] 102)) (fun _ => False) := ((((((Kept.refl _ _).alloc _).alloc _).alloc _).alloc _).alloc _)
  have hS : FillSt Inv b0 w0 W.heap.size l.length q0 q1 q2 A0 c0 _ _ s := ⟨hE, HH.out _ _ _ HI.out (hal.mono (fun _ h => h.elim)), HB.out.trans ((below_alloc (below_alloc (below_alloc (below_alloc (below_alloc (Below.refl _ _) _) _) _) _) _).mono hb)⟩
  have HS := Aside0.mk hS
  have HAL := Aside0.mk hal
  clear hE hal hS
  go_wp2_with (go_at_call 80; refine (fill_calls l rfl HR.out HW.out hn hb HH.out HK.out HC.out l.length 0 (by omega) units hu0 hu1 _ s M' s' _ H.out HS.out).mono ?_; rintro e W1 ⟨rfl, h3⟩; have HQ : Aside0 (Inv s' W1 ∧ Kept W W1 okc ∧ Below b0 w0 W1) := ⟨h3.1.I, (HAL.out.mono (fun _ h => h.elim)).then_ h3.2 (fun k hk => by (rcases hk with hk | hk; exact .inr (by omega); exact .inl hk)), h3.1.bel⟩; clear h3)
  refine bodyPost_end (results_none rfl _ _ _) rfl ?_
  exact ⟨rfl, HQ.out⟩
end

def impl_CountBlends.step (l : List S63) (u le mo im : Int) (s : Int) (m : List Int) : Option Int := some (if meetsB (sumsTo l m m.length) u le mo im = true then wrap64 (s + 1) else s)
def impl_CountBlends.f (k : Nat) (l0 : List S63) (u le mo im : Int) : Option (Int × Bool) := (impl_AreBins.f k l0).bind fun t => if t = true then ((impl_IsWanted.f u le mo im).bind fun t2 => if t2 = true then (if l0.length ≤ 1048576 ∧ 0 ≤ u ∧ u ≤ 1000 then (partF l0 (impl_CountBlends.step l0 u le mo im) l0.length u (List.replicate l0.length 0) 0).bind fun q => some (q.2, true) else none) else some (0, false)) else some (0, false)
theorem impl_CountBlends.mono : ∀ a0 a1 a2 a3 a4 k, LeO (impl_CountBlends.f k a0 a1 a2 a3 a4) (impl_CountBlends.f (k + 1) a0 a1 a2 a3 a4) := by
  intro a0 a1 a2 a3 a4 k
  unfold impl_CountBlends.f
  exact LeO.bind (impl_AreBins.mono _ _) (fun _ => LeO.refl _)
/-- What the variables hold between two calls: the bins, what is wanted, the number. -/
structure CbInv (h hn n : Nat) (A0 : Option Addr) (c0 : Nat) (u le mo im : Int) (s : Int) (W : World) : Prop where
  ha : W.heap[h]? = some (.cells #[.slice A0 n c0] 31 (0, 0))
  hw : W.heap[h + 1]? = some (.cells #[.int .i64 u, .int .i64 le, .int .i64 mo, .int .i64 im] 45 (0, 0))
  hs : W.heap[hn]? = some (.cells #[.int .i64 s] 3 (0, 0))
theorem CbInv.kept {h hn n : Nat} {A0 : Option Addr} {c0 : Nat} {u le mo im : Int} {s : Int} {W W' : World} {S : Nat → Prop} (I : CbInv h hn n A0 c0 u le mo im s W) (hk : Kept W W' S) (h1 : ¬ S h) (h2 : ¬ S (h + 1)) (h3 : ¬ S hn) : CbInv h hn n A0 c0 u le mo im s W' :=
  ⟨blk_kept I.ha hk h1, blk_kept I.hw hk h2, blk_kept I.hs hk h3⟩
set_option maxHeartbeats 8000000 in
set_option maxRecDepth 100000 in
theorem cb_call (A0 : Option Addr) (c0 : Nat) (l0 : List S63) (u le mo im : Int) (w : World) (hn : Nat) (hnw : w.heap.size + 2 ≤ hn) (hr0 : Kd.C k63 w A0 l0.length l0) (hc0 : l0.length ≤ c0) :
    CallOk (impl_CountBlends.step l0 u le mo im) (CbInv w.heap.size hn l0.length A0 c0 u le mo im) (fun k => k = hn) w.heap.size w (hn + 1) l0.length w.heap.size (w.heap.size + 1) hn := by
  have HR0 := Aside0.mk hr0
  have HC0 := Aside0.mk hc0
  clear hr0 hc0
  intro s s' m A c W hs hlm hrm hcm hi hB hsz
  have HRm := Aside0.mk hrm
  have HCm := Aside0.mk hcm
  have HLm := Aside0.mk hlm
  have HI := Aside0.mk hi
  have HB := Aside0.mk hB
  have HW := Aside0.mk hnw
  unfold impl_CountBlends.step at hs
  simp only [Option.some.injEq] at hs
  have H2 := Aside0.mk hs
  clear hs hcm hrm hi hB hsz hlm
  have hargs : Value.slice A l0.length c = Value.slice A m.length c := by rw [HLm.out]
  rw [hargs]
  clear hargs
  have hq0 : W.cell? ⟨w.heap.size, 0, none⟩ = some (.slice A0 l0.length c0) := (blk_cell HI.out.ha 0).trans rfl
  have hq1 : W.cell? ⟨w.heap.size + 1, 0, none⟩ = some (.int .i64 u) := (blk_cell HI.out.hw 0).trans rfl
  have hq2 : W.cell? ⟨w.heap.size + 1, 1, none⟩ = some (.int .i64 le) := (blk_cell HI.out.hw 1).trans rfl
  have hq3 : W.cell? ⟨w.heap.size + 1, 2, none⟩ = some (.int .i64 mo) := (blk_cell HI.out.hw 2).trans rfl
  have hq4 : W.cell? ⟨w.heap.size + 1, 3, none⟩ = some (.int .i64 im) := (blk_cell HI.out.hw 3).trans rfl
  go_enter Try.func59, Try.ntmps59
  go_wp2_with (go_at_call 60; fail)
  refine (impl_meetsWanted.calls A0 c0 l0 u le mo im A c m W (Kd.C_below HR0.out HB.out) HC0.out HRm.out HCm.out (by rw [HLm.out]; exact Nat.le_refl _)).mono ?_
  rintro e W1 ⟨rfl, hb⟩
  have HI1 := Aside0.mk (HI.out.kept (Kept.of_below hb (fun _ => False)) (fun h => h) (fun h => h) (fun h => h))
  have HB1 := Aside0.mk (below_step HB.out hb)
  have HK1 := Aside0.mk (Kept.of_below hb (fun k => k = hn))
  clear hb hq0 hq1 hq2 hq3 hq4 HI HB HRm
  have hx : W1.cell? ⟨hn, 0, none⟩ = some (.int .i64 s) := (blk_cell HI1.out.hs 0).trans rfl
  have hf : W1.frozen? ⟨hn, 0, none⟩ = false := blk_frozen HI1.out.hs 0
  have H2' := H2.out
  clear H2
  cases b1 : meetsB (sumsTo l0 m m.length) u le mo im with
  | true =>
    rw [b1, if_pos rfl] at H2'
    have H2 := Aside0.mk H2'
    clear H2' b1
    go_wp2
    obtain rfl := H2.out
    have hw := HW.out
    refine bodyPost_end (results_none rfl _ _ _) rfl ?_
    exact ⟨rfl, ⟨blk_far HI1.out.ha (by simp; omega) _, blk_far HI1.out.hw (by simp; omega) _, by rw [blk_set HI1.out.hs]; rfl⟩, HK1.out.setCell (.inl rfl) _, HB1.out.setCell (by simp; omega) _⟩
  | false =>
    rw [b1, if_neg (by simp)] at H2'
    obtain rfl := H2'
    clear b1
    go_wp2
    refine bodyPost_end (results_none rfl _ _ _) rfl ?_
    exact ⟨rfl, HI1.out, HK1.out, HB1.out⟩
set_option maxHeartbeats 8000000 in
set_option maxRecDepth 100000 in
theorem impl_CountBlends.calls (k : Nat) (A0 : Option Addr) (c0 : Nat) (l0 : List S63) (u le mo im : Int) (r1 : Int) (r2 : Bool) (w : World) (hr0 : Kd.C k63 w A0 l0.length l0) (hc0 : l0.length ≤ c0) (h : impl_CountBlends.f k l0 u le mo im = some (r1, r2)) :
    Calls Try.prog 25 #[.slice A0 l0.length c0, .agg #[.int .i64 u, .int .i64 le, .int .i64 mo, .int .i64 im]] w fun e w' => e = .returned (.tuple #[.int .i64 r1, .bool r2]) ∧ Below w.heap.size w w' := by
  have HR0 := Aside0.mk hr0
  have HC0 := Aside0.mk hc0
  unfold impl_CountBlends.f at h
  obtain ⟨t, h1, h2⟩ := Option.bind_eq_some_iff.1 h
  have H1 := Aside0.mk h1
  clear hr0 hc0 h h1
  cases t with
  | false =>
    simp only [Bool.false_eq_true, if_false, Option.some.injEq, Prod.mk.injEq] at h2
    obtain ⟨rfl, rfl⟩ := h2
    go_enter Try.func25, Try.ntmps25
    go_wp2_with (go_at_call 40; fail)
    refine (impl_AreBins.calls k A0 c0 l0 false _ (Kd.C_alloc (Kd.C_alloc HR0.out _) _) HC0.out H1.out).mono ?_
    rintro e W1 ⟨rfl, hb⟩
    have HB := Aside0.mk (below_step (below_alloc (below_alloc (Below.refl w.heap.size w) _) _) hb)
    clear hb
    go_wp2
    go_ret2
    exact ⟨rfl, HB.out⟩
  | true =>
    simp only [if_true] at h2
    obtain ⟨t2, g1, g2⟩ := Option.bind_eq_some_iff.1 h2
    have G1 := Aside0.mk g1
    clear h2 g1
    have key : ∀ (P : World → Ending → World → Prop), True := fun _ => trivial
    go_enter Try.func25, Try.ntmps25
    go_wp2_with (go_at_call 40; fail)
    refine (impl_AreBins.calls k A0 c0 l0 true _ (Kd.C_alloc (Kd.C_alloc HR0.out _) _) HC0.out H1.out).mono ?_
    rintro e W1 ⟨rfl, hb⟩
    have hb1 : (W1.heap[w.heap.size]?) = some (.cells #[.slice A0 l0.length c0] 31 (0, 0)) := (hb.block _ (by simp; omega)).trans (blk_alloc (blk_new _ _) _)
    have hb2 : (W1.heap[w.heap.size + 1]?) = some (.cells #[.int .i64 u, .int .i64 le, .int .i64 mo, .int .i64 im] 45 (0, 0)) := (hb.block _ (by simp)).trans (blk_here _ (size_al _ rfl))
    have hz1 := hb.size
    simp only [World.size_alloc] at hz1
    have HB := Aside0.mk (below_step (below_alloc (below_alloc (Below.refl w.heap.size w) _) _) hb)
    have hq1 : W1.cell? ⟨w.heap.size + 1, 0, none⟩ = some (.int .i64 u) := (blk_cell hb2 0).trans rfl
    have hq2 : W1.cell? ⟨w.heap.size + 1, 1, none⟩ = some (.int .i64 le) := (blk_cell hb2 1).trans rfl
    have hq3 : W1.cell? ⟨w.heap.size + 1, 2, none⟩ = some (.int .i64 mo) := (blk_cell hb2 2).trans rfl
    have hq4 : W1.cell? ⟨w.heap.size + 1, 3, none⟩ = some (.int .i64 im) := (blk_cell hb2 3).trans rfl
    have HB1 := Aside0.mk hb1
    have HB2 := Aside0.mk hb2
    have HZ := Aside0.mk hz1
    clear hb hb1 hb2 hz1 key
    go_wp2_with (go_at_call 47; fail)
    refine (impl_IsWanted.calls u le mo im t2 W1 G1.out).mono ?_
    rintro e W2 ⟨rfl, hb⟩
    have HBb := Aside0.mk (below_step HB.out hb)
    have hb1 : (W2.heap[w.heap.size]?) = some (.cells #[.slice A0 l0.length c0] 31 (0, 0)) := (hb.block _ (blk_lt HB1.out)).trans HB1.out
    have hb2 : (W2.heap[w.heap.size + 1]?) = some (.cells #[.int .i64 u, .int .i64 le, .int .i64 mo, .int .i64 im] 45 (0, 0)) := (hb.block _ (blk_lt HB2.out)).trans HB2.out
    have hz2 : w.heap.size + 1 + 1 ≤ W2.heap.size := Nat.le_trans HZ.out hb.size
    clear hb HB1 HB2 HZ hq1 hq2 hq3 hq4 HB
    cases t2 with
    | false =>
      simp only [Bool.false_eq_true, if_false, Option.some.injEq, Prod.mk.injEq] at g2
      obtain ⟨rfl, rfl⟩ := g2
      clear hb1 hb2 hz2
      go_wp2
      go_ret2
      exact ⟨rfl, HBb.out⟩
    | true =>
      simp only [if_true] at g2
      have hg : l0.length ≤ 1048576 ∧ 0 ≤ u ∧ u ≤ 1000 := by
        by_cases g : l0.length ≤ 1048576 ∧ 0 ≤ u ∧ u ≤ 1000
        · exact g
        · rw [if_neg g] at g2; cases g2
      rw [if_pos hg] at g2
      obtain ⟨⟨M', s'⟩, h3, h4⟩ := Option.bind_eq_some_iff.1 g2
      simp only [Option.some.injEq, Prod.mk.injEq] at h4
      obtain ⟨rfl, rfl⟩ := h4
      have H3 := Aside0.mk h3
      have HN := Aside0.mk hg
      have hI : CbInv w.heap.size W2.heap.size l0.length A0 c0 u le mo im 0 (W2.alloc (.cells #[.int .i64 0] 3)) := ⟨blk_alloc hb1 _, blk_alloc hb2 _, blk_new _ _⟩
      have hq0 : (W2.alloc (.cells #[.int .i64 0] 3)).cell? ⟨w.heap.size, 0, none⟩ = some (.slice A0 l0.length c0) := (blk_cell hI.ha 0).trans rfl
      have hq1 : (W2.alloc (.cells #[.int .i64 0] 3)).cell? ⟨w.heap.size + 1, 0, none⟩ = some (.int .i64 u) := (blk_cell hI.hw 0).trans rfl
      have HI := Aside0.mk hI
      have HZ := Aside0.mk hz2
      clear g2 h3 hg hb1 hb2 hz2 hI
      go_wp2_with (go_at_call 58; fail)
      generalize hW : W2.alloc (.cells #[.int .i64 0] 3) = W3
      have hz3 : W3.heap.size = W2.heap.size + 1 := by rw [← hW]; simp
      have hI : CbInv w.heap.size W2.heap.size l0.length A0 c0 u le mo im 0 W3 := by rw [← hW]; exact HI.out
      have hB3 : Below w.heap.size w W3 := by rw [← hW]; exact HBb.out.alloc HBb.out.size _
      have hz := HZ.out
      clear hW hq0 hq1 HI
      refine (each_calls (step := impl_CountBlends.step l0 u le mo im) (Inv := CbInv w.heap.size W2.heap.size l0.length A0 c0 u le mo im) (okc := fun k => k = W2.heap.size) (b0 := w.heap.size) (w0 := w) (q0 := w.heap.size) (q1 := w.heap.size + 1) (q2 := W2.heap.size) l0 W3 HR0.out rfl HN.out.1 (by omega) (fun s W4 W5 h1 h2 => h1.kept h2 (by omega) (by omega) (by omega)) (fun k hk => by omega) (by rw [hz3]; exact cb_call A0 c0 l0 u le mo im w W2.heap.size hz HR0.out HC0.out) u HN.out.2.1 HN.out.2.2 0 M' s' H3.out hI hB3).mono ?_
      rintro e W5 ⟨rfl, h3, h4, h5⟩
      have hx : W5.cell? ⟨W2.heap.size, 0, none⟩ = some (.int .i64 s') := (blk_cell h3.hs 0).trans rfl
      have HB5 := Aside0.mk h5
      clear h3 h4 h5 hI hB3 hz3 hz
      go_wp2
      go_ret2
      exact ⟨rfl, HB5.out⟩


end Go.Proofs.Ytcinecbfkeefaaa.PFnExactCountBlends
