/- Text written by a program for this claim: contracts of the functions of one law. -/
import Derived.Test.YtcinecbfkeefaaaPFnBlendsx0
import Derived.Test.YtcinecbfkeefaaaPFnBlendsx4
import Derived.Test.YtcinecbfkeefaaaPFnBlendsx5
import Derived.Test.YtcinecbfkeefaaaPFnBlendsx6
namespace Go.Proofs.Ytcinecbfkeefaaa.PFnBlends
open Go.RowKit Go.Proofs.YtcinecbfkeefaaaW.PrintWords Go.Proofs.YtcinecbfkeefaaaW.PrintLast Go.Proofs.YtcinecbfkeefaaaW.PrintMore
attribute [local go_sem] max2_int min2_int max_two min_two max_three min_three max_four min_four   -- for this text's walks alone
set_option linter.unusedVariables false
set_option linter.unusedSimpArgs false
open ShortPFnBlends0

/-! ### impl_CheapestBlend: function 30 -/
/-- The score. -/
def scoreOf (s : Int × Int × Int × Int) : Int := wrap64 (-s.2.2.2)
set_option maxHeartbeats 8000000 in
theorem score_calls (s0 s1 s2 s3 : Int) (w : World) : Calls Try.prog 64 #[.agg #[.int .i64 s0, .int .i64 s1, .int .i64 s2, .int .i64 s3]] w fun e w' => e = .returned (.int .i64 (scoreOf (s0, s1, s2, s3))) ∧ Below w.heap.size w w' := by
 have HB := am (below_alloc (Below.refl w.heap.size w) (.cells #[.int .i64 s0, .int .i64 s1, .int .i64 s2, .int .i64 s3] 88))
 go_enter Try.func64, Try.ntmps64
 go_wp2
 go_ret
 exact ⟨rfl, HB.out⟩
def bestStep (l : List S63) (u le mo im : Int) (s : Option (List Int × Int)) (m : List Int) : Option (Option (List Int × Int)) :=
 some (if meetsB (sumsTo l m m.length) u le mo im = true then (match s with
  | none => some (m, scoreOf (sumsTo l m m.length))
  | some q => if q.2 < scoreOf (sumsTo l m m.length) then some (m, scoreOf (sumsTo l m m.length)) else s) else s)
/-- What the variables hold between two calls: the bins, what is wanted, the score's function, the best parts, their score. -/
structure BbInv (h n : Nat) (A0 : Option Addr) (c0 : Nat) (u le mo im : Int) (s : Option (List Int × Int)) (W : World) : Prop where
 hl : W.heap[h]? = some (.cells #[.slice A0 n c0] 31 (0, 0))
 hw : W.heap[h + 1]? = some (.cells #[.int .i64 u, .int .i64 le, .int .i64 mo, .int .i64 im] 45 (0, 0))
 hs : W.heap[h + 2]? = some (.cells #[.func (.func 64) #[] #[]] 89 (0, 0))
 hm : W.heap[h + 4]? = some (.cells #[.int .i64 (match s with | none => 0 | some q => q.2)] 3 (0, 0))
 hb : ∃ v, W.heap[h + 3]? = some (.cells #[v] 29 (0, 0)) ∧ match s with
  | none => v = .slice none 0 0
  | some q => q.1.length = n ∧ Kd.R (Kd.int .i64) 3 W h (fun k => h + 10 ≤ k) v q.1
theorem BbInv.kept {h n : Nat} {A0 : Option Addr} {c0 : Nat} {u le mo im : Int} {s : Option (List Int × Int)} {W W' : World} (I : BbInv h n A0 c0 u le mo im s W) (hk : Kept W W' (fun k => k = h + 5 + 2)) : BbInv h n A0 c0 u le mo im s W' where
 hl := blk_kept I.hl hk (by omega)
 hw := blk_kept I.hw hk (by omega)
 hs := blk_kept I.hs hk (by omega)
 hm := blk_kept I.hm hk (by omega)
 hb := by
  obtain ⟨v, h1, h2⟩ := I.hb
  refine ⟨v, blk_kept h1 hk (by omega), ?_⟩
  cases s with
  | none => exact h2
  | some q => exact ⟨h2.1, Kd.R_kept h2.2 hk (fun k h3 h4 => by omega)⟩
theorem BbInv.put {h n : Nat} {A0 : Option Addr} {c0 : Nat} {u le mo im : Int} {s : Option (List Int × Int)} {W1 W5 : World} (I : BbInv h n A0 c0 u le mo im s W1) (hb : Below W1.heap.size W1 W5) (hz : h + 5 + 5 ≤ W1.heap.size) (v : Value) (m : List Int) (x : Int) (hml : m.length = n) (ho : Kd.R (Kd.int .i64) 3 W5 W1.heap.size (fun _ => True) v m) :
  BbInv h n A0 c0 u le mo im (some (m, x)) ((W5.setCell ⟨h + 3, 0, none⟩ v).setCell ⟨h + 4, 0, none⟩ (.int .i64 x)) := by
 have J := I.kept (Kept.of_below hb _)
 have ho2 : Kd.R (Kd.int .i64) 3 W5 h (fun k => h + 10 ≤ k) v m := Kd.R_lower (Kd.R_mono (Kd.R_bound ho) (fun k hk => by have := hk.2.1; omega)) (by omega)
 obtain ⟨v0, hv, _⟩ := J.hb
 refine ⟨blk_far (blk_far J.hl (by simp) _) (by simp) _, blk_far (blk_far J.hw (by simp) _) (by simp) _, blk_far (blk_far J.hs (by simp) _) (by simp) _, by rw [blk_set (blk_far J.hm (by simp) _)]; rfl, v, blk_far (by rw [blk_set hv]; rfl) (by simp) _, hml, ?_⟩
 exact Kd.R_kept ho2 (((Kept.refl W5 (fun k => k = h + 3 ∨ k = h + 4)).setCell (.inl (.inl rfl)) _).setCell (.inl (.inr rfl)) _) (fun k h1 h2 => by omega)
theorem heldStep {W1 W' w' : World} {a1 a2 : Addr} {v1 v2 : Value} (h : W'.cell? a1 = some v1 ∧ W'.cell? a2 = some v2 ∧ Below W1.heap.size W1 W') (hb : Below W'.heap.size W' w') : w'.cell? a1 = some v1 ∧ w'.cell? a2 = some v2 ∧ Below W1.heap.size W1 w' :=
 ⟨(hb.cell (World.block_lt_of_cell? _ _ h.1)).trans h.1, (hb.cell (World.block_lt_of_cell? _ _ h.2.1)).trans h.2.1, below_step h.2.2 hb⟩
set_option maxHeartbeats 8000000 in
set_option maxRecDepth 100000 in
theorem bb_call (A0 : Option Addr) (c0 : Nat) (l0 : List S63) (u le mo im : Int) (w : World) (hr0 : Kd.C k63 w A0 l0.length l0) (hc0 : l0.length ≤ c0) (hn : l0.length ≤ 1048576) (hn1 : 1 ≤ l0.length) :
  CallOk (bestStep l0 u le mo im) (BbInv w.heap.size l0.length A0 c0 u le mo im) (fun k => k = w.heap.size + 3 ∨ k = w.heap.size + 4) w.heap.size w (w.heap.size + 5) l0.length w.heap.size (w.heap.size + 1) (w.heap.size + 2) (w.heap.size + 3) (w.heap.size + 4) := by
 have HR0 := Aside0.mk hr0
 have HC0 := Aside0.mk hc0
 have HN := Aside0.mk hn
 have HN1 := Aside0.mk hn1
 clear hr0 hc0 hn hn1
 intro s s' m A c W hs hlm hrm hcm hi hB hsz
 have HRm := Aside0.mk hrm
 have HCm := Aside0.mk hcm
 have HLm := Aside0.mk hlm
 have HI := Aside0.mk hi
 have HB := Aside0.mk hB
 have HZ := Aside0.mk hsz
 unfold bestStep at hs
 simp only [Option.some.injEq] at hs
 have H2 := Aside0.mk hs
 clear hs hcm hrm hi hB hsz hlm
 have hargs : Value.slice A l0.length c = Value.slice A m.length c := by rw [HLm.out]
 rw [hargs]
 clear hargs
 have hq0 : W.cell? ⟨w.heap.size, 0, none⟩ = some (.slice A0 l0.length c0) := (blk_cell HI.out.hl 0).trans rfl
 have hq1 : W.cell? ⟨w.heap.size + 1, 0, none⟩ = some (.int .i64 u) := (blk_cell HI.out.hw 0).trans rfl
 have hq2 : W.cell? ⟨w.heap.size + 1, 1, none⟩ = some (.int .i64 le) := (blk_cell HI.out.hw 1).trans rfl
 have hq3 : W.cell? ⟨w.heap.size + 1, 2, none⟩ = some (.int .i64 mo) := (blk_cell HI.out.hw 2).trans rfl
 have hq4 : W.cell? ⟨w.heap.size + 1, 3, none⟩ = some (.int .i64 im) := (blk_cell HI.out.hw 3).trans rfl
 go_enter Try.func81, Try.ntmps81
 go_wp2_with (go_at_call 60; fail)
 refine (impl_meetsWanted.callsO A0 c0 l0 u le mo im A c m W (Kd.C_below HR0.out HB.out) HC0.out HRm.out HCm.out zx5').mono ?_
 rintro e W1 ⟨rfl, hb⟩
 have HI1 := am (HI.out.kept (Kept.of_below hb _))
 have HB1 := am (below_step HB.out hb)
 have HK1 := am (Kept.of_below hb (fun k => k = w.heap.size + 3 ∨ k = w.heap.size + 4))
 have HRm1 := am (Kd.C_below HRm.out hb)
 have HZ1 : Aside0 (w.heap.size + 5 + 5 ≤ W1.heap.size) := ⟨Nat.le_trans HZ.out hb.size⟩
 clear hb hq0 hq1 hq2 hq3 hq4 HI HB HRm HZ
 have H2' := H2.out
 clear H2
 cases b1 : meetsB (sumsTo l0 m m.length) u le mo im with
 | false =>
  rw [b1, if_neg (by simp)] at H2'
  obtain rfl := H2'
  clear b1
  go_wp2
  refine bodyPost_ret (results_none rfl _ _ _) rfl ?_
  exact ⟨rfl, HI1.out, HK1.out, HB1.out⟩
 | true =>
  rw [b1, if_pos rfl] at H2'
  clear b1
  have hq0 : W1.cell? ⟨w.heap.size, 0, none⟩ = some (.slice A0 l0.length c0) := (blk_cell HI1.out.hl 0).trans rfl
  have hq2 : W1.cell? ⟨w.heap.size + 2, 0, none⟩ = some (.func (.func 64) #[] #[]) := (blk_cell HI1.out.hs 0).trans rfl
  have H2 := Aside0.mk H2'
  clear H2'
  obtain ⟨s0, s1, s2, s3, hs⟩ : ∃ s0 s1 s2 s3, sumsTo l0 m m.length = (s0, s1, s2, s3) := ⟨_, _, _, _, rfl⟩
  have hcall : ∀ W' : World, Below W1.heap.size W1 W' → Calls Try.prog 66 #[.slice A0 l0.length c0, .slice A m.length c] W' fun e w' => e = .returned (.agg #[.int .i64 s0, .int .i64 s1, .int .i64 s2, .int .i64 s3]) ∧ Below W'.heap.size W' w' := fun W' hW => by
   have h := impl_blendSums.callsO A0 c0 l0 A c m W' (Kd.C_below HR0.out (below_step HB1.out hW)) HC0.out (Kd.C_below HRm1.out hW) HCm.out zx5'; rw [hs] at h
   exact h
  have HCA := Aside0.mk hcall
  have hs2 : sumsTo l0 m m.length = (s0, s1, s2, s3) := hs
  have HS := Aside0.mk hs2
  have hbr := Below.refl W1.heap.size W1
  clear hs hcall hs2
  go_wp2_with (fail)
  go_region_held3 (fun w' => w'.cell? ⟨w.heap.size, 0, none⟩ = some (.slice A0 l0.length c0) ∧ w'.cell? ⟨w.heap.size + 2, 0, none⟩ = some (.func (.func 64) #[] #[]) ∧ Below W1.heap.size W1 w') (first | exact ⟨hq0, hq2, below_drew hbr⟩ | exact heldStep (by assumption) (by assumption))
   (first | (go_at_call 66; refine (HCA.out _ (And.right (And.right (show _ ∧ _ ∧ Below W1.heap.size W1 _ from by assumption)))).mono ?_; rintro e w9 ⟨rfl, hb9⟩) | (go_at_call 64; refine (score_calls s0 s1 s2 s3 _).mono ?_; rintro e w8 ⟨rfl, hb8⟩))
  rename_i hHeld8
  have hS8 : Below W1.heap.size W1 w8 := hHeld8.2.2
  have HI8 := am (HI1.out.kept (Kept.of_below hS8 _))
  have HB8 := am (below_step HB1.out hS8)
  have HRm8 := am (Kd.C_below HRm1.out hS8)
  have HK8 := am (HK1.out.below hS8)
  have HZ8 : Aside0 (w.heap.size + 5 + 5 ≤ w8.heap.size) := ⟨Nat.le_trans HZ1.out hS8.size⟩
  have H2' := H2.out
  rw [HS.out] at H2'
  clear HI1 HB1 HRm1 HK1 HZ1 H2 HS HCA hbr hq0 hq2 hb8 hb9 hS8 hHeld8
  obtain ⟨v, hv1, hv2⟩ := HI8.out.hb
  have hq3 : w8.cell? ⟨w.heap.size + 3, 0, none⟩ = some v := (blk_cell hv1 0).trans rfl
  cases s with
  | none =>
   simp only at hv2 H2'; subst hv2; have H2 := Aside0.mk H2'
   have hrun : ∀ w' : World, (binOp .eql 29 (.slice none 0 0) (.slice none 0 0)).run Try.prog w' = .ok (.bool true) w' := fun w' => Lib.run_eql_slice_nil w' 29 3 none 0 0 0 0 Try.underlying29
   clear H2' hv1
   go_wp2_with (first | ((with_reducible refine gate_dst (N := 25) rfl ?_); refine Kd.R_lit (Kd.int .i64) _ 3 ?hg (N := 25) ?hd (xs := ([] : List Int)) (inner := []) (ok := fun _ => True) (okp := fun _ => True) ?hr ?hp (fun _ hk => hk) trivial (Below.refl _ _) (Nat.le_refl _) (by simp) ?_; (case hd => rfl); (case hg => rfl); (case hr => exact zo'); (case hp => exact (Reps.none _ _)); intro v4 w3 ho4 hb4 hg_ hnew_; clear hg_ hnew_; have HO4 := Aside0.mk ho4; have HB4 := Aside0.mk hb4; clear ho4 hb4) | ((with_reducible refine gate_builtin (b := .append) (xs := #[.tmp 25, .tmp 26]) rfl ?_); at_builtin; refine Kd.R_append_rows (Kd.int .i64) (w0 := w8) w8.heap.size rfl (.tmp 25) (.tmp 26) 29 3 (.int .i64 0) 8 rfl Try.underlying29 info3 rfl (by decide) (by omega) v4 [] m _ _ _ (fun _ => True) (fun _ => False) rfl rfl ?aO ?aR (fun _ _ h => h) (fun _ h => h.elim) ?aF ?aB ?aS ?aL ?_; (case aR => exact Kd.C_below HRm8.out HB4.out); (case aB => exact HB4.out); (case aF => exact zv5'); (case aO => exact HO4.out); (case aS => exact HB4.out.size); (case aL => exact zo4'); intro v5 w5 ho hb hg hat; clear hg hat; rw [List.nil_append] at ho; obtain ⟨A5, c5, eq5⟩ := Kd.R_slice ho; subst eq5; have HO := Aside0.mk ho; have HB5 := Aside0.mk hb; clear ho hb HO4 HB4; have HI5 := am (HI8.out.kept (Kept.of_below HB5.out _)); obtain ⟨vb, hvb, _⟩ := HI5.out.hb; have hy2 : w5.cell? ⟨w.heap.size + 3, 0, none⟩ = some vb := (blk_cell hvb 0).trans rfl; have hf2 := blk_frozen hvb 0; clear hvb; have hy1 : w5.cell? ⟨w.heap.size + 4, 0, none⟩ = some (.int .i64 _) := (blk_cell HI5.out.hm 0).trans rfl; have hf1 := blk_frozen HI5.out.hm 0))
   obtain rfl := H2.out
   refine bodyPost_end (results_none rfl _ _ _) rfl ?_
   exact ⟨rfl, BbInv.put HI8.out HB5.out HZ8.out _ _ _ HLm.out HO.out, ((HK8.out.below HB5.out).setCell (.inl (.inl rfl)) _).setCell (.inl (.inr rfl)) _, ((below_step HB8.out HB5.out).setCell (by simp) _).setCell (by simp) _⟩
  | some q =>
   simp only at hv2 H2'; obtain ⟨hql, hqr⟩ := hv2; obtain ⟨g, cp, rfl, _⟩ := Kd.R_form hqr (by have := HN1.out; omega); have hq4 : w8.cell? ⟨w.heap.size + 4, 0, none⟩ = some (.int .i64 q.2) := (blk_cell HI8.out.hm 0).trans rfl
   have hrun : ∀ w' : World, (binOp .eql 29 (.slice (some ⟨g, 0, none⟩) q.1.length cp) (.slice none 0 0)).run Try.prog w' = .ok (.bool false) w' := fun w' => Lib.run_eql_slice_nil w' 29 3 (some ⟨g, 0, none⟩) q.1.length cp 0 0 Try.underlying29
   clear hql hqr hv1
   by_cases b2 : q.2 < scoreOf (s0, s1, s2, s3)
   ·rw [if_pos b2] at H2'
    have b2b : decide (q.2 < scoreOf (s0, s1, s2, s3)) = true := decide_eq_true b2; have H2 := Aside0.mk H2'; clear b2 H2'
    go_wp2_with (first | ((with_reducible refine gate_dst (N := 25) rfl ?_); refine Kd.R_lit (Kd.int .i64) _ 3 ?hg (N := 25) ?hd (xs := ([] : List Int)) (inner := []) (ok := fun _ => True) (okp := fun _ => True) ?hr ?hp (fun _ hk => hk) trivial (Below.refl _ _) (Nat.le_refl _) (by simp) ?_; (case hd => rfl); (case hg => rfl); (case hr => exact zo'); (case hp => exact (Reps.none _ _)); intro v4 w3 ho4 hb4 hg_ hnew_; clear hg_ hnew_; have HO4 := Aside0.mk ho4; have HB4 := Aside0.mk hb4; clear ho4 hb4) | ((with_reducible refine gate_builtin (b := .append) (xs := #[.tmp 25, .tmp 26]) rfl ?_); at_builtin; refine Kd.R_append_rows (Kd.int .i64) (w0 := w8) w8.heap.size rfl (.tmp 25) (.tmp 26) 29 3 (.int .i64 0) 8 rfl Try.underlying29 info3 rfl (by decide) (by omega) v4 [] m _ _ _ (fun _ => True) (fun _ => False) rfl rfl ?aO ?aR (fun _ _ h => h) (fun _ h => h.elim) ?aF ?aB ?aS ?aL ?_; (case aR => exact Kd.C_below HRm8.out HB4.out); (case aB => exact HB4.out); (case aF => exact zv5'); (case aO => exact HO4.out); (case aS => exact HB4.out.size); (case aL => exact zo4'); intro v5 w5 ho hb hg hat; clear hg hat; rw [List.nil_append] at ho; obtain ⟨A5, c5, eq5⟩ := Kd.R_slice ho; subst eq5; have HO := Aside0.mk ho; have HB5 := Aside0.mk hb; clear ho hb HO4 HB4; have HI5 := am (HI8.out.kept (Kept.of_below HB5.out _)); obtain ⟨vb, hvb, _⟩ := HI5.out.hb; have hy2 : w5.cell? ⟨w.heap.size + 3, 0, none⟩ = some vb := (blk_cell hvb 0).trans rfl; have hf2 := blk_frozen hvb 0; clear hvb; have hy1 : w5.cell? ⟨w.heap.size + 4, 0, none⟩ = some (.int .i64 _) := (blk_cell HI5.out.hm 0).trans rfl; have hf1 := blk_frozen HI5.out.hm 0))
    obtain rfl := H2.out
    refine bodyPost_end (results_none rfl _ _ _) rfl ?_
    exact ⟨rfl, BbInv.put HI8.out HB5.out HZ8.out _ _ _ HLm.out HO.out, ((HK8.out.below HB5.out).setCell (.inl (.inl rfl)) _).setCell (.inl (.inr rfl)) _, ((below_step HB8.out HB5.out).setCell (by simp) _).setCell (by simp) _⟩
   ·rw [if_neg b2] at H2'
    have b2b : decide (q.2 < scoreOf (s0, s1, s2, s3)) = false := decide_eq_false b2; obtain rfl := H2'; clear b2
    go_wp2
    refine bodyPost_end (results_none rfl _ _ _) rfl ?_
    exact ⟨rfl, HI8.out, HK8.out, HB8.out⟩
def bestMost (s : Option (List Int × Int)) : Int := match s with | none => 0 | some q => q.2
def BestAs (w : World) (n : Nat) (s : Option (List Int × Int)) (W : World) (v : Value) : Prop := match s with
 | none => v = .slice none 0 0
 | some q => q.1.length = n ∧ Kd.R (Kd.int .i64) 3 W w.heap.size (fun k => w.heap.size + 10 ≤ k) v q.1
set_option maxHeartbeats 8000000 in
set_option maxRecDepth 100000 in
theorem best_calls (A0 : Option Addr) (c0 : Nat) (l0 : List S63) (u le mo im : Int) (M' : List Int) (s' : Option (List Int × Int)) (w : World) (hr0 : Kd.C k63 w A0 l0.length l0) (hc0 : l0.length ≤ c0) (hn : l0.length ≤ 1048576) (hn1 : 1 ≤ l0.length) (hu0 : 0 ≤ u) (hu1 : u ≤ 1000) (h : partF l0 (bestStep l0 u le mo im) l0.length u (List.replicate l0.length 0) none = some (M', s')) :
  Calls Try.prog 62 #[.slice A0 l0.length c0, .agg #[.int .i64 u, .int .i64 le, .int .i64 mo, .int .i64 im], .func (.func 64) #[] #[]] w fun e w' => ∃ v, e = .returned (.tuple #[v, .int .i64 (bestMost s')]) ∧ BestAs w l0.length s' w' v ∧ Below w.heap.size w w' := by
 have HR0 := Aside0.mk hr0
 have HC0 := Aside0.mk hc0
 have HN := Aside0.mk hn
 have HN1 := Aside0.mk hn1
 have H := Aside0.mk h
 have HU := am (And.intro hu0 hu1)
 clear hr0 hc0 hn hn1 h hu0 hu1
 go_enter Try.func62, Try.ntmps62
 go_wp2_with (go_at_call 58; fail)
 generalize hW : (((((w.alloc (.cells #[.slice A0 l0.length c0] 31)).alloc (.cells #[.int .i64 u, .int .i64 le, .int .i64 mo, .int .i64 im] 45)).alloc (.cells #[.func (.func 64) #[] #[]] 89)).alloc (.cells #[.slice none 0 0] 29)).alloc (.cells #[.int .i64 0] 3)) = W5
 have z1 := size_al (.cells #[.slice A0 l0.length c0] 31) (rfl : w.heap.size = w.heap.size)
 have z2 := size_al (.cells #[.int .i64 u, .int .i64 le, .int .i64 mo, .int .i64 im] 45) z1
 have z3 := size_al (.cells #[.func (.func 64) #[] #[]] 89) z2
 have z4 := size_al (.cells #[.slice none 0 0] 29) z3
 have z5 := size_al (.cells #[.int .i64 0] 3) z4
 have hI : BbInv w.heap.size l0.length A0 c0 u le mo im none W5 := by
  rw [← hW]
  exact ⟨blk_alloc (blk_alloc (blk_alloc (blk_alloc (blk_new _ _) _) _) _) _, blk_alloc (blk_alloc (blk_alloc (blk_here _ z1) _) _) _, blk_alloc (blk_alloc (blk_here _ z2) _) _, blk_here _ z4, _, blk_alloc (blk_here _ z3) _, rfl⟩
 have hB : Below w.heap.size w W5 := by rw [← hW]; exact below_alloc (below_alloc (below_alloc (below_alloc (below_alloc (Below.refl _ _) _) _) _) _) _
 rw [hW] at z5
 clear hW z1 z2 z3 z4
 refine (each_calls (step := bestStep l0 u le mo im) (Inv := BbInv w.heap.size l0.length A0 c0 u le mo im) (okc := fun k => k = w.heap.size + 3 ∨ k = w.heap.size + 4) (b0 := w.heap.size) (w0 := w) (q0 := w.heap.size) (q1 := w.heap.size + 1) (q2 := w.heap.size + 2) (q3 := w.heap.size + 3) (q4 := w.heap.size + 4) l0 W5 HR0.out rfl HN.out (by omega) (fun s W6 W7 h1 h2 => h1.kept (h2.mono (fun k hk => by omega))) (fun k hk => by omega) (by rw [z5]; exact bb_call A0 c0 l0 u le mo im w HR0.out HC0.out HN.out HN1.out) u HU.out.1 HU.out.2 none M' s' H.out hI hB).mono ?_
 rintro e W6 ⟨rfl, h3, h4, h5⟩
 obtain ⟨v, hv1, hv2⟩ := h3.hb
 have HV : Aside0 (BestAs w l0.length s' W6 v) := ⟨by unfold BestAs; cases s' <;> exact hv2⟩
 have hm := h3.hm
 have hx : W6.cell? ⟨w.heap.size + 3, 0, none⟩ = some v := (blk_cell hv1 0).trans rfl
 have hy : W6.cell? ⟨w.heap.size + 4, 0, none⟩ = some (.int .i64 (bestMost s')) := (blk_cell hm 0).trans rfl
 have HB6 := Aside0.mk h5
 clear h3 h4 h5 hI hB z5 hv1 hv2 hm
 go_wp2
 repeat (go_quiet (fail); try go_wp2)
 refine bodyPost_ret (v := .tuple #[v, .int .i64 (bestMost s')]) (by simp [results, Try.results62, go_sem]) rfl ?_
 refine ⟨v, rfl, ?_, pw_below_drewN HB6.out _⟩
 have := HV.out
 unfold BestAs at this ⊢
 cases s' with
 | none => exact this
 | some q => exact ⟨this.1, Kd.R_drewN this.2 _⟩
def impl_CheapestBlend.f (k : Nat) (l0 : List S63) (u le mo im : Int) : Option (List Int × Int × Bool) := (impl_AreBins.f k l0).bind fun t => if t = true then ((impl_IsWanted.f u le mo im).bind fun t2 => if t2 = true then (if l0.length ≤ 1048576 ∧ 1 ≤ l0.length ∧ 0 ≤ u ∧ u ≤ 1000 then (partF l0 (bestStep l0 u le mo im) l0.length u (List.replicate l0.length 0) none).bind fun q => some (match q.2 with | none => ([], 0, false) | some p => (p.1, wrap64 (-p.2), true)) else none) else some ([], 0, false)) else some ([], 0, false)
set_option maxHeartbeats 8000000 in
set_option maxRecDepth 100000 in
theorem impl_CheapestBlend.calls (k : Nat) (A0 : Option Addr) (c0 : Nat) (l0 : List S63) (u le mo im : Int) (r1 : List Int) (r2 : Int) (r3 : Bool) (w : World) (hr0 : Kd.C k63 w A0 l0.length l0) (hc0 : l0.length ≤ c0) (h : impl_CheapestBlend.f k l0 u le mo im = some (r1, r2, r3)) :
  Calls Try.prog 30 #[.slice A0 l0.length c0, .agg #[.int .i64 u, .int .i64 le, .int .i64 mo, .int .i64 im]] w fun e w' => ∃ v0_ : Value, e = .returned (.tuple #[v0_, .int .i64 r2, .bool r3]) ∧ Kd.R (Kd.int .i64) 3 w' w.heap.size (fun _ => True) v0_ r1 ∧ Below w.heap.size w w' := by
 have HR0 := Aside0.mk hr0
 have HC0 := Aside0.mk hc0
 unfold impl_CheapestBlend.f at h
 obtain ⟨t, h1, h2⟩ := Option.bind_eq_some_iff.1 h
 have H1 := Aside0.mk h1
 clear hr0 hc0 h h1
 cases t with
 | false =>
  simp only [Bool.false_eq_true, if_false, Option.some.injEq, Prod.mk.injEq] at h2
  obtain ⟨rfl, rfl, rfl⟩ := h2
  go_enter Try.func30, Try.ntmps30
  go_wp2_with (go_at_call 40; fail)
  refine (impl_AreBins.calls k A0 c0 l0 false _ (Kd.C_alloc HR0.out _) HC0.out H1.out).mono ?_
  rintro e W1 ⟨rfl, hb⟩
  have HB := am (below_step (below_alloc (Below.refl w.heap.size w) _) hb)
  clear hb
  go_wp2
  go_ret3
  exact ⟨_, rfl, Kd.R_nil _ _ _ _ _, HB.out⟩
 | true =>
  simp only [if_true] at h2
  obtain ⟨t2, g1, g2⟩ := Option.bind_eq_some_iff.1 h2
  have G1 := Aside0.mk g1
  clear h2 g1
  go_enter Try.func30, Try.ntmps30
  go_wp2_with (go_at_call 40; fail)
  refine (impl_AreBins.calls k A0 c0 l0 true _ (Kd.C_alloc HR0.out _) HC0.out H1.out).mono ?_
  rintro e W1 ⟨rfl, hb⟩
  have hb2 : (W1.heap[w.heap.size]?) = some (.cells #[.int .i64 u, .int .i64 le, .int .i64 mo, .int .i64 im] 45 (0, 0)) := (hb.block _ (by simp)).trans (blk_new _ _)
  have HB := am (below_step (below_alloc (Below.refl w.heap.size w) _) hb)
  have hq1 : W1.cell? ⟨w.heap.size, 0, none⟩ = some (.int .i64 u) := (blk_cell hb2 0).trans rfl
  have hq2 : W1.cell? ⟨w.heap.size, 1, none⟩ = some (.int .i64 le) := (blk_cell hb2 1).trans rfl
  have hq3 : W1.cell? ⟨w.heap.size, 2, none⟩ = some (.int .i64 mo) := (blk_cell hb2 2).trans rfl
  have hq4 : W1.cell? ⟨w.heap.size, 3, none⟩ = some (.int .i64 im) := (blk_cell hb2 3).trans rfl
  have HB2 := Aside0.mk hb2
  clear hb hb2
  go_wp2_with (go_at_call 47; fail)
  refine (impl_IsWanted.calls u le mo im t2 W1 G1.out).mono ?_
  rintro e W2 ⟨rfl, hb⟩
  have HBb := am (below_step HB.out hb)
  have hb2 : (W2.heap[w.heap.size]?) = some (.cells #[.int .i64 u, .int .i64 le, .int .i64 mo, .int .i64 im] 45 (0, 0)) := (hb.block _ (blk_lt HB2.out)).trans HB2.out
  clear hb HB2 hq1 hq2 hq3 hq4 HB
  have hq1 : W2.cell? ⟨w.heap.size, 0, none⟩ = some (.int .i64 u) := (blk_cell hb2 0).trans rfl
  have hq2 : W2.cell? ⟨w.heap.size, 1, none⟩ = some (.int .i64 le) := (blk_cell hb2 1).trans rfl
  have hq3 : W2.cell? ⟨w.heap.size, 2, none⟩ = some (.int .i64 mo) := (blk_cell hb2 2).trans rfl
  have hq4 : W2.cell? ⟨w.heap.size, 3, none⟩ = some (.int .i64 im) := (blk_cell hb2 3).trans rfl
  clear hb2
  cases t2 with
  | false =>
   simp only [Bool.false_eq_true, if_false, Option.some.injEq, Prod.mk.injEq] at g2; obtain ⟨rfl, rfl, rfl⟩ := g2
   go_wp2
   go_ret3
   exact ⟨_, rfl, Kd.R_nil _ _ _ _ _, HBb.out⟩
  | true =>
   simp only [if_true] at g2
   have hg : l0.length ≤ 1048576 ∧ 1 ≤ l0.length ∧ 0 ≤ u ∧ u ≤ 1000 := by
    by_cases g : l0.length ≤ 1048576 ∧ 1 ≤ l0.length ∧ 0 ≤ u ∧ u ≤ 1000
    ·exact g
    ·rw [if_neg g] at g2; cases g2
   rw [if_pos hg] at g2; obtain ⟨⟨M', s'⟩, h3, h4⟩ := Option.bind_eq_some_iff.1 g2; have H3 := Aside0.mk h3; have HN := Aside0.mk hg; have H4 := Aside0.mk h4; clear g2 h3 hg h4
   go_wp2_with (go_at_call 62; fail)
   refine (best_calls A0 c0 l0 u le mo im M' s' W2 (Kd.C_below HR0.out HBb.out) HC0.out HN.out.1 HN.out.2.1 HN.out.2.2.1 HN.out.2.2.2 H3.out).mono ?_
   rintro e W5 ⟨v, rfl, hv, h5⟩
   have HB5 := am (below_step HBb.out h5); have hz := HBb.out.size; clear h5 hq1 hq2 hq3 hq4
   cases s' with
   | none =>
    obtain rfl := hv
    have hrun : ∀ w' : World, (binOp .eql 29 (.slice none 0 0) (.slice none 0 0)).run Try.prog w' = .ok (.bool true) w' := fun w' => Lib.run_eql_slice_nil w' 29 3 none 0 0 0 0 Try.underlying29
    have h4 := H4.out; simp only [Option.some.injEq, Prod.mk.injEq] at h4; obtain ⟨rfl, rfl, rfl⟩ := h4
    go_wp2
    go_ret3
    exact ⟨_, rfl, Kd.R_nil _ _ _ _ _, HB5.out⟩
   | some q =>
    obtain ⟨hql, hqr⟩ := hv; obtain ⟨g, cp, rfl, _⟩ := Kd.R_form hqr (by have := HN.out.2.1; omega)
    have hrun : ∀ w' : World, (binOp .eql 29 (.slice (some ⟨g, 0, none⟩) q.1.length cp) (.slice none 0 0)).run Try.prog w' = .ok (.bool false) w' := fun w' => Lib.run_eql_slice_nil w' 29 3 (some ⟨g, 0, none⟩) q.1.length cp 0 0 Try.underlying29
    have h4 := H4.out; simp only [Option.some.injEq, Prod.mk.injEq] at h4; obtain ⟨rfl, rfl, rfl⟩ := h4; have HQ := am (Kd.R_lower (Kd.R_mono hqr (fun _ _ => trivial)) hz); clear hql hqr
    go_wp2
    go_ret3
    exact ⟨_, rfl, HQ.out, HB5.out⟩


/-! ### impl_areParts: function 52 -/
def impl_areParts.l0 : Nat → List (S63) → List Int → Int → Int → Option (Bool)
 | 0, _, _, _, _ => none
 | k + 1, x0, x12, x13, x14 => if x14 < x13 then (if 0 ≤ x14 then (if x14 < (x12.length : Int) then (if (rd x12 x14) < 0 then (some false) else (if x14 < (x0.length : Int) then (if (rd x12 x14) > ((rd_T63 x0 x14).f0) then (some false) else (impl_areParts.l0 k x0 x12 x13 (wrap64 (x14 + 1)))) else (none))) else (none)) else (none)) else (some true)
def impl_areParts.f (k : Nat) (l0 : List (S63)) (l1 : List Int) : Option (Bool) := if (l1.length : Int) = (l0.length : Int) then (impl_areParts.l0 k l0 l1 (l1.length : Int) 0) else (some false)
set_option maxHeartbeats 8000000 in
set_option maxRecDepth 100000 in
theorem impl_areParts.calls (k : Nat) (A0 : Option Addr) (c0 : Nat) (l0 : List (S63)) (A1 : Option Addr) (c1 : Nat) (l1 : List Int) (r : Bool) (w : World) (hr0 : Kd.C k63 w A0 l0.length l0) (hc0 : l0.length ≤ c0) (hr1 : Kd.C (Kd.int .i64) w A1 l1.length l1) (hc1 : l1.length ≤ c1) (h : impl_areParts.f k l0 l1 = some r) :
  Calls Try.prog 52 #[.slice A0 l0.length c0, .slice A1 l1.length c1] w fun e w' => e = .returned (.bool r) ∧ Drawn0 w w' := by
 have HR0 := Aside0.mk hr0
 have HC0 := Aside0.mk hc0
 clear hr0 hc0
 have HR1 := Aside0.mk hr1
 have HC1 := Aside0.mk hc1
 clear hr1 hc1
 have H : (if (l1.length : Int) = (l0.length : Int) then (impl_areParts.l0 k l0 l1 (l1.length : Int) 0) else (some false)) = some r := h
 clear h
 by_cases c3 : (l1.length : Int) = (l0.length : Int)
 ·rw [if_pos c3] at H
  have c3b0 : ((l1.length : Int) == (l0.length : Int)) = true := beq_iff_eq.mpr c3
  have c3b1 : ((l1.length : Int) != (l0.length : Int)) = false := bne_eq_false_iff_eq.mpr c3
  have c3b2 : (l1.length == l0.length) = true := by first | simpa using c3 | (simp at c3 ⊢; omega)
  clear c3
  have H' := Aside0.mk H
  clear H
  go_enter Try.func52, Try.ntmps52
  go_wp2
  go_loopg [14] k (fun kq v14 w' => ∃ (x14_1 : Int), v14 = .int .i64 x14_1 ∧ Aside0 (impl_areParts.l0 kq l0 l1 (l1.length : Int) x14_1 = some r) ∧ Aside0 (kq ≤ k) ∧ Drawn0 w w')
  case atStart => exact ⟨(0), zx', H', ⟨Nat.le_refl _⟩, by repeat (first | exact Drawn0.refl _ | apply Drawn0.step)⟩
  case round =>
   clear H'; (try clear c1); (try clear p2); (try clear c3); (try clear c3b0); (try clear c3b1); (try clear c3b2); obtain ⟨x14_1, rfl, HA, HK1, ⟨m1, rfl⟩⟩ := hrel
   cases gk with
   | zero => exact absurd HA.out (by simp [impl_areParts.l0])
   | succ k1 =>
    have H := HA.out; clear HA; simp only [impl_areParts.l0] at H
    by_cases c4 : x14_1 < (l1.length : Int)
    ·rw [if_pos c4] at H
     have c4b0 : decide (x14_1 < (l1.length : Int)) = true := decide_eq_true c4; clear c4
     by_cases c5 : 0 ≤ x14_1
     ·rw [if_pos c5] at H
      have c5b0 : decide (0 ≤ x14_1) = true := decide_eq_true c5; clear c5
      by_cases c6 : x14_1 < (l1.length : Int)
      ·rw [if_pos c6] at H
       have c6b0 : decide (x14_1 < (l1.length : Int)) = true := decide_eq_true c6; clear c6
       by_cases c7 : (rd l1 x14_1) < 0
       ·rw [if_pos c7] at H
        have c7b0 : decide ((rd l1 x14_1) < 0) = true := decide_eq_true c7; clear c7; obtain rfl := Option.some.inj H; have p202 : 0 ≤ (x14_1 : Int) := odt; have q202 : x14_1 < (l1.length : Int) := odt; obtain ⟨ad202, e202, hx202_0⟩ := Kd.at_int HR1.out x14_1 p202 q202; cases e202; replace p202 := eq_true p202; replace q202 := eq_true q202
        go_wp2
        go_ret
        exact ⟨by first | rfl | (simp; done) | (simp [*]; done), by repeat (first | exact Drawn0.refl _ | apply Drawn0.step)⟩
       ·rw [if_neg c7] at H
        have c7b0 : decide ((rd l1 x14_1) < 0) = false := decide_eq_false c7; clear c7
        by_cases c8 : x14_1 < (l0.length : Int)
        ·rw [if_pos c8] at H
         have c8b0 : decide (x14_1 < (l0.length : Int)) = true := decide_eq_true c8; clear c8
         by_cases c9 : (rd l1 x14_1) > ((rd_T63 l0 x14_1).f0)
         ·rw [if_pos c9] at H
          have c9b0 : decide (((rd_T63 l0 x14_1).f0) < (rd l1 x14_1)) = true := decide_eq_true c9; clear c9; obtain rfl := Option.some.inj H; have p202 : 0 ≤ (x14_1 : Int) := odt; have q202 : x14_1 < (l1.length : Int) := odt; obtain ⟨ad202, e202, hx202_0⟩ := Kd.at_int HR1.out x14_1 p202 q202; cases e202; replace p202 := eq_true p202; replace q202 := eq_true q202; have p203 : 0 ≤ (x14_1 : Int) := odt; have q203 : x14_1 < (l0.length : Int) := odt; obtain ⟨ad203, e203, hx203_0, hx203_1, hx203_2, hx203_3⟩ := at_T63 HR0.out x14_1 p203 q203; cases e203; replace p203 := eq_true p203; replace q203 := eq_true q203
          go_wp2
          go_ret
          exact ⟨by first | rfl | (simp; done) | (simp [*]; done), by repeat (first | exact Drawn0.refl _ | apply Drawn0.step)⟩
         ·rw [if_neg c9] at H
          have c9b0 : decide (((rd_T63 l0 x14_1).f0) < (rd l1 x14_1)) = false := decide_eq_false c9; clear c9; have H' := Aside0.mk H; clear H; have p202 : 0 ≤ (x14_1 : Int) := odt; have q202 : x14_1 < (l1.length : Int) := odt; obtain ⟨ad202, e202, hx202_0⟩ := Kd.at_int HR1.out x14_1 p202 q202; cases e202; replace p202 := eq_true p202; replace q202 := eq_true q202; have p203 : 0 ≤ (x14_1 : Int) := odt; have q203 : x14_1 < (l0.length : Int) := odt; obtain ⟨ad203, e203, hx203_0, hx203_1, hx203_2, hx203_3⟩ := at_T63 HR0.out x14_1 p203 q203; cases e203; replace p203 := eq_true p203; replace q203 := eq_true q203
          go_wp2
          go_roundg k1
          case measure => have := HK1.out; omega
          case rel => exact ⟨(wrap64 (x14_1 + 1)), zx', H', ⟨zv4'⟩, by repeat (first | exact Drawn0.refl _ | apply Drawn0.step)⟩
        ·rw [if_neg c8] at H
         exact absurd H (by simp)
      ·rw [if_neg c6] at H
       exact absurd H (by simp)
     ·rw [if_neg c5] at H
      exact absurd H (by simp)
    ·rw [if_neg c4] at H
     have c4b0 : decide (x14_1 < (l1.length : Int)) = false := decide_eq_false c4; clear c4; obtain rfl := Option.some.inj H
     go_wp2
     go_ret
     exact ⟨by first | rfl | (simp; done) | (simp [*]; done), by repeat (first | exact Drawn0.refl _ | apply Drawn0.step)⟩
 ·rw [if_neg c3] at H
  have c3b0 : ((l1.length : Int) == (l0.length : Int)) = false := beq_eq_false_iff_ne.mpr c3
  have c3b1 : ((l1.length : Int) != (l0.length : Int)) = true := bne_iff_ne.mpr c3
  have c3b2 : (l1.length == l0.length) = false := by first | simpa using c3 | (simp at c3 ⊢; omega)
  obtain rfl := Option.some.inj H
  go_enter Try.func52, Try.ntmps52
  go_wp2
  go_ret
  exact ⟨by first | rfl | (simp; done) | (simp [*]; done), by repeat (first | exact Drawn0.refl _ | apply Drawn0.step)⟩

/-! ### impl_BlendSums: function 32 -/
def impl_BlendSums.f (k : Nat) (l0 : List S63) (l1 : List Int) : Option (Int × Int × Int × Int × Bool) := (impl_AreBins.f k l0).bind fun t1 => if t1 = true then ((impl_areParts.f k l0 l1).bind fun t2 => if t2 = true then (if l1.length ≤ l0.length then some ((sumsTo l0 l1 l1.length).1, (sumsTo l0 l1 l1.length).2.1, (sumsTo l0 l1 l1.length).2.2.1, (sumsTo l0 l1 l1.length).2.2.2, true) else none) else some (0, 0, 0, 0, false)) else some (0, 0, 0, 0, false)
set_option maxHeartbeats 8000000 in
set_option maxRecDepth 100000 in
theorem impl_BlendSums.calls (k : Nat) (A0 : Option Addr) (c0 : Nat) (l0 : List S63) (A1 : Option Addr) (c1 : Nat) (l1 : List Int) (r1 r2 r3 r4 : Int) (r5 : Bool) (w : World) (hr0 : Kd.C k63 w A0 l0.length l0) (hc0 : l0.length ≤ c0) (hr1 : Kd.C (Kd.int .i64) w A1 l1.length l1) (hc1 : l1.length ≤ c1) (h : impl_BlendSums.f k l0 l1 = some (r1, r2, r3, r4, r5)) :
  Calls Try.prog 32 #[.slice A0 l0.length c0, .slice A1 l1.length c1] w fun e w' => e = .returned (.tuple #[.int .i64 r1, .int .i64 r2, .int .i64 r3, .int .i64 r4, .bool r5]) ∧ Below w.heap.size w w' := by
 have HR0 := Aside0.mk hr0
 have HC0 := Aside0.mk hc0
 have HR1 := Aside0.mk hr1
 have HC1 := Aside0.mk hc1
 unfold impl_BlendSums.f at h
 obtain ⟨t, h1, h2⟩ := Option.bind_eq_some_iff.1 h
 have H1 := Aside0.mk h1
 clear hr0 hc0 hr1 hc1 h h1
 cases t with
 | false =>
  simp only [Bool.false_eq_true, if_false, Option.some.injEq, Prod.mk.injEq] at h2
  obtain ⟨rfl, rfl, rfl, rfl, rfl⟩ := h2
  go_enter Try.func32, Try.ntmps32
  go_wp2_with (go_at_call 40; fail)
  refine (impl_AreBins.calls k A0 c0 l0 false _ HR0.out HC0.out H1.out).mono ?_
  rintro e W1 ⟨rfl, hb⟩
  have HB := Aside0.mk hb
  clear hb
  go_wp2
  (try simp only [Exit.inBlock, Exit.then])
  refine bodyPost_ret (results_list (rs := [.tmp 4, .tmp 5, .tmp 6, .tmp 7, .tmp 8]) rfl (by simp) (.tmp (.tmp (.tmp (.tmp (.tmp .nil)))))) rfl ?_
  exact ⟨rfl, HB.out⟩
 | true =>
  simp only [if_true] at h2
  obtain ⟨t2, g1, g2⟩ := Option.bind_eq_some_iff.1 h2
  have G1 := Aside0.mk g1
  clear h2 g1
  go_enter Try.func32, Try.ntmps32
  go_wp2_with (go_at_call 40; fail)
  refine (impl_AreBins.calls k A0 c0 l0 true _ HR0.out HC0.out H1.out).mono ?_
  rintro e W1 ⟨rfl, hb⟩
  have HB := Aside0.mk hb
  clear hb
  go_wp2_with (go_at_call 52; fail)
  refine (impl_areParts.calls k A0 c0 l0 A1 c1 l1 t2 W1 (Kd.C_below HR0.out HB.out) HC0.out (Kd.C_below HR1.out HB.out) HC1.out G1.out).mono ?_
  rintro e W2 ⟨rfl, hd⟩
  have HB2 : Aside0 (Below w.heap.size w W2) := ⟨below_step HB.out (Drawn0.below hd)⟩
  clear hd HB
  cases t2 with
  | false =>
   simp only [Bool.false_eq_true, if_false, Option.some.injEq, Prod.mk.injEq] at g2; obtain ⟨rfl, rfl, rfl, rfl, rfl⟩ := g2
   go_wp2
   (try simp only [Exit.inBlock, Exit.then])
   refine bodyPost_ret (results_list (rs := [.tmp 4, .tmp 5, .tmp 6, .tmp 7, .tmp 8]) rfl (by simp) (.tmp (.tmp (.tmp (.tmp (.tmp .nil)))))) rfl ?_
   exact ⟨rfl, HB2.out⟩
  | true =>
   simp only [if_true] at g2
   by_cases g : l1.length ≤ l0.length
   ·rw [if_pos g] at g2
    obtain ⟨s0, s1, s2, s3, hs⟩ : ∃ s0 s1 s2 s3, sumsTo l0 l1 l1.length = (s0, s1, s2, s3) := ⟨_, _, _, _, rfl⟩
    rw [hs] at g2; simp only [Option.some.injEq, Prod.mk.injEq] at g2; obtain ⟨rfl, rfl, rfl, rfl, rfl⟩ := g2; have hcall := impl_blendSums.callsO A0 c0 l0 A1 c1 l1 W2 (Kd.C_below HR0.out HB2.out) HC0.out (Kd.C_below HR1.out HB2.out) HC1.out g; rw [hs] at hcall; have HCA := Aside0.mk hcall; clear hcall g hs
    go_wp2_with (go_at_call 66; fail)
    refine HCA.out.mono ?_
    rintro e W3 ⟨rfl, hb⟩
    have HE : Aside0 (Below w.heap.size w (W3.alloc (.cells #[.int .i64 s0, .int .i64 s1, .int .i64 s2, .int .i64 s3] 88))) := ⟨(below_step HB2.out hb).alloc (below_step HB2.out hb).size _⟩; clear hb HB2 HCA; have hx0 : (W3.alloc (.cells #[.int .i64 s0, .int .i64 s1, .int .i64 s2, .int .i64 s3] 88)).cell? ⟨W3.heap.size, 0, none⟩ = some (.int .i64 s0) := (blk_cell (blk_new _ _) 0).trans rfl; have hx1 : (W3.alloc (.cells #[.int .i64 s0, .int .i64 s1, .int .i64 s2, .int .i64 s3] 88)).cell? ⟨W3.heap.size, 1, none⟩ = some (.int .i64 s1) := (blk_cell (blk_new _ _) 1).trans rfl; have hx2 : (W3.alloc (.cells #[.int .i64 s0, .int .i64 s1, .int .i64 s2, .int .i64 s3] 88)).cell? ⟨W3.heap.size, 2, none⟩ = some (.int .i64 s2) := (blk_cell (blk_new _ _) 2).trans rfl; have hx3 : (W3.alloc (.cells #[.int .i64 s0, .int .i64 s1, .int .i64 s2, .int .i64 s3] 88)).cell? ⟨W3.heap.size, 3, none⟩ = some (.int .i64 s3) := (blk_cell (blk_new _ _) 3).trans rfl
    go_wp2
    go_region
    go_wp2
    (try simp only [Exit.inBlock, Exit.then])
    refine bodyPost_ret (results_list (rs := [.tmp 4, .tmp 5, .tmp 6, .tmp 7, .tmp 8]) rfl (by simp) (.tmp (.tmp (.tmp (.tmp (.tmp .nil)))))) rfl ?_
    exact ⟨rfl, by (with_reducible repeat (first | refine below_drew ?_ | refine pw_below_drewN ?_ _)); exact HE.out⟩
   ·rw [if_neg g] at g2; cases g2


/-- A state of type 96 at block g of W; what its slices lead to came in by w0. -/
def IsS96 (w0 W : World) (g : Nat) (f0 : List Int) (f1 : Int) (f2 : Int) : Prop := ∃ A0 c0, W.heap[g]? = some (.cells #[.slice A0 f0.length c0, .int .i64 f1, .int .u64 f2] 96 (0, 0)) ∧ w0.heap.size ≤ g ∧ Kd.C (Kd.int .u8) w0 A0 f0.length f0
theorem IsS96.grown {w0 W : World} {g : Nat} {f0 : List Int} {f1 : Int} {f2 : Int} {W1 : World} {row : Option Nat} (h : IsS96 w0 W g f0 f1 f2) (hw : W.grownBy W1 row) (hne : some g ≠ row) : IsS96 w0 W1 g f0 f1 f2 := by
 obtain ⟨A0, c0, hb, hg, hr0⟩ := h
 exact ⟨A0, c0, blk_grown hb hw hne, hg, hr0⟩
theorem IsS96.kept {w0 W : World} {g : Nat} {f0 : List Int} {f1 : Int} {f2 : Int} {W1 : World} {S : Nat → Prop} (h : IsS96 w0 W g f0 f1 f2) (hk : Kept W W1 S) (hne : ¬ S g) : IsS96 w0 W1 g f0 f1 f2 := by
 obtain ⟨A0, c0, hb, hg, hr0⟩ := h
 exact ⟨A0, c0, blk_kept hb hk hne, hg, hr0⟩
theorem IsS96.below {w0 W : World} {g : Nat} {f0 : List Int} {f1 : Int} {f2 : Int} {W1 : World} (h : IsS96 w0 W g f0 f1 f2) (hw : Below W.heap.size W W1) : IsS96 w0 W1 g f0 f1 f2 := h.grown (grown_of_below hw none) (by simp)
theorem IsS96.alloc {w0 W : World} {g : Nat} {f0 : List Int} {f1 : Int} {f2 : Int} (h : IsS96 w0 W g f0 f1 f2) (o : Obj) : IsS96 w0 (W.alloc o) g f0 f1 f2 := h.below (below_alloc (Below.refl _ _) o)
theorem IsS96.drewN {w0 W : World} {g : Nat} {f0 : List Int} {f1 : Int} {f2 : Int} (h : IsS96 w0 W g f0 f1 f2) (m : Nat) : IsS96 w0 (W.drewN m) g f0 f1 f2 := h
theorem IsS96.drew {w0 W : World} {g : Nat} {f0 : List Int} {f1 : Int} {f2 : Int} (h : IsS96 w0 W g f0 f1 f2) : IsS96 w0 W.drew g f0 f1 f2 := h
theorem IsS96.at_ {w0 W : World} {g : Nat} {f0 : List Int} {f1 : Int} {f2 : Int} {w' : World} {m : Nat} (hq : W.drewN m = w') (h : IsS96 w0 W g f0 f1 f2) : IsS96 w0 w' g f0 f1 f2 := by subst hq; exact IsS96.drewN h m
theorem IsS96.apart {w0 W : World} {g : Nat} {f0 : List Int} {f1 : Int} {f2 : Int} {α : Type} {d : Kd α} {e : Nat} {base : Nat} {ok : Nat → Prop} {v : Value} {xs : List α} (h : IsS96 w0 W g f0 f1 f2) (ho : d.R e W base ok v xs) (ht : ∀ q, q ∈ e :: d.E → q ≠ 96) : d.R e W base (fun k => ok k ∧ k ≠ g) v xs := by
 obtain ⟨A0, c0, hb, hg, hr0⟩ := h
 exact Kd.R_types ho hb ht
theorem IsS96.own_ne {w0 W : World} {g : Nat} {f0 : List Int} {f1 : Int} {f2 : Int} {α : Type} {d : Kd α} {e : Nat} {base : Nat} {ok : Nat → Prop} {v : Value} {xs : List α} (h : IsS96 w0 W g f0 f1 f2) (ho : d.R e W base ok v xs) (ht : e ≠ 96) : some g ≠ v.ownBlock := by
 obtain ⟨A0, c0, hb, hg, hr0⟩ := h
 exact Kd.R_ne ho hb ht
theorem IsS96.lt {w0 W : World} {g : Nat} {f0 : List Int} {f1 : Int} {f2 : Int} (h : IsS96 w0 W g f0 f1 f2) : g < W.heap.size := by
 obtain ⟨A0, c0, hb, hg, hr0⟩ := h
 exact blk_lt hb
theorem IsS96.ge {w0 W : World} {g : Nat} {f0 : List Int} {f1 : Int} {f2 : Int} (h : IsS96 w0 W g f0 f1 f2) : w0.heap.size ≤ g := by
 obtain ⟨A0, c0, hb, hg, hr0⟩ := h
 exact hg
theorem IsS96.far {w0 W : World} {g : Nat} {f0 : List Int} {f1 : Int} {f2 : Int} {p : Addr} (h : IsS96 w0 W g f0 f1 f2) (hne : g ≠ p.block) (u : Value) : IsS96 w0 (W.setCell p u) g f0 f1 f2 := by
 obtain ⟨A0, c0, hb, hg, hr0⟩ := h
 exact ⟨A0, c0, blk_far hb hne u, hg, hr0⟩
theorem cellS96_0 {W : World} {g : Nat} {A0 : Option Addr} {c0 : Nat} {f0 : List Int} {f1 : Int} {f2 : Int} (h : W.heap[g]? = some (.cells #[.slice A0 f0.length c0, .int .i64 f1, .int .u64 f2] 96 (0, 0))) : W.cell? ⟨g, 0, none⟩ = some (.slice A0 f0.length c0) := (blk_cell h 0).trans rfl
theorem cellS96_1 {W : World} {g : Nat} {A0 : Option Addr} {c0 : Nat} {f0 : List Int} {f1 : Int} {f2 : Int} (h : W.heap[g]? = some (.cells #[.slice A0 f0.length c0, .int .i64 f1, .int .u64 f2] 96 (0, 0))) : W.cell? ⟨g, 1, none⟩ = some (.int .i64 f1) := (blk_cell h 1).trans rfl
theorem IsS96.set_1 {w0 W : World} {g : Nat} {f0 : List Int} {f1 : Int} {f2 : Int} (h : IsS96 w0 W g f0 f1 f2) (x : Int) : IsS96 w0 (W.setCell ⟨g, 1, none⟩ (.int .i64 x)) g f0 x f2 := by
 obtain ⟨A0, c0, hb, hg, hr0⟩ := h
 exact ⟨A0, c0, by simpa using blk_set hb 1 (.int .i64 x), hg, hr0⟩
theorem cellS96_2 {W : World} {g : Nat} {A0 : Option Addr} {c0 : Nat} {f0 : List Int} {f1 : Int} {f2 : Int} (h : W.heap[g]? = some (.cells #[.slice A0 f0.length c0, .int .i64 f1, .int .u64 f2] 96 (0, 0))) : W.cell? ⟨g, 2, none⟩ = some (.int .u64 f2) := (blk_cell h 2).trans rfl
theorem IsS96.set_2 {w0 W : World} {g : Nat} {f0 : List Int} {f1 : Int} {f2 : Int} (h : IsS96 w0 W g f0 f1 f2) (x : Int) : IsS96 w0 (W.setCell ⟨g, 2, none⟩ (.int .u64 x)) g f0 f1 x := by
 obtain ⟨A0, c0, hb, hg, hr0⟩ := h
 exact ⟨A0, c0, by simpa using blk_set hb 2 (.int .u64 x), hg, hr0⟩
theorem IsS96.new (w0 W : World) (A0 : Option Addr) (c0 : Nat) (f0 : List Int) (f1 : Int) (f2 : Int) (hB : Below w0.heap.size w0 W) (hr0 : Kd.C (Kd.int .u8) w0 A0 f0.length f0) : IsS96 w0 (W.alloc (.cells #[.slice A0 f0.length c0, .int .i64 f1, .int .u64 f2] 96)) W.heap.size f0 f1 f2 := ⟨A0, c0, by simpa using heap_alloc_new W _, hB.size, hr0⟩

/-! ### spec_l1Cur_next: function 85 -/
def spec_l1Cur_next.f (s0_0 : List Int) (s0_1 : Int) (s0_2 : Int) : Option (Int × Int × Int) := if s0_1 < (s0_0.length : Int) then (if 0 ≤ s0_1 then (if (wrap64 (s0_1 + 1)) ≤ (s0_0.length : Int) then (some (wrap64 (rd s0_0 s0_1), wrap64 (s0_1 + 1), IntKind.u64.wrap ((IntKind.u64.wrap ((IntKind.u64.wrap (s0_2 * 6364136223846793005)) + (IntKind.u64.wrap (wrap64 (rd s0_0 s0_1))))) + 1442695040888963407))) else (some (wrap64 (Go.bits .and .u64 ((IntKind.u64.wrap ((IntKind.u64.wrap ((IntKind.u64.wrap (s0_2 * 6364136223846793005)) + (IntKind.u64.wrap (wrap64 (rd s0_0 s0_1))))) + 1442695040888963407)) / 1099511627776) 255), wrap64 (s0_1 + 1), IntKind.u64.wrap ((IntKind.u64.wrap ((IntKind.u64.wrap (s0_2 * 6364136223846793005)) + (IntKind.u64.wrap (wrap64 (rd s0_0 s0_1))))) + 1442695040888963407)))) else (none)) else (if (wrap64 (s0_1 + 1)) ≤ (s0_0.length : Int) then (some (0, wrap64 (s0_1 + 1), IntKind.u64.wrap ((IntKind.u64.wrap ((IntKind.u64.wrap (s0_2 * 6364136223846793005)) + 0)) + 1442695040888963407))) else (some (wrap64 (Go.bits .and .u64 ((IntKind.u64.wrap ((IntKind.u64.wrap ((IntKind.u64.wrap (s0_2 * 6364136223846793005)) + 0)) + 1442695040888963407)) / 1099511627776) 255), wrap64 (s0_1 + 1), IntKind.u64.wrap ((IntKind.u64.wrap ((IntKind.u64.wrap (s0_2 * 6364136223846793005)) + 0)) + 1442695040888963407))))
set_option maxHeartbeats 8000000 in
set_option maxRecDepth 100000 in
theorem spec_l1Cur_next.calls (g : Nat) (s0_0 : List Int) (s0_1 : Int) (s0_2 : Int) (r1 : Int) (r2 : Int) (r3 : Int) (w0 w : World) (hI : IsS96 w0 w g s0_0 s0_1 s0_2) (hB : Below w0.heap.size w0 w) (h : spec_l1Cur_next.f s0_0 s0_1 s0_2 = some (r1, r2, r3)) :
  Calls Try.prog 85 #[.pointer (some ⟨g, 0, none⟩)] w fun e w' => e = .returned (.int .i64 r1) ∧ IsS96 w0 w' g s0_0 r2 r3 ∧ Below w0.heap.size w0 w' ∧ KeepBut w w' g none := by
 have HI0 := Aside0.mk hI
 have HK := am (KeepBut.refl w g none)
 have HL := Aside0.mk hB.size
 clear hI
 have HW0 := Aside0.mk hB.size
 have HB := Aside0.mk hB
 clear hB
 have H : (if s0_1 < (s0_0.length : Int) then (if 0 ≤ s0_1 then (if (wrap64 (s0_1 + 1)) ≤ (s0_0.length : Int) then (some (wrap64 (rd s0_0 s0_1), wrap64 (s0_1 + 1), IntKind.u64.wrap ((IntKind.u64.wrap ((IntKind.u64.wrap (s0_2 * 6364136223846793005)) + (IntKind.u64.wrap (wrap64 (rd s0_0 s0_1))))) + 1442695040888963407))) else (some (wrap64 (Go.bits .and .u64 ((IntKind.u64.wrap ((IntKind.u64.wrap ((IntKind.u64.wrap (s0_2 * 6364136223846793005)) + (IntKind.u64.wrap (wrap64 (rd s0_0 s0_1))))) + 1442695040888963407)) / 1099511627776) 255), wrap64 (s0_1 + 1), IntKind.u64.wrap ((IntKind.u64.wrap ((IntKind.u64.wrap (s0_2 * 6364136223846793005)) + (IntKind.u64.wrap (wrap64 (rd s0_0 s0_1))))) + 1442695040888963407)))) else (none)) else (if (wrap64 (s0_1 + 1)) ≤ (s0_0.length : Int) then (some (0, wrap64 (s0_1 + 1), IntKind.u64.wrap ((IntKind.u64.wrap ((IntKind.u64.wrap (s0_2 * 6364136223846793005)) + 0)) + 1442695040888963407))) else (some (wrap64 (Go.bits .and .u64 ((IntKind.u64.wrap ((IntKind.u64.wrap ((IntKind.u64.wrap (s0_2 * 6364136223846793005)) + 0)) + 1442695040888963407)) / 1099511627776) 255), wrap64 (s0_1 + 1), IntKind.u64.wrap ((IntKind.u64.wrap ((IntKind.u64.wrap (s0_2 * 6364136223846793005)) + 0)) + 1442695040888963407))))) = some (r1, r2, r3) := h
 clear h
 by_cases c2 : s0_1 < (s0_0.length : Int)
 ·rw [if_pos c2] at H
  have c2b0 : decide (s0_1 < (s0_0.length : Int)) = true := decide_eq_true c2
  clear c2
  by_cases c3 : 0 ≤ s0_1
  ·rw [if_pos c3] at H
   have c3b0 : decide (0 ≤ s0_1) = true := decide_eq_true c3; clear c3
   by_cases c4 : (wrap64 (s0_1 + 1)) ≤ (s0_0.length : Int)
   ·rw [if_pos c4] at H
    have c4b0 : decide ((wrap64 (s0_1 + 1)) ≤ (s0_0.length : Int)) = true := decide_eq_true c4; clear c4; simp only [Option.some.injEq, Prod.mk.injEq] at H; obtain ⟨rfl, rfl, rfl⟩ := H; obtain ⟨ASz5_0, cSz5_0, HGz5, hgz5, HSz5_0⟩ := HI0.out; have hcz5_0 := cellS96_0 HGz5; have hcz5_1 := cellS96_1 HGz5; have hcz5_2 := cellS96_2 HGz5; have hfz5_1 := blk_frozen HGz5 1; have hfz5_2 := blk_frozen HGz5 2; clear HGz5 hgz5; have p204 : 0 ≤ (s0_1 : Int) := odt; have q204 : s0_1 < (s0_0.length : Int) := odt; obtain ⟨ad204, e204, hx204_0⟩ := Kd.at_int HSz5_0 s0_1 p204 q204; cases e204; replace hx204_0 := pw_cell_below HB.out hx204_0; replace p204 := eq_true p204; replace q204 := eq_true q204
    go_enter Try.func85, Try.ntmps85
    go_wp2
    repeat (go_quiet (fail); try go_wp2)
    go_ret
    (try simp only [Int.add_zero])
    exact ⟨by first | rfl | (simp [errW_none, errW_some] <;> rfl) | (simp [*, errW_none, errW_some] <;> rfl), by repeat (first | (with_reducible first | exact HI0.out | apply IsS96.alloc | apply IsS96.drewN | apply IsS96.drew | apply IsS96.set_1 | apply IsS96.set_2) | exact HI0.out), by repeat (first | (with_reducible first | exact HB.out | apply ba | apply bn | apply below_drew1 | refine below_set ?_ (IsS96.ge HI0.out)) | exact HB.out), by repeat (first | (with_reducible first | exact HK.out | apply KeepBut.set_ | apply keep_drewN | apply keep_drew | apply keep_alloc) | exact HK.out)⟩
   ·rw [if_neg c4] at H
    have c4b0 : decide ((wrap64 (s0_1 + 1)) ≤ (s0_0.length : Int)) = false := decide_eq_false c4; clear c4; simp only [Option.some.injEq, Prod.mk.injEq] at H; obtain ⟨rfl, rfl, rfl⟩ := H; obtain ⟨ASz6_0, cSz6_0, HGz6, hgz6, HSz6_0⟩ := HI0.out; have hcz6_0 := cellS96_0 HGz6; have hcz6_1 := cellS96_1 HGz6; have hcz6_2 := cellS96_2 HGz6; have hfz6_1 := blk_frozen HGz6 1; have hfz6_2 := blk_frozen HGz6 2; clear HGz6 hgz6; have p204 : 0 ≤ (s0_1 : Int) := odt; have q204 : s0_1 < (s0_0.length : Int) := odt; obtain ⟨ad204, e204, hx204_0⟩ := Kd.at_int HSz6_0 s0_1 p204 q204; cases e204; replace hx204_0 := pw_cell_below HB.out hx204_0; replace p204 := eq_true p204; replace q204 := eq_true q204
    go_enter Try.func85, Try.ntmps85
    go_wp2
    repeat (go_quiet (fail); try go_wp2)
    go_ret
    (try simp only [Int.add_zero])
    exact ⟨by first | rfl | (simp [errW_none, errW_some] <;> rfl) | (simp [*, errW_none, errW_some] <;> rfl), by repeat (first | (with_reducible first | exact HI0.out | apply IsS96.alloc | apply IsS96.drewN | apply IsS96.drew | apply IsS96.set_1 | apply IsS96.set_2) | exact HI0.out), by repeat (first | (with_reducible first | exact HB.out | apply ba | apply bn | apply below_drew1 | refine below_set ?_ (IsS96.ge HI0.out)) | exact HB.out), by repeat (first | (with_reducible first | exact HK.out | apply KeepBut.set_ | apply keep_drewN | apply keep_drew | apply keep_alloc) | exact HK.out)⟩
  ·rw [if_neg c3] at H
   exact absurd H (by simp)
 ·rw [if_neg c2] at H
  have c2b0 : decide (s0_1 < (s0_0.length : Int)) = false := decide_eq_false c2
  clear c2
  by_cases c7 : (wrap64 (s0_1 + 1)) ≤ (s0_0.length : Int)
  ·rw [if_pos c7] at H
   have c7b0 : decide ((wrap64 (s0_1 + 1)) ≤ (s0_0.length : Int)) = true := decide_eq_true c7; clear c7; simp only [Option.some.injEq, Prod.mk.injEq] at H; obtain ⟨rfl, rfl, rfl⟩ := H; obtain ⟨ASz8_0, cSz8_0, HGz8, hgz8, HSz8_0⟩ := HI0.out; have hcz8_0 := cellS96_0 HGz8; have hcz8_1 := cellS96_1 HGz8; have hcz8_2 := cellS96_2 HGz8; have hfz8_1 := blk_frozen HGz8 1; have hfz8_2 := blk_frozen HGz8 2; clear HGz8 hgz8
   go_enter Try.func85, Try.ntmps85
   go_wp2
   repeat (go_quiet (fail); try go_wp2)
   go_ret
   (try simp only [Int.add_zero])
   exact ⟨by first | rfl | (simp [errW_none, errW_some] <;> rfl) | (simp [*, errW_none, errW_some] <;> rfl), by repeat (first | (with_reducible first | exact HI0.out | apply IsS96.alloc | apply IsS96.drewN | apply IsS96.drew | apply IsS96.set_1 | apply IsS96.set_2) | exact HI0.out), by repeat (first | (with_reducible first | exact HB.out | apply ba | apply bn | apply below_drew1 | refine below_set ?_ (IsS96.ge HI0.out)) | exact HB.out), by repeat (first | (with_reducible first | exact HK.out | apply KeepBut.set_ | apply keep_drewN | apply keep_drew | apply keep_alloc) | exact HK.out)⟩
  ·rw [if_neg c7] at H
   have c7b0 : decide ((wrap64 (s0_1 + 1)) ≤ (s0_0.length : Int)) = false := decide_eq_false c7; clear c7; simp only [Option.some.injEq, Prod.mk.injEq] at H; obtain ⟨rfl, rfl, rfl⟩ := H; obtain ⟨ASz9_0, cSz9_0, HGz9, hgz9, HSz9_0⟩ := HI0.out; have hcz9_0 := cellS96_0 HGz9; have hcz9_1 := cellS96_1 HGz9; have hcz9_2 := cellS96_2 HGz9; have hfz9_1 := blk_frozen HGz9 1; have hfz9_2 := blk_frozen HGz9 2; clear HGz9 hgz9
   go_enter Try.func85, Try.ntmps85
   go_wp2
   repeat (go_quiet (fail); try go_wp2)
   go_ret
   (try simp only [Int.add_zero])
   exact ⟨by first | rfl | (simp [errW_none, errW_some] <;> rfl) | (simp [*, errW_none, errW_some] <;> rfl), by repeat (first | (with_reducible first | exact HI0.out | apply IsS96.alloc | apply IsS96.drewN | apply IsS96.drew | apply IsS96.set_1 | apply IsS96.set_2) | exact HI0.out), by repeat (first | (with_reducible first | exact HB.out | apply ba | apply bn | apply below_drew1 | refine below_set ?_ (IsS96.ge HI0.out)) | exact HB.out), by repeat (first | (with_reducible first | exact HK.out | apply KeepBut.set_ | apply keep_drewN | apply keep_drew | apply keep_alloc) | exact HK.out)⟩

/-! ### spec_l1Cur_pick: function 84 -/
def spec_l1Cur_pick.f (s0_0 : List Int) (s0_1 : Int) (s0_2 : Int) (a1 : Int) : Option (Int × Int × Int) := if a1 ≤ 1 then (some (0, s0_1, s0_2)) else ((spec_l1Cur_next.f s0_0 s0_1 s0_2).bind fun bt205 => (if a1 > 200 then ((spec_l1Cur_next.f s0_0 bt205.2.1 bt205.2.2).bind fun bt208 => (if a1 = 0 then (none) else (some (Int.tmod (wrap64 ((wrap64 (bt205.1 * 256)) + bt208.1)) a1, bt208.2.1, bt208.2.2)))) else (if a1 = 0 then (none) else (some (Int.tmod bt205.1 a1, bt205.2.1, bt205.2.2)))))
set_option maxHeartbeats 8000000 in
set_option maxRecDepth 100000 in
theorem spec_l1Cur_pick.calls (g : Nat) (s0_0 : List Int) (s0_1 : Int) (s0_2 : Int) (a1 : Int) (r1 : Int) (r2 : Int) (r3 : Int) (w0 w : World) (hI : IsS96 w0 w g s0_0 s0_1 s0_2) (hB : Below w0.heap.size w0 w) (h : spec_l1Cur_pick.f s0_0 s0_1 s0_2 a1 = some (r1, r2, r3)) :
  Calls Try.prog 84 #[.pointer (some ⟨g, 0, none⟩), .int .i64 a1] w fun e w' => e = .returned (.int .i64 r1) ∧ IsS96 w0 w' g s0_0 r2 r3 ∧ Below w0.heap.size w0 w' ∧ KeepBut w w' g none := by
 have HI0 := Aside0.mk hI
 have HK := am (KeepBut.refl w g none)
 have HL := Aside0.mk hB.size
 clear hI
 have HW0 := Aside0.mk hB.size
 have HB := Aside0.mk hB
 clear hB
 have H : (if a1 ≤ 1 then (some (0, s0_1, s0_2)) else ((spec_l1Cur_next.f s0_0 s0_1 s0_2).bind fun bt205 => (if a1 > 200 then ((spec_l1Cur_next.f s0_0 bt205.2.1 bt205.2.2).bind fun bt208 => (if a1 = 0 then (none) else (some (Int.tmod (wrap64 ((wrap64 (bt205.1 * 256)) + bt208.1)) a1, bt208.2.1, bt208.2.2)))) else (if a1 = 0 then (none) else (some (Int.tmod bt205.1 a1, bt205.2.1, bt205.2.2)))))) = some (r1, r2, r3) := h
 clear h
 by_cases c3 : a1 ≤ 1
 ·rw [if_pos c3] at H
  have c3b0 : decide (a1 ≤ 1) = true := decide_eq_true c3
  clear c3
  simp only [Option.some.injEq, Prod.mk.injEq] at H
  obtain ⟨rfl, rfl, rfl⟩ := H
  go_enter Try.func84, Try.ntmps84
  go_wp2
  go_ret
  exact ⟨by first | rfl | (simp [errW_none, errW_some] <;> rfl) | (simp [*, errW_none, errW_some] <;> rfl), by repeat (first | (with_reducible first | exact HI0.out | apply IsS96.alloc | apply IsS96.drewN | apply IsS96.drew | apply IsS96.set_1 | apply IsS96.set_2) | exact HI0.out), by repeat (first | (with_reducible first | exact HB.out | apply ba | apply bn | apply below_drew1 | refine below_set ?_ (IsS96.ge HI0.out)) | exact HB.out), by repeat (first | (with_reducible first | exact HK.out | apply KeepBut.set_ | apply keep_drewN | apply keep_drew | apply keep_alloc) | exact HK.out)⟩
 ·rw [if_neg c3] at H
  have c3b0 : decide (a1 ≤ 1) = false := decide_eq_false c3
  clear c3
  replace H := Option.bind_eq_some_iff.mp H
  obtain ⟨⟨t205, t206, t207⟩, A40, H⟩ := H
  replace H : (if a1 > 200 then ((spec_l1Cur_next.f s0_0 t206 t207).bind fun bt208 => (if a1 = 0 then (none) else (some (Int.tmod (wrap64 ((wrap64 (t205 * 256)) + bt208.1)) a1, bt208.2.1, bt208.2.2)))) else (if a1 = 0 then (none) else (some (Int.tmod t205 a1, t206, t207)))) = some (r1, r2, r3) := H
  have A4 := Aside0.mk A40
  clear A40
  by_cases c5 : a1 > 200
  ·rw [if_pos c5] at H
   have c5b0 : decide (200 < a1) = true := decide_eq_true c5; clear c5; replace H := Option.bind_eq_some_iff.mp H; obtain ⟨⟨t208, t209, t210⟩, A60, H⟩ := H; replace H : (if a1 = 0 then (none) else (some (Int.tmod (wrap64 ((wrap64 (t205 * 256)) + t208)) a1, t209, t210))) = some (r1, r2, r3) := H; have A6 := Aside0.mk A60; clear A60
   by_cases c7 : a1 = 0
   ·rw [if_pos c7] at H
    exact absurd H (by simp)
   ·rw [if_neg c7] at H
    have c7b0 : (a1 == 0) = false := beq_eq_false_iff_ne.mpr c7; have c7b1 : (a1 != 0) = true := bne_iff_ne.mpr c7; simp only [Option.some.injEq, Prod.mk.injEq] at H; obtain ⟨rfl, rfl, rfl⟩ := H
    go_enter Try.func84, Try.ntmps84
    go_wp2_with (first | ((with_reducible refine gate_callee (f := 85) rfl ?_); refine goesL_ (some 9) rfl rfl Try.func85 (by kernel_rfl) rfl #[.pointer (some ⟨g, 0, none⟩)] rfl zb' ?_; (with_reducible refine (spec_l1Cur_next.calls g s0_0 s0_1 s0_2 t205 t206 t207 w0 _ ?side1 ?side2 A4.out).mono ?_); (case side1 => exact zd'); (case side2 => exact ze'); rintro e w8 ⟨rfl, hi, hb, hk⟩; refine ⟨_, rfl, ?_⟩; have n0_ := am (KeepBut.trans zc' hk (.inl rfl)); have n1_ := am (hb); have n2_ := am (hi); clear HK; clear HB; clear HI0; have HK := n0_; have HB := n1_; have HI0 := n2_; clear n0_ n1_ n2_; (try clear hb); (try clear hb2); (try clear hk); (try clear hi)) | ((with_reducible refine gate_callee (f := 85) rfl ?_); refine goesL_ (some 15) rfl rfl Try.func85 (by kernel_rfl) rfl #[.pointer (some ⟨g, 0, none⟩)] rfl zb' ?_; (with_reducible refine (spec_l1Cur_next.calls g s0_0 t206 t207 t208 t209 t210 w0 _ ?side1 ?side2 A6.out).mono ?_); (case side1 => exact zd'); (case side2 => exact ze'); rintro e w9 ⟨rfl, hi, hb, hk⟩; refine ⟨_, rfl, ?_⟩; have n0_ := am (KeepBut.trans zc' hk (.inl rfl)); have n1_ := am (hb); have n2_ := am (hi); clear HK; clear HB; clear HI0; have HK := n0_; have HB := n1_; have HI0 := n2_; clear n0_ n1_ n2_; (try clear hb); (try clear hb2); (try clear hk); (try clear hi)))
    go_ret
    exact ⟨by first | rfl | (simp [errW_none, errW_some] <;> rfl) | (simp [*, errW_none, errW_some] <;> rfl), by repeat (first | (with_reducible first | exact HI0.out | apply IsS96.alloc | apply IsS96.drewN | apply IsS96.drew | apply IsS96.set_1 | apply IsS96.set_2) | exact HI0.out), by repeat (first | (with_reducible first | exact HB.out | apply ba | apply bn | apply below_drew1 | refine below_set ?_ (IsS96.ge HI0.out)) | exact HB.out), by repeat (first | (with_reducible first | exact HK.out | apply KeepBut.set_ | apply keep_drewN | apply keep_drew | apply keep_alloc) | exact HK.out)⟩
  ·rw [if_neg c5] at H
   have c5b0 : decide (200 < a1) = false := decide_eq_false c5; clear c5
   by_cases c10 : a1 = 0
   ·rw [if_pos c10] at H
    exact absurd H (by simp)
   ·rw [if_neg c10] at H
    have c10b0 : (a1 == 0) = false := beq_eq_false_iff_ne.mpr c10; have c10b1 : (a1 != 0) = true := bne_iff_ne.mpr c10; simp only [Option.some.injEq, Prod.mk.injEq] at H; obtain ⟨rfl, rfl, rfl⟩ := H
    go_enter Try.func84, Try.ntmps84
    go_wp2_with (first | ((with_reducible refine gate_callee (f := 85) rfl ?_); refine goesL_ (some 9) rfl rfl Try.func85 (by kernel_rfl) rfl #[.pointer (some ⟨g, 0, none⟩)] rfl zb' ?_; (with_reducible refine (spec_l1Cur_next.calls g s0_0 s0_1 s0_2 t205 t206 t207 w0 _ ?side1 ?side2 A4.out).mono ?_); (case side1 => exact zd'); (case side2 => exact ze'); rintro e w11 ⟨rfl, hi, hb, hk⟩; refine ⟨_, rfl, ?_⟩; have n0_ := am (KeepBut.trans zc' hk (.inl rfl)); have n1_ := am (hb); have n2_ := am (hi); clear HK; clear HB; clear HI0; have HK := n0_; have HB := n1_; have HI0 := n2_; clear n0_ n1_ n2_; (try clear hb); (try clear hb2); (try clear hk); (try clear hi)))
    go_ret
    exact ⟨by first | rfl | (simp [errW_none, errW_some] <;> rfl) | (simp [*, errW_none, errW_some] <;> rfl), by repeat (first | (with_reducible first | exact HI0.out | apply IsS96.alloc | apply IsS96.drewN | apply IsS96.drew | apply IsS96.set_1 | apply IsS96.set_2) | exact HI0.out), by repeat (first | (with_reducible first | exact HB.out | apply ba | apply bn | apply below_drew1 | refine below_set ?_ (IsS96.ge HI0.out)) | exact HB.out), by repeat (first | (with_reducible first | exact HK.out | apply KeepBut.set_ | apply keep_drewN | apply keep_drew | apply keep_alloc) | exact HK.out)⟩

/-! ### spec_l1Cur_one: function 76 -/
def spec_l1Cur_one.f (s0_0 : List Int) (s0_1 : Int) (s0_2 : Int) (a1 : Int) : Option (Bool × Int × Int) := (spec_l1Cur_pick.f s0_0 s0_1 s0_2 a1).bind fun bt211 => (some ((bt211.1 == 0), bt211.2.1, bt211.2.2))
set_option maxHeartbeats 8000000 in
set_option maxRecDepth 100000 in
theorem spec_l1Cur_one.calls (g : Nat) (s0_0 : List Int) (s0_1 : Int) (s0_2 : Int) (a1 : Int) (r1 : Bool) (r2 : Int) (r3 : Int) (w0 w : World) (hI : IsS96 w0 w g s0_0 s0_1 s0_2) (hB : Below w0.heap.size w0 w) (h : spec_l1Cur_one.f s0_0 s0_1 s0_2 a1 = some (r1, r2, r3)) :
  Calls Try.prog 76 #[.pointer (some ⟨g, 0, none⟩), .int .i64 a1] w fun e w' => e = .returned (.bool r1) ∧ IsS96 w0 w' g s0_0 r2 r3 ∧ Below w0.heap.size w0 w' ∧ KeepBut w w' g none := by
 have HI0 := Aside0.mk hI
 have HK := am (KeepBut.refl w g none)
 have HL := Aside0.mk hB.size
 clear hI
 have HW0 := Aside0.mk hB.size
 have HB := Aside0.mk hB
 clear hB
 have H : ((spec_l1Cur_pick.f s0_0 s0_1 s0_2 a1).bind fun bt211 => (some ((bt211.1 == 0), bt211.2.1, bt211.2.2))) = some (r1, r2, r3) := h
 clear h
 replace H := Option.bind_eq_some_iff.mp H
 obtain ⟨⟨t211, t212, t213⟩, A30, H⟩ := H
 replace H : (some ((t211 == 0), t212, t213)) = some (r1, r2, r3) := H
 have A3 := Aside0.mk A30
 clear A30
 simp only [Option.some.injEq, Prod.mk.injEq] at H
 obtain ⟨rfl, rfl, rfl⟩ := H
 go_enter Try.func76, Try.ntmps76
 go_wp2_with (first | ((with_reducible refine gate_callee (f := 84) rfl ?_); refine goesL_ (some 7) rfl rfl Try.func84 (by kernel_rfl) rfl #[.pointer (some ⟨g, 0, none⟩), .int .i64 a1] rfl zb' ?_; (with_reducible refine (spec_l1Cur_pick.calls g s0_0 s0_1 s0_2 a1 t211 t212 t213 w0 _ ?side1 ?side2 A3.out).mono ?_); (case side1 => exact zd'); (case side2 => exact ze'); rintro e w4 ⟨rfl, hi, hb, hk⟩; refine ⟨_, rfl, ?_⟩; have n0_ := am (KeepBut.trans zc' hk (.inl rfl)); have n1_ := am (hb); have n2_ := am (hi); clear HK; clear HB; clear HI0; have HK := n0_; have HB := n1_; have HI0 := n2_; clear n0_ n1_ n2_; (try clear hb); (try clear hb2); (try clear hk); (try clear hi)))
 go_ret
 exact ⟨by first | rfl | (simp [errW_none, errW_some] <;> rfl) | (simp [*, errW_none, errW_some] <;> rfl), by repeat (first | (with_reducible first | exact HI0.out | apply IsS96.alloc | apply IsS96.drewN | apply IsS96.drew | apply IsS96.set_1 | apply IsS96.set_2) | exact HI0.out), by repeat (first | (with_reducible first | exact HB.out | apply ba | apply bn | apply below_drew1 | refine below_set ?_ (IsS96.ge HI0.out)) | exact HB.out), by repeat (first | (with_reducible first | exact HK.out | apply KeepBut.set_ | apply keep_drewN | apply keep_drew | apply keep_alloc) | exact HK.out)⟩

/-! ### spec_l1Cur_among: function 82 -/
def spec_l1Cur_among.f (s0_0 : List Int) (s0_1 : Int) (s0_2 : Int) (l1 : List Int) : Option (Int × Int × Int) := (spec_l1Cur_pick.f s0_0 s0_1 s0_2 (l1.length : Int)).bind fun bt214 => (if 0 ≤ bt214.1 then (if bt214.1 < (l1.length : Int) then (some (rd l1 bt214.1, bt214.2.1, bt214.2.2)) else (none)) else (none))
set_option maxHeartbeats 8000000 in
set_option maxRecDepth 100000 in
theorem spec_l1Cur_among.calls (g : Nat) (s0_0 : List Int) (s0_1 : Int) (s0_2 : Int) (A1 : Option Addr) (c1 : Nat) (l1 : List Int) (r1 : Int) (r2 : Int) (r3 : Int) (w0 w : World) (hI : IsS96 w0 w g s0_0 s0_1 s0_2) (hB : Below w0.heap.size w0 w) (hr1 : Kd.C (Kd.int .i64) w A1 l1.length l1) (hc1 : l1.length ≤ c1) (hf1 : ∀ ad, A1 = some ad → 0 < l1.length → ad.block ≠ g) (h : spec_l1Cur_among.f s0_0 s0_1 s0_2 l1 = some (r1, r2, r3)) :
  Calls Try.prog 82 #[.pointer (some ⟨g, 0, none⟩), .slice A1 l1.length c1] w fun e w' => e = .returned (.int .i64 r1) ∧ IsS96 w0 w' g s0_0 r2 r3 ∧ Below w0.heap.size w0 w' ∧ KeepBut w w' g none := by
 have HR1 := Aside0.mk hr1
 have HC1 := Aside0.mk hc1
 clear hr1 hc1
 have HI0 := Aside0.mk hI
 have HK := am (KeepBut.refl w g none)
 have HL := Aside0.mk hB.size
 clear hI
 have HW0 := Aside0.mk hB.size
 have HB := Aside0.mk hB
 clear hB
 have H : ((spec_l1Cur_pick.f s0_0 s0_1 s0_2 (l1.length : Int)).bind fun bt214 => (if 0 ≤ bt214.1 then (if bt214.1 < (l1.length : Int) then (some (rd l1 bt214.1, bt214.2.1, bt214.2.2)) else (none)) else (none))) = some (r1, r2, r3) := h
 clear h
 replace H := Option.bind_eq_some_iff.mp H
 obtain ⟨⟨t214, t215, t216⟩, A30, H⟩ := H
 replace H : (if 0 ≤ t214 then (if t214 < (l1.length : Int) then (some (rd l1 t214, t215, t216)) else (none)) else (none)) = some (r1, r2, r3) := H
 have A3 := Aside0.mk A30
 clear A30
 by_cases c4 : 0 ≤ t214
 ·rw [if_pos c4] at H
  have c4b0 : decide (0 ≤ t214) = true := decide_eq_true c4
  clear c4
  by_cases c5 : t214 < (l1.length : Int)
  ·rw [if_pos c5] at H
   have c5b0 : decide (t214 < (l1.length : Int)) = true := decide_eq_true c5; clear c5; simp only [Option.some.injEq, Prod.mk.injEq] at H; obtain ⟨rfl, rfl, rfl⟩ := H
   go_enter Try.func82, Try.ntmps82
   go_wp2_with (first | ((with_reducible refine gate_callee (f := 84) rfl ?_); refine goesL_ (some 9) rfl rfl Try.func84 (by kernel_rfl) rfl #[.pointer (some ⟨g, 0, none⟩), .int .i64 (l1.length : Int)] rfl zb' ?_; (with_reducible refine (spec_l1Cur_pick.calls g s0_0 s0_1 s0_2 (l1.length : Int) t214 t215 t216 w0 _ ?side1 ?side2 A3.out).mono ?_); (case side1 => exact zd'); (case side2 => exact ze'); rintro e w6 ⟨rfl, hi, hb, hk⟩; refine ⟨_, rfl, ?_⟩; have n0_ := am (KeepBut.trans zc' hk (.inl rfl)); have n1_ := am (hb); have n2_ := am (hi); clear HK; clear HB; clear HI0; have HK := n0_; have HB := n1_; have HI0 := n2_; clear n0_ n1_ n2_; (try clear hb); (try clear hb2); (try clear hk); (try clear hi); have p217 : 0 ≤ (t214 : Int) := odt; have q217 : t214 < (l1.length : Int) := odt; obtain ⟨ad217, e217, hx217_0⟩ := Kd.at_int HR1.out t214 p217 q217; cases e217; replace hx217_0 := keep_cell HK.out hx217_0 (by first | (rw [add_block]; exact hf1 _ rfl (by omega)) | exact hf1 _ rfl (by omega) | exact hf1 ad217 rfl (by omega)); replace p217 := eq_true p217; replace q217 := eq_true q217))
   go_ret
   exact ⟨by first | rfl | (simp [errW_none, errW_some] <;> rfl) | (simp [*, errW_none, errW_some] <;> rfl), by repeat (first | (with_reducible first | exact HI0.out | apply IsS96.alloc | apply IsS96.drewN | apply IsS96.drew | apply IsS96.set_1 | apply IsS96.set_2) | exact HI0.out), by repeat (first | (with_reducible first | exact HB.out | apply ba | apply bn | apply below_drew1 | refine below_set ?_ (IsS96.ge HI0.out)) | exact HB.out), by repeat (first | (with_reducible first | exact HK.out | apply KeepBut.set_ | apply keep_drewN | apply keep_drew | apply keep_alloc) | exact HK.out)⟩
  ·rw [if_neg c5] at H
   exact absurd H (by simp)
 ·rw [if_neg c4] at H
  exact absurd H (by simp)

end Go.Proofs.Ytcinecbfkeefaaa.PFnBlends
