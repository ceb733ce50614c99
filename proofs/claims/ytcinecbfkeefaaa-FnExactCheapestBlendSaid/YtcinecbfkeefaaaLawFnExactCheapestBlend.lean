/- THE ROW OF FnExactCheapestBlend: the law returns true for every input, and each argument reads afterwards as before. Out of the printed contract of the law's function and the pure statement proved in YtcinecbfkeefaaaPureFnExactCheapestBlend. -/
import Derived.Test.YtcinecbfkeefaaaRows
import Derived.Test.YtcinecbfkeefaaaPFnExactCheapestBlendx7
import Derived.Test.YtcinecbfkeefaaaPureFnExactCheapestBlend
import Derived.Test.YtcinecbfkeefaaaOpen
import Derived.WalkKit
import Derived.ProofKit
import Derived.OpenShut
import Derived.ShutString
import Derived.ChangeOld
import Derived.Below
import Derived.SizedLaws
import Derived.Lib.SmallJoins
namespace Go.Proofs.Ytcinecbfkeefaaa.fnExactCheapestBlend
open Go.ChangeShapes Go.WideShapes Go.ChangeAt Go.RowKit Go.Joins Go.Deep Go.Proofs.Ytcinecbfkeefaaa.Open Go.Proofs.Ytcinecbfkeefaaa.PFnExactCheapestBlend Go.Proofs.YtcinecbfkeefaaaW.PrintWords
open Go.ChangeMaps (open_string shut_string)
set_option linter.unusedVariables false
set_option linter.unusedSimpArgs false
theorem own : ownKnob Try.prog.godebug = none := by kernel_rfl
theorem laidOut : laidOutB Try.prog = true := by kernel_rfl
theorem elem75 {H : Type} {enc : TypeId × Value → H} {w : World} {base : Nat} {spare : Nat → Bool} {held : Bool} (n : Nat) (cs : List Value) (y : DataW H × List MemPlace) (h : DataW.trod enc Try.prog w base spare held n 75 cs = some y) : ∃ x, k75.K w x cs ∧ (fun x : S75 => (Lit.int .i64 x.f0).wf = true ∧ (Lit.int .i64 x.f1).wf = true ∧ (Lit.int .i64 x.f2).wf = true ∧ (Lit.int .i64 x.f3).wf = true) x := by
  obtain ⟨hl, hg⟩ := cells_struct Try.underlying75 h
  obtain ⟨b0, b1, b2, b3, hcl⟩ := list4 (hl.trans (show Try.prog.cellsOf 75 = 4 from by kernel_rfl))
  subst hcl
  obtain ⟨a0, rfl, w0⟩ := field_int hg (j := 0) rfl (by kernel_rfl) Try.underlying3 rfl
  obtain ⟨a1, rfl, w1⟩ := field_int hg (j := 1) rfl (by kernel_rfl) Try.underlying3 rfl
  obtain ⟨a2, rfl, w2⟩ := field_int hg (j := 2) rfl (by kernel_rfl) Try.underlying3 rfl
  obtain ⟨a3, rfl, w3⟩ := field_int hg (j := 3) rfl (by kernel_rfl) Try.underlying3 rfl
  exact ⟨⟨a0, a1, a2, a3⟩, k75_mk _ _, w0, w1, w2, w3⟩
set_option maxRecDepth 100000 in
theorem lifted (os : Os) (started : os.Started) (H : Type) (enc : TypeId × Value → H) :
    ReturnsInHanded {} Try.checked os 7 .any (Rows.fnExactCheapestBlendSpec.pre6 enc Try.prog Try.f7 Rows.fnExactCheapestBlendRow.domain false) (Rows.fnExactCheapestBlendSpec.post enc Try.prog Try.f7 false true false false) := by
  refine returnsInHanded_of_change_sized (C := Try.checked) own started (by kernel_rfl) Try.func7
    (ChangeSpec.witness6 (enc := enc) (C := Try.checked) false ⟨#[], #[.slice none 0 0, .agg #[.int .i64 0, .int .i64 0, .int .i64 0, .int .i64 0]], []⟩ 8 (by kernel_rfl) (by kernel_rfl) (by kernel_rfl) (by kernel_rfl)) ?_
  intro W base args ds gs before hval0 hW hcnd hsz0 _
  have hsz : (DataW.weightsEach Try.prog (Try.f7.params.toList ++ Rows.fnExactCheapestBlendSpec.plain.varTypes Try.prog) (ds ++ gs)).all (· ≤ reachBytes) = true := hsz0
  have hval : ∀ (j : Nat) t v, Try.f7.params[j]? = some t → args[j]? = some v → Value.okWide Try.prog W .any base t v := hval0
  have hW' := hW
  obtain ⟨p, q, hA0, hV, rfl, hfz, hnd⟩ := hW
  have hA : DataW.TrodAll enc Try.prog W 0 (fun _ => true) true Try.f7.params.toList args.toList ds p := hA0
  rw [Try.params7] at hA hval hsz
  obtain ⟨v0, vs0, d0, ds0, p0, q0, hargs, rfl, rfl, h0, r0⟩ := trodAll_cons hA
  obtain ⟨v1, vs1, d1, ds1, p1, q1, rfl, rfl, rfl, h1, r1⟩ := trodAll_cons r0
  obtain ⟨rfl, rfl, rfl⟩ := trodAll_nil r1
  obtain rfl : args = #[v0, v1] := by cases args; simp_all
  obtain ⟨rfl, rfl⟩ := trodVars_none hV
  have k0 := h0
  have lt0 : ∀ x ∈ p0, x.block < W.heap.size := by obtain ⟨m, hm⟩ := k0; exact DataW.trod_lt m _ _ _ hm
  obtain ⟨A0, c0, l0, rfl, hc0, hm0, hr0, hw0⟩ := param_slice k75 (fun x : S75 => (Lit.int .i64 x.f0).wf = true ∧ (Lit.int .i64 x.f1).wf = true ∧ (Lit.int .i64 x.f2).wf = true ∧ (Lit.int .i64 x.f3).wf = true) Try.underlying28 (by kernel_rfl) elem75 (hval 0 28 v0 rfl rfl) h0
  have k1 := h1
  have lt1 : ∀ x ∈ p1, x.block < W.heap.size := by obtain ⟨m, hm⟩ := k1; exact DataW.trod_lt m _ _ _ hm
  obtain ⟨cs1, rfl, hl1, hg1⟩ := param_struct Try.underlying42 (hval 1 42 v1 rfl rfl) h1
  obtain ⟨cl1⟩ := cs1
  obtain ⟨b1_0, b1_1, b1_2, b1_3, hcl1⟩ := list4 (l := cl1) (hl1.trans (show Try.prog.cellsOf 42 = 4 from by kernel_rfl))
  subst hcl1
  obtain ⟨a1_0, rfl, w1_0⟩ := field_int hg1 (j := 0) rfl (by kernel_rfl) Try.underlying3 rfl
  obtain ⟨a1_1, rfl, w1_1⟩ := field_int hg1 (j := 1) rfl (by kernel_rfl) Try.underlying3 rfl
  obtain ⟨a1_2, rfl, w1_2⟩ := field_int hg1 (j := 2) rfl (by kernel_rfl) Try.underlying3 rfl
  obtain ⟨a1_3, rfl, w1_3⟩ := field_int hg1 (j := 3) rfl (by kernel_rfl) Try.underlying3 rfl
  clear hA0 hval0 hsz0 hsz
  obtain ⟨k, hk⟩ := Pure.FnExactCheapestBlend l0 a1_0 a1_1 a1_2 a1_3 (Nat.le_trans hc0 hm0) hw0 w1_0 w1_1 w1_2 w1_3
  refine (PFnExactCheapestBlend.laws_FnExactCheapestBlend.calls k _ _ l0 a1_0 a1_1 a1_2 a1_3 true W hr0 hc0 hk).mono fun e W' ⟨he, bel⟩ => ?_
  subst he
  exact ⟨_, rfl, _, _, _, [], _, [], hW', trodAll_mk1 (shut_bool Try.underlying4 _), (trodAll_cons_mk (Below.trod laidOut (by kernel_rfl) (of_decide_eq_true (by kernel_rfl)) k0 bel lt0) (trodAll_cons_mk (Below.trod laidOut (by kernel_rfl) (of_decide_eq_true (by kernel_rfl)) k1 bel lt1) trodAll_mk0)), rfl, bel.frame _, fun h => by cases h⟩
theorem over : Rows.fnExactCheapestBlendRow.holds Try.pinned (OpenSpec.ofChange Rows.fnExactCheapestBlendSpec) :=
  OpenClaim.holds_of_wide 7 Try.f7 rfl rfl rfl rfl rfl rfl rfl ⟨rfl, rfl, rfl, rfl, rfl⟩ rfl rfl rfl rfl rfl (by kernel_rfl) Try.func7 (by kernel_rfl)
    (of_decide_eq_true (by kernel_rfl)) (by unfold Func.isWrapper; first | (rw [if_pos (by decide +kernel)]; kernel_rfl) | (rw [if_neg (by decide +kernel)]; exact ⟨rfl, rfl⟩))
    (fun os started H enc _ => lifted os started H enc)
theorem proved : Rows.FnExactCheapestBlendSaid := over
#print axioms proved
end Go.Proofs.Ytcinecbfkeefaaa.fnExactCheapestBlend
namespace Go.Proofs.Ytcinecbfkeefaaa
/-- The row, under a short name, for the claim. -/
theorem fnExactCheapestBlend_holds : Rows.FnExactCheapestBlendSaid := fnExactCheapestBlend.proved
end Go.Proofs.Ytcinecbfkeefaaa
