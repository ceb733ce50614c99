/- THE ROW OF FnExactCountStates: the law returns true for every input, and each argument reads afterwards as before. Out of the printed contract of the law's function and the pure statement proved in YtikbfnbfbpnmjaaPureFnExactCountStates. -/
import Derived.Test.YtikbfnbfbpnmjaaRows
import Derived.Test.YtikbfnbfbpnmjaaMFnExactCountStates
import Derived.Test.YtikbfnbfbpnmjaaPureFnExactCountStates
import Derived.Test.YtikbfnbfbpnmjaaOpen
import Derived.WalkKit
import Derived.ProofKit
import Derived.OpenShut
import Derived.ShutString
import Derived.ChangeOld
import Derived.Below
import Derived.SizedLaws
import Derived.Lib.SmallJoins
namespace Go.Proofs.Ytikbfnbfbpnmjaa.fnExactCountStates
open Go.ChangeShapes Go.WideShapes Go.ChangeAt Go.RowKit Go.Joins Go.Deep Go.Proofs.Ytikbfnbfbpnmjaa.Open Go.Proofs.Ytikbfnbfbpnmjaa.PFnExactCountStates Go.Proofs.YtikbfnbfbpnmjaaW.PrintWords
open Go.ChangeMaps (open_string shut_string)
set_option linter.unusedVariables false
set_option linter.unusedSimpArgs false
theorem own : ownKnob Try.prog.godebug = none := by kernel_rfl
theorem laidOut : laidOutB Try.prog = true := by kernel_rfl
theorem elem103 {H : Type} {enc : TypeId × Value → H} {w : World} {base : Nat} {spare : Nat → Bool} {held : Bool} (n : Nat) (cs : List Value) (y : DataW H × List MemPlace) (h : DataW.trod enc Try.prog w base spare held n 103 cs = some y) : ∃ x, k103.K w x cs ∧ (fun x : S103 => (Lit.int .i64 x.f0).wf = true ∧ (Lit.int .i64 x.f1).wf = true ∧ (Lit.int .i64 x.f2).wf = true) x := by
  obtain ⟨hl, hg⟩ := cells_struct Try.underlying103 h
  obtain ⟨b0, b1, b2, hcl⟩ := list3 (hl.trans (show Try.prog.cellsOf 103 = 3 from by kernel_rfl))
  subst hcl
  obtain ⟨a0, rfl, w0⟩ := field_int hg (j := 0) rfl (by kernel_rfl) Try.underlying3 rfl
  obtain ⟨a1, rfl, w1⟩ := field_int hg (j := 1) rfl (by kernel_rfl) Try.underlying3 rfl
  obtain ⟨a2, rfl, w2⟩ := field_int hg (j := 2) rfl (by kernel_rfl) Try.underlying3 rfl
  exact ⟨⟨a0, a1, a2⟩, k103_mk _ _, w0, w1, w2⟩
set_option maxRecDepth 100000 in
theorem lifted (os : Os) (started : os.Started) (H : Type) (enc : TypeId × Value → H) :
    ReturnsInHanded {} Try.checked os 8 .any (Rows.fnExactCountStatesSpec.pre6 enc Try.prog Try.f8 Rows.fnExactCountStatesRow.domain false) (Rows.fnExactCountStatesSpec.post enc Try.prog Try.f8 false true false false) := by
  refine returnsInHanded_of_change_sized (C := Try.checked) own started (by kernel_rfl) Try.func8
    (ChangeSpec.witness6 (enc := enc) (C := Try.checked) false ⟨#[], #[.agg #[.slice none 0 0, .slice none 0 0, .slice none 0 0, .int .i64 0, .int .i64 0, .slice none 0 0, .slice none 0 0, .slice none 0 0, .int .i64 0, .int .i64 0, .int .i64 0]], []⟩ 8 (by kernel_rfl) (by kernel_rfl) (by kernel_rfl) (by kernel_rfl)) ?_
  intro W base args ds gs before hval0 hW hcnd hsz0 _
  have hsz : (DataW.weightsEach Try.prog (Try.f8.params.toList ++ Rows.fnExactCountStatesSpec.plain.varTypes Try.prog) (ds ++ gs)).all (· ≤ reachBytes) = true := hsz0
  have hval : ∀ (j : Nat) t v, Try.f8.params[j]? = some t → args[j]? = some v → Value.okWide Try.prog W .any base t v := hval0
  have hW' := hW
  obtain ⟨p, q, hA0, hV, rfl, hfz, hnd⟩ := hW
  have hA : DataW.TrodAll enc Try.prog W 0 (fun _ => true) true Try.f8.params.toList args.toList ds p := hA0
  rw [Try.params8] at hA hval hsz
  obtain ⟨v0, vs0, d0, ds0, p0, q0, hargs, rfl, rfl, h0, r0⟩ := trodAll_cons hA
  obtain ⟨rfl, rfl, rfl⟩ := trodAll_nil r0
  obtain rfl : args = #[v0] := by cases args; simp_all
  obtain ⟨rfl, rfl⟩ := trodVars_none hV
  have k0 := h0
  have lt0 : ∀ x ∈ p0, x.block < W.heap.size := by obtain ⟨m, hm⟩ := k0; exact DataW.trod_lt m _ _ _ hm
  obtain ⟨cs0, rfl, hl0, hg0⟩ := param_struct Try.underlying39 (hval 0 39 v0 rfl rfl) h0
  obtain ⟨cl0⟩ := cs0
  obtain ⟨b0_0, b0_1, b0_2, b0_3, b0_4, b0_5, b0_6, b0_7, b0_8, b0_9, b0_10, hcl0⟩ := list11 (l := cl0) (hl0.trans (show Try.prog.cellsOf 39 = 11 from by kernel_rfl))
  subst hcl0
  have hs0_0 := field_struct hg0 (j := 0) rfl (m := 5) (by kernel_rfl) Try.underlying24 rfl
  obtain ⟨A0_0, c0_0, l0_0, rfl, hc0_0, hm0_0, hr0_0, hw0_0⟩ := field_slice (Kd.int .i64) (fun x : Int => (Lit.int .i64 x).wf = true) hs0_0 (j := 0) rfl (by kernel_rfl) Try.underlying22 (by kernel_rfl) (elem_int Try.underlying3) rfl
  obtain ⟨A0_1, c0_1, l0_1, rfl, hc0_1, hm0_1, hr0_1, hw0_1⟩ := field_slice (Kd.int .i64) (fun x : Int => (Lit.int .i64 x).wf = true) hs0_0 (j := 1) rfl (by kernel_rfl) Try.underlying22 (by kernel_rfl) (elem_int Try.underlying3) rfl
  obtain ⟨A0_2, c0_2, l0_2, rfl, hc0_2, hm0_2, hr0_2, hw0_2⟩ := field_slice (Kd.int .i64) (fun x : Int => (Lit.int .i64 x).wf = true) hs0_0 (j := 2) rfl (by kernel_rfl) Try.underlying22 (by kernel_rfl) (elem_int Try.underlying3) rfl
  obtain ⟨a0_3, rfl, w0_3⟩ := field_int hs0_0 (j := 3) rfl (by kernel_rfl) Try.underlying3 rfl
  obtain ⟨a0_4, rfl, w0_4⟩ := field_int hs0_0 (j := 4) rfl (by kernel_rfl) Try.underlying3 rfl
  obtain ⟨A0_5, c0_5, l0_5, rfl, hc0_5, hm0_5, hr0_5, hw0_5⟩ := field_slice k103 (fun x : S103 => (Lit.int .i64 x.f0).wf = true ∧ (Lit.int .i64 x.f1).wf = true ∧ (Lit.int .i64 x.f2).wf = true) hg0 (j := 1) rfl (by kernel_rfl) Try.underlying36 (by kernel_rfl) elem103 rfl
  obtain ⟨A0_6, c0_6, l0_6, rfl, hc0_6, hm0_6, hr0_6, hw0_6⟩ := field_slice (Kd.slice 3 (Kd.int .i64)) (fun x : List _ => x.length ≤ maxLen ∧ ∀ z ∈ x, (fun x : Int => (Lit.int .i64 x).wf = true) z) hg0 (j := 2) rfl (by kernel_rfl) Try.underlying37 (by kernel_rfl) (elem_slice (Kd.int .i64) (fun x : Int => (Lit.int .i64 x).wf = true) Try.underlying22 (by kernel_rfl) (elem_int Try.underlying3)) rfl
  obtain ⟨A0_7, c0_7, l0_7, rfl, hc0_7, hm0_7, hr0_7, hw0_7⟩ := field_slice (Kd.int .i64) (fun x : Int => (Lit.int .i64 x).wf = true) hg0 (j := 3) rfl (by kernel_rfl) Try.underlying22 (by kernel_rfl) (elem_int Try.underlying3) rfl
  obtain ⟨a0_8, rfl, w0_8⟩ := field_int hg0 (j := 4) rfl (by kernel_rfl) Try.underlying3 rfl
  obtain ⟨a0_9, rfl, w0_9⟩ := field_int hg0 (j := 5) rfl (by kernel_rfl) Try.underlying3 rfl
  obtain ⟨a0_10, rfl, w0_10⟩ := field_int hg0 (j := 6) rfl (by kernel_rfl) Try.underlying3 rfl
  clear hA0 hval0 hsz0 hsz
  obtain ⟨k, hk⟩ := Pure.FnExactCountStates l0_0 l0_1 l0_2 a0_3 a0_4 l0_5 l0_6 l0_7 a0_8 a0_9 a0_10 (Nat.le_trans hc0_0 hm0_0) hw0_0 (Nat.le_trans hc0_1 hm0_1) hw0_1 (Nat.le_trans hc0_2 hm0_2) hw0_2 w0_3 w0_4 (Nat.le_trans hc0_5 hm0_5) hw0_5 (Nat.le_trans hc0_6 hm0_6) hw0_6 (Nat.le_trans hc0_7 hm0_7) hw0_7 w0_8 w0_9 w0_10
  refine (MFnExactCountStates.laws_FnExactCountStates.calls k _ _ l0_0 _ _ l0_1 _ _ l0_2 a0_3 a0_4 _ _ l0_5 _ _ l0_6 _ _ l0_7 a0_8 a0_9 a0_10 true W hr0_0 hc0_0 hr0_1 hc0_1 hr0_2 hc0_2 hr0_5 hc0_5 hr0_6 hc0_6 hr0_7 hc0_7 hk).mono fun e W' ⟨he, bel⟩ => ?_
  subst he
  exact ⟨_, rfl, _, _, _, [], _, [], hW', trodAll_mk1 (shut_bool Try.underlying4 _), (trodAll_cons_mk (Below.trod laidOut (by kernel_rfl) (of_decide_eq_true (by kernel_rfl)) k0 bel lt0) trodAll_mk0), rfl, bel.frame _, fun h => by cases h⟩
theorem over : Rows.fnExactCountStatesRow.holds Try.pinned (OpenSpec.ofChange Rows.fnExactCountStatesSpec) :=
  OpenClaim.holds_of_wide 8 Try.f8 rfl rfl rfl rfl rfl rfl rfl ⟨rfl, rfl, rfl, rfl, rfl⟩ rfl rfl rfl rfl rfl (by kernel_rfl) Try.func8 (by kernel_rfl)
    (of_decide_eq_true (by kernel_rfl)) (by unfold Func.isWrapper; first | (rw [if_pos (by decide +kernel)]; kernel_rfl) | (rw [if_neg (by decide +kernel)]; exact ⟨rfl, rfl⟩))
    (fun os started H enc _ => lifted os started H enc)
theorem proved : Rows.FnExactCountStatesSaid := over
#print axioms proved
end Go.Proofs.Ytikbfnbfbpnmjaa.fnExactCountStates
namespace Go.Proofs.Ytikbfnbfbpnmjaa
/-- The row, under a short name, for the claim. -/
theorem fnExactCountStates_holds : Rows.FnExactCountStatesSaid := fnExactCountStates.proved
end Go.Proofs.Ytikbfnbfbpnmjaa
