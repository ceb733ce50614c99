/- THE ROW OF FnExactIsMachine: the law returns true for every input, and each argument reads afterwards as before. Out of the printed contract of the law's function and the pure statement proved in YtcinecbfkeefaaaPureFnExactIsMachine. -/
import Derived.Test.YtcinecbfkeefaaaRows
import Derived.Test.YtcinecbfkeefaaaPFnExactIsMachinex1
import Derived.Test.YtcinecbfkeefaaaPureFnExactIsMachine
import Derived.Test.YtcinecbfkeefaaaOpen
import Derived.WalkKit
import Derived.ProofKit
import Derived.OpenShut
import Derived.ShutString
import Derived.ChangeOld
import Derived.Below
import Derived.SizedLaws
import Derived.Lib.SmallJoins
namespace Go.Proofs.Ytcinecbfkeefaaa.fnExactIsMachine
open Go.ChangeShapes Go.WideShapes Go.ChangeAt Go.RowKit Go.Joins Go.Deep Go.Proofs.Ytcinecbfkeefaaa.Open Go.Proofs.Ytcinecbfkeefaaa.PFnExactIsMachine Go.Proofs.YtcinecbfkeefaaaW.PrintWords
open Go.ChangeMaps (open_string shut_string)
set_option linter.unusedVariables false
set_option linter.unusedSimpArgs false
theorem own : ownKnob Try.prog.godebug = none := by kernel_rfl
theorem laidOut : laidOutB Try.prog = true := by kernel_rfl
set_option maxRecDepth 100000 in
theorem lifted (os : Os) (started : os.Started) (H : Type) (enc : TypeId × Value → H) :
    ReturnsInHanded {} Try.checked os 3 .any (Rows.fnExactIsMachineSpec.pre6 enc Try.prog Try.f3 Rows.fnExactIsMachineRow.domain false) (Rows.fnExactIsMachineSpec.post enc Try.prog Try.f3 false true false false) := by
  refine returnsInHanded_of_change_sized (C := Try.checked) own started (by kernel_rfl) Try.func3
    (ChangeSpec.witness6 (enc := enc) (C := Try.checked) false ⟨#[], #[.agg #[.int .i64 0, .int .i64 0, .bool false]], []⟩ 8 (by kernel_rfl) (by kernel_rfl) (by kernel_rfl) (by kernel_rfl)) ?_
  intro W base args ds gs before hval0 hW hcnd hsz0 _
  have hsz : (DataW.weightsEach Try.prog (Try.f3.params.toList ++ Rows.fnExactIsMachineSpec.plain.varTypes Try.prog) (ds ++ gs)).all (· ≤ reachBytes) = true := hsz0
  have hval : ∀ (j : Nat) t v, Try.f3.params[j]? = some t → args[j]? = some v → Value.okWide Try.prog W .any base t v := hval0
  have hW' := hW
  obtain ⟨p, q, hA0, hV, rfl, hfz, hnd⟩ := hW
  have hA : DataW.TrodAll enc Try.prog W 0 (fun _ => true) true Try.f3.params.toList args.toList ds p := hA0
  rw [Try.params3] at hA hval hsz
  obtain ⟨v0, vs0, d0, ds0, p0, q0, hargs, rfl, rfl, h0, r0⟩ := trodAll_cons hA
  obtain ⟨rfl, rfl, rfl⟩ := trodAll_nil r0
  obtain rfl : args = #[v0] := by cases args; simp_all
  obtain ⟨rfl, rfl⟩ := trodVars_none hV
  have k0 := h0
  have lt0 : ∀ x ∈ p0, x.block < W.heap.size := by obtain ⟨m, hm⟩ := k0; exact DataW.trod_lt m _ _ _ hm
  obtain ⟨cs0, rfl, hl0, hg0⟩ := param_struct Try.underlying23 (hval 0 23 v0 rfl rfl) h0
  obtain ⟨cl0⟩ := cs0
  obtain ⟨b0_0, b0_1, b0_2, hcl0⟩ := list3 (l := cl0) (hl0.trans (show Try.prog.cellsOf 23 = 3 from by kernel_rfl))
  subst hcl0
  obtain ⟨a0_0, rfl, w0_0⟩ := field_int hg0 (j := 0) rfl (by kernel_rfl) Try.underlying3 rfl
  obtain ⟨a0_1, rfl, w0_1⟩ := field_int hg0 (j := 1) rfl (by kernel_rfl) Try.underlying3 rfl
  obtain ⟨a0_2, rfl⟩ := field_bool hg0 (j := 2) rfl (by kernel_rfl) Try.underlying4 rfl
  clear hA0 hval0 hsz0 hsz
  have hk := Pure.FnExactIsMachine a0_0 a0_1 a0_2 w0_0 w0_1
  refine (PFnExactIsMachine.laws_FnExactIsMachine.calls a0_0 a0_1 a0_2 true W  hk).mono fun e W' ⟨he, bel⟩ => ?_
  subst he
  exact ⟨_, rfl, _, _, _, [], _, [], hW', trodAll_mk1 (shut_bool Try.underlying4 _), (trodAll_cons_mk (Below.trod laidOut (by kernel_rfl) (of_decide_eq_true (by kernel_rfl)) k0 bel lt0) trodAll_mk0), rfl, bel.frame _, fun h => by cases h⟩
theorem over : Rows.fnExactIsMachineRow.holds Try.pinned (OpenSpec.ofChange Rows.fnExactIsMachineSpec) :=
  OpenClaim.holds_of_wide 3 Try.f3 rfl rfl rfl rfl rfl rfl rfl ⟨rfl, rfl, rfl, rfl, rfl⟩ rfl rfl rfl rfl rfl (by kernel_rfl) Try.func3 (by kernel_rfl)
    (of_decide_eq_true (by kernel_rfl)) (by unfold Func.isWrapper; first | (rw [if_pos (by decide +kernel)]; kernel_rfl) | (rw [if_neg (by decide +kernel)]; exact ⟨rfl, rfl⟩))
    (fun os started H enc _ => lifted os started H enc)
theorem proved : Rows.FnExactIsMachineSaid := over
#print axioms proved
end Go.Proofs.Ytcinecbfkeefaaa.fnExactIsMachine
namespace Go.Proofs.Ytcinecbfkeefaaa
/-- The row, under a short name, for the claim. -/
theorem fnExactIsMachine_holds : Rows.FnExactIsMachineSaid := fnExactIsMachine.proved
end Go.Proofs.Ytcinecbfkeefaaa
