/- THE ROW OF FnExactNewYard: the law returns true for every input, and each argument reads afterwards as before. Out of the printed contract of the law's function and the pure statement proved in YtikbfnbfbpnmjaaPureFnExactNewYard. -/
import Derived.Test.YtikbfnbfbpnmjaaRows
import Derived.Test.YtikbfnbfbpnmjaaMFnExactNewYard
import Derived.Test.YtikbfnbfbpnmjaaPureFnExactNewYard
import Derived.Test.YtikbfnbfbpnmjaaOpen
import Derived.WalkKit
import Derived.ProofKit
import Derived.OpenShut
import Derived.ShutString
import Derived.ChangeOld
import Derived.Below
import Derived.SizedLaws
import Derived.Lib.SmallJoins
namespace Go.Proofs.Ytikbfnbfbpnmjaa.fnExactNewYard
open Go.ChangeShapes Go.WideShapes Go.ChangeAt Go.RowKit Go.Joins Go.Deep Go.Proofs.Ytikbfnbfbpnmjaa.Open Go.Proofs.Ytikbfnbfbpnmjaa.PFnExactNewYard Go.Proofs.YtikbfnbfbpnmjaaW.PrintWords
open Go.ChangeMaps (open_string shut_string)
set_option linter.unusedVariables false
set_option linter.unusedSimpArgs false
theorem own : ownKnob Try.prog.godebug = none := by kernel_rfl
theorem laidOut : laidOutB Try.prog = true := by kernel_rfl
set_option maxRecDepth 100000 in
theorem lifted (os : Os) (started : os.Started) (H : Type) (enc : TypeId × Value → H) :
    ReturnsInHanded {} Try.checked os 10 .any (Rows.fnExactNewYardSpec.pre6 enc Try.prog Try.f10 Rows.fnExactNewYardRow.domain false) (Rows.fnExactNewYardSpec.post enc Try.prog Try.f10 false true false false) := by
  refine returnsInHanded_of_change_sized (C := Try.checked) own started (by kernel_rfl) Try.func10
    (ChangeSpec.witness6 (enc := enc) (C := Try.checked) false ⟨#[], #[.agg #[.slice none 0 0, .slice none 0 0, .slice none 0 0, .int .i64 0, .int .i64 0], .int .i64 0], []⟩ 8 (by kernel_rfl) (by kernel_rfl) (by kernel_rfl) (by kernel_rfl)) ?_
  intro W base args ds gs before hval0 hW hcnd hsz0 _
  have hsz : (DataW.weightsEach Try.prog (Try.f10.params.toList ++ Rows.fnExactNewYardSpec.plain.varTypes Try.prog) (ds ++ gs)).all (· ≤ reachBytes) = true := hsz0
  have hval : ∀ (j : Nat) t v, Try.f10.params[j]? = some t → args[j]? = some v → Value.okWide Try.prog W .any base t v := hval0
  have hW' := hW
  obtain ⟨p, q, hA0, hV, rfl, hfz, hnd⟩ := hW
  have hA : DataW.TrodAll enc Try.prog W 0 (fun _ => true) true Try.f10.params.toList args.toList ds p := hA0
  rw [Try.params10] at hA hval hsz
  obtain ⟨v0, vs0, d0, ds0, p0, q0, hargs, rfl, rfl, h0, r0⟩ := trodAll_cons hA
  obtain ⟨v1, vs1, d1, ds1, p1, q1, rfl, rfl, rfl, h1, r1⟩ := trodAll_cons r0
  obtain ⟨rfl, rfl, rfl⟩ := trodAll_nil r1
  obtain rfl : args = #[v0, v1] := by cases args; simp_all
  obtain ⟨rfl, rfl⟩ := trodVars_none hV
  have k0 := h0
  have lt0 : ∀ x ∈ p0, x.block < W.heap.size := by obtain ⟨m, hm⟩ := k0; exact DataW.trod_lt m _ _ _ hm
  obtain ⟨cs0, rfl, hl0, hg0⟩ := param_struct Try.underlying24 (hval 0 24 v0 rfl rfl) h0
  obtain ⟨cl0⟩ := cs0
  obtain ⟨b0_0, b0_1, b0_2, b0_3, b0_4, hcl0⟩ := list5 (l := cl0) (hl0.trans (show Try.prog.cellsOf 24 = 5 from by kernel_rfl))
  subst hcl0
  obtain ⟨A0_0, c0_0, l0_0, rfl, hc0_0, hm0_0, hr0_0, hw0_0⟩ := field_slice (Kd.int .i64) (fun x : Int => (Lit.int .i64 x).wf = true) hg0 (j := 0) rfl (by kernel_rfl) Try.underlying22 (by kernel_rfl) (elem_int Try.underlying3) rfl
  obtain ⟨A0_1, c0_1, l0_1, rfl, hc0_1, hm0_1, hr0_1, hw0_1⟩ := field_slice (Kd.int .i64) (fun x : Int => (Lit.int .i64 x).wf = true) hg0 (j := 1) rfl (by kernel_rfl) Try.underlying22 (by kernel_rfl) (elem_int Try.underlying3) rfl
  obtain ⟨A0_2, c0_2, l0_2, rfl, hc0_2, hm0_2, hr0_2, hw0_2⟩ := field_slice (Kd.int .i64) (fun x : Int => (Lit.int .i64 x).wf = true) hg0 (j := 2) rfl (by kernel_rfl) Try.underlying22 (by kernel_rfl) (elem_int Try.underlying3) rfl
  obtain ⟨a0_3, rfl, w0_3⟩ := field_int hg0 (j := 3) rfl (by kernel_rfl) Try.underlying3 rfl
  obtain ⟨a0_4, rfl, w0_4⟩ := field_int hg0 (j := 4) rfl (by kernel_rfl) Try.underlying3 rfl
  have k1 := h1
  have lt1 : ∀ x ∈ p1, x.block < W.heap.size := by obtain ⟨m, hm⟩ := k1; exact DataW.trod_lt m _ _ _ hm
  obtain ⟨a1, rfl, _, _, w1⟩ := open_int Try.underlying3 (hval 1 3 v1 rfl rfl) h1
  clear hA0 hval0 hsz0 hsz
  obtain ⟨k, hk⟩ := Pure.FnExactNewYard l0_0 l0_1 l0_2 a0_3 a0_4 a1 (Nat.le_trans hc0_0 hm0_0) hw0_0 (Nat.le_trans hc0_1 hm0_1) hw0_1 (Nat.le_trans hc0_2 hm0_2) hw0_2 w0_3 w0_4 w1
  refine (MFnExactNewYard.laws_FnExactNewYard.calls k _ _ l0_0 _ _ l0_1 _ _ l0_2 a0_3 a0_4 a1 true W hr0_0 hc0_0 hr0_1 hc0_1 hr0_2 hc0_2 hk).mono fun e W' ⟨he, bel⟩ => ?_
  subst he
  exact ⟨_, rfl, _, _, _, [], _, [], hW', trodAll_mk1 (shut_bool Try.underlying4 _), (trodAll_cons_mk (Below.trod laidOut (by kernel_rfl) (of_decide_eq_true (by kernel_rfl)) k0 bel lt0) (trodAll_cons_mk (Below.trod laidOut (by kernel_rfl) (of_decide_eq_true (by kernel_rfl)) k1 bel lt1) trodAll_mk0)), rfl, bel.frame _, fun h => by cases h⟩
theorem over : Rows.fnExactNewYardRow.holds Try.pinned (OpenSpec.ofChange Rows.fnExactNewYardSpec) :=
  OpenClaim.holds_of_wide 10 Try.f10 rfl rfl rfl rfl rfl rfl rfl ⟨rfl, rfl, rfl, rfl, rfl⟩ rfl rfl rfl rfl rfl (by kernel_rfl) Try.func10 (by kernel_rfl)
    (of_decide_eq_true (by kernel_rfl)) (by unfold Func.isWrapper; first | (rw [if_pos (by decide +kernel)]; kernel_rfl) | (rw [if_neg (by decide +kernel)]; exact ⟨rfl, rfl⟩))
    (fun os started H enc _ => lifted os started H enc)
theorem proved : Rows.FnExactNewYardSaid := over
#print axioms proved
end Go.Proofs.Ytikbfnbfbpnmjaa.fnExactNewYard
namespace Go.Proofs.Ytikbfnbfbpnmjaa
/-- The row, under a short name, for the claim. -/
theorem fnExactNewYard_holds : Rows.FnExactNewYardSaid := fnExactNewYard.proved
end Go.Proofs.Ytikbfnbfbpnmjaa
