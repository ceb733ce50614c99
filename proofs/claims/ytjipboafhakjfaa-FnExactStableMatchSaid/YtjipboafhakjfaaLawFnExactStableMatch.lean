/- THE ROW OF FnExactStableMatch: the law returns true for every input, and each argument reads afterwards as before. Out of the printed contract of the law's function and the pure statement proved in YtjipboafhakjfaaPureFnExactStableMatch. -/
import Derived.Test.YtjipboafhakjfaaRows
import Derived.Test.YtjipboafhakjfaaMFnExactStableMatch
import Derived.Test.YtjipboafhakjfaaPureFnExactStableMatch
import Derived.Test.YtjipboafhakjfaaOpen
import Derived.WalkKit
import Derived.ProofKit
import Derived.OpenShut
import Derived.ShutString
import Derived.ChangeOld
import Derived.Below
import Derived.SizedLaws
import Derived.Lib.SmallJoins
namespace Go.Proofs.Ytjipboafhakjfaa.fnExactStableMatch
open Go.ChangeShapes Go.WideShapes Go.ChangeAt Go.RowKit Go.Joins Go.Deep Go.Proofs.Ytjipboafhakjfaa.Open Go.Proofs.Ytjipboafhakjfaa.PFnExactStableMatch Go.Proofs.YtjipboafhakjfaaW.PrintWords
open Go.ChangeMaps (open_string shut_string)
set_option linter.unusedVariables false
set_option linter.unusedSimpArgs false
theorem own : ownKnob Try.prog.godebug = none := by kernel_rfl
theorem laidOut : laidOutB Try.prog = true := by kernel_rfl
set_option maxRecDepth 100000 in
theorem lifted (os : Os) (started : os.Started) (H : Type) (enc : TypeId × Value → H) :
    ReturnsInHanded {} Try.checked os 9 .any (Rows.fnExactStableMatchSpec.pre6 enc Try.prog Try.f9 Rows.fnExactStableMatchRow.domain false) (Rows.fnExactStableMatchSpec.post enc Try.prog Try.f9 false true false false) := by
  refine returnsInHanded_of_change_sized (C := Try.checked) own started (by kernel_rfl) Try.func9
    (ChangeSpec.witness6 (enc := enc) (C := Try.checked) false ⟨#[], #[.slice none 0 0, .slice none 0 0], []⟩ 8 (by kernel_rfl) (by kernel_rfl) (by kernel_rfl) (by kernel_rfl)) ?_
  intro W base args ds gs before hval0 hW hcnd hsz0 _
  have hsz : (DataW.weightsEach Try.prog (Try.f9.params.toList ++ Rows.fnExactStableMatchSpec.plain.varTypes Try.prog) (ds ++ gs)).all (· ≤ reachBytes) = true := hsz0
  have hval : ∀ (j : Nat) t v, Try.f9.params[j]? = some t → args[j]? = some v → Value.okWide Try.prog W .any base t v := hval0
  have hW' := hW
  obtain ⟨p, q, hA0, hV, rfl, hfz, hnd⟩ := hW
  have hA : DataW.TrodAll enc Try.prog W 0 (fun _ => true) true Try.f9.params.toList args.toList ds p := hA0
  rw [Try.params9] at hA hval hsz
  obtain ⟨v0, vs0, d0, ds0, p0, q0, hargs, rfl, rfl, h0, r0⟩ := trodAll_cons hA
  obtain ⟨v1, vs1, d1, ds1, p1, q1, rfl, rfl, rfl, h1, r1⟩ := trodAll_cons r0
  obtain ⟨rfl, rfl, rfl⟩ := trodAll_nil r1
  obtain rfl : args = #[v0, v1] := by cases args; simp_all
  obtain ⟨rfl, rfl⟩ := trodVars_none hV
  have k0 := h0
  have lt0 : ∀ x ∈ p0, x.block < W.heap.size := by obtain ⟨m, hm⟩ := k0; exact DataW.trod_lt m _ _ _ hm
  obtain ⟨A0, c0, l0, rfl, hc0, hm0, hr0, hw0⟩ := param_slice (Kd.slice 3 (Kd.int .i64)) (fun x : List _ => x.length ≤ maxLen ∧ ∀ z ∈ x, (fun x : Int => (Lit.int .i64 x).wf = true) z) Try.underlying22 (by kernel_rfl) (elem_slice (Kd.int .i64) (fun x : Int => (Lit.int .i64 x).wf = true) Try.underlying27 (by kernel_rfl) (elem_int Try.underlying3)) (hval 0 22 v0 rfl rfl) h0
  have k1 := h1
  have lt1 : ∀ x ∈ p1, x.block < W.heap.size := by obtain ⟨m, hm⟩ := k1; exact DataW.trod_lt m _ _ _ hm
  obtain ⟨A1, c1, l1, rfl, hc1, hm1, hr1, hw1⟩ := param_slice (Kd.slice 3 (Kd.int .i64)) (fun x : List _ => x.length ≤ maxLen ∧ ∀ z ∈ x, (fun x : Int => (Lit.int .i64 x).wf = true) z) Try.underlying22 (by kernel_rfl) (elem_slice (Kd.int .i64) (fun x : Int => (Lit.int .i64 x).wf = true) Try.underlying27 (by kernel_rfl) (elem_int Try.underlying3)) (hval 1 22 v1 rfl rfl) h1
  clear hA0 hval0 hsz0 hsz
  obtain ⟨k, hk⟩ := Pure.FnExactStableMatch l0 l1 (Nat.le_trans hc0 hm0) hw0 (Nat.le_trans hc1 hm1) hw1
  refine (MFnExactStableMatch.laws_FnExactStableMatch.calls k _ _ l0 _ _ l1 true W hr0 hc0 hr1 hc1 hk).mono fun e W' ⟨he, bel⟩ => ?_
  subst he
  exact ⟨_, rfl, _, _, _, [], _, [], hW', trodAll_mk1 (shut_bool Try.underlying4 _), (trodAll_cons_mk (Below.trod laidOut (by kernel_rfl) (of_decide_eq_true (by kernel_rfl)) k0 bel lt0) (trodAll_cons_mk (Below.trod laidOut (by kernel_rfl) (of_decide_eq_true (by kernel_rfl)) k1 bel lt1) trodAll_mk0)), rfl, bel.frame _, fun h => by cases h⟩
theorem over : Rows.fnExactStableMatchRow.holds Try.pinned (OpenSpec.ofChange Rows.fnExactStableMatchSpec) :=
  OpenClaim.holds_of_wide 9 Try.f9 rfl rfl rfl rfl rfl rfl rfl ⟨rfl, rfl, rfl, rfl, rfl⟩ rfl rfl rfl rfl rfl (by kernel_rfl) Try.func9 (by kernel_rfl)
    (of_decide_eq_true (by kernel_rfl)) (by unfold Func.isWrapper; first | (rw [if_pos (by decide +kernel)]; kernel_rfl) | (rw [if_neg (by decide +kernel)]; exact ⟨rfl, rfl⟩))
    (fun os started H enc _ => lifted os started H enc)
theorem proved : Rows.FnExactStableMatchSaid := over
#print axioms proved
end Go.Proofs.Ytjipboafhakjfaa.fnExactStableMatch
namespace Go.Proofs.Ytjipboafhakjfaa
/-- The row, under a short name, for the claim. -/
theorem fnExactStableMatch_holds : Rows.FnExactStableMatchSaid := fnExactStableMatch.proved
end Go.Proofs.Ytjipboafhakjfaa
