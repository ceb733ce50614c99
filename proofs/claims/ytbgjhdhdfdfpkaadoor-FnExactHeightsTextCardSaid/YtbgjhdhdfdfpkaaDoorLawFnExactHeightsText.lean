/- THE ROW OF FnExactHeightsText: the law returns true for every input, and each argument reads afterwards as before. Out of the printed contract of the law's function and the pure statement proved in YtbgjhdhdfdfpkaaDoorPureFnExactHeightsText. -/
import Derived.Test.YtbgjhdhdfdfpkaaDoorRows
import Derived.Test.YtbgjhdhdfdfpkaaDoorPFnExactHeightsTextx4
import Derived.Test.YtbgjhdhdfdfpkaaDoorPureFnExactHeightsText
import Derived.Test.YtbgjhdhdfdfpkaaDoorOpen
import Derived.WalkKit
import Derived.ProofKit
import Derived.OpenShut
import Derived.ShutString
import Derived.ChangeOld
import Derived.Below
import Derived.SizedLaws
import Derived.Lib.SmallJoins
import Derived.LaidLaws
import Derived.Handed
import Derived.ChangeVars
import Derived.Laws.IdiomArrays
import Derived.SevenTiedAt
import Derived.Stop.LaidErr
import Derived.Lib.LaidTab
import Derived.Test.YtbgjhdhdfdfpkaaDoorTie
import Derived.Test.YtbgjhdhdfdfpkaaDoorCards
namespace Go.Proofs.YtbgjhdhdfdfpkaaDoor.fnExactHeightsText
open Go.ChangeShapes Go.WideShapes Go.ChangeAt Go.RowKit Go.Joins Go.Deep Go.Proofs.YtbgjhdhdfdfpkaaDoor.Open Go.Proofs.YtbgjhdhdfdfpkaaDoor.PFnExactHeightsText Go.Proofs.YtbgjhdhdfdfpkaaDoorW.PrintWords
open Go.ChangeMaps (open_string shut_string)
set_option linter.unusedVariables false
set_option linter.unusedSimpArgs false
theorem own : ownKnob Tryd.prog.godebug = none := by kernel_rfl
theorem laidOut : laidOutB Tryd.prog = true := by kernel_rfl
/-- From what is laid. -/
theorem laid_of {W : World} (h : laidMet Tryd.prog Rows.fnExactHeightsTextRow.laid W) : Laid W := Lib.tabIs_of_head (name := "internal/strconv.uint64pow10") (k := .u64) (zs := Lib.pow10Tab) (g := 1) (by kernel_rfl) (by kernel_rfl) Tryd.underlying117 Tryd.underlying77 (by kernel_rfl) (by kernel_rfl) (laidMet.tail (laidMet.tail (h)))
/-- A table's cells. -/
def litsOf : DataW Unit → Array Value
  | .agg l => (l.map fun x => match x with | .lit (.int k z) => Value.int k z | _ => Value.int .u8 0).toArray
  | _ => #[]
/-- The settled world, the tables laid. -/
noncomputable def sideWorld (os : Os) : World :=
  let w0 := World.holding Tryd.prog os ⟨#[], #[], []⟩
  { w0 with heap := (((w0.heap).modify 3 fun
      | .cells _ t frozen => .cells (litsOf Rows.laid_math_bits_deBruijn32tab) t frozen
      | o => o).modify 4 fun
      | .cells _ t frozen => .cells (litsOf Rows.laid_math_bits_deBruijn64tab) t frozen
      | o => o).modify 1 fun
      | .cells _ t frozen => .cells (litsOf Rows.laid_internal_strconv_uint64pow10) t frozen
      | o => o }
theorem laid_met (os : Os) (args : Array Value) : laidMet Tryd.prog Rows.fnExactHeightsTextRow.laid ((sideWorld os).forCall (fun _ _ => 0) ⟨#[], args, []⟩).memory :=
  laidMet_of_run' 8 (by kernel_rfl) (by kernel_rfl)
set_option maxRecDepth 100000 in
theorem lifted (os : Os) (started : os.Started) (H : Type) (enc : TypeId × Value → H) :
    ReturnsInHanded {} Tryd.checked os 7 .any (fun w args => (Rows.fnExactHeightsTextSpec.pre enc Tryd.prog Tryd.f7 Rows.fnExactHeightsTextRow.domain false w args ∧ laidMet Tryd.prog Rows.fnExactHeightsTextRow.laid w) ∧ sizedMet enc Tryd.prog Tryd.f7 (OpenSpec.ofChange Rows.fnExactHeightsTextSpec) false w args) (Rows.fnExactHeightsTextSpec.post enc Tryd.prog Tryd.f7 false true false false) := by
  refine returnsInHanded_of_change_and (C := Tryd.checked) (X := fun w _ => laidMet Tryd.prog Rows.fnExactHeightsTextRow.laid w) (fun _ _ _ hh h => h.of_heap hh) own started (by kernel_rfl) Tryd.func7
    (ChangeSpec.witness_at (enc := enc) (C := Tryd.checked) (os := os) (X := fun w _ => laidMet Tryd.prog Rows.fnExactHeightsTextRow.laid w) false (sideWorld os) #[.agg #[.int .i64 0, .int .i64 0, .slice none 0 0, .int .i64 0, .int .i64 0, .int .i64 0, .int .i64 0]] 8 rfl (by kernel_rfl) (by kernel_rfl) (by kernel_rfl) (by kernel_rfl) (by kernel_rfl) (laid_met os _)) ?_
  intro W base args ds gs before hval0 hW hcnd hsz0 hL _
  have hval : ∀ (j : Nat) t v, Tryd.f7.params[j]? = some t → args[j]? = some v → Value.okWide Tryd.prog W .any base t v := hval0
  have hW' := hW
  obtain ⟨p, q, hA0, hV, rfl, hfz, hnd⟩ := hW
  have hA : DataW.TrodAll enc Tryd.prog W 0 (fun _ => true) true Tryd.f7.params.toList args.toList ds p := hA0
  rw [Tryd.params7] at hA hval
  obtain ⟨v0, vs0, d0, ds0, p0, q0, hargs, rfl, rfl, h0, r0⟩ := trodAll_cons hA
  obtain ⟨rfl, rfl, rfl⟩ := trodAll_nil r0
  obtain rfl : args = #[v0] := by cases args; simp_all
  obtain ⟨rfl, rfl⟩ := trodVars_none hV
  have hG := laid_of hL
  have k0 := h0
  have lt0 : ∀ x ∈ p0, x.block < W.heap.size := by obtain ⟨m, hm⟩ := k0; exact DataW.trod_lt m _ _ _ hm
  obtain ⟨cs0, rfl, hl0, hg0⟩ := param_struct Tryd.underlying24 (hval 0 24 v0 rfl rfl) h0
  obtain ⟨cl0⟩ := cs0
  obtain ⟨b0_0, b0_1, b0_2, b0_3, b0_4, b0_5, b0_6, hcl0⟩ := list7 (l := cl0) (hl0.trans (show Tryd.prog.cellsOf 24 = 7 from by kernel_rfl))
  subst hcl0
  obtain ⟨a0_0, rfl, w0_0⟩ := field_int hg0 (j := 0) rfl (by kernel_rfl) Tryd.underlying3 rfl
  obtain ⟨a0_1, rfl, w0_1⟩ := field_int hg0 (j := 1) rfl (by kernel_rfl) Tryd.underlying3 rfl
  obtain ⟨A0_2, c0_2, l0_2, rfl, hc0_2, hm0_2, hr0_2, hw0_2⟩ := field_slice (Kd.int .i64) (fun x : Int => (Lit.int .i64 x).wf = true) hg0 (j := 2) rfl (by kernel_rfl) Tryd.underlying22 (by kernel_rfl) (elem_int Tryd.underlying3) rfl
  obtain ⟨a0_3, rfl, w0_3⟩ := field_int hg0 (j := 3) rfl (by kernel_rfl) Tryd.underlying3 rfl
  obtain ⟨a0_4, rfl, w0_4⟩ := field_int hg0 (j := 4) rfl (by kernel_rfl) Tryd.underlying3 rfl
  obtain ⟨a0_5, rfl, w0_5⟩ := field_int hg0 (j := 5) rfl (by kernel_rfl) Tryd.underlying3 rfl
  obtain ⟨a0_6, rfl, w0_6⟩ := field_int hg0 (j := 6) rfl (by kernel_rfl) Tryd.underlying3 rfl
  clear hA0 hval0 hsz0
  obtain ⟨k, hk⟩ := Pure.FnExactHeightsText a0_0 a0_1 l0_2 a0_3 a0_4 a0_5 a0_6 w0_0 w0_1 (Nat.le_trans hc0_2 hm0_2) hw0_2 w0_3 w0_4 w0_5 w0_6
  refine (PFnExactHeightsText.laws_FnExactHeightsText.calls k a0_0 a0_1 _ _ l0_2 a0_3 a0_4 a0_5 a0_6 true W hr0_2 hc0_2 hk hG).mono fun e W' ⟨he, bel⟩ => ?_
  subst he
  exact ⟨_, rfl, _, _, _, [], _, [], hW', trodAll_mk1 (shut_bool Tryd.underlying4 _), (trodAll_cons_mk (Below.trod laidOut (by kernel_rfl) (of_decide_eq_true (by kernel_rfl)) k0 bel lt0) trodAll_mk0), rfl, bel.frame _, fun h => by cases h⟩
theorem over : Rows.fnExactHeightsTextRow.holds Tryd.pinned (OpenSpec.ofChange Rows.fnExactHeightsTextSpec) :=
  OpenClaim.holds_of_wide 7 Tryd.f7 rfl rfl rfl rfl rfl rfl rfl ⟨rfl, rfl, rfl, rfl, rfl⟩ rfl rfl rfl rfl rfl (by kernel_rfl) Tryd.func7 (by kernel_rfl)
    (of_decide_eq_true (by kernel_rfl)) (by unfold Func.isWrapper; first | (rw [if_pos (by decide +kernel)]; kernel_rfl) | (rw [if_neg (by decide +kernel)]; exact ⟨rfl, rfl⟩))
    (fun os started H enc _ => lifted os started H enc)
theorem proved : Rows.FnExactHeightsTextSaid := over
#print axioms proved
end Go.Proofs.YtbgjhdhdfdfpkaaDoor.fnExactHeightsText
namespace Go.Proofs.YtbgjhdhdfdfpkaaDoor
/-- The card, under a short name, for the claim. -/
theorem fnExactHeightsText_holds : Rows.FnExactHeightsTextCardSaid :=
  Claim7.holds_tied_plain_at .later [] [.data, .data, .data] true (true, "16f06a7eac40633dca23f87df975bbd27e41ba711f7f7ff39cb89e91057127de") false
    fnExactHeightsText.over (fun _ h => by cases h) (by kernel_rfl) (fun _ h => by cases h) fnExactHeightsText_row_tie rfl ⟨rfl, rfl⟩ (by kernel_rfl) rfl
    (fun f fn hf hfn => by
      obtain rfl : f = 7 := Option.some.inj ((show Tryd.prog.funcNamed "loop.example/g00914/laws.FnExactHeightsText" = some 7 by kernel_rfl).symm.trans hf) |>.symm
      obtain rfl : fn = Tryd.f7 := (Option.some.inj (Tryd.func7.symm.trans hfn)).symm
      refine ⟨by kernel_rfl, fun j t ht => ?_⟩
      rw [Tryd.params7] at ht
      have hall : ∀ t ∈ [24], Tryd.prog.wantsStandIn t = false := by
        intro t ht
        simp only [List.mem_cons, List.not_mem_nil, or_false] at ht
        rcases ht with rfl <;> kernel_rfl
      refine hall t ?_
      have := Array.mem_of_getElem? ht
      simpa using this)
    (by kernel_rfl)
#print axioms fnExactHeightsText_holds
end Go.Proofs.YtbgjhdhdfdfpkaaDoor
