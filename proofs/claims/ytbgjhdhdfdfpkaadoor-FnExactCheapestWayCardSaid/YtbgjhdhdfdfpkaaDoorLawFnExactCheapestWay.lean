/- THE ROW OF FnExactCheapestWay: the law returns true for every input, and each argument reads afterwards as before. Out of the printed contract of the law's function and the pure statement proved in YtbgjhdhdfdfpkaaDoorPureFnExactCheapestWay. -/
import Derived.Test.YtbgjhdhdfdfpkaaDoorRows
import Derived.Test.YtbgjhdhdfdfpkaaDoorPFnExactCheapestWayx14
import Derived.Test.YtbgjhdhdfdfpkaaDoorPureFnExactCheapestWay
import Derived.Test.YtbgjhdhdfdfpkaaDoorOpen
import Derived.WalkKit
import Derived.ProofKit
import Derived.OpenShut
import Derived.ShutString
import Derived.ChangeOld
import Derived.Below
import Derived.SizedLaws
import Derived.Lib.SmallJoins
import Derived.LaidLaws
import Derived.Handed
import Derived.ChangeVars
import Derived.Laws.IdiomArrays
import Derived.SevenTiedAt
import Derived.Test.YtbgjhdhdfdfpkaaDoorTie
import Derived.Test.YtbgjhdhdfdfpkaaDoorCards
namespace Go.Proofs.YtbgjhdhdfdfpkaaDoor.fnExactCheapestWay
open Go.ChangeShapes Go.WideShapes Go.ChangeAt Go.RowKit Go.Joins Go.Deep Go.Proofs.YtbgjhdhdfdfpkaaDoor.Open Go.Proofs.YtbgjhdhdfdfpkaaDoor.PFnExactCheapestWay Go.Proofs.YtbgjhdhdfdfpkaaDoorW.PrintWords
open Go.ChangeMaps (open_string shut_string)
set_option linter.unusedVariables false
set_option linter.unusedSimpArgs false
theorem own : ownKnob Tryd.prog.godebug = none := by kernel_rfl
theorem laidOut : laidOutB Tryd.prog = true := by kernel_rfl
theorem globN : Tryd.prog.globalNamed "loop.example/g00914/impl.sidesByCell" = some 0 := by kernel_rfl
theorem globT : (Tryd.prog.globals[0]?).map (·.type) = some 71 := by kernel_rfl
theorem cells71 : Tryd.prog.cellsOf 71 = 4 := by kernel_rfl
theorem list4of (l : List Value) (h : l.length = 4) : ∃ c0 c1 c2 c3, l = [c0, c1, c2, c3] := by
  match l, h with
  | [c0, c1, c2, c3], _ => exact ⟨c0, c1, c2, c3, rfl⟩
/-- From what is laid to the four cells. -/
theorem laid_of {W : World} (h : laidMet Tryd.prog Rows.fnExactCheapestWayRow.laid W) : Laid W := by
  obtain ⟨ps, ⟨g, t, cs, fuel, p, q, hg, ht, hvar, hd, _, _⟩, _⟩ := h
  obtain rfl := Option.some.inj (globN.symm.trans hg)
  obtain rfl := Option.some.inj (globT.symm.trans ht)
  have hlen := (DataW.trod_array Tryd.underlying71 hd).choose_spec.choose_spec.2.2.1
  rw [cells71] at hlen
  obtain ⟨l⟩ := cs
  obtain ⟨c0, c1, c2, c3, rfl⟩ := list4of l hlen
  obtain ⟨y0, y1, y2, y3, m, hx, t0, t1, t2, t3⟩ := trod_array4 Tryd.underlying71 (by kernel_rfl) hd
  obtain ⟨s0, e0, x0, _⟩ := DataW.trod_int Tryd.underlying3 t0
  obtain ⟨s1, e1, x1, _⟩ := DataW.trod_int Tryd.underlying3 t1
  obtain ⟨s2, e2, x2, _⟩ := DataW.trod_int Tryd.underlying3 t2
  obtain ⟨s3, e3, x3, _⟩ := DataW.trod_int Tryd.underlying3 t3
  have hx' := (Prod.mk.inj hx).1
  rw [x0, x1, x2, x3] at hx'
  simp only [Rows.laid_loop_example_g00914_impl_sidesByCell] at hx'
  simp at hx' e0 e1 e2 e3
  obtain ⟨rfl, rfl, rfl, rfl⟩ := hx'
  subst e0 e1 e2 e3
  exact ⟨by simpa using World.var?_cell hg hvar 0, by simpa using World.var?_cell hg hvar 1, by simpa using World.var?_cell hg hvar 2, by simpa using World.var?_cell hg hvar 3⟩
theorem vars_back {H : Type} {enc : TypeId × Value → H} {W W' : World} {gs : List (DataW H)} {q : List MemPlace} (bel : Below W.heap.size W W') (hV : DataW.TrodVars enc Tryd.prog W (fun _ => true) ["loop.example/g00914/impl.sidesByCell"] gs q) : DataW.TrodVars enc Tryd.prog W' (fun b => decide (b < W.heap.size)) ["loop.example/g00914/impl.sidesByCell"] gs q := by
  have hlt := hV.lt
  cases gs with
  | nil => exact absurd hV (by intro h; exact h)
  | cons d ds =>
    obtain ⟨g, t, cs, fuel, p, q2, hg, ht, hvar, hd, hr, rfl⟩ := hV
    obtain rfl := Option.some.inj (globN.symm.trans hg)
    obtain rfl := Option.some.inj (globT.symm.trans ht)
    have k0 : DataW.Trod enc Tryd.prog W 0 (fun _ => true) true 71 (.agg cs) d p := ⟨fuel, hd⟩
    have lt0 : ∀ x ∈ p, x.block < W.heap.size := fun x hx => hlt x (by simp [hx])
    obtain ⟨f2, hd2⟩ := Below.trod laidOut (by kernel_rfl) (of_decide_eq_true (by kernel_rfl)) k0 bel lt0
    have hv2 : W'.var? Tryd.prog "loop.example/g00914/impl.sidesByCell" = some cs := by
      unfold World.var? at hvar ⊢
      rw [hg] at hvar ⊢
      simp only [Option.bind_some] at hvar ⊢
      have h0 : 0 < W.heap.size := by
        cases hh : W.heap[0]? with
        | none => rw [hh] at hvar; cases hvar
        | some o => exact (Array.getElem?_eq_some_iff.1 hh).1
      rw [bel.block 0 h0]
      exact hvar
    cases ds with
    | nil => exact ⟨0, 71, cs, f2, p, q2, hg, ht, hv2, hd2, hr, rfl⟩
    | cons d2 ds2 => exact absurd hr (by intro h; exact h)
/-- The settled world, the array laid. -/
noncomputable def sideWorld (os : Os) : World :=
  let w0 := World.holding Tryd.prog os ⟨#[], #[], []⟩
  { w0 with heap := w0.heap.modify 0 fun
      | .cells _ t frozen => .cells #[.int .i64 0, .int .i64 1, .int .i64 2, .int .i64 3] t frozen
      | o => o }
theorem laid_met (os : Os) (args : Array Value) : laidMet Tryd.prog Rows.fnExactCheapestWayRow.laid ((sideWorld os).forCall (fun _ _ => 0) ⟨#[], args, []⟩).memory :=
  laidMet_of_run (ps := [.cell 0 0, .cell 0 1, .cell 0 2, .cell 0 3]) 8 (by kernel_rfl) (by kernel_rfl) (by kernel_rfl)
set_option maxRecDepth 100000 in
theorem lifted (os : Os) (started : os.Started) (H : Type) (enc : TypeId × Value → H) :
    ReturnsInHanded {} Tryd.checked os 6 .any (fun w args => (Rows.fnExactCheapestWaySpec.pre enc Tryd.prog Tryd.f6 Rows.fnExactCheapestWayRow.domain false w args ∧ laidMet Tryd.prog Rows.fnExactCheapestWayRow.laid w) ∧ sizedMet enc Tryd.prog Tryd.f6 (OpenSpec.ofChange Rows.fnExactCheapestWaySpec) false w args) (Rows.fnExactCheapestWaySpec.post enc Tryd.prog Tryd.f6 false true false false) := by
  refine returnsInHanded_of_change_and (C := Tryd.checked) (X := fun w _ => laidMet Tryd.prog Rows.fnExactCheapestWayRow.laid w) (fun _ _ _ hh h => h.of_heap hh) own started (by kernel_rfl) Tryd.func6
    (ChangeSpec.witness_at (enc := enc) (C := Tryd.checked) (os := os) (X := fun w _ => laidMet Tryd.prog Rows.fnExactCheapestWayRow.laid w) false (sideWorld os) #[.agg #[.int .i64 0, .int .i64 0, .slice none 0 0, .int .i64 0, .int .i64 0, .int .i64 0, .int .i64 0], .int .i64 0, .int .i64 0] 8 rfl (by kernel_rfl) (by kernel_rfl) (by kernel_rfl) (by kernel_rfl) (by kernel_rfl) (laid_met os _)) ?_
  intro W base args ds gs before hval0 hW hcnd hsz0 hL _
  have hval : ∀ (j : Nat) t v, Tryd.f6.params[j]? = some t → args[j]? = some v → Value.okWide Tryd.prog W .any base t v := hval0
  have hW' := hW
  obtain ⟨p, q, hA0, hV, rfl, hfz, hnd⟩ := hW
  have hA : DataW.TrodAll enc Tryd.prog W 0 (fun _ => true) true Tryd.f6.params.toList args.toList ds p := hA0
  rw [Tryd.params6] at hA hval
  obtain ⟨v0, vs0, d0, ds0, p0, q0, hargs, rfl, rfl, h0, r0⟩ := trodAll_cons hA
  obtain ⟨v1, vs1, d1, ds1, p1, q1, rfl, rfl, rfl, h1, r1⟩ := trodAll_cons r0
  obtain ⟨v2, vs2, d2, ds2, p2, q2, rfl, rfl, rfl, h2, r2⟩ := trodAll_cons r1
  obtain ⟨rfl, rfl, rfl⟩ := trodAll_nil r2
  obtain rfl : args = #[v0, v1, v2] := by cases args; simp_all
  have hV1 : DataW.TrodVars enc Tryd.prog W (fun _ => true) ["loop.example/g00914/impl.sidesByCell"] gs q := hV
  obtain ⟨g1, rfl⟩ : ∃ g1, gs = [g1] := by
    cases gs with
    | nil => exact absurd hV1 (by intro h; exact h)
    | cons g r =>
      cases r with
      | nil => exact ⟨g, rfl⟩
      | cons g2 r2 => obtain ⟨_, _, _, _, _, _, _, _, _, _, h, _⟩ := hV1; exact absurd h (by intro h; exact h)
  have hG := laid_of hL
  have k0 := h0
  have lt0 : ∀ x ∈ p0, x.block < W.heap.size := by obtain ⟨m, hm⟩ := k0; exact DataW.trod_lt m _ _ _ hm
  obtain ⟨cs0, rfl, hl0, hg0⟩ := param_struct Tryd.underlying24 (hval 0 24 v0 rfl rfl) h0
  obtain ⟨cl0⟩ := cs0
  obtain ⟨b0_0, b0_1, b0_2, b0_3, b0_4, b0_5, b0_6, hcl0⟩ := list7 (l := cl0) (hl0.trans (show Tryd.prog.cellsOf 24 = 7 from by kernel_rfl))
  subst hcl0
  obtain ⟨a0_0, rfl, w0_0⟩ := field_int hg0 (j := 0) rfl (by kernel_rfl) Tryd.underlying3 rfl
  obtain ⟨a0_1, rfl, w0_1⟩ := field_int hg0 (j := 1) rfl (by kernel_rfl) Tryd.underlying3 rfl
  obtain ⟨A0_2, c0_2, l0_2, rfl, hc0_2, hm0_2, hr0_2, hw0_2⟩ := field_slice (Kd.int .i64) (fun x : Int => (Lit.int .i64 x).wf = true) hg0 (j := 2) rfl (by kernel_rfl) Tryd.underlying22 (by kernel_rfl) (elem_int Tryd.underlying3) rfl
  obtain ⟨a0_3, rfl, w0_3⟩ := field_int hg0 (j := 3) rfl (by kernel_rfl) Tryd.underlying3 rfl
  obtain ⟨a0_4, rfl, w0_4⟩ := field_int hg0 (j := 4) rfl (by kernel_rfl) Tryd.underlying3 rfl
  obtain ⟨a0_5, rfl, w0_5⟩ := field_int hg0 (j := 5) rfl (by kernel_rfl) Tryd.underlying3 rfl
  obtain ⟨a0_6, rfl, w0_6⟩ := field_int hg0 (j := 6) rfl (by kernel_rfl) Tryd.underlying3 rfl
  have k1 := h1
  have lt1 : ∀ x ∈ p1, x.block < W.heap.size := by obtain ⟨m, hm⟩ := k1; exact DataW.trod_lt m _ _ _ hm
  obtain ⟨a1, rfl, _, _, w1⟩ := open_int Tryd.underlying3 (hval 1 3 v1 rfl rfl) h1
  have k2 := h2
  have lt2 : ∀ x ∈ p2, x.block < W.heap.size := by obtain ⟨m, hm⟩ := k2; exact DataW.trod_lt m _ _ _ hm
  obtain ⟨a2, rfl, _, _, w2⟩ := open_int Tryd.underlying3 (hval 2 3 v2 rfl rfl) h2
  clear hA0 hval0 hsz0
  obtain ⟨k, hk⟩ := Pure.FnExactCheapestWay a0_0 a0_1 l0_2 a0_3 a0_4 a0_5 a0_6 a1 a2 w0_0 w0_1 (Nat.le_trans hc0_2 hm0_2) hw0_2 w0_3 w0_4 w0_5 w0_6 w1 w2
  refine (PFnExactCheapestWay.laws_FnExactCheapestWay.calls k a0_0 a0_1 _ _ l0_2 a0_3 a0_4 a0_5 a0_6 a1 a2 true W hr0_2 hc0_2 hk hG).mono fun e W' ⟨he, bel⟩ => ?_
  subst he
  exact ⟨_, rfl, _, _, _, [], _, _, hW', trodAll_mk1 (shut_bool Tryd.underlying4 _), (trodAll_cons_mk (Below.trod laidOut (by kernel_rfl) (of_decide_eq_true (by kernel_rfl)) k0 bel lt0) (trodAll_cons_mk (Below.trod laidOut (by kernel_rfl) (of_decide_eq_true (by kernel_rfl)) k1 bel lt1) (trodAll_cons_mk (Below.trod laidOut (by kernel_rfl) (of_decide_eq_true (by kernel_rfl)) k2 bel lt2) trodAll_mk0))), vars_back bel hV1, bel.frame _, fun h => by cases h⟩
theorem over : Rows.fnExactCheapestWayRow.holds Tryd.pinned (OpenSpec.ofChange Rows.fnExactCheapestWaySpec) :=
  OpenClaim.holds_of_wide 6 Tryd.f6 rfl rfl rfl rfl rfl rfl rfl ⟨rfl, rfl, rfl, rfl, rfl⟩ rfl rfl rfl rfl rfl (by kernel_rfl) Tryd.func6 (by kernel_rfl)
    (of_decide_eq_true (by kernel_rfl)) (by unfold Func.isWrapper; first | (rw [if_pos (by decide +kernel)]; kernel_rfl) | (rw [if_neg (by decide +kernel)]; exact ⟨rfl, rfl⟩))
    (fun os started H enc _ => lifted os started H enc)
theorem proved : Rows.FnExactCheapestWaySaid := over
#print axioms proved
end Go.Proofs.YtbgjhdhdfdfpkaaDoor.fnExactCheapestWay
namespace Go.Proofs.YtbgjhdhdfdfpkaaDoor
/-- The card, under a short name, for the claim. -/
theorem fnExactCheapestWay_holds : Rows.FnExactCheapestWayCardSaid :=
  Claim7.holds_tied_plain_at .later [] [.data] true (true, "16f06a7eac40633dca23f87df975bbd27e41ba711f7f7ff39cb89e91057127de") false
    fnExactCheapestWay.over (fun _ h => by cases h) (by kernel_rfl) (fun _ h => by cases h) fnExactCheapestWay_row_tie rfl ⟨rfl, rfl⟩ (by kernel_rfl) rfl
    (fun f fn hf hfn => by
      obtain rfl : f = 6 := Option.some.inj ((show Tryd.prog.funcNamed "loop.example/g00914/laws.FnExactCheapestWay" = some 6 by kernel_rfl).symm.trans hf) |>.symm
      obtain rfl : fn = Tryd.f6 := (Option.some.inj (Tryd.func6.symm.trans hfn)).symm
      refine ⟨by kernel_rfl, fun j t ht => ?_⟩
      rw [Tryd.params6] at ht
      have hall : ∀ t ∈ [24, 3, 3], Tryd.prog.wantsStandIn t = false := by
        intro t ht
        simp only [List.mem_cons, List.not_mem_nil, or_false] at ht
        rcases ht with rfl | rfl | rfl <;> kernel_rfl
      refine hall t ?_
      have := Array.mem_of_getElem? ht
      simpa using this)
    (by kernel_rfl)
#print axioms fnExactCheapestWay_holds
end Go.Proofs.YtbgjhdhdfdfpkaaDoor
