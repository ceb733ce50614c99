/- Lemmas that open parameters: structs of whole numbers by value. Plain theorems over any program. -/
import Derived.Test.YtociipogjmidiaaProg
import Derived.Lib.SmallJoins
import Derived.ChangeShapes
import Derived.OpenShut
namespace Go.Proofs.Ytociipogjmidiaa.Open
open Go.ChangeShapes Go.WideShapes Go.ChangeAt Go.RowKit Go.Joins Go.Deep
variable {H : Type} {enc : TypeId × Value → H} {P : Program} {w : World} {base : Nat} {spare : Nat → Bool} {held : Bool}
theorem int_field {t : TypeId} {k : IntKind} {c : Value} {y : DataW H × List MemPlace} {n : Nat} (ht : P.underlying t = some (.int k)) (h : DataW.trod enc P w base spare held n t [c] = some y) : ∃ a, c = .int k a ∧ (Lit.int k a).wf = true := by
  obtain ⟨a, hc, _, hw⟩ := DataW.trod_int ht h
  exact ⟨a, by simpa using hc, hw⟩
theorem agg4_ints {r : Reach} {b0 : Nat} {t : TypeId} {f0 f1 f2 f3 : Field} {k0 k1 k2 k3 : IntKind} {v : Value} {d : DataW H} {p : List MemPlace} (hs : P.underlying t = some (.struct #[f0, f1, f2, f3])) (hone : oneCellFields P #[f0, f1, f2, f3] = true) (hC : P.cellsOf t = 4)
    (e0 : P.underlying f0.type = some (.int k0)) (e1 : P.underlying f1.type = some (.int k1)) (e2 : P.underlying f2.type = some (.int k2)) (e3 : P.underlying f3.type = some (.int k3))
    (hv : Value.okWide P w r b0 t v) (h : DataW.Trod enc P w base spare held t v d p) :
    ∃ a0 a1 a2 a3, v = .agg #[.int k0 a0, .int k1 a1, .int k2 a2, .int k3 a3] ∧ (Lit.int k0 a0).wf = true ∧ (Lit.int k1 a1).wf = true ∧ (Lit.int k2 a2).wf = true ∧ (Lit.int k3 a3).wf = true := by
  obtain ⟨c0, c1, c2, c3, y0, y1, y2, y3, n, rfl, _, _, h0, h1, h2, h3⟩ := open_agg4 hs hone hC hv h
  obtain ⟨a0, rfl, w0⟩ := int_field e0 h0
  obtain ⟨a1, rfl, w1⟩ := int_field e1 h1
  obtain ⟨a2, rfl, w2⟩ := int_field e2 h2
  obtain ⟨a3, rfl, w3⟩ := int_field e3 h3
  exact ⟨a0, a1, a2, a3, rfl, w0, w1, w2, w3⟩
end Go.Proofs.Ytociipogjmidiaa.Open
