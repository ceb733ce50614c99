/- Lemmas that open parameters: whole numbers, structs by value, slices of whatever elements. Plain theorems over any program. -/
import Derived.Test.YtbgjhdhdfdfpkaaDoorWWords
import Derived.Lib.SmallJoins
import Derived.ChangeShapes
import Derived.OpenShut
namespace Go.Proofs.YtbgjhdhdfdfpkaaDoor.Open
open Go.ChangeShapes Go.WideShapes Go.ChangeAt Go.RowKit Go.Joins Go.Deep Go.Proofs.YtbgjhdhdfdfpkaaDoorW.PrintWords
section
variable {H : Type} {enc : TypeId × Value → H} {P : Program} {w : World} {base : Nat} {spare : Nat → Bool} {held : Bool}
theorem int_field {t : TypeId} {k : IntKind} {c : Value} {y : DataW H × List MemPlace} {n : Nat} (ht : P.underlying t = some (.int k)) (h : DataW.trod enc P w base spare held n t [c] = some y) : ∃ a, c = .int k a ∧ (Lit.int k a).wf = true := by
  obtain ⟨a, hc, _, hw⟩ := DataW.trod_int ht h
  exact ⟨a, by simpa using hc, hw⟩
theorem list1 {l : List Value} (h : l.length = 1) : ∃ b0, l = [b0] := by
  match l, h with
  | [e0], _ => exact ⟨_, rfl⟩
theorem list2 {l : List Value} (h : l.length = 2) : ∃ b0 b1, l = [b0, b1] := by
  match l, h with
  | [e0, e1], _ => exact ⟨_, _, rfl⟩
theorem list3 {l : List Value} (h : l.length = 3) : ∃ b0 b1 b2, l = [b0, b1, b2] := by
  match l, h with
  | [e0, e1, e2], _ => exact ⟨_, _, _, rfl⟩
theorem list4 {l : List Value} (h : l.length = 4) : ∃ b0 b1 b2 b3, l = [b0, b1, b2, b3] := by
  match l, h with
  | [e0, e1, e2, e3], _ => exact ⟨_, _, _, _, rfl⟩
theorem list5 {l : List Value} (h : l.length = 5) : ∃ b0 b1 b2 b3 b4, l = [b0, b1, b2, b3, b4] := by
  match l, h with
  | [e0, e1, e2, e3, e4], _ => exact ⟨_, _, _, _, _, rfl⟩
theorem list6 {l : List Value} (h : l.length = 6) : ∃ b0 b1 b2 b3 b4 b5, l = [b0, b1, b2, b3, b4, b5] := by
  match l, h with
  | [e0, e1, e2, e3, e4, e5], _ => exact ⟨_, _, _, _, _, _, rfl⟩
theorem list7 {l : List Value} (h : l.length = 7) : ∃ b0 b1 b2 b3 b4 b5 b6, l = [b0, b1, b2, b3, b4, b5, b6] := by
  match l, h with
  | [e0, e1, e2, e3, e4, e5, e6], _ => exact ⟨_, _, _, _, _, _, _, rfl⟩
theorem list8 {l : List Value} (h : l.length = 8) : ∃ b0 b1 b2 b3 b4 b5 b6 b7, l = [b0, b1, b2, b3, b4, b5, b6, b7] := by
  match l, h with
  | [e0, e1, e2, e3, e4, e5, e6, e7], _ => exact ⟨_, _, _, _, _, _, _, _, rfl⟩
theorem list9 {l : List Value} (h : l.length = 9) : ∃ b0 b1 b2 b3 b4 b5 b6 b7 b8, l = [b0, b1, b2, b3, b4, b5, b6, b7, b8] := by
  match l, h with
  | [e0, e1, e2, e3, e4, e5, e6, e7, e8], _ => exact ⟨_, _, _, _, _, _, _, _, _, rfl⟩
theorem list10 {l : List Value} (h : l.length = 10) : ∃ b0 b1 b2 b3 b4 b5 b6 b7 b8 b9, l = [b0, b1, b2, b3, b4, b5, b6, b7, b8, b9] := by
  match l, h with
  | [e0, e1, e2, e3, e4, e5, e6, e7, e8, e9], _ => exact ⟨_, _, _, _, _, _, _, _, _, _, rfl⟩
theorem list11 {l : List Value} (h : l.length = 11) : ∃ b0 b1 b2 b3 b4 b5 b6 b7 b8 b9 b10, l = [b0, b1, b2, b3, b4, b5, b6, b7, b8, b9, b10] := by
  match l, h with
  | [e0, e1, e2, e3, e4, e5, e6, e7, e8, e9, e10], _ => exact ⟨_, _, _, _, _, _, _, _, _, _, _, rfl⟩
theorem list12 {l : List Value} (h : l.length = 12) : ∃ b0 b1 b2 b3 b4 b5 b6 b7 b8 b9 b10 b11, l = [b0, b1, b2, b3, b4, b5, b6, b7, b8, b9, b10, b11] := by
  match l, h with
  | [e0, e1, e2, e3, e4, e5, e6, e7, e8, e9, e10, e11], _ => exact ⟨_, _, _, _, _, _, _, _, _, _, _, _, rfl⟩
/-- An element that is a whole number. -/
theorem elem_int {t : TypeId} {k : IntKind} (ht : P.underlying t = some (.int k)) (n : Nat) (cs : List Value) (y : DataW H × List MemPlace) (h : DataW.trod enc P w base spare held n t cs = some y) : ∃ x, (Kd.int k).K w x cs ∧ (Lit.int k x).wf = true := by
  obtain ⟨a, hc, _, hw⟩ := DataW.trod_int ht h
  exact ⟨a, hc, hw⟩
/-- A slice, its elements told by a kind. -/
theorem slice_kd {α : Type} (d : Kd α) (Wf : α → Prop) {t e : TypeId} (ht : P.underlying t = some (.slice e)) (hsz : P.cellsOf e = d.sz)
    (hel : ∀ (n : Nat) (cs : List Value) (y : DataW H × List MemPlace), DataW.trod enc P w base spare held n e cs = some y → ∃ x, d.K w x cs ∧ Wf x)
    {fuel : Nat} {cs : List Value} {y : DataW H × List MemPlace} (h : DataW.trod enc P w base spare held fuel t cs = some y) :
    ∃ (A : Option Addr) (c : Nat) (xs : List α), cs = [.slice A xs.length c] ∧ xs.length ≤ c ∧ c ≤ maxLen ∧ d.C w A xs.length xs ∧ ∀ x ∈ xs, Wf x := by
  rcases DataW.trod_slice ht h with ⟨rfl, _⟩ | ⟨a, len, cap, elems, rest, n, _, rfl, _, _, hl, hm, hlen, hi, _⟩
  · exact ⟨none, 0, [], rfl, Nat.le_refl _, Nat.zero_le _, ⟨rfl, by simp, fun h0 => by simp at h0⟩, fun x hx => by simp at hx⟩
  · have key : ∀ m, m ≤ len → ∃ xs : List α, xs.length = m ∧ (∀ x ∈ xs, Wf x) ∧ ∀ j x, xs[j]? = some x → ∃ c, c.length = d.sz ∧ d.K w x c ∧ ∀ i u, c[i]? = some u → w.cell? (a.add (j * d.sz + i)) = some u := by
      intro m
      induction m with
      | zero => exact fun _ => ⟨[], rfl, fun x hx => by simp at hx, fun j x hx => by simp at hx⟩
      | succ m ih =>
        intro hm'
        obtain ⟨xs, h1, h2, h3⟩ := ih (by omega)
        have h4 := hi m (by omega)
        have h5 : elems[m]? = some (elems[m]'(by omega)) := List.getElem?_eq_getElem (by omega)
        rw [h5] at h4
        obtain ⟨c, h6, h7⟩ := Option.bind_eq_some_iff.1 h4
        obtain ⟨x, h8, h9⟩ := hel n c _ h7
        obtain ⟨_, h10, h11⟩ := World.cells?_some h6
        refine ⟨xs ++ [x], by simp [h1], fun z hz => ?_, fun j z hz => ?_⟩
        · rcases List.mem_append.1 hz with hz | hz
          · exact h2 z hz
          · rw [List.mem_singleton.1 hz]; exact h9
        · rcases Nat.lt_or_ge j xs.length with hj | hj
          · rw [List.getElem?_append_left hj] at hz
            exact h3 j z hz
          · have hjm : j = m := by
              have h12 := (List.getElem?_eq_some_iff.1 hz).1
              simp at h12
              omega
            rw [List.getElem?_append_right hj, hjm, h1, Nat.sub_self] at hz
            simp at hz
            subst hz
            refine ⟨c, by rw [h10, hsz], h8, fun i u hu => ?_⟩
            have h13 : i < P.cellsOf e := by
              have := (List.getElem?_eq_some_iff.1 hu).1
              omega
            have h14 := h11 i h13
            rw [hu, hsz] at h14
            rw [hjm, ← Go.Deep.add_add]
            exact h14
    obtain ⟨xs, h1, h2, h3⟩ := key len (Nat.le_refl _)
    refine ⟨some a, cap, xs, by rw [h1], by omega, hm, ⟨rfl, ?_, fun _ => ⟨a, rfl, h3⟩⟩, h2⟩
    simp only [maxLen] at hm
    omega
/-- An element that is a slice. -/
theorem elem_slice {α : Type} (d : Kd α) (Wf : α → Prop) {t e : TypeId} (ht : P.underlying t = some (.slice e)) (hsz : P.cellsOf e = d.sz)
    (hel : ∀ (n : Nat) (cs : List Value) (y : DataW H × List MemPlace), DataW.trod enc P w base spare held n e cs = some y → ∃ x, d.K w x cs ∧ Wf x)
    (n : Nat) (cs : List Value) (y : DataW H × List MemPlace) (h : DataW.trod enc P w base spare held n t cs = some y) : ∃ x, (Kd.slice e d).K w x cs ∧ (x.length ≤ maxLen ∧ ∀ z ∈ x, Wf z) := by
  obtain ⟨A, c, xs, h1, h2, h3, h4, h5⟩ := slice_kd d Wf ht hsz hel h
  exact ⟨xs, ⟨A, c, h1, h2, h4⟩, by omega, h5⟩
/-- A parameter that is a slice. -/
theorem param_slice {α : Type} (d : Kd α) (Wf : α → Prop) {t e : TypeId} (ht : P.underlying t = some (.slice e)) (hsz : P.cellsOf e = d.sz)
    (hel : ∀ (n : Nat) (cs : List Value) (y : DataW H × List MemPlace), DataW.trod enc P w base spare held n e cs = some y → ∃ x, d.K w x cs ∧ Wf x)
    {r : Reach} {b0 : Nat} {v : Value} {dd : DataW H} {p : List MemPlace} (hv : Value.okWide P w r b0 t v) (h : DataW.Trod enc P w base spare held t v dd p) :
    ∃ (A : Option Addr) (c : Nat) (xs : List α), v = .slice A xs.length c ∧ xs.length ≤ c ∧ c ≤ maxLen ∧ d.C w A xs.length xs ∧ ∀ x ∈ xs, Wf x := by
  obtain ⟨a0, len, cap, rfl⟩ := okWide_slice ht hv
  obtain ⟨fuel, hf⟩ := h
  obtain ⟨A, c, xs, h1, h2, h3, h4, h5⟩ := slice_kd d Wf ht hsz hel hf
  exact ⟨A, c, xs, by simpa [Value.cells] using h1, h2, h3, h4, h5⟩
/-- A parameter that is a struct: its cells, each field's reading. -/
theorem param_struct {t : TypeId} {fs : Array Field} (hs : P.underlying t = some (.struct fs)) {r : Reach} {b0 : Nat} {v : Value} {dd : DataW H} {p : List MemPlace} (hv : Value.okWide P w r b0 t v) (h : DataW.Trod enc P w base spare held t v dd p) :
    ∃ cs : Array Value, v = .agg cs ∧ cs.toList.length = P.cellsOf t ∧ ∀ (j : Nat) (f : Field), fs[j]? = some f → ∃ n y, DataW.trod enc P w base spare held n f.type ((cs.toList.drop f.offset).take (P.cellsOf f.type)) = some y := by
  obtain ⟨cs, rfl, hsz⟩ := okWide_struct hs hv
  obtain ⟨fuel, hf⟩ := h
  obtain ⟨xs, n, _, _, hl, hlen, hg⟩ := DataW.trod_struct hs hf
  have hcl : (Value.agg cs).cells.toList = cs.toList := by simp [Value.cells]
  rw [hcl] at hl hg
  refine ⟨cs, rfl, hl, fun j f hj => ?_⟩
  have hjl : j < xs.length := by rw [hlen]; exact (Array.getElem?_eq_some_iff.1 hj).1
  exact ⟨n, xs[j], (hg j f hj).trans (List.getElem?_eq_getElem hjl)⟩
/-- A struct among cells: each field's reading. -/
theorem cells_struct {t : TypeId} {fs : Array Field} (hs : P.underlying t = some (.struct fs)) {n : Nat} {cs : List Value} {y : DataW H × List MemPlace} (h : DataW.trod enc P w base spare held n t cs = some y) :
    cs.length = P.cellsOf t ∧ ∀ (j : Nat) (f : Field), fs[j]? = some f → ∃ n y, DataW.trod enc P w base spare held n f.type ((cs.drop f.offset).take (P.cellsOf f.type)) = some y := by
  obtain ⟨xs, n, _, _, hl, hlen, hg⟩ := DataW.trod_struct hs h
  refine ⟨hl, fun j f hj => ?_⟩
  have hjl : j < xs.length := by rw [hlen]; exact (Array.getElem?_eq_some_iff.1 hj).1
  exact ⟨n, xs[j], (hg j f hj).trans (List.getElem?_eq_getElem hjl)⟩
/-- A field that is a whole number. -/
theorem field_int {fs : Array Field} {l : List Value} (hg : ∀ (j : Nat) (f : Field), fs[j]? = some f → ∃ n y, DataW.trod enc P w base spare held n f.type ((l.drop f.offset).take (P.cellsOf f.type)) = some y)
    {j : Nat} {f : Field} (hj : fs[j]? = some f) (h1 : P.cellsOf f.type = 1) {k : IntKind} (ht : P.underlying f.type = some (.int k)) {c : Value} {r : List Value} (hd : l.drop f.offset = c :: r) : ∃ a, c = .int k a ∧ (Lit.int k a).wf = true := by
  obtain ⟨n, y, h⟩ := hg j f hj
  rw [h1, hd] at h
  exact int_field ht h
/-- A field that is a bool. -/
theorem field_bool {fs : Array Field} {l : List Value} (hg : ∀ (j : Nat) (f : Field), fs[j]? = some f → ∃ n y, DataW.trod enc P w base spare held n f.type ((l.drop f.offset).take (P.cellsOf f.type)) = some y)
    {j : Nat} {f : Field} (hj : fs[j]? = some f) (h1 : P.cellsOf f.type = 1) (ht : P.underlying f.type = some .bool) {c : Value} {r : List Value} (hd : l.drop f.offset = c :: r) : ∃ a, c = .bool a := by
  obtain ⟨n, y, h⟩ := hg j f hj
  rw [h1, hd] at h
  obtain ⟨a, hc, _⟩ := DataW.trod_bool ht h
  exact ⟨a, by simpa using hc⟩
/-- A field that is a slice. -/
theorem field_slice {α : Type} (d : Kd α) (Wf : α → Prop) {fs : Array Field} {l : List Value} (hg : ∀ (j : Nat) (f : Field), fs[j]? = some f → ∃ n y, DataW.trod enc P w base spare held n f.type ((l.drop f.offset).take (P.cellsOf f.type)) = some y)
    {j : Nat} {f : Field} (hj : fs[j]? = some f) (h1 : P.cellsOf f.type = 1) {e : TypeId} (ht : P.underlying f.type = some (.slice e)) (hsz : P.cellsOf e = d.sz)
    (hel : ∀ (n : Nat) (cs : List Value) (y : DataW H × List MemPlace), DataW.trod enc P w base spare held n e cs = some y → ∃ x, d.K w x cs ∧ Wf x)
    {c : Value} {r : List Value} (hd : l.drop f.offset = c :: r) : ∃ (A : Option Addr) (cap : Nat) (xs : List α), c = .slice A xs.length cap ∧ xs.length ≤ cap ∧ cap ≤ maxLen ∧ d.C w A xs.length xs ∧ ∀ x ∈ xs, Wf x := by
  obtain ⟨n, y, h⟩ := hg j f hj
  rw [h1, hd] at h
  obtain ⟨A, cap, xs, h2, h3, h4, h5, h6⟩ := slice_kd d Wf ht hsz hel h
  exact ⟨A, cap, xs, by simpa using h2, h3, h4, h5, h6⟩
/-- A field that is a struct: its own fields' readings. -/
theorem field_struct {fs fs2 : Array Field} {l : List Value} (hg : ∀ (j : Nat) (f : Field), fs[j]? = some f → ∃ n y, DataW.trod enc P w base spare held n f.type ((l.drop f.offset).take (P.cellsOf f.type)) = some y)
    {j : Nat} {f : Field} (hj : fs[j]? = some f) {m : Nat} (h1 : P.cellsOf f.type = m) (ht : P.underlying f.type = some (.struct fs2)) {l2 : List Value} (hd : (l.drop f.offset).take m = l2) :
    ∀ (j : Nat) (f : Field), fs2[j]? = some f → ∃ n y, DataW.trod enc P w base spare held n f.type ((l2.drop f.offset).take (P.cellsOf f.type)) = some y := by
  obtain ⟨n, y, h⟩ := hg j f hj
  rw [h1, hd] at h
  exact (cells_struct ht h).2
end
end Go.Proofs.YtbgjhdhdfdfpkaaDoor.Open
