/- Text written by a program for this claim: contracts of the functions of one law. -/
import Derived.Test.YtikbfnbfbpnmjaaPFnExactCountStatesx0
namespace Go.Proofs.Ytikbfnbfbpnmjaa.PFnExactCountStates
open Go.RowKit Go.Proofs.YtikbfnbfbpnmjaaW.PrintWords Go.Proofs.YtikbfnbfbpnmjaaW.PrintLast Go.Proofs.YtikbfnbfbpnmjaaW.PrintMore
attribute [local go_sem] max2_int min2_int max_two min_two max_three min_three max_four min_four   -- for this text's walks alone
set_option linter.unusedVariables false
set_option linter.unusedSimpArgs false
open ShortPFnExactCountStates0

/-! ### slices_Max_int_int: function 76 -/
def slices_Max_int_int.f (k : Nat) (l0 : List Int) : Option Int := match l0 with
 | [] => none
 | x :: xs => some (xs.foldl mx x)
set_option maxHeartbeats 8000000 in
set_option maxRecDepth 100000 in
theorem slices_Max_int_int.calls (k : Nat) (A0 : Option Addr) (c0 : Nat) (l0 : List Int) (r : Int) (w : World) (hr0 : Kd.C (Kd.int .i64) w A0 l0.length l0) (hc0 : l0.length ≤ c0) (h : slices_Max_int_int.f k l0 = some r) :
  Calls Try.prog 76 #[.slice A0 l0.length c0] w fun e w' => e = .returned (.int .i64 r) ∧ Drawn0 w w' := by
 have hmax := Kd.C_max hr0
 have HR := Aside0.mk hr0
 cases l0 with
 | nil => exact absurd h (by simp [slices_Max_int_int.f])
 | cons x xs =>
  have h2 : (xs.foldl mx x) = r := Option.some.inj h
  have HH := Aside0.mk h2
  obtain ⟨l, hl⟩ : ∃ l, l = x :: xs := ⟨_, rfl⟩
  have hx0 : rd l 0 = x := by rw [hl]; rfl
  have hlen : l.length = xs.length + 1 := by rw [hl]; rfl
  have hdr : ∀ i, (x :: xs).drop (i + 1) = xs.drop i := fun i => rfl
  rw [← hl] at HR hmax ⊢
  have HL := Aside0.mk hl
  have HM := Aside0.mk hmax
  have hle : decide ((l.length : Int) < 1) = false := decide_eq_false (by omega)
  obtain ⟨ad, e0, hc⟩ := Kd.at_int HR.out 0 (by omega) (by omega)
  subst e0
  rw [hx0, show ad.add (Int.toNat 0) = ad from by simp [Addr.add]] at hc
  have HLN := Aside0.mk hlen
  have hpos : 0 < l.length := by omega
  clear h h2 hr0 hc0 hl hmax hx0 hlen
  go_enter Try.func76, Try.ntmps76
  go_wp2
  go_loopg [3, 4] xs.length (fun kq v3 v4 w' => ∃ (m : Int) (i : Nat), v3 = .int .i64 m ∧ v4 = .int .i64 (i : Int) ∧ Aside0 (i + kq = l.length ∧ 1 ≤ i) ∧ Aside0 ((l.drop i).foldl mx m = r) ∧ Aside0 (w' = w))
  case atStart => exact ⟨x, 1, rfl, rfl, ⟨by have := HLN.out; omega, Nat.le_refl _⟩, ⟨by rw [HL.out]; exact HH.out⟩, ⟨rfl⟩⟩
  case round =>
   clear hle hc hpos; obtain ⟨m, i, rfl, rfl, HK, HA, HW⟩ := hrel; obtain rfl := HW.out
   cases gk with
   | zero =>
    have hi : i = l.length := by have := HK.out; omega
    have hA := HA.out; rw [List.drop_of_length_le (by omega)] at hA; obtain rfl : m = r := hA; have hb : decide (i < l.length) = false := decide_eq_false (by omega); have HI := Aside0.mk hi; clear hi
    go_wp2
    go_ret
    exact ⟨rfl, Drawn0.refl _⟩
   | succ k1 =>
    have hi : i < l.length := by have := HK.out; omega
    have hb : decide (i < l.length) = true := decide_eq_true hi; have hA := HA.out; rw [List.drop_eq_getElem_cons hi, List.foldl_cons] at hA
    have hrd : rd l (i : Int) = l[i] := by simp [rd, List.getD_eq_getElem?_getD, hi]
    generalize l[i] = v at hA hrd; obtain ⟨ad2, e2, hc⟩ := Kd.at_int HR.out (i : Int) (by omega) (by omega); obtain rfl := Option.some.inj e2; rw [Int.toNat_natCast] at hc; rw [hrd] at hc; have HA2 := Aside0.mk hA; have hm := HM.out; clear hA hrd e2
    have rel : ∀ z : Int, z = mx m v → ∃ (m' : Int) (i' : Nat), Value.int .i64 z = .int .i64 m' ∧ Value.int .i64 ((i : Int) + 1) = .int .i64 (i' : Int) ∧ Aside0 (i' + k1 = l.length ∧ 1 ≤ i') ∧ Aside0 ((l.drop i').foldl mx m' = r) := by
     rintro _ rfl
     exact ⟨mx m v, i + 1, rfl, by go_num, ⟨by have := HK.out; omega, by omega⟩, HA2⟩
    have REL := Aside0.mk rel; clear rel
    by_cases g : m < v
    ·have hz : v = mx m v := by unfold mx; rw [if_pos g]
     have HZ := Aside0.mk hz; clear hz
     go_wp2
     go_roundg k1
     case measure => omega
     case rel =>
      obtain ⟨q1, q2, q3, q4, q5, q6⟩ := REL.out _ HZ.out
      exact ⟨q1, q2, q3, q4, q5, q6, ⟨rfl⟩⟩
    ·have hz : m = mx m v := by unfold mx; rw [if_neg g]
     have HZ := Aside0.mk hz; clear hz
     go_wp2
     go_roundg k1
     case measure => omega
     case rel =>
      obtain ⟨q1, q2, q3, q4, q5, q6⟩ := REL.out _ HZ.out
      exact ⟨q1, q2, q3, q4, q5, q6, ⟨rfl⟩⟩


/-! ### impl_goodLines: function 77 -/
/-! goodLines: each truck that waits stands in its list once. The closure 'good' marks. -/
theorem size_al {W : World} {B : Nat} (o : Obj) (h : W.heap.size = B) : (W.alloc o).heap.size = B + 1 := by subst h; simp
theorem blk_here {W : World} {B : Nat} (o : Obj) (h : W.heap.size = B) : (W.alloc o).heap[B]? = some o := by subst h; exact blk_new W o
def rowAt (xs : List (List Int)) (i : Int) : List Int := xs.getD i.toNat []
theorem at_row {w : World} {A : Option Addr} {n : Nat} {xs : List (List Int)} (h : Kd.C (Kd.slice 3 (Kd.int .i64)) w A n xs) (i : Int) (h0 : 0 ≤ i) (h1 : i < n) : ∃ ad A0 c0, A = some ad ∧ w.cell? (ad.add i.toNat) = some (.slice A0 (rowAt xs i).length c0) ∧ (rowAt xs i).length ≤ c0 ∧ (Kd.int .i64).C w A0 (rowAt xs i).length (rowAt xs i) := by
 obtain ⟨ad, c, e, _, hK, hc0⟩ := Kd.C_get h ([] : List Int) i h0 h1
 have hc : ∀ j u, c[j]? = some u → w.cell? (ad.add (i.toNat * 1 + j)) = some u := hc0
 obtain ⟨A0, c0, rfl, l0, g0⟩ := hK
 exact ⟨ad, A0, c0, e, by have hq := hc 0 _ rfl; rwa [Nat.mul_one, Nat.add_zero] at hq, l0, g0⟩
/-- Is a truck one that may stand in a list, and not yet marked? -/
def goodM (tr : List S80) (sn : List Bool) (i st sh : Int) : Bool := decide (0 ≤ i) && (decide (i < (sn.length : Int)) && (!(sn.getD i.toNat false) && (((rd_T80 tr i).f0 == st) && (!(decide (0 ≤ sh)) || ((rd_T80 tr i).f1 == sh)))))
def goodLn (tr : List S80) (st sh : Int) : List Int → List Bool → Option (List Bool)
 | [], sn => some sn
 | i :: l, sn => if goodM tr sn i st sh = true then goodLn tr st sh l (sn.set i.toNat true) else none
def goodWs (tr : List S80) : Nat → List (List Int) → List Bool → Option (List Bool)
 | _, [], sn => some sn
 | s, l :: ls, sn => (goodLn tr 0 (s : Int) l sn).bind (goodWs tr (s + 1) ls)
def goodTr : Nat → List S80 → List Bool → Bool
 | _, [], _ => true
 | i, t :: ts, sn => (((t.f0 == 0) || (t.f0 == 3)) == sn.getD i false) && goodTr (i + 1) ts sn
def goodAll (tr : List S80) (ws : List (List Int)) (ln : List Int) : Bool :=
 match (goodWs tr 0 ws (List.replicate tr.length false)).bind (goodLn tr 3 (-1) ln) with
 | none => false
 | some sn => goodTr 0 tr sn
def impl_goodLines.f (k : Nat) (l0_0 : List Int) (l0_1 : List Int) (l0_2 : List Int) (a0_3 : Int) (a0_4 : Int) (l0_5 : List S80) (l0_6 : List (List Int)) (l0_7 : List Int) (a0_8 : Int) (a0_9 : Int) (a0_10 : Int) : Option Bool := if l0_5.length ≤ 1048576 then some (goodAll l0_5 l0_6 l0_7) else none
/-- What the variables hold. -/
structure GlInv (w : World) (cells : Array Value) (n : Nat) (sn : List Bool) (W : World) : Prop where
 hy : W.heap[w.heap.size]? = some (.cells cells 44 (0, 0))
 hs : W.heap[w.heap.size + 1]? = some (.cells (bools sn).toArray 4 (0, 0))
 hv : W.heap[w.heap.size + 2]? = some (.cells #[.slice (some ⟨w.heap.size + 1, 0, none⟩) n n] 104 (0, 0))
 len : sn.length = n
 bel : Below w.heap.size w W
theorem GlInv.mark {w : World} {cells : Array Value} {n : Nat} {sn : List Bool} {W : World} (I : GlInv w cells n sn W) (i : Nat) (b : Bool) : GlInv w cells n (sn.set i b) (W.setCell ⟨w.heap.size + 1, i, none⟩ (.bool b)) where
 hy := blk_far I.hy (by simp) _
 hs := by rw [blk_set I.hs]; simp [bools, List.map_set]
 hv := blk_far I.hv (by simp) _
 len := by rw [List.length_set]; exact I.len
 bel := I.bel.setCell (by simp) _
theorem GlInv.al {w : World} {cells : Array Value} {n : Nat} {sn : List Bool} {W : World} (I : GlInv w cells n sn W) (o : Obj) : GlInv w cells n sn (W.alloc o) where
 hy := blk_alloc I.hy _
 hs := blk_alloc I.hs _
 hv := blk_alloc I.hv _
 len := I.len
 bel := I.bel.alloc I.bel.size _
theorem GlInv.dr {w : World} {cells : Array Value} {n : Nat} {sn : List Bool} {W : World} (I : GlInv w cells n sn W) : GlInv w cells n sn W.drew where
 hy := blk_drew I.hy
 hs := blk_drew I.hs
 hv := blk_drew I.hv
 len := I.len
 bel := below_drew I.bel
theorem GlInv.at {w : World} {cells : Array Value} {n : Nat} {sn : List Bool} {W : World} (I : GlInv w cells n sn W) (k : Nat) (hk : k < n) : W.cell? ⟨w.heap.size + 1, k, none⟩ = some (.bool (sn.getD k false)) ∧ W.frozen? ⟨w.heap.size + 1, k, none⟩ = false := by
 have hl := I.len
 refine ⟨?_, blk_frozen I.hs _⟩
 rw [blk_cell I.hs]
 simp [bools, List.getD_eq_getElem?_getD, List.getElem?_eq_getElem (show k < sn.length by omega)]
section
variable {w : World} {A0 A1 A2 A5 A6 A7 : Option Addr} {n0 n1 n2 n5 n6 n7 c0 c1 c2 c5 c6 c7 : Nat} {a3 a4 a8 a9 a10 : Int}
set_option maxHeartbeats 8000000 in
set_option maxRecDepth 100000 in
theorem good_calls {tr : List S80} (hn5 : n5 = tr.length) (hmax : tr.length ≤ 9223372036854775807) (hr5 : Kd.C k80 w A5 tr.length tr) {sn : List Bool} {W : World}
  (I : GlInv w #[.slice A0 n0 c0, .slice A1 n1 c1, .slice A2 n2 c2, .int .i64 a3, .int .i64 a4, .slice A5 n5 c5, .slice A6 n6 c6, .slice A7 n7 c7, .int .i64 a8, .int .i64 a9, .int .i64 a10] tr.length sn W) (i st sh : Int) :
  Calls Try.prog 104 #[.int .i64 i, .int .i64 st, .int .i64 sh, .pointer (some ⟨w.heap.size + 1 + 1, 0, none⟩), .pointer (some ⟨w.heap.size, 0, none⟩)] W fun e W' => e = .returned (.bool (goodM tr sn i st sh)) ∧ Aside0 (GlInv w #[.slice A0 n0 c0, .slice A1 n1 c1, .slice A2 n2 c2, .int .i64 a3, .int .i64 a4, .slice A5 n5 c5, .slice A6 n6 c6, .slice A7 n7 c7, .int .i64 a8, .int .i64 a9, .int .i64 a10] tr.length (if goodM tr sn i st sh = true then sn.set i.toNat true else sn) W') := by
 have HI := Aside0.mk I
 have HR := am (Kd.C_below hr5 I.bel)
 have hlen := I.len
 have HM := Aside0.mk hmax
 clear hr5 I hmax
 subst hn5
 have hv : W.cell? ⟨w.heap.size + 1 + 1, 0, none⟩ = some (.slice (some ⟨w.heap.size + 1, 0, none⟩) tr.length tr.length) := (blk_cell HI.out.hv 0).trans rfl
 have hy5 : W.cell? ⟨w.heap.size, 5, none⟩ = some (.slice A5 tr.length c5) := (blk_cell HI.out.hy 5).trans rfl
 have hu44 := Try.underlying44
 have hu80 := Try.underlying80
 by_cases g0 : 0 ≤ i
 ·obtain ⟨j, rfl⟩ : ∃ j : Nat, i = (j : Int) := ⟨i.toNat, by omega⟩
  have b0 : decide ((j : Int) < 0) = false := decide_eq_false (by omega)
  by_cases g1 : j < tr.length
  ·have b1 : decide (tr.length ≤ j) = false := decide_eq_false (by omega)
   have hm := HM.out; obtain ⟨hx, hf⟩ := HI.out.at j g1; obtain ⟨ad, rfl, ht0, ht1, ht2⟩ := at_T80 HR.out (j : Int) (by omega) (by omega); rw [Int.toNat_natCast] at ht0 ht1; clear ht2
   have hgm : goodM tr sn (j : Int) st sh = (!(sn.getD j false) && (((rd_T80 tr (j : Int)).f0 == st) && (!(decide (0 ≤ sh)) || ((rd_T80 tr (j : Int)).f1 == sh)))) := by
    simp only [goodM, Int.toNat_natCast]; rw [decide_eq_true (show (0 : Int) ≤ (j : Int) by omega), decide_eq_true (show (j : Int) < (sn.length : Int) by omega)]
    rfl
   generalize (rd_T80 tr (j : Int)).f0 = v0 at ht0 hgm; generalize (rd_T80 tr (j : Int)).f1 = v1 at ht1 hgm
   cases b2 : sn.getD j false with
   | true =>
    rw [b2] at hx hgm; rw [show goodM tr sn (j : Int) st sh = false from by rw [hgm]; simp, if_neg (by simp)]; clear ht0 ht1 hgm
    go_enter Try.func104, Try.ntmps104
    go_wp2
    go_ret
    exact ⟨rfl, HI⟩
   | false =>
    rw [b2] at hx hgm
    cases b3 : (v0 == st) with
    | false =>
     have b3' : (v0 != st) = true := by simp only [bne, b3, Bool.not_false]
     rw [b3] at hgm; rw [show goodM tr sn (j : Int) st sh = false from by rw [hgm]; simp, if_neg (by simp)]; clear ht1 hgm
     go_enter Try.func104, Try.ntmps104
     go_wp2
     go_ret
     exact ⟨rfl, HI⟩
    | true =>
     have b3' : (v0 != st) = false := by simp only [bne, b3, Bool.not_true]
     rw [b3] at hgm
     cases b4 : decide (0 ≤ sh) with
     | false =>
      rw [b4] at hgm; rw [show goodM tr sn (j : Int) st sh = true from by rw [hgm]; simp, if_pos rfl, Int.toNat_natCast]; have hset := HI.out.mark j true; have HS := Aside0.mk hset; clear ht1 hgm hset
      go_enter Try.func104, Try.ntmps104
      go_wp2
      go_ret
      exact ⟨rfl, HS⟩
     | true =>
      rw [b4] at hgm
      cases b5 : (v1 == sh) with
      | false =>
       have b5' : (v1 != sh) = true := by simp only [bne, b5, Bool.not_false]
       rw [b5] at hgm; rw [show goodM tr sn (j : Int) st sh = false from by rw [hgm]; simp, if_neg (by simp)]; clear hgm
       go_enter Try.func104, Try.ntmps104
       go_wp2
       go_ret
       exact ⟨rfl, HI⟩
      | true =>
       have b5' : (v1 != sh) = false := by simp only [bne, b5, Bool.not_true]
       rw [b5] at hgm; rw [show goodM tr sn (j : Int) st sh = true from by rw [hgm]; simp, if_pos rfl, Int.toNat_natCast]; have hset := HI.out.mark j true; have HS := Aside0.mk hset; clear hgm hset
       go_enter Try.func104, Try.ntmps104
       go_wp2
       go_ret
       exact ⟨rfl, HS⟩
  ·have b1 : decide (tr.length ≤ j) = true := decide_eq_true (by omega)
   rw [show goodM tr sn (j : Int) st sh = false by
    simp only [goodM]; rw [decide_eq_false (show ¬ (j : Int) < (sn.length : Int) by omega)]
    simp, if_neg (by simp)]
   have hm := HM.out
   go_enter Try.func104, Try.ntmps104
   go_wp2
   go_ret
   exact ⟨rfl, HI⟩
 ·have b0 : decide (i < 0) = true := decide_eq_true (by omega)
  rw [show goodM tr sn i st sh = false by
   simp only [goodM]; rw [decide_eq_false g0]
   simp, if_neg (by simp)]
  go_enter Try.func104, Try.ntmps104
  go_wp2
  go_ret
  exact ⟨rfl, HI⟩
end
theorem GlInv.made (w : World) (cells : Array Value) (n : Nat) : GlInv w cells n (List.replicate n false) (((w.alloc (.cells cells 44)).alloc (.cells (madeCells #[.bool false] n) 4)).alloc (.cells #[.slice (some ⟨w.heap.size + 1, 0, none⟩) n n] 104)) := by
 have e2 : (madeCells #[Value.bool false] n) = (bools (List.replicate n false)).toArray := by
  apply Array.ext'
  simp only [bools, List.map_replicate]
  apply List.ext_getElem
  ·simp [madeCells]
  ·intro i h1 h2
   simp [madeCells, Nat.mod_one]
 rw [e2]
 have z1 := size_al (.cells cells 44) (rfl : w.heap.size = w.heap.size)
 have z2 := size_al (.cells (bools (List.replicate n false)).toArray 4) z1
 exact ⟨blk_alloc (blk_alloc (blk_new _ _) _) _, blk_alloc (blk_here _ z1) _, blk_here _ z2, by simp, below_alloc (below_alloc (below_alloc (Below.refl _ _) _) _) _⟩
set_option maxHeartbeats 8000000 in
set_option maxRecDepth 100000 in
theorem impl_goodLines.calls (k : Nat) (A0_0 : Option Addr) (c0_0 : Nat) (l0_0 : List Int) (A0_1 : Option Addr) (c0_1 : Nat) (l0_1 : List Int) (A0_2 : Option Addr) (c0_2 : Nat) (l0_2 : List Int) (a0_3 : Int) (a0_4 : Int) (A0_5 : Option Addr) (c0_5 : Nat) (l0_5 : List S80) (A0_6 : Option Addr) (c0_6 : Nat) (l0_6 : List (List Int)) (A0_7 : Option Addr) (c0_7 : Nat) (l0_7 : List Int) (a0_8 : Int) (a0_9 : Int) (a0_10 : Int) (r : Bool) (w : World) (hr0_0 : Kd.C (Kd.int .i64) w A0_0 l0_0.length l0_0) (hc0_0 : l0_0.length ≤ c0_0) (hr0_1 : Kd.C (Kd.int .i64) w A0_1 l0_1.length l0_1) (hc0_1 : l0_1.length ≤ c0_1) (hr0_2 : Kd.C (Kd.int .i64) w A0_2 l0_2.length l0_2) (hc0_2 : l0_2.length ≤ c0_2) (hr0_5 : Kd.C k80 w A0_5 l0_5.length l0_5) (hc0_5 : l0_5.length ≤ c0_5) (hr0_6 : Kd.C (Kd.slice 3 (Kd.int .i64)) w A0_6 l0_6.length l0_6) (hc0_6 : l0_6.length ≤ c0_6) (hr0_7 : Kd.C (Kd.int .i64) w A0_7 l0_7.length l0_7) (hc0_7 : l0_7.length ≤ c0_7) (h : impl_goodLines.f k l0_0 l0_1 l0_2 a0_3 a0_4 l0_5 l0_6 l0_7 a0_8 a0_9 a0_10 = some r) :
  Calls Try.prog 77 #[.agg #[.slice A0_0 l0_0.length c0_0, .slice A0_1 l0_1.length c0_1, .slice A0_2 l0_2.length c0_2, .int .i64 a0_3, .int .i64 a0_4, .slice A0_5 l0_5.length c0_5, .slice A0_6 l0_6.length c0_6, .slice A0_7 l0_7.length c0_7, .int .i64 a0_8, .int .i64 a0_9, .int .i64 a0_10]] w fun e w' => e = .returned (.bool r) ∧ Below w.heap.size w w' := by
 have HR5 := Aside0.mk hr0_5
 have HR6 := Aside0.mk hr0_6
 have HR7 := Aside0.mk hr0_7
 have hm6 := Kd.C_max hr0_6
 have hm7 := Kd.C_max hr0_7
 unfold impl_goodLines.f at h
 have hn : l0_5.length ≤ 1048576 := by
  by_cases g : l0_5.length ≤ 1048576
  ·exact g
  ·rw [if_neg g] at h; cases h
 rw [if_pos hn] at h
 have h := Option.some.inj h
 unfold goodAll at h
 obtain ⟨R, hR⟩ : ∃ R, goodWs l0_5 0 l0_6 (List.replicate l0_5.length false) = R := ⟨_, rfl⟩
 rw [hR] at h
 have HH := Aside0.mk h
 have HS := Aside0.mk hR
 have HN := Aside0.mk hn
 have HM6 := Aside0.mk hm6
 have HM7 := Aside0.mk hm7
 have hmk := print_make_of (P := Try.prog) 104 4 (.bool false) 1 Try.underlying104 info4 rfl (by omega) l0_5.length (by omega)
 have hu44 := Try.underlying44
 have hu80 := Try.underlying80
 obtain ⟨cells, hcells⟩ : ∃ cells : Array Value, cells = #[.slice A0_0 l0_0.length c0_0, .slice A0_1 l0_1.length c0_1, .slice A0_2 l0_2.length c0_2, .int .i64 a0_3, .int .i64 a0_4, .slice A0_5 l0_5.length c0_5, .slice A0_6 l0_6.length c0_6, .slice A0_7 l0_7.length c0_7, .int .i64 a0_8, .int .i64 a0_9, .int .i64 a0_10] := ⟨_, rfl⟩
 have HCE := Aside0.mk hcells
 clear h hR hn hr0_0 hc0_0 hr0_1 hc0_1 hr0_2 hc0_2 hr0_5 hc0_5 hr0_6 hc0_6 hr0_7 hc0_7 hm6 hm7 hcells
 go_enter Try.func77, Try.ntmps77
 go_wp2
 go_loopg [21] l0_6.length (fun kq v21 w' => ∃ (s : Nat) (sn : List Bool), v21 = .int .i64 (s : Int) ∧ Aside0 (s + kq = l0_6.length) ∧ Aside0 (goodWs l0_5 s (l0_6.drop s) sn = R) ∧ Aside0 (GlInv w cells l0_5.length sn w'))
 case atStart => exact ⟨0, List.replicate l0_5.length false, rfl, ⟨Nat.zero_add _⟩, HS, ⟨by rw [HCE.out]; exact GlInv.made w _ _⟩⟩
 case round =>
  clear hmk
  obtain ⟨s, sn, rfl, HK, HA, HI⟩ := hrel
  have hb5 : wr.cell? ⟨w.heap.size, 5, none⟩ = some (.slice A0_5 l0_5.length c0_5) := (blk_cell HI.out.hy 5).trans (by rw [HCE.out]; rfl)
  have hb7 : wr.cell? ⟨w.heap.size, 7, none⟩ = some (.slice A0_7 l0_7.length c0_7) := (blk_cell HI.out.hy 7).trans (by rw [HCE.out]; rfl)
  cases gk with
  | zero =>
   have hs : s = l0_6.length := by have := HK.out; omega
   have hA := HA.out; rw [List.drop_of_length_le (by omega)] at hA; have hR : some sn = R := hA; have hH := HH.out; rw [← hR] at hH; simp only [Option.bind_some] at hH; have hb : decide (s < l0_6.length) = false := decide_eq_false (by omega)
   obtain ⟨R2, hR2⟩ : ∃ R2, goodLn l0_5 3 (-1) l0_7 sn = R2 := ⟨_, rfl⟩
   rw [hR2] at hH; have HS2 := Aside0.mk hR2; have HH2 := Aside0.mk hH; clear hs hA hR hH hR2 HH HS HA
   go_wp2
   go_loopg [42] l0_7.length (fun kq v42 w' => ∃ (i : Nat) (sn : List Bool), v42 = .int .i64 (i : Int) ∧ Aside0 (i + kq = l0_7.length) ∧ Aside0 (goodLn l0_5 3 (-1) (l0_7.drop i) sn = R2) ∧ Aside0 (GlInv w cells l0_5.length sn w'))
   case atStart => exact ⟨0, sn, rfl, ⟨Nat.zero_add _⟩, HS2, HI⟩
   case round =>
    clear hb5 hb7 hb HI HK HS2; obtain ⟨i, sn2, rfl, HK, HA, HI⟩ := hrel; have hb5 : wr.cell? ⟨w.heap.size, 5, none⟩ = some (.slice A0_5 l0_5.length c0_5) := (blk_cell HI.out.hy 5).trans (by rw [HCE.out]; rfl)
    cases gk with
    | zero =>
     have hi : i = l0_7.length := by have := HK.out; omega
     have hA := HA.out; rw [List.drop_of_length_le (by omega)] at hA; have hR : some sn2 = R2 := hA; have hH := HH2.out; rw [← hR] at hH; have hb : decide (i < l0_7.length) = false := decide_eq_false (by omega); have HH3 := am (show goodTr 0 l0_5 sn2 = r from hH); clear hi hA hR hH HH2 HA
     go_wp2
     go_loopg [54] l0_5.length (fun kq v54 w' => ∃ (i : Nat), v54 = .int .i64 (i : Int) ∧ Aside0 (i + kq = l0_5.length) ∧ Aside0 (goodTr i (l0_5.drop i) sn2 = r) ∧ Aside0 (GlInv w cells l0_5.length sn2 w'))
     case atStart => exact ⟨0, rfl, ⟨Nat.zero_add _⟩, HH3, HI⟩
     case round =>
      clear hb5 hb HI HK HH3; obtain ⟨i, rfl, HK, HA, HI⟩ := hrel
      cases gk with
      | zero =>
       have hi : i = l0_5.length := by have := HK.out; omega
       have hA := HA.out; rw [List.drop_of_length_le (by omega)] at hA; obtain rfl : true = r := hA; have hb : decide (i < l0_5.length) = false := decide_eq_false (by omega); clear hi
       go_wp2
       go_ret
       exact ⟨rfl, HI.out.bel⟩
      | succ k1 =>
       have hi : i < l0_5.length := by have := HK.out; omega
       have hA := HA.out; rw [List.drop_eq_getElem_cons hi] at hA; simp only [goodTr] at hA; have hb : decide (i < l0_5.length) = true := decide_eq_true hi; have hn := HN.out; obtain ⟨ad, e5, ht0, ht1, ht2⟩ := at_T80 (Kd.C_below HR5.out HI.out.bel) (i : Int) (by omega) (by omega); subst e5; rw [Int.toNat_natCast] at ht0 ht1 ht2
       have hrd : rd_T80 l0_5 (i : Int) = l0_5[i] := by simp [rd_T80, List.getD_eq_getElem?_getD, hi]
       rw [← hrd] at hA; generalize (rd_T80 l0_5 (i : Int)).f0 = v0 at ht0 hA; generalize (rd_T80 l0_5 (i : Int)).f1 = v1 at ht1; generalize (rd_T80 l0_5 (i : Int)).f2 = v2 at ht2; have HI2 := HI.out.al (.cells #[.int .i64 v0, .int .i64 v1, .int .i64 v2] 80); obtain ⟨hx, hf⟩ := HI2.at i hi; have hv : (wr.alloc (.cells #[.int .i64 v0, .int .i64 v1, .int .i64 v2] 80)).cell? ⟨w.heap.size + 2, 0, none⟩ = some (.slice (some ⟨w.heap.size + 1, 0, none⟩) l0_5.length l0_5.length) := (blk_cell HI2.hv 0).trans rfl; have hz0 : (wr.alloc (.cells #[.int .i64 v0, .int .i64 v1, .int .i64 v2] 80)).cell? ⟨wr.heap.size, 0, none⟩ = some (.int .i64 v0) := (blk_cell (blk_new _ _) 0).trans rfl; have HI3 := Aside0.mk HI2; have HA3 := Aside0.mk hA; clear hA hrd HI2 HA; generalize sn2.getD i false = b at hx HA3
       cases c0 : (v0 == 0) with
       | true =>
        cases b with
        | true =>
         have F0 := Aside0.mk c0
         go_wp2
         go_region
         go_wp2
         have HA4 := am (show goodTr (i + 1) (l0_5.drop (i + 1)) sn2 = r from by have q := HA3.out; simpa [F0.out] using q)
         go_roundg k1
         case measure => omega
         case rel => exact ⟨i + 1, by go_num, ⟨by have := HK.out; omega⟩, HA4, ⟨HI3.out.dr⟩⟩
        | false =>
         have F0 := Aside0.mk c0
         go_wp2
         go_region
         go_wp2
         obtain rfl : false = r := by have q := HA3.out; simpa [F0.out] using q
         go_ret
         exact ⟨rfl, HI3.out.dr.bel⟩
       | false =>
        cases c3 : (v0 == 3) with
        | true =>
         cases b with
         | true =>
          have F0 := Aside0.mk c0; have F3 := Aside0.mk c3
          go_wp2
          go_region
          go_wp2
          have HA4 := am (show goodTr (i + 1) (l0_5.drop (i + 1)) sn2 = r from by have q := HA3.out; simpa [F0.out, F3.out] using q)
          go_roundg k1
          case measure => omega
          case rel => exact ⟨i + 1, by go_num, ⟨by have := HK.out; omega⟩, HA4, ⟨HI3.out.dr⟩⟩
         | false =>
          have F0 := Aside0.mk c0; have F3 := Aside0.mk c3
          go_wp2
          go_region
          go_wp2
          obtain rfl : false = r := by have q := HA3.out; simpa [F0.out, F3.out] using q
          go_ret
          exact ⟨rfl, HI3.out.dr.bel⟩
        | false =>
         cases b with
         | true =>
          have F0 := Aside0.mk c0; have F3 := Aside0.mk c3
          go_wp2
          go_region
          go_wp2
          obtain rfl : false = r := by have q := HA3.out; simpa [F0.out, F3.out] using q
          go_ret
          exact ⟨rfl, HI3.out.dr.bel⟩
         | false =>
          have F0 := Aside0.mk c0; have F3 := Aside0.mk c3
          go_wp2
          go_region
          go_wp2
          have HA4 := am (show goodTr (i + 1) (l0_5.drop (i + 1)) sn2 = r from by have q := HA3.out; simpa [F0.out, F3.out] using q)
          go_roundg k1
          case measure => omega
          case rel => exact ⟨i + 1, by go_num, ⟨by have := HK.out; omega⟩, HA4, ⟨HI3.out.dr⟩⟩
    | succ k1 =>
     have hi : i < l0_7.length := by have := HK.out; omega
     have hA := HA.out; rw [List.drop_eq_getElem_cons hi] at hA; simp only [goodLn] at hA; have hb : decide (i < l0_7.length) = true := decide_eq_true hi; have hn := HN.out; have hm7 := HM7.out; obtain ⟨ad, e7, hx⟩ := Kd.at_int (Kd.C_below HR7.out HI.out.bel) (i : Int) (by omega) (by omega); subst e7; rw [Int.toNat_natCast] at hx
     have hrd : rd l0_7 (i : Int) = l0_7[i] := by simp [rd, List.getD_eq_getElem?_getD, hi]
     rw [← hrd] at hA; generalize rd l0_7 (i : Int) = x at hx hA; have HA2 := Aside0.mk hA; clear hA hrd HA hb5
     go_wp2_with fail
     refine (good_calls (w := w) (tr := l0_5) rfl (by omega) HR5.out (HCE.out ▸ HI.out) x 3 (-1)).mono ?_
     rintro e W1 ⟨rfl, HI1⟩
     rw [← HCE.out] at HI1; clear hx HI
     cases hg : goodM l0_5 sn2 x 3 (-1) with
     | true =>
      have HG := Aside0.mk hg; have HA3 := am (show goodLn l0_5 3 (-1) (l0_7.drop (i + 1)) (sn2.set x.toNat true) = R2 from by have q := HA2.out; rw [HG.out, if_pos rfl] at q; exact q); rw [hg, if_pos rfl] at HI1; clear hg
      go_wp2
      go_roundg k1
      case measure => omega
      case rel => exact ⟨i + 1, _, by go_num, ⟨by have := HK.out; omega⟩, HA3, HI1⟩
     | false =>
      have HG := Aside0.mk hg; have HB1 := Aside0.mk HI1.out.bel; clear hg HI1
      go_wp2
      obtain rfl : false = r := by
       have q := HA2.out; rw [HG.out, if_neg (by simp)] at q; have q2 := HH2.out; rw [← q] at q2
       exact q2
      go_ret
      exact ⟨rfl, HB1.out⟩
  | succ k1 =>
   have hs : s < l0_6.length := by have := HK.out; omega
   have hA := HA.out; rw [List.drop_eq_getElem_cons hs] at hA; simp only [goodWs] at hA; have hb : decide (s < l0_6.length) = true := decide_eq_true hs; have hm6 := HM6.out; obtain ⟨ad, A0, c0, e6, hxw, hc0, hrow⟩ := at_row HR6.out (s : Int) (by omega) (by omega); subst e6; rw [Int.toNat_natCast] at hxw; have hx := (HI.out.bel.cell (World.block_lt_of_cell? w _ hxw)).trans hxw
   have hrd : rowAt l0_6 (s : Int) = l0_6[s] := by simp [rowAt, List.getD_eq_getElem?_getD, hs]
   rw [← hrd] at hA; generalize rowAt l0_6 (s : Int) = row at hx hA hrow hc0; have HROW := Aside0.mk hrow; have HRM := am (Kd.C_max hrow); have HA2 := am (show (goodLn l0_5 0 (s : Int) (row.drop 0) sn).bind (goodWs l0_5 (s + 1) (l0_6.drop (s + 1))) = R from hA); have HSL := Aside0.mk hs; clear hA hrd HA hb5 hb7 hrow hc0 hxw
   go_wp2
   go_loopg [28] row.length (fun kq v28 w' => ∃ (i : Nat) (sn : List Bool), v28 = .int .i64 (i : Int) ∧ Aside0 (i + kq = row.length) ∧ Aside0 ((goodLn l0_5 0 (s : Int) (row.drop i) sn).bind (goodWs l0_5 (s + 1) (l0_6.drop (s + 1))) = R) ∧ Aside0 (GlInv w cells l0_5.length sn w'))
   case atStart => exact ⟨0, sn, rfl, ⟨Nat.zero_add _⟩, HA2, HI⟩
   case round =>
    clear hb hx HA2 HI hm6 hs; obtain ⟨i, sn2, rfl, HK2, HA, HI⟩ := hrel
    cases gk with
    | zero =>
     have hi : i = row.length := by have := HK2.out; omega
     have hA := HA.out; rw [List.drop_of_length_le (by omega)] at hA; have HA2 := am (show goodWs l0_5 (s + 1) (l0_6.drop (s + 1)) sn2 = R from hA); have hb : decide (i < row.length) = false := decide_eq_false (by omega); have hm6 := HM6.out; have hs := HSL.out; clear hi hA HA
     go_wp2
     go_roundg k1
     case measure => omega
     case rel => exact ⟨s + 1, sn2, by go_num, ⟨by have := HK.out; omega⟩, HA2, HI⟩
    | succ k2 =>
     have hi : i < row.length := by have := HK2.out; omega
     have hA := HA.out; rw [List.drop_eq_getElem_cons hi] at hA; simp only [goodLn] at hA; have hb : decide (i < row.length) = true := decide_eq_true hi; have hn := HN.out; have hm7 := HRM.out; obtain ⟨ad2, e7, hx⟩ := Kd.at_int (Kd.C_below HROW.out HI.out.bel) (i : Int) (by omega) (by omega); subst e7; rw [Int.toNat_natCast] at hx
     have hrd : rd row (i : Int) = row[i] := by simp [rd, List.getD_eq_getElem?_getD, hi]
     rw [← hrd] at hA; generalize rd row (i : Int) = x at hx hA; have HA2 := Aside0.mk hA; clear hA hrd HA
     go_wp2_with fail
     refine (good_calls (w := w) (tr := l0_5) rfl (by omega) HR5.out (HCE.out ▸ HI.out) x 0 (s : Int)).mono ?_
     rintro e W1 ⟨rfl, HI1⟩
     rw [← HCE.out] at HI1; clear hx HI
     cases hg : goodM l0_5 sn2 x 0 (s : Int) with
     | true =>
      have HG := Aside0.mk hg; have HA3 := am (show (goodLn l0_5 0 (s : Int) (row.drop (i + 1)) (sn2.set x.toNat true)).bind (goodWs l0_5 (s + 1) (l0_6.drop (s + 1))) = R from by have q := HA2.out; rw [HG.out, if_pos rfl] at q; exact q); rw [hg, if_pos rfl] at HI1; clear hg
      go_wp2
      go_roundg k2
      case measure => omega
      case rel => exact ⟨i + 1, _, by go_num, ⟨by have := HK2.out; omega⟩, HA3, HI1⟩
     | false =>
      have HG := Aside0.mk hg; have HB1 := Aside0.mk HI1.out.bel; clear hg HI1
      go_wp2
      obtain rfl : false = r := by
       have q := HA2.out; rw [HG.out, if_neg (by simp)] at q; have q2 := HH.out; rw [← q] at q2
       exact q2
      go_ret
      exact ⟨rfl, HB1.out⟩


end Go.Proofs.Ytikbfnbfbpnmjaa.PFnExactCountStates
