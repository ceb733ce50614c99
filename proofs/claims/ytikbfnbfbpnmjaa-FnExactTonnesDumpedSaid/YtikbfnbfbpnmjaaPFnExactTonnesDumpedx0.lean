/- Text written by a program for this claim: contracts of the functions of one law. -/
import Derived.Test.YtikbfnbfbpnmjaaProg
import Derived.Below
import Derived.Deep.Draws
import Derived.Deep.AppendLies
import Derived.Maps.AppendAt
import Derived.OwnWalk
import Derived.Laws.BytesArg
import Derived.Laws.MakeOwn
import Derived.Laws.OwnMore
import Derived.Deep.OwnRows
import Derived.Tactics
import Derived.Lib.ConvBytes
import Derived.Laws.Slices
import Derived.WalkKit
import Derived.KernelRfl
import Derived.RowKit3
import Derived.Deep.LoopGhost
import Derived.Deep.QuietTactic
import Derived.BigQuiet
import Derived.WideLaws
import Derived.Deep.DeepCutAuto
import Derived.Deep.CutBlock
import Derived.Deep.RegionHeld3
import Derived.Laws.Rows
import Derived.Lib.AppendStr
import Derived.ArgAppend
import Derived.Laws.IdiomCopy
import Derived.OrdersHeld
import Derived.Laws.BitsLemmas
import Derived.RowKit
import Derived.Laws.EntriesVeiled
import Derived.Test.YtikbfnbfbpnmjaaWWords
import Derived.Test.YtikbfnbfbpnmjaaWLast
import Derived.Test.YtikbfnbfbpnmjaaWTab
import Derived.Test.YtikbfnbfbpnmjaaWQPut
import Derived.Test.YtikbfnbfbpnmjaaWApart
import Derived.Test.YtikbfnbfbpnmjaaWArr
import Derived.Test.YtikbfnbfbpnmjaaWZeros
import Derived.Test.YtikbfnbfbpnmjaaWFoot
import Derived.Test.YtikbfnbfbpnmjaaWKept
import Derived.Test.YtikbfnbfbpnmjaaWShare
import Derived.Test.YtikbfnbfbpnmjaaWN
import Derived.Test.YtikbfnbfbpnmjaaWRepsOne
import Derived.Test.YtikbfnbfbpnmjaaWGuard
import Derived.Test.YtikbfnbfbpnmjaaWNEv
import Derived.Test.YtikbfnbfbpnmjaaWMore
namespace Go.Proofs.Ytikbfnbfbpnmjaa.PFnExactTonnesDumped
open Go.RowKit Go.Proofs.YtikbfnbfbpnmjaaW.PrintWords Go.Proofs.YtikbfnbfbpnmjaaW.PrintLast Go.Proofs.YtikbfnbfbpnmjaaW.PrintMore
attribute [local go_sem] max2_int min2_int max_two min_two max_three min_three max_four min_four   -- for this text's walks alone
set_option linter.unusedVariables false
set_option linter.unusedSimpArgs false
namespace ShortPFnExactTonnesDumped0
theorem s1 {α : Type _} {l : List α} {i : Nat} {a : α} : l.toArray.setIfInBounds i a = (l.set i a).toArray := List.setIfInBounds_toArray ..
theorem s2 {α : Type _} {l : List α} {a b : α} : (a :: l).set 0 b = b :: l := rfl
theorem s3 {α : Type _} {l : List α} {n : Nat} {a b : α} : (a :: l).set (n + 1) b = a :: l.set n b := rfl
abbrev Y : Bool := true
abbrev Z : Bool := false
theorem odt {p : Prop} [Decidable p] (h : decide p = true := by first | (with_reducible assumption) | assumption) : p := of_decide_eq_true h
theorem am {p : Prop} (h : p) : Aside0 p := ⟨h⟩
theorem ba {w W : World} (h : Below w.heap.size w W) (o : Obj) : Below w.heap.size w (W.alloc o) := below_alloc h o
theorem bn {B : Nat} {w W : World} (h : Below B w W) (n : Nat) : Below B w (W.drewN n) := pw_below_drewN h n
theorem kn {w : World} {g : Nat} {o : Obj} (h : w.heap[g]? = some o) (n : Nat) : (w.drewN n).heap[g]? = some o := h
theorem kd {w : World} {g : Nat} {o : Obj} (h : w.heap[g]? = some o) : w.drew.heap[g]? = some o := h
theorem ka {w : World} {g : Nat} {o : Obj} (h : w.heap[g]? = some o) (o' : Obj) : (w.alloc o').heap[g]? = some o := blk_alloc h o'
abbrev o0' (a : Obj := by exact .cells #[.slice A0_0 l0_0.length c0_0, .slice A0_1 l0_1.length c0_1, .slice A0_2 l0_2.length c0_2, .int .i64 a0_3, .int .i64 a0_4, .slice A0_5 l0_5.length c0_5, .slice A0_6 l0_6.length c0_6, .slice A0_7 l0_7.length c0_7, .int .i64 a0_8, .int .i64 a0_9, .int .i64 a0_10] 44 (0, 0)) : Obj := a
abbrev o1' (a : Obj := by exact .cells #[.slice A0_0 l0_0.length c0_0, .slice A0_1 l0_1.length c0_1, .slice A0_2 l0_2.length c0_2, .int .i64 a0_3, .int .i64 a0_4, .slice (some ad209) l0_5.length c0_5, .slice A0_6 l0_6.length c0_6, .slice A0_7 l0_7.length c0_7, .int .i64 a0_8, .int .i64 a0_9, .int .i64 a0_10] 44 (0, 0)) : Obj := a
abbrev o2' (a : Obj := by exact .cells #[.slice A0_0 l0_0.length c0_0, .slice A0_1 l0_1.length c0_1, .slice A0_2 l0_2.length c0_2, .int .i64 a0_3, .int .i64 a0_4, .slice A0_5 l0_5.length c0_5, .slice A0_6 l0_6.length c0_6, .slice A0_7 l0_7.length c0_7, .int .i64 a0_8, .int .i64 a0_9, .int .i64 a0_10] 39 (0, 0)) : Obj := a
abbrev o3' (a : Obj := by exact .cells #[.slice A0_0 l0_0.length c0_0, .slice A0_1 l0_1.length c0_1, .slice A0_2 l0_2.length c0_2, .int .i64 a0_3, .int .i64 a0_4] 27 (0, 0)) : Obj := a
abbrev o4' (a : Obj := by exact .cells #[.slice A1_0 l1_0.length c1_0, .slice A1_1 l1_1.length c1_1, .slice A1_2 l1_2.length c1_2, .int .i64 a1_3, .int .i64 a1_4, .slice A1_5 l1_5.length c1_5, .slice A1_6 l1_6.length c1_6, .slice A1_7 l1_7.length c1_7, .int .i64 a1_8, .int .i64 a1_9, .int .i64 a1_10] 44 (0, 0)) : Obj := a
abbrev o5' (a : Obj := by exact .cells #[.int .i64 ((rd_T80 l0_5 x11_1).f0), .int .i64 ((rd_T80 l0_5 x11_1).f1), .int .i64 ((rd_T80 l0_5 x11_1).f2)] 80 (0, 0)) : Obj := a
abbrev o6' (a : Obj := by exact .cells #[.slice A0_0 l0_0.length c0_0, .slice A0_1 l0_1.length c0_1, .slice A0_2 l0_2.length c0_2, .int .i64 a0_3, .int .i64 a0_4, .slice (some ad270) l0_5.length c0_5, .slice A0_6 l0_6.length c0_6, .slice A0_7 l0_7.length c0_7, .int .i64 a0_8, .int .i64 a0_9, .int .i64 a0_10] 44 (0, 0)) : Obj := a
abbrev o7' (a : Obj := by exact .cells #[.slice none 0 0, .slice none 0 0, .slice none 0 0, .int .i64 0, .int .i64 0, .slice none 0 0, .slice none 0 0, .slice none 0 0, .int .i64 0, .int .i64 0, .int .i64 0] 44 (0, 0)) : Obj := a
abbrev o8' (a : Obj := by exact .cells #[.slice Ao27 t304.length co27, .slice Ao30 t307.length co30, .slice Ao31 t310.length co31, .int .i64 t313, .int .i64 t314, .slice Ao32 t315.length co32, .slice Ao33 t318.length co33, .slice Ao34 t321.length co34, .int .i64 t324, .int .i64 t325, .int .i64 t326] 44 (0, 0)) : Obj := a
abbrev o9' (a : Obj := by exact .cells #[.slice A0_0 l0_0.length c0_0, .slice A0_1 l0_1.length c0_1, .slice A0_2 l0_2.length c0_2, .int .i64 a0_3, .int .i64 a0_4] 24 (0, 0)) : Obj := a
abbrev o10' (a : Obj := by exact .cells #[.slice A0_0 l0_0.length c0_0, .slice A0_1 l0_1.length c0_1, .slice A0_2 l0_2.length c0_2, .int .i64 a0_3, .int .i64 a0_4, .slice (some ad238) l0_5.length c0_5, .slice A0_6 l0_6.length c0_6, .slice A0_7 l0_7.length c0_7, .int .i64 a0_8, .int .i64 a0_9, .int .i64 a0_10] 44 (0, 0)) : Obj := a
abbrev o11' (a : Obj := by exact .cells #[.int .i64 a0_0, .int .i64 a0_1, .int .i64 a0_2] 80 (0, 0)) : Obj := a
abbrev o12' (a : Obj := by exact .cells #[.slice none 0 0, .slice none 0 0, .slice none 0 0, .int .i64 0, .int .i64 0] 27 (0, 0)) : Obj := a
abbrev o13' (a : Obj := by exact .cells #[.slice A0_0 l0_0.length c0_0, .slice A0_1 l0_1.length c0_1, .slice A0_2 l0_2.length c0_2, .int .i64 a0_3, .int .i64 a0_4, .slice A0_5 l0_5.length c0_5, .slice (some ad244) l0_6.length c0_6, .slice A0_7 l0_7.length c0_7, .int .i64 a0_8, .int .i64 a0_9, .int .i64 a0_10] 44 (0, 0)) : Obj := a
abbrev o14' (a : Obj := by exact .cells #[.int .i64 a0_0, .int .i64 a0_1, .int .i64 a0_2] 103 (0, 0)) : Obj := a
abbrev o15' (a : Obj := by exact .cells #[.int .i64 ((rd_T80 l0_5 x73_2).f0), .int .i64 ((rd_T80 l0_5 x73_2).f1), .int .i64 ((rd_T80 l0_5 x73_2).f2)] 80 (0, 0)) : Obj := a
theorem za' {p : Prop} (h : p := by repeat (first | (with_reducible first | exact HB.out | apply ba | apply bn | apply below_drew1) | exact HB.out)) : p := h
theorem zb' {p : Prop} (h : p := by (try simp only [List.map_toArray, List.map_cons, List.map_nil]); first | done | rfl | (simp only [List.length_drop, List.length_take]; rfl)) : p := h
theorem zc' {p : Prop} (h : p := by repeat (first | exact (Kd.C_below HR0_0.out HB.out) | (with_reducible refine Kd.C_alloc ?_ _) | (with_reducible refine Kd.C_drewN ?_ _) | (with_reducible refine Kd.C_drew ?_))) : p := h
theorem zd' {p : Prop} (h : p := by repeat (first | exact (Kd.C_below HR0_1.out HB.out) | (with_reducible refine Kd.C_alloc ?_ _) | (with_reducible refine Kd.C_drewN ?_ _) | (with_reducible refine Kd.C_drew ?_))) : p := h
theorem ze' {p : Prop} (h : p := by repeat (first | exact (Kd.C_below HR0_2.out HB.out) | (with_reducible refine Kd.C_alloc ?_ _) | (with_reducible refine Kd.C_drewN ?_ _) | (with_reducible refine Kd.C_drew ?_))) : p := h
theorem zf' {p : Prop} (h : p := by repeat (first | (with_reducible first | exact HB.out | apply ba | apply bn | apply below_drew1 | refine below_set ?_ GE263.out) | exact HB.out)) : p := h
theorem zg' {p : Prop} (h : p := by repeat (first | (with_reducible first | exact HB.out | apply ba | apply bn | apply below_drew1 | refine below_set ?_ GE207.out | refine below_set ?_ GE210.out) | exact HB.out)) : p := h
theorem zh' {p : Prop} (h : p := by repeat (first | exact (Kd.C_below HR0_5.out HB.out) | (with_reducible refine Kd.C_alloc ?_ _) | (with_reducible refine Kd.C_drewN ?_ _) | (with_reducible refine Kd.C_drew ?_))) : p := h
theorem zi' {p : Prop} (h : p := by (with_reducible repeat (first | apply Kd.R_alloc | apply Kd.R_drewN | apply Kd.R_drew)); exact HO_3.out) : p := h
theorem zj' {p : Prop} (h : p := by repeat (first | (with_reducible first | exact HB.out | apply ba | apply bn | apply below_drew1 | refine below_set ?_ GE186.out | refine below_set ?_ GE187.out) | exact HB.out)) : p := h
theorem zk' {p : Prop} (h : p := by repeat (first | exact (Kd.C_below HR0_6.out HB.out) | (with_reducible refine Kd.C_alloc ?_ _) | (with_reducible refine Kd.C_drewN ?_ _) | (with_reducible refine Kd.C_drew ?_))) : p := h
theorem zl' {p : Prop} (h : p := by repeat (first | exact (Kd.C_below HR0_7.out HB.out) | (with_reducible refine Kd.C_alloc ?_ _) | (with_reducible refine Kd.C_drewN ?_ _) | (with_reducible refine Kd.C_drew ?_))) : p := h
theorem zm' {p : Prop} (h : p := by (with_reducible repeat (first | apply kn | apply kd | apply ka)); exact BK207.out) : p := h
theorem zn' {p : Prop} (h : p := by first | (go_simp; done) | (go_simp; rfl)) : p := h
theorem zo' {p : Prop} (h : p := by first | rfl | (simp; done) | (simp [*]; done)) : p := h
theorem zp' {p : Prop} (h : p := by repeat (first | (with_reducible first | exact HB.out | apply ba | apply bn | apply below_drew1 | refine below_set ?_ GE186.out) | exact HB.out)) : p := h
theorem zq' {p : Prop} (h : p := by repeat (first | (with_reducible first | exact HB.out | apply ba | apply bn | apply below_drew1 | refine below_set ?_ GE277.out | refine below_set ?_ GE327.out) | exact HB.out)) : p := h
theorem zr' {p : Prop} (h : p := by repeat (first | (with_reducible first | exact HB.out | apply ba | apply bn | apply below_drew1 | refine below_set ?_ GE173.out | refine below_set ?_ GE174.out) | exact HB.out)) : p := h
theorem zs' {p : Prop} (h : p := by (with_reducible repeat (first | apply kn | apply kd | apply ka)); exact BK186.out) : p := h
theorem zt' {p : Prop} (h : p := by repeat (first | (with_reducible first | exact HB.out | apply ba | apply bn | apply below_drew1 | refine below_set ?_ GE277.out) | exact HB.out)) : p := h
theorem zu' {p : Prop} (h : p := by (with_reducible repeat (first | apply kn | apply kd | apply ka)); exact BK263.out) : p := h
theorem zv' {p : Prop} (h : p := by (with_reducible repeat (first | apply kn | apply kd | apply ka)); exact BK210.out) : p := h
theorem zw' {p : Prop} (h : p := by repeat (first | (with_reducible first | exact HB.out | apply ba | apply bn | apply below_drew1 | refine below_set ?_ GE148.out | refine below_set ?_ GE149.out | refine below_set ?_ GE150.out) | exact HB.out)) : p := h
theorem zx' {p : Prop} (h : p := by repeat (first | (with_reducible first | exact HB.out | apply ba | apply bn | apply below_drew1 | refine below_set ?_ GE173.out) | exact HB.out)) : p := h
theorem zy' {p : Prop} (h : p := by repeat (first | exact (Kd.R_reads' HO_3.out).2.2 | (with_reducible refine Kd.C_alloc ?_ _) | (with_reducible refine Kd.C_drewN ?_ _) | (with_reducible refine Kd.C_drew ?_))) : p := h
theorem zz' {p : Prop} (h : p := by repeat (first | exact (Kd.C_below HR1_0.out HB.out) | (with_reducible refine Kd.C_alloc ?_ _) | (with_reducible refine Kd.C_drewN ?_ _) | (with_reducible refine Kd.C_drew ?_))) : p := h
theorem za1' {p : Prop} (h : p := by repeat (first | (with_reducible first | exact HB.out | apply ba | apply bn | apply below_drew1 | refine below_set ?_ GE241.out) | exact HB.out)) : p := h
theorem zb1' {p : Prop} (h : p := by repeat (first | (with_reducible first | exact HB.out | apply ba | apply bn | apply below_drew1 | refine below_set ?_ GE252.out) | exact HB.out)) : p := h
theorem zc1' {p : Prop} (h : p := by repeat (first | (with_reducible first | exact HB.out | apply ba | apply bn | apply below_drew1 | refine below_set ?_ GE258.out) | exact HB.out)) : p := h
theorem zd1' {p : Prop} (h : p := by (with_reducible repeat (first | apply kn | apply kd | apply ka)); refine blk_put (cs := #[.int .i64 ((rd_T80 l0_5 x73_2).f0), .int .i64 ((rd_T80 l0_5 x73_2).f1), .int .i64 0]) ?_ 2 _ rfl; (with_reducible repeat (first | apply kn | apply kd | apply ka)); refine blk_put (cs := #[.int .i64 ((rd_T80 l0_5 x73_2).f0), .int .i64 0, .int .i64 0]) ?_ 1 _ rfl; (with_reducible repeat (first | apply kn | apply kd | apply ka)); refine blk_put (cs := #[.int .i64 0, .int .i64 0, .int .i64 0]) ?_ 0 _ rfl; (with_reducible repeat (first | apply kn | apply kd | apply ka)); exact BK271.out) : p := h
theorem ze1' {p : Prop} (h : p := by repeat (first | (with_reducible first | exact HB.out | apply ba | apply bn | apply below_drew1 | refine below_set ?_ GE263.out | refine below_set ?_ GE271.out) | exact HB.out)) : p := h
theorem zf1' {p : Prop} (h : p := by repeat (first | (with_reducible first | exact HB.out | apply ba | apply bn | apply below_drew1 | refine below_set ?_ GE178.out) | exact HB.out)) : p := h
theorem zg1' {p : Prop} (h : p := by repeat (first | (with_reducible first | exact HB.out | apply ba | apply bn | apply below_drew1 | refine below_set ?_ GE195.out) | exact HB.out)) : p := h
theorem zh1' {p : Prop} (h : p := by repeat (first | (with_reducible first | exact HB.out | apply ba | apply bn | apply below_drew1 | refine below_set ?_ GE117.out | refine below_set ?_ GE118.out | refine below_set ?_ GE119.out) | exact HB.out)) : p := h
theorem zi1' {p : Prop} (h : p := by (with_reducible repeat (first | apply Kd.R_alloc | apply Kd.R_drewN | apply Kd.R_drew)); exact Kd.R_mono (Kd.R_far (p := ⟨gb271, 2, none⟩) (Kd.R_far (p := ⟨gb271, 1, none⟩) (Kd.R_far (p := ⟨gb271, 0, none⟩) (Kd.R_types HO_3.out BK271.out (by decide)) (fun _ hk => hk.2) (.int .i64 ((rd_T80 l0_5 x73_2).f0))) (fun _ hk => hk.2) (.int .i64 ((rd_T80 l0_5 x73_2).f1))) (fun _ hk => hk.2) (.int .i64 ((rd_T80 l0_5 x73_2).f2))) (fun _ hk => trivial)) : p := h
theorem zj1' {p : Prop} (h : p := by (with_reducible repeat (first | apply Kd.R_alloc | apply Kd.R_drewN | apply Kd.R_drew)); exact HO_328000.out) : p := h
theorem zk1' {p : Prop} (h : p := by (with_reducible repeat (first | apply Kd.R_alloc | apply Kd.R_drewN | apply Kd.R_drew)); exact HO_328001.out) : p := h
theorem zl1' {p : Prop} (h : p := by (with_reducible repeat (first | apply Kd.R_alloc | apply Kd.R_drewN | apply Kd.R_drew)); exact HO_328002.out) : p := h
theorem zm1' {p : Prop} (h : p := by (with_reducible repeat (first | apply Kd.R_alloc | apply Kd.R_drewN | apply Kd.R_drew)); exact HO_328007.out) : p := h
theorem zn1' {p : Prop} (h : p := by (with_reducible repeat (first | apply kn | apply kd | apply ka)); exact BK173.out) : p := h
theorem zo1' {p : Prop} (h : p := by repeat (first | (with_reducible first | exact HB.out | apply ba | apply bn | apply below_drew1 | refine below_set ?_ GE107.out) | exact HB.out)) : p := h
theorem zp1' {p : Prop} (h : p := by repeat (first | (with_reducible first | exact HB.out | apply ba | apply bn | apply below_drew1 | refine below_set ?_ GE207.out) | exact HB.out)) : p := h
theorem zq1' {p : Prop} (h : p := by repeat (first | exact (Kd.C_below HR1_1.out HB.out) | (with_reducible refine Kd.C_alloc ?_ _) | (with_reducible refine Kd.C_drewN ?_ _) | (with_reducible refine Kd.C_drew ?_))) : p := h
theorem zr1' {p : Prop} (h : p := by repeat (first | exact (Kd.C_below HR1_2.out HB.out) | (with_reducible refine Kd.C_alloc ?_ _) | (with_reducible refine Kd.C_drewN ?_ _) | (with_reducible refine Kd.C_drew ?_))) : p := h
theorem zs1' {p : Prop} (h : p := by (with_reducible repeat (first | apply kn | apply kd | apply ka)); refine blk_put (cs := #[.int .i64 ((rd_T80 l0_5 x15_1).f0), .int .i64 ((rd_T80 l0_5 x15_1).f1), .int .i64 0]) ?_ 2 _ rfl; (with_reducible repeat (first | apply kn | apply kd | apply ka)); refine blk_put (cs := #[.int .i64 ((rd_T80 l0_5 x15_1).f0), .int .i64 0, .int .i64 0]) ?_ 1 _ rfl; (with_reducible repeat (first | apply kn | apply kd | apply ka)); refine blk_put (cs := #[.int .i64 0, .int .i64 0, .int .i64 0]) ?_ 0 _ rfl; (with_reducible repeat (first | apply kn | apply kd | apply ka)); exact BK239.out) : p := h
theorem zt1' {p : Prop} (h : p := by (with_reducible repeat (first | apply kn | apply kd | apply ka)); exact BK241.out) : p := h
theorem zu1' {p : Prop} (h : p := by (with_reducible repeat (first | apply kn | apply kd | apply ka)); refine blk_far ?_ NB263_271.out _; (with_reducible repeat (first | apply kn | apply kd | apply ka)); refine blk_far ?_ NB263_271.out _; (with_reducible repeat (first | apply kn | apply kd | apply ka)); refine blk_far ?_ NB263_271.out _; (with_reducible repeat (first | apply kn | apply kd | apply ka)); exact BK263.out) : p := h
theorem zv1' {p : Prop} (h : p := by (with_reducible repeat (first | apply Kd.R_alloc | apply Kd.R_drewN | apply Kd.R_drew)); exact (Kd.R_mono (Kd.R_far (p := ⟨gb327, 10, none⟩) (Kd.R_far (p := ⟨gb327, 9, none⟩) (Kd.R_far (p := ⟨gb327, 8, none⟩) (Kd.R_far (p := ⟨gb327, 7, none⟩) (Kd.R_far (p := ⟨gb327, 6, none⟩) (Kd.R_far (p := ⟨gb327, 5, none⟩) (Kd.R_far (p := ⟨gb327, 4, none⟩) (Kd.R_far (p := ⟨gb327, 3, none⟩) (Kd.R_far (p := ⟨gb327, 2, none⟩) (Kd.R_far (p := ⟨gb327, 1, none⟩) (Kd.R_far (p := ⟨gb327, 0, none⟩) (Kd.R_types HO306.out BK327.out (by decide)) (fun _ hk => hk.2) (.slice Ao27 t304.length co27)) (fun _ hk => hk.2) (.slice Ao30 t307.length co30)) (fun _ hk => hk.2) (.slice Ao31 t310.length co31)) (fun _ hk => hk.2) (.int .i64 t313)) (fun _ hk => hk.2) (.int .i64 t314)) (fun _ hk => hk.2) (.slice Ao32 t315.length co32)) (fun _ hk => hk.2) (.slice Ao33 t318.length co33)) (fun _ hk => hk.2) (.slice Ao34 t321.length co34)) (fun _ hk => hk.2) (.int .i64 t324)) (fun _ hk => hk.2) (.int .i64 t325)) (fun _ hk => hk.2) (.int .i64 t326)) (fun _ h_ => h_.1))) : p := h
theorem zw1' {p : Prop} (h : p := by (with_reducible repeat (first | apply Kd.R_alloc | apply Kd.R_drewN | apply Kd.R_drew)); exact (Kd.R_mono (Kd.R_far (p := ⟨gb327, 10, none⟩) (Kd.R_far (p := ⟨gb327, 9, none⟩) (Kd.R_far (p := ⟨gb327, 8, none⟩) (Kd.R_far (p := ⟨gb327, 7, none⟩) (Kd.R_far (p := ⟨gb327, 6, none⟩) (Kd.R_far (p := ⟨gb327, 5, none⟩) (Kd.R_far (p := ⟨gb327, 4, none⟩) (Kd.R_far (p := ⟨gb327, 3, none⟩) (Kd.R_far (p := ⟨gb327, 2, none⟩) (Kd.R_far (p := ⟨gb327, 1, none⟩) (Kd.R_far (p := ⟨gb327, 0, none⟩) (Kd.R_types HO309.out BK327.out (by decide)) (fun _ hk => hk.2) (.slice Ao27 t304.length co27)) (fun _ hk => hk.2) (.slice Ao30 t307.length co30)) (fun _ hk => hk.2) (.slice Ao31 t310.length co31)) (fun _ hk => hk.2) (.int .i64 t313)) (fun _ hk => hk.2) (.int .i64 t314)) (fun _ hk => hk.2) (.slice Ao32 t315.length co32)) (fun _ hk => hk.2) (.slice Ao33 t318.length co33)) (fun _ hk => hk.2) (.slice Ao34 t321.length co34)) (fun _ hk => hk.2) (.int .i64 t324)) (fun _ hk => hk.2) (.int .i64 t325)) (fun _ hk => hk.2) (.int .i64 t326)) (fun _ h_ => h_.1))) : p := h
theorem zx1' {p : Prop} (h : p := by (with_reducible repeat (first | apply Kd.R_alloc | apply Kd.R_drewN | apply Kd.R_drew)); exact (Kd.R_mono (Kd.R_far (p := ⟨gb327, 10, none⟩) (Kd.R_far (p := ⟨gb327, 9, none⟩) (Kd.R_far (p := ⟨gb327, 8, none⟩) (Kd.R_far (p := ⟨gb327, 7, none⟩) (Kd.R_far (p := ⟨gb327, 6, none⟩) (Kd.R_far (p := ⟨gb327, 5, none⟩) (Kd.R_far (p := ⟨gb327, 4, none⟩) (Kd.R_far (p := ⟨gb327, 3, none⟩) (Kd.R_far (p := ⟨gb327, 2, none⟩) (Kd.R_far (p := ⟨gb327, 1, none⟩) (Kd.R_far (p := ⟨gb327, 0, none⟩) (Kd.R_types HO312.out BK327.out (by decide)) (fun _ hk => hk.2) (.slice Ao27 t304.length co27)) (fun _ hk => hk.2) (.slice Ao30 t307.length co30)) (fun _ hk => hk.2) (.slice Ao31 t310.length co31)) (fun _ hk => hk.2) (.int .i64 t313)) (fun _ hk => hk.2) (.int .i64 t314)) (fun _ hk => hk.2) (.slice Ao32 t315.length co32)) (fun _ hk => hk.2) (.slice Ao33 t318.length co33)) (fun _ hk => hk.2) (.slice Ao34 t321.length co34)) (fun _ hk => hk.2) (.int .i64 t324)) (fun _ hk => hk.2) (.int .i64 t325)) (fun _ hk => hk.2) (.int .i64 t326)) (fun _ h_ => h_.1))) : p := h
theorem zy1' {p : Prop} (h : p := by (with_reducible repeat (first | apply Kd.R_alloc | apply Kd.R_drewN | apply Kd.R_drew)); exact (Kd.R_mono (Kd.R_far (p := ⟨gb327, 10, none⟩) (Kd.R_far (p := ⟨gb327, 9, none⟩) (Kd.R_far (p := ⟨gb327, 8, none⟩) (Kd.R_far (p := ⟨gb327, 7, none⟩) (Kd.R_far (p := ⟨gb327, 6, none⟩) (Kd.R_far (p := ⟨gb327, 5, none⟩) (Kd.R_far (p := ⟨gb327, 4, none⟩) (Kd.R_far (p := ⟨gb327, 3, none⟩) (Kd.R_far (p := ⟨gb327, 2, none⟩) (Kd.R_far (p := ⟨gb327, 1, none⟩) (Kd.R_far (p := ⟨gb327, 0, none⟩) (Kd.R_types HO317.out BK327.out (by decide)) (fun _ hk => hk.2) (.slice Ao27 t304.length co27)) (fun _ hk => hk.2) (.slice Ao30 t307.length co30)) (fun _ hk => hk.2) (.slice Ao31 t310.length co31)) (fun _ hk => hk.2) (.int .i64 t313)) (fun _ hk => hk.2) (.int .i64 t314)) (fun _ hk => hk.2) (.slice Ao32 t315.length co32)) (fun _ hk => hk.2) (.slice Ao33 t318.length co33)) (fun _ hk => hk.2) (.slice Ao34 t321.length co34)) (fun _ hk => hk.2) (.int .i64 t324)) (fun _ hk => hk.2) (.int .i64 t325)) (fun _ hk => hk.2) (.int .i64 t326)) (fun _ h_ => h_.1))) : p := h
theorem zz1' {p : Prop} (h : p := by (with_reducible repeat (first | apply Kd.S_alloc | apply Kd.S_drewN | apply Kd.S_drew)); exact (Kd.S_mono (Kd.S_far (p := ⟨gb327, 10, none⟩) (Kd.S_far (p := ⟨gb327, 9, none⟩) (Kd.S_far (p := ⟨gb327, 8, none⟩) (Kd.S_far (p := ⟨gb327, 7, none⟩) (Kd.S_far (p := ⟨gb327, 6, none⟩) (Kd.S_far (p := ⟨gb327, 5, none⟩) (Kd.S_far (p := ⟨gb327, 4, none⟩) (Kd.S_far (p := ⟨gb327, 3, none⟩) (Kd.S_far (p := ⟨gb327, 2, none⟩) (Kd.S_far (p := ⟨gb327, 1, none⟩) (Kd.S_far (p := ⟨gb327, 0, none⟩) (Kd.S_types HO320.out BK327.out (by decide)) (fun _ hk => hk.2) (.slice Ao27 t304.length co27)) (fun _ hk => hk.2) (.slice Ao30 t307.length co30)) (fun _ hk => hk.2) (.slice Ao31 t310.length co31)) (fun _ hk => hk.2) (.int .i64 t313)) (fun _ hk => hk.2) (.int .i64 t314)) (fun _ hk => hk.2) (.slice Ao32 t315.length co32)) (fun _ hk => hk.2) (.slice Ao33 t318.length co33)) (fun _ hk => hk.2) (.slice Ao34 t321.length co34)) (fun _ hk => hk.2) (.int .i64 t324)) (fun _ hk => hk.2) (.int .i64 t325)) (fun _ hk => hk.2) (.int .i64 t326)) (fun _ h_ => h_.1))) : p := h
theorem za2' {p : Prop} (h : p := by (with_reducible repeat (first | apply Kd.R_alloc | apply Kd.R_drewN | apply Kd.R_drew)); exact (Kd.R_mono (Kd.R_far (p := ⟨gb327, 10, none⟩) (Kd.R_far (p := ⟨gb327, 9, none⟩) (Kd.R_far (p := ⟨gb327, 8, none⟩) (Kd.R_far (p := ⟨gb327, 7, none⟩) (Kd.R_far (p := ⟨gb327, 6, none⟩) (Kd.R_far (p := ⟨gb327, 5, none⟩) (Kd.R_far (p := ⟨gb327, 4, none⟩) (Kd.R_far (p := ⟨gb327, 3, none⟩) (Kd.R_far (p := ⟨gb327, 2, none⟩) (Kd.R_far (p := ⟨gb327, 1, none⟩) (Kd.R_far (p := ⟨gb327, 0, none⟩) (Kd.R_types HO323.out BK327.out (by decide)) (fun _ hk => hk.2) (.slice Ao27 t304.length co27)) (fun _ hk => hk.2) (.slice Ao30 t307.length co30)) (fun _ hk => hk.2) (.slice Ao31 t310.length co31)) (fun _ hk => hk.2) (.int .i64 t313)) (fun _ hk => hk.2) (.int .i64 t314)) (fun _ hk => hk.2) (.slice Ao32 t315.length co32)) (fun _ hk => hk.2) (.slice Ao33 t318.length co33)) (fun _ hk => hk.2) (.slice Ao34 t321.length co34)) (fun _ hk => hk.2) (.int .i64 t324)) (fun _ hk => hk.2) (.int .i64 t325)) (fun _ hk => hk.2) (.int .i64 t326)) (fun _ h_ => h_.1))) : p := h
theorem zb2' {p : Prop} (h : p := by (with_reducible repeat (first | apply kn | apply kd | apply ka)); exact BK187.out) : p := h
theorem zc2' {p : Prop} (h : p := by (with_reducible repeat (first | apply kn | apply kd | apply ka)); exact BK258.out) : p := h
theorem zd2' {p : Prop} (h : p := by repeat (first | exact (Kd.C_below HR1_5.out HB.out) | (with_reducible refine Kd.C_alloc ?_ _) | (with_reducible refine Kd.C_drewN ?_ _) | (with_reducible refine Kd.C_drew ?_))) : p := h
theorem ze2' {p : Prop} (h : p := by (with_reducible repeat (first | apply kn | apply kd | apply ka)); exact BK252.out) : p := h
theorem zf2' {p : Prop} (h : p := by (with_reducible repeat (first | apply kn | apply kd | apply ka)); exact BK277.out) : p := h
theorem zg2' {p : Prop} (h : p := by repeat (first | exact (Kd.C_below HR1_6.out HB.out) | (with_reducible refine Kd.C_alloc ?_ _) | (with_reducible refine Kd.C_drewN ?_ _) | (with_reducible refine Kd.C_drew ?_))) : p := h
theorem zh2' {p : Prop} (h : p := by (with_reducible repeat (first | apply kn | apply kd | apply ka)); exact BK178.out) : p := h
theorem zi2' {p : Prop} (h : p := by (with_reducible repeat (first | apply Kd.V_alloc | apply Kd.V_drewN | apply Kd.V_drew)); exact HO0_0.out) : p := h
theorem zj2' {p : Prop} (h : p := by (with_reducible repeat (first | apply Kd.V_alloc | apply Kd.V_drewN | apply Kd.V_drew)); exact HO0_1.out) : p := h
theorem zk2' {p : Prop} (h : p := by (with_reducible repeat (first | apply Kd.V_alloc | apply Kd.V_drewN | apply Kd.V_drew)); exact HO0_2.out) : p := h
theorem zl2' {p : Prop} (h : p := by repeat (first | exact HR183_0.out | (with_reducible refine Kd.C_alloc ?_ _) | (with_reducible refine Kd.C_drewN ?_ _) | (with_reducible refine Kd.C_drew ?_))) : p := h
theorem zm2' {p : Prop} (h : p := by repeat (first | exact HR184_0.out | (with_reducible refine Kd.C_alloc ?_ _) | (with_reducible refine Kd.C_drewN ?_ _) | (with_reducible refine Kd.C_drew ?_))) : p := h
theorem zn2' {p : Prop} (h : p := by (with_reducible repeat (first | apply kn | apply kd | apply ka)); refine blk_far ?_ NB237_239.out _; (with_reducible repeat (first | apply kn | apply kd | apply ka)); refine blk_far ?_ NB237_239.out _; (with_reducible repeat (first | apply kn | apply kd | apply ka)); refine blk_far ?_ NB237_239.out _; (with_reducible repeat (first | apply kn | apply kd | apply ka)); exact BK237.out) : p := h
theorem zo2' {p : Prop} (h : p := by exact HC0_0.out) : p := h
theorem zp2' {p : Prop} (h : p := by exact HC0_1.out) : p := h
theorem zq2' {p : Prop} (h : p := by (with_reducible repeat (first | apply Kd.R_alloc | apply Kd.R_drewN | apply Kd.R_drew)); exact HO281.out) : p := h
theorem zr2' {p : Prop} (h : p := by (with_reducible repeat (first | apply Kd.R_alloc | apply Kd.R_drewN | apply Kd.R_drew)); exact HO284.out) : p := h
theorem zs2' {p : Prop} (h : p := by (with_reducible repeat (first | apply Kd.R_alloc | apply Kd.R_drewN | apply Kd.R_drew)); exact HO287.out) : p := h
theorem zt2' {p : Prop} (h : p := by (with_reducible repeat (first | apply Kd.R_alloc | apply Kd.R_drewN | apply Kd.R_drew)); exact HO298.out) : p := h
theorem zu2' {p : Prop} (h : p := by repeat (first | (with_reducible first | exact HB.out | apply ba | apply bn | apply below_drew1 | refine below_set ?_ GE237.out | refine below_set ?_ GE239.out) | exact HB.out)) : p := h
theorem zv2' {p : Prop} (h : p := by repeat (first | exact (Kd.C_below HR0_0.out zg1') | (with_reducible refine Kd.C_alloc ?_ _) | (with_reducible refine Kd.C_drewN ?_ _) | (with_reducible refine Kd.C_drew ?_))) : p := h
theorem zw2' {p : Prop} (h : p := by exact HC0_2.out) : p := h
theorem zx2' {p : Prop} (h : p := by repeat (first | exact (Kd.C_below HR0_1.out zr') | (with_reducible refine Kd.C_alloc ?_ _) | (with_reducible refine Kd.C_drewN ?_ _) | (with_reducible refine Kd.C_drew ?_))) : p := h
theorem zy2' {p : Prop} (h : p := by repeat (first | exact (Kd.C_below HR1_1.out zr') | (with_reducible refine Kd.C_alloc ?_ _) | (with_reducible refine Kd.C_drewN ?_ _) | (with_reducible refine Kd.C_drew ?_))) : p := h
theorem zz2' {p : Prop} (h : p := by repeat (first | exact (Kd.C_below HR0_7.out zj') | (with_reducible refine Kd.C_alloc ?_ _) | (with_reducible refine Kd.C_drewN ?_ _) | (with_reducible refine Kd.C_drew ?_))) : p := h
theorem za3' {p : Prop} (h : p := by repeat (first | exact (Kd.C_below HR1_7.out zj') | (with_reducible refine Kd.C_alloc ?_ _) | (with_reducible refine Kd.C_drewN ?_ _) | (with_reducible refine Kd.C_drew ?_))) : p := h
theorem zb3' {p : Prop} (h : p := by first | omega | exact Nat.le_refl _) : p := h
theorem zc3' {p : Prop} (h : p := by exact Kd.V_mk HC0_0.out (Kd.F_below (Kd.C_F (Kd.heap_int .i64) HR0_0.out) zf')) : p := h
theorem zd3' {p : Prop} (h : p := by exact Kd.V_mk HC0_1.out (Kd.F_below (Kd.C_F (Kd.heap_int .i64) HR0_1.out) zf')) : p := h
theorem ze3' {p : Prop} (h : p := by exact Kd.V_mk HC0_2.out (Kd.F_below (Kd.C_F (Kd.heap_int .i64) HR0_2.out) zf')) : p := h
theorem zf3' {p : Prop} (h : p := by repeat (first | exact (Kd.C_below HR0_1.out (by repeat (first | (with_reducible first | exact HB.out | apply ba | apply bn | apply below_drew1 | refine below_set ?_ GE101.out) | exact HB.out))) | (with_reducible refine Kd.C_alloc ?_ _) | (with_reducible refine Kd.C_drewN ?_ _) | (with_reducible refine Kd.C_drew ?_))) : p := h
theorem zg3' {p : Prop} (h : p := by (with_reducible repeat (first | apply kn | apply kd | apply ka)); refine blk_put (cs := #[.int .i64 ((rd_T80 l0_5 x11_1).f0), .int .i64 ((rd_T80 l0_5 x11_1).f1), .int .i64 0]) ?_ 2 _ rfl; (with_reducible repeat (first | apply kn | apply kd | apply ka)); refine blk_put (cs := #[.int .i64 ((rd_T80 l0_5 x11_1).f0), .int .i64 0, .int .i64 0]) ?_ 1 _ rfl; (with_reducible repeat (first | apply kn | apply kd | apply ka)); refine blk_put (cs := #[.int .i64 0, .int .i64 0, .int .i64 0]) ?_ 0 _ rfl; (with_reducible repeat (first | apply kn | apply kd | apply ka)); exact BK210.out) : p := h
theorem zh3' {p : Prop} (h : p := by (with_reducible repeat (first | apply Kd.R_alloc | apply Kd.R_drewN | apply Kd.R_drew)); exact HO_328005.out) : p := h
theorem zi3' {p : Prop} (h : p := by (with_reducible repeat (first | apply Kd.S_alloc | apply Kd.S_drewN | apply Kd.S_drew)); exact HO_328006.out) : p := h
theorem zj3' {p : Prop} (h : p := by repeat (first | exact (Kd.C_below HR0_1.out zg1') | (with_reducible refine Kd.C_alloc ?_ _) | (with_reducible refine Kd.C_drewN ?_ _) | (with_reducible refine Kd.C_drew ?_))) : p := h
theorem zk3' {p : Prop} (h : p := by repeat (first | exact (Kd.C_below HR0_2.out zr') | (with_reducible refine Kd.C_alloc ?_ _) | (with_reducible refine Kd.C_drewN ?_ _) | (with_reducible refine Kd.C_drew ?_))) : p := h
theorem zl3' {p : Prop} (h : p := by repeat (first | exact (Kd.C_below HR1_2.out zr') | (with_reducible refine Kd.C_alloc ?_ _) | (with_reducible refine Kd.C_drewN ?_ _) | (with_reducible refine Kd.C_drew ?_))) : p := h
theorem zm3' {p : Prop} (h : p := by (with_reducible repeat (first | apply kn | apply kd | apply ka)); exact BK117.out) : p := h
theorem zn3' {p : Prop} (h : p := by (with_reducible repeat (first | apply kn | apply kd | apply ka)); exact BK148.out) : p := h
theorem zo3' {p : Prop} (h : p := by (with_reducible repeat (first | apply Kd.R_alloc | apply Kd.R_drewN | apply Kd.R_drew)); exact Kd.R_mono (Kd.R_far (p := ⟨gb210, 2, none⟩) (Kd.R_far (p := ⟨gb210, 1, none⟩) (Kd.R_far (p := ⟨gb210, 0, none⟩) (Kd.R_types HO_3.out BK210.out (by decide)) (fun _ hk => hk.2) (.int .i64 ((rd_T80 l0_5 x11_1).f0))) (fun _ hk => hk.2) (.int .i64 ((rd_T80 l0_5 x11_1).f1))) (fun _ hk => hk.2) (.int .i64 ((rd_T80 l0_5 x11_1).f2))) (fun _ hk => trivial)) : p := h
theorem zp3' {p : Prop} (h : p := by repeat (first | (with_reducible first | exact HB.out | apply ba | apply bn | apply below_drew1 | refine below_set ?_ GE237.out) | exact HB.out)) : p := h
theorem zq3' {p : Prop} (h : p := by (with_reducible repeat (first | apply kn | apply kd | apply ka)); exact BK129.out) : p := h
theorem zr3' {p : Prop} (h : p := by (with_reducible repeat (first | apply kn | apply kd | apply ka)); exact BK237.out) : p := h
theorem zs3' {p : Prop} (h : p := by (with_reducible repeat (first | apply kn | apply kd | apply ka)); exact BK327.out) : p := h
theorem zt3' {p : Prop} (h : p := by (with_reducible repeat (first | apply kn | apply kd | apply ka)); refine blk_far ?_ NB207_210.out _; (with_reducible repeat (first | apply kn | apply kd | apply ka)); refine blk_far ?_ NB207_210.out _; (with_reducible repeat (first | apply kn | apply kd | apply ka)); refine blk_far ?_ NB207_210.out _; (with_reducible repeat (first | apply kn | apply kd | apply ka)); exact BK207.out) : p := h
theorem zu3' {p : Prop} (h : p := by exact (Kd.R_reads' HO_3.out).2.1) : p := h
theorem zv3' {p : Prop} (h : p := by repeat (first | (with_reducible first | exact HB.out | apply ba | apply bn | apply below_drew1 | refine below_set ?_ GE117.out | refine below_set ?_ GE118.out) | exact HB.out)) : p := h
theorem zw3' {p : Prop} (h : p := by repeat (first | (with_reducible first | exact HB.out | apply ba | apply bn | apply below_drew1 | refine below_set ?_ GE129.out | refine below_set ?_ GE130.out) | exact HB.out)) : p := h
theorem zx3' {p : Prop} (h : p := by repeat (first | (with_reducible first | exact HB.out | apply ba | apply bn | apply below_drew1 | refine below_set ?_ GE148.out | refine below_set ?_ GE149.out) | exact HB.out)) : p := h
theorem zy3' {p : Prop} (h : p := by repeat (first | exact (Kd.C_below HR0_6.out zo1') | (with_reducible refine Kd.C_alloc ?_ _) | (with_reducible refine Kd.C_drewN ?_ _) | (with_reducible refine Kd.C_drew ?_))) : p := h
theorem zz3' {p : Prop} (h : p := by repeat (first | exact (Kd.C_below HR0_2.out zg1') | (with_reducible refine Kd.C_alloc ?_ _) | (with_reducible refine Kd.C_drewN ?_ _) | (with_reducible refine Kd.C_drew ?_))) : p := h
theorem za4' {p : Prop} (h : p := by repeat (first | exact (Kd.C_below HR0_2.out (by repeat (first | (with_reducible first | exact HB.out | apply ba | apply bn | apply below_drew1 | refine below_set ?_ GE101.out) | exact HB.out))) | (with_reducible refine Kd.C_alloc ?_ _) | (with_reducible refine Kd.C_drewN ?_ _) | (with_reducible refine Kd.C_drew ?_))) : p := h
theorem zb4' {p : Prop} (h : p := by (with_reducible repeat (first | apply Kd.V_alloc | apply Kd.V_drewN | apply Kd.V_drew)); exact HO_253000.out) : p := h
theorem zc4' {p : Prop} (h : p := by (with_reducible repeat (first | apply Kd.V_alloc | apply Kd.V_drewN | apply Kd.V_drew)); exact HO_253001.out) : p := h
theorem zd4' {p : Prop} (h : p := by (with_reducible repeat (first | apply Kd.V_alloc | apply Kd.V_drewN | apply Kd.V_drew)); exact HO_253002.out) : p := h
theorem ze4' {p : Prop} (h : p := by (with_reducible repeat (first | apply kn | apply kd | apply ka)); exact BK107.out) : p := h
theorem zf4' {p : Prop} (h : p := by (with_reducible repeat (first | apply kn | apply kd | apply ka)); exact BK271.out) : p := h
theorem zg4' {p : Prop} (h : p := by exact HC0_5.out) : p := h
theorem zh4' {p : Prop} (h : p := by exact HC0_7.out) : p := h
theorem zi4' {p : Prop} (h : p := by (with_reducible repeat (first | apply Kd.R_alloc | apply Kd.R_drewN | apply Kd.R_drew)); exact HO292.out) : p := h
theorem zj4' {p : Prop} (h : p := by (with_reducible repeat (first | apply Kd.S_alloc | apply Kd.S_drewN | apply Kd.S_drew)); exact HO295.out) : p := h
theorem zk4' {p : Prop} (h : p := by exact HC0_6.out) : p := h
theorem zl4' {p : Prop} (h : p := by repeat (first | (with_reducible first | exact HB.out | apply ba | apply bn | apply below_drew1 | refine below_set ?_ GE117.out) | exact HB.out)) : p := h
theorem zm4' {p : Prop} (h : p := by repeat (first | (with_reducible first | exact HB.out | apply ba | apply bn | apply below_drew1 | refine below_set ?_ GE129.out) | exact HB.out)) : p := h
theorem zn4' {p : Prop} (h : p := by repeat (first | (with_reducible first | exact HB.out | apply ba | apply bn | apply below_drew1 | refine below_set ?_ GE148.out) | exact HB.out)) : p := h
theorem zo4' {p : Prop} (h : p := by (with_reducible repeat (first | apply Kd.R_alloc | apply Kd.R_drewN | apply Kd.R_drew)); exact (Kd.R_mono (Kd.R_far (p := ⟨gb119, 0, none⟩) (Kd.R_types HO122.out BK119.out (by decide)) (fun _ hk => hk.2) (.slice Ao12 t120.length co12)) (fun _ h_ => h_.1))) : p := h
theorem zp4' {p : Prop} (h : p := by (with_reducible repeat (first | apply Kd.R_alloc | apply Kd.R_drewN | apply Kd.R_drew)); exact (Kd.R_mono (Kd.R_far (p := ⟨gb119, 1, none⟩) (Kd.R_types HO122.out BK119.out (by decide)) (fun _ hk => hk.2) (.slice Ao17 t123.length co17)) (fun _ h_ => h_.1))) : p := h
theorem zq4' {p : Prop} (h : p := by (with_reducible repeat (first | apply Kd.R_alloc | apply Kd.R_drewN | apply Kd.R_drew)); exact (Kd.R_mono (Kd.R_far (p := ⟨gb119, 1, none⟩) (Kd.R_types HO125.out BK119.out (by decide)) (fun _ hk => hk.2) (.slice Ao17 t123.length co17)) (fun _ h_ => h_.1))) : p := h
theorem zr4' {p : Prop} (h : p := by (with_reducible repeat (first | apply Kd.R_alloc | apply Kd.R_drewN | apply Kd.R_drew)); exact (Kd.R_mono (Kd.R_far (p := ⟨gb150, 5, none⟩) (Kd.R_types HO153.out BK150.out (by decide)) (fun _ hk => hk.2) (.slice Ao20 t162.length co20)) (fun _ h_ => h_.1))) : p := h
theorem zs4' {p : Prop} (h : p := by (with_reducible repeat (first | apply Kd.R_alloc | apply Kd.R_drewN | apply Kd.R_drew)); exact (Kd.R_mono (Kd.R_far (p := ⟨gb150, 5, none⟩) (Kd.R_types HO156.out BK150.out (by decide)) (fun _ hk => hk.2) (.slice Ao20 t162.length co20)) (fun _ h_ => h_.1))) : p := h
theorem zt4' {p : Prop} (h : p := by (with_reducible repeat (first | apply Kd.R_alloc | apply Kd.R_drewN | apply Kd.R_drew)); exact (Kd.R_mono (Kd.R_far (p := ⟨gb150, 5, none⟩) (Kd.R_types HO159.out BK150.out (by decide)) (fun _ hk => hk.2) (.slice Ao20 t162.length co20)) (fun _ h_ => h_.1))) : p := h
theorem zu4' {p : Prop} (h : p := by (with_reducible repeat (first | apply Kd.R_alloc | apply Kd.R_drewN | apply Kd.R_drew)); exact (Kd.R_mono (Kd.R_far (p := ⟨gb150, 6, none⟩) (Kd.R_types HO153.out BK150.out (by decide)) (fun _ hk => hk.2) (.slice Ao24 t165.length co24)) (fun _ h_ => h_.1))) : p := h
theorem zv4' {p : Prop} (h : p := by (with_reducible repeat (first | apply Kd.R_alloc | apply Kd.R_drewN | apply Kd.R_drew)); exact (Kd.R_mono (Kd.R_far (p := ⟨gb150, 6, none⟩) (Kd.R_types HO156.out BK150.out (by decide)) (fun _ hk => hk.2) (.slice Ao24 t165.length co24)) (fun _ h_ => h_.1))) : p := h
theorem zw4' {p : Prop} (h : p := by (with_reducible repeat (first | apply Kd.R_alloc | apply Kd.R_drewN | apply Kd.R_drew)); exact (Kd.R_mono (Kd.R_far (p := ⟨gb150, 6, none⟩) (Kd.R_types HO159.out BK150.out (by decide)) (fun _ hk => hk.2) (.slice Ao24 t165.length co24)) (fun _ h_ => h_.1))) : p := h
theorem zx4' {p : Prop} (h : p := by exact (fun _ _ => trivial)) : p := h
theorem zy4' {p : Prop} (h : p := by (with_reducible repeat (first | apply kn | apply kd | apply ka)); exact BK118.out) : p := h
theorem zz4' {p : Prop} (h : p := by (with_reducible repeat (first | apply kn | apply kd | apply ka)); exact BK149.out) : p := h
theorem za5' {p : Prop} (h : p := by (with_reducible repeat (first | apply Kd.S_alloc | apply Kd.S_drewN | apply Kd.S_drew)); exact Kd.S_mono HO320.out (fun _ hk => ⟨hk.1.1.1.1.1.1, ⟨hk.1.1.1.1.1.2.1, ⟨hk.1.1.1.1.1.2.2.1, hk.1.1.1.1.1.2.2.2⟩⟩⟩)) : p := h
theorem zb5' {p : Prop} (h : p := by have := HJ1.out; have := HK2.out; have := HJ52.out; have := HJ70.out; omega) : p := h
theorem zc5' {p : Prop} (h : p := by (with_reducible repeat (first | apply Kd.N_alloc | apply Kd.N_drewN | apply Kd.N_drew)); exact HO_57.out) : p := h
theorem zd5' {p : Prop} (h : p := by have := HJ1.out; have := HK2.out; first | omega | exact Nat.le_refl _) : p := h
theorem ze5' {p : Prop} (h : p := by repeat (first | (with_reducible exact HR256_0.out) | (with_reducible refine Kd.C_alloc ?_ _) | (with_reducible refine Kd.C_drewN ?_ _) | (with_reducible refine Kd.C_drew ?_) | exact HR256_0.out)) : p := h
theorem zf5' {p : Prop} (h : p := by have := HK1.out; first | omega | exact Nat.le_refl _) : p := h
theorem zg5' {p : Prop} (h : p := by exact (below_size zg')) : p := h
theorem zh5' {p : Prop} (h : p := by (with_reducible repeat (first | apply Kd.R_alloc | apply Kd.R_drewN | apply Kd.R_drew)); exact Kd.R_mono HO306.out (fun _ hk => ⟨hk.1.1.1.1.1, ⟨hk.1.1.1.1.2.1, hk.1.1.1.1.2.2⟩⟩)) : p := h
theorem zi5' {p : Prop} (h : p := by (with_reducible repeat (first | apply Kd.R_alloc | apply Kd.R_drewN | apply Kd.R_drew)); exact Kd.R_mono HO309.out (fun _ hk => ⟨hk.1.1.1.1.1, ⟨hk.1.1.1.1.2.1, hk.1.1.1.1.2.2⟩⟩)) : p := h
theorem zj5' {p : Prop} (h : p := by (with_reducible repeat (first | apply Kd.R_alloc | apply Kd.R_drewN | apply Kd.R_drew)); exact Kd.R_mono HO312.out (fun _ hk => ⟨hk.1.1.1.1.1, ⟨hk.1.1.1.1.2.1, hk.1.1.1.1.2.2⟩⟩)) : p := h
theorem zk5' {p : Prop} (h : p := by (with_reducible repeat (first | apply Kd.R_alloc | apply Kd.R_drewN | apply Kd.R_drew)); exact Kd.R_mono HO323.out (fun _ hk => ⟨hk.1.1.1.1.1, ⟨hk.1.1.1.1.2.1, hk.1.1.1.1.2.2⟩⟩)) : p := h
theorem zl5' {p : Prop} (h : p := by (with_reducible repeat (first | apply kn | apply kd | apply ka)); refine blk_far ?_ NB117_119.out _; (with_reducible repeat (first | apply kn | apply kd | apply ka)); exact BK117.out) : p := h
theorem zm5' {p : Prop} (h : p := by (with_reducible repeat (first | apply kn | apply kd | apply ka)); refine blk_far ?_ NB118_119.out _; (with_reducible repeat (first | apply kn | apply kd | apply ka)); exact BK118.out) : p := h
theorem zn5' {p : Prop} (h : p := by (with_reducible repeat (first | apply kn | apply kd | apply ka)); refine blk_far ?_ NB148_150.out _; (with_reducible repeat (first | apply kn | apply kd | apply ka)); exact BK148.out) : p := h
theorem zo5' {p : Prop} (h : p := by (with_reducible repeat (first | apply kn | apply kd | apply ka)); refine blk_far ?_ NB149_150.out _; (with_reducible repeat (first | apply kn | apply kd | apply ka)); exact BK149.out) : p := h
theorem zp5' {p : Prop} (h : p := by repeat (first | exact (Kd.C_below HR244_0.out HB.out) | (with_reducible refine Kd.C_alloc ?_ _) | (with_reducible refine Kd.C_drewN ?_ _) | (with_reducible refine Kd.C_drew ?_))) : p := h
theorem zq5' {p : Prop} (h : p := by repeat (first | exact (Kd.R_reads' HO_328000.out).2.2 | (with_reducible refine Kd.C_alloc ?_ _) | (with_reducible refine Kd.C_drewN ?_ _) | (with_reducible refine Kd.C_drew ?_))) : p := h
theorem zr5' {p : Prop} (h : p := by repeat (first | exact (Kd.R_reads' HO_328001.out).2.2 | (with_reducible refine Kd.C_alloc ?_ _) | (with_reducible refine Kd.C_drewN ?_ _) | (with_reducible refine Kd.C_drew ?_))) : p := h
theorem zs5' {p : Prop} (h : p := by repeat (first | exact (Kd.R_reads' HO_328002.out).2.2 | (with_reducible refine Kd.C_alloc ?_ _) | (with_reducible refine Kd.C_drewN ?_ _) | (with_reducible refine Kd.C_drew ?_))) : p := h
theorem zt5' {p : Prop} (h : p := by repeat (first | exact (Kd.R_reads' HO_328005.out).2.2 | (with_reducible refine Kd.C_alloc ?_ _) | (with_reducible refine Kd.C_drewN ?_ _) | (with_reducible refine Kd.C_drew ?_))) : p := h
theorem zu5' {p : Prop} (h : p := by repeat (first | exact (Kd.S_reads' HO_328006.out).2.2 | (with_reducible refine Kd.C_alloc ?_ _) | (with_reducible refine Kd.C_drewN ?_ _) | (with_reducible refine Kd.C_drew ?_))) : p := h
theorem zv5' {p : Prop} (h : p := by repeat (first | exact (Kd.R_reads' HO_328007.out).2.2 | (with_reducible refine Kd.C_alloc ?_ _) | (with_reducible refine Kd.C_drewN ?_ _) | (with_reducible refine Kd.C_drew ?_))) : p := h
theorem zw5' {p : Prop} (h : p := by repeat (first | exact (Kd.C_below HR0_7.out zo1') | (with_reducible refine Kd.C_alloc ?_ _) | (with_reducible refine Kd.C_drewN ?_ _) | (with_reducible refine Kd.C_drew ?_))) : p := h
theorem zx5' {p : Prop} (h : p := by repeat (first | exact (Kd.C_below HR1.out HB.out) | (with_reducible refine Kd.C_alloc ?_ _) | (with_reducible refine Kd.C_drewN ?_ _) | (with_reducible refine Kd.C_drew ?_))) : p := h
theorem zy5' {p : Prop} (h : p := by repeat (first | exact (Kd.R_reads' HO332.out).2.2 | (with_reducible refine Kd.C_alloc ?_ _) | (with_reducible refine Kd.C_drewN ?_ _) | (with_reducible refine Kd.C_drew ?_))) : p := h
theorem zz5' {p : Prop} (h : p := by repeat (first | exact (Kd.R_reads' HO335.out).2.2 | (with_reducible refine Kd.C_alloc ?_ _) | (with_reducible refine Kd.C_drewN ?_ _) | (with_reducible refine Kd.C_drew ?_))) : p := h
theorem za6' {p : Prop} (h : p := by repeat (first | exact (Kd.R_reads' HO338.out).2.2 | (with_reducible refine Kd.C_alloc ?_ _) | (with_reducible refine Kd.C_drewN ?_ _) | (with_reducible refine Kd.C_drew ?_))) : p := h
theorem zb6' {p : Prop} (h : p := by repeat (first | exact (Kd.R_reads' HO343.out).2.2 | (with_reducible refine Kd.C_alloc ?_ _) | (with_reducible refine Kd.C_drewN ?_ _) | (with_reducible refine Kd.C_drew ?_))) : p := h
theorem zc6' {p : Prop} (h : p := by repeat (first | exact (Kd.S_reads' HO346.out).2.2 | (with_reducible refine Kd.C_alloc ?_ _) | (with_reducible refine Kd.C_drewN ?_ _) | (with_reducible refine Kd.C_drew ?_))) : p := h
theorem zd6' {p : Prop} (h : p := by repeat (first | exact (Kd.R_reads' HO349.out).2.2 | (with_reducible refine Kd.C_alloc ?_ _) | (with_reducible refine Kd.C_drewN ?_ _) | (with_reducible refine Kd.C_drew ?_))) : p := h
theorem ze6' {p : Prop} (h : p := by repeat (first | exact HR105_0.out | (with_reducible refine Kd.C_alloc ?_ _) | (with_reducible refine Kd.C_drewN ?_ _) | (with_reducible refine Kd.C_drew ?_))) : p := h
theorem zf6' {p : Prop} (h : p := by (with_reducible repeat (first | apply kn | apply kd | apply ka)); exact BK130.out) : p := h
theorem zg6' {p : Prop} (h : p := by repeat (first | (with_reducible first | exact HB.out | apply ba | apply bn | apply below_drew1 | refine below_set ?_ GE250.out) | exact HB.out)) : p := h
theorem zh6' {p : Prop} (h : p := by repeat (first | (with_reducible first | exact HB.out | apply ba | apply bn | apply below_drew1 | refine below_set ?_ GE275.out) | exact HB.out)) : p := h
theorem zi6' {p : Prop} (h : p := by have := HK1.out; omega) : p := h
theorem zj6' {p : Prop} (h : p := by (with_reducible repeat (first | apply Kd.R_alloc | apply Kd.R_drewN | apply Kd.R_drew)); exact Kd.R_mono HO317.out (fun _ hk => trivial)) : p := h
theorem zk6' {p : Prop} (h : p := by exact HC1_0.out) : p := h
theorem zl6' {p : Prop} (h : p := by exact HC1_1.out) : p := h
end ShortPFnExactTonnesDumped0
open ShortPFnExactTonnesDumped0



def errW : Option Int → Value
 | none => .nilIface
 | some c => .iface 0 (.int .i64 c)
theorem errW_none : errW none = .nilIface := rfl
theorem errW_some (c : Int) : errW (some c) = .iface 0 (.int .i64 c) := rfl

theorem info3 : (Try.prog.info? 3).map (fun i => (i.zero, i.size, i.bytes)) = some (some (.int .i64 0), 1, 8) := by kernel_rfl
theorem info4 : (Try.prog.info? 4).map (fun i => (i.zero, i.size, i.bytes)) = some (some (.bool false), 1, 1) := by kernel_rfl
theorem info22 : (Try.prog.info? 22).map (fun i => (i.zero, i.size, i.bytes)) = some (some (.slice none 0 0), 1, 24) := by kernel_rfl
theorem info80 : (Try.prog.info? 80).map (fun i => (i.zero, i.size, i.bytes)) = some (some (.agg #[(.int .i64 0), (.int .i64 0), (.int .i64 0)]), 3, 24) := by kernel_rfl
-- the values' own types
/-! #### struct type 103 -/
structure S103 where
 f0 : Int
 f1 : Int
 f2 : Int
def z103 : S103 := ⟨(0 : Int), (0 : Int), (0 : Int)⟩
def k103 : Kd S103 := Kd.iso (Kd.pair (Kd.int .i64) (Kd.pair (Kd.int .i64) (Kd.int .i64))) (fun x : S103 => (x.f0, x.f1, x.f2))
theorem k103_heap : Kd.Heap k103 := Kd.heap_iso _ (Kd.heap_pair (Kd.heap_int .i64) (Kd.heap_pair (Kd.heap_int .i64) (Kd.heap_int .i64)))
theorem k103_open {w : World} {x : S103} {cs : List Value} (h : k103.K w x cs) : cs = [.int .i64 x.f0, .int .i64 x.f1, .int .i64 x.f2] := by
 obtain ⟨_, _, rfl, rfl, ⟨_, _, rfl, rfl, rfl⟩⟩ := h
 exact rfl
theorem k103_openM {w : World} {base : Nat} {ok : Nat → Prop} {x : S103} {cs : List Value} (h : k103.M w base ok x cs) : cs = [.int .i64 x.f0, .int .i64 x.f1, .int .i64 x.f2] := by
 obtain ⟨_, _, rfl, rfl, ⟨_, _, rfl, rfl, rfl⟩⟩ := h
 exact rfl
theorem k103_mk (w : World) (x : S103)  : k103.K w x [.int .i64 x.f0, .int .i64 x.f1, .int .i64 x.f2] := ⟨[.int .i64 x.f0], [.int .i64 x.f1, .int .i64 x.f2], rfl, rfl, ⟨[.int .i64 x.f1], [.int .i64 x.f2], rfl, rfl, rfl⟩⟩
theorem k103_mkM (w : World) (base : Nat) (ok : Nat → Prop) (x : S103)  : k103.M w base ok x [.int .i64 x.f0, .int .i64 x.f1, .int .i64 x.f2] := ⟨[.int .i64 x.f0], [.int .i64 x.f1, .int .i64 x.f2], rfl, rfl, ⟨[.int .i64 x.f1], [.int .i64 x.f2], rfl, rfl, rfl⟩⟩
theorem k103_mkF (W : World) (ok : Nat → Prop) (x : S103) : Kd.FK k103 W ok x [.int .i64 x.f0, .int .i64 x.f1, .int .i64 x.f2] := fun W2 _ => k103_mk W2 x
def rd_T103 (xs : List S103) (i : Int) : S103 := xs.getD i.toNat z103
theorem at_T103 {w : World} {A : Option Addr} {n : Nat} {xs : List S103} (h : Kd.C k103 w A n xs) (i : Int) (h0 : 0 ≤ i) (h1 : i < n) : ∃ ad , A = some ad ∧ w.cell? (ad.add (i.toNat * 3)) = some (.int .i64 (rd_T103 xs i).f0) ∧ w.cell? ⟨(ad.add (i.toNat * 3)).block, (ad.add (i.toNat * 3)).off + 1, none⟩ = some (.int .i64 (rd_T103 xs i).f1) ∧ w.cell? ⟨(ad.add (i.toNat * 3)).block, (ad.add (i.toNat * 3)).off + 2, none⟩ = some (.int .i64 (rd_T103 xs i).f2) := by
 obtain ⟨ad, c, e, _, hK, hc0⟩ := Kd.C_get h z103 i h0 h1
 have hc : ∀ j u, c[j]? = some u → w.cell? (ad.add (i.toNat * 3 + j)) = some u := hc0
 obtain rfl := k103_open hK
 exact ⟨ad, e, hc 0 _ rfl, by rw [← add_field _ _ 1 (by omega)]; exact hc 1 _ rfl, by rw [← add_field _ _ 2 (by omega)]; exact hc 2 _ rfl⟩

def rd_L2 (xs : List (List Int)) (i : Int) : (List Int) := xs.getD i.toNat ([] : List Int)
theorem at_L2 {w : World} {A : Option Addr} {n : Nat} {xs : List (List Int)} (h : Kd.C (Kd.slice 3 (Kd.int .i64)) w A n xs) (i : Int) (h0 : 0 ≤ i) (h1 : i < n) : ∃ ad A0 c0, A = some ad ∧ w.cell? (ad.add i.toNat) = some (.slice A0 (rd_L2 xs i).length c0) ∧ (rd_L2 xs i).length ≤ c0 ∧ (Kd.int .i64).C w A0 (rd_L2 xs i).length (rd_L2 xs i) := by
 obtain ⟨ad, c, e, _, hK, hc0⟩ := Kd.C_get h ([] : List Int) i h0 h1
 have hc : ∀ j u, c[j]? = some u → w.cell? (ad.add (i.toNat * 1 + j)) = some u := hc0
 obtain ⟨A0, c0, rfl, l0, g0⟩ := hK
 exact ⟨ad, A0, c0, e, by have hq := hc 0 _ rfl; rwa [Nat.mul_one, Nat.add_zero] at hq, l0, g0⟩

/-! #### struct type 80 -/
structure S80 where
 f0 : Int
 f1 : Int
 f2 : Int
def z80 : S80 := ⟨(0 : Int), (0 : Int), (0 : Int)⟩
def k80 : Kd S80 := Kd.iso (Kd.pair (Kd.int .i64) (Kd.pair (Kd.int .i64) (Kd.int .i64))) (fun x : S80 => (x.f0, x.f1, x.f2))
theorem k80_heap : Kd.Heap k80 := Kd.heap_iso _ (Kd.heap_pair (Kd.heap_int .i64) (Kd.heap_pair (Kd.heap_int .i64) (Kd.heap_int .i64)))
theorem k80_open {w : World} {x : S80} {cs : List Value} (h : k80.K w x cs) : cs = [.int .i64 x.f0, .int .i64 x.f1, .int .i64 x.f2] := by
 obtain ⟨_, _, rfl, rfl, ⟨_, _, rfl, rfl, rfl⟩⟩ := h
 exact rfl
theorem k80_openM {w : World} {base : Nat} {ok : Nat → Prop} {x : S80} {cs : List Value} (h : k80.M w base ok x cs) : cs = [.int .i64 x.f0, .int .i64 x.f1, .int .i64 x.f2] := by
 obtain ⟨_, _, rfl, rfl, ⟨_, _, rfl, rfl, rfl⟩⟩ := h
 exact rfl
theorem k80_mk (w : World) (x : S80)  : k80.K w x [.int .i64 x.f0, .int .i64 x.f1, .int .i64 x.f2] := ⟨[.int .i64 x.f0], [.int .i64 x.f1, .int .i64 x.f2], rfl, rfl, ⟨[.int .i64 x.f1], [.int .i64 x.f2], rfl, rfl, rfl⟩⟩
theorem k80_mkM (w : World) (base : Nat) (ok : Nat → Prop) (x : S80)  : k80.M w base ok x [.int .i64 x.f0, .int .i64 x.f1, .int .i64 x.f2] := ⟨[.int .i64 x.f0], [.int .i64 x.f1, .int .i64 x.f2], rfl, rfl, ⟨[.int .i64 x.f1], [.int .i64 x.f2], rfl, rfl, rfl⟩⟩
theorem k80_mkF (W : World) (ok : Nat → Prop) (x : S80) : Kd.FK k80 W ok x [.int .i64 x.f0, .int .i64 x.f1, .int .i64 x.f2] := fun W2 _ => k80_mk W2 x
def rd_T80 (xs : List S80) (i : Int) : S80 := xs.getD i.toNat z80
theorem at_T80 {w : World} {A : Option Addr} {n : Nat} {xs : List S80} (h : Kd.C k80 w A n xs) (i : Int) (h0 : 0 ≤ i) (h1 : i < n) : ∃ ad , A = some ad ∧ w.cell? (ad.add (i.toNat * 3)) = some (.int .i64 (rd_T80 xs i).f0) ∧ w.cell? ⟨(ad.add (i.toNat * 3)).block, (ad.add (i.toNat * 3)).off + 1, none⟩ = some (.int .i64 (rd_T80 xs i).f1) ∧ w.cell? ⟨(ad.add (i.toNat * 3)).block, (ad.add (i.toNat * 3)).off + 2, none⟩ = some (.int .i64 (rd_T80 xs i).f2) := by
 obtain ⟨ad, c, e, _, hK, hc0⟩ := Kd.C_get h z80 i h0 h1
 have hc : ∀ j u, c[j]? = some u → w.cell? (ad.add (i.toNat * 3 + j)) = some u := hc0
 obtain rfl := k80_open hK
 exact ⟨ad, e, hc 0 _ rfl, by rw [← add_field _ _ 1 (by omega)]; exact hc 1 _ rfl, by rw [← add_field _ _ 2 (by omega)]; exact hc 2 _ rfl⟩

/-! #### struct type 27 -/
structure S27 where
 f0 : (List Int)
 f1 : (List Int)
 f2 : (List Int)
 f3 : Int
 f4 : Int
def z27 : S27 := ⟨([] : List Int), ([] : List Int), ([] : List Int), (0 : Int), (0 : Int)⟩
def k27 : Kd S27 := Kd.iso (Kd.pair (Kd.slice 3 (Kd.int .i64)) (Kd.pair (Kd.slice 3 (Kd.int .i64)) (Kd.pair (Kd.slice 3 (Kd.int .i64)) (Kd.pair (Kd.int .i64) (Kd.int .i64))))) (fun x : S27 => (x.f0, x.f1, x.f2, x.f3, x.f4))
theorem k27_heap : Kd.Heap k27 := Kd.heap_iso _ (Kd.heap_pair (Kd.heap_slice 3 (Kd.heap_int .i64)) (Kd.heap_pair (Kd.heap_slice 3 (Kd.heap_int .i64)) (Kd.heap_pair (Kd.heap_slice 3 (Kd.heap_int .i64)) (Kd.heap_pair (Kd.heap_int .i64) (Kd.heap_int .i64)))))
theorem k27_open {w : World} {x : S27} {cs : List Value} (h : k27.K w x cs) : ∃ A0 c0 A1 c1 A2 c2, cs = [.slice A0 x.f0.length c0, .slice A1 x.f1.length c1, .slice A2 x.f2.length c2, .int .i64 x.f3, .int .i64 x.f4] ∧ x.f0.length ≤ c0 ∧ (Kd.int .i64).C w A0 x.f0.length x.f0 ∧ x.f1.length ≤ c1 ∧ (Kd.int .i64).C w A1 x.f1.length x.f1 ∧ x.f2.length ≤ c2 ∧ (Kd.int .i64).C w A2 x.f2.length x.f2 := by
 obtain ⟨_, _, rfl, ⟨A0, c0, rfl, l0, g0⟩, ⟨_, _, rfl, ⟨A1, c1, rfl, l1, g1⟩, ⟨_, _, rfl, ⟨A2, c2, rfl, l2, g2⟩, ⟨_, _, rfl, rfl, rfl⟩⟩⟩⟩ := h
 exact ⟨A0, c0, A1, c1, A2, c2, rfl, l0, g0, l1, g1, l2, g2⟩
theorem k27_openM {w : World} {base : Nat} {ok : Nat → Prop} {x : S27} {cs : List Value} (h : k27.M w base ok x cs) : ∃ v0 v1 v2, cs = [v0, v1, v2, .int .i64 x.f3, .int .i64 x.f4] ∧ (Kd.int .i64).R 3 w base ok v0 x.f0 ∧ (Kd.int .i64).R 3 w base ok v1 x.f1 ∧ (Kd.int .i64).R 3 w base ok v2 x.f2 := by
 obtain ⟨_, _, rfl, ⟨v0, rfl, g0⟩, ⟨_, _, rfl, ⟨v1, rfl, g1⟩, ⟨_, _, rfl, ⟨v2, rfl, g2⟩, ⟨_, _, rfl, rfl, rfl⟩⟩⟩⟩ := h
 exact ⟨v0, v1, v2, rfl, g0, g1, g2⟩
theorem k27_mk (w : World) (x : S27) {A0 : Option Addr} {c0 : Nat} (l0 : x.f0.length ≤ c0) (g0 : (Kd.int .i64).C w A0 x.f0.length x.f0) {A1 : Option Addr} {c1 : Nat} (l1 : x.f1.length ≤ c1) (g1 : (Kd.int .i64).C w A1 x.f1.length x.f1) {A2 : Option Addr} {c2 : Nat} (l2 : x.f2.length ≤ c2) (g2 : (Kd.int .i64).C w A2 x.f2.length x.f2) : k27.K w x [.slice A0 x.f0.length c0, .slice A1 x.f1.length c1, .slice A2 x.f2.length c2, .int .i64 x.f3, .int .i64 x.f4] := ⟨[.slice A0 x.f0.length c0], [.slice A1 x.f1.length c1, .slice A2 x.f2.length c2, .int .i64 x.f3, .int .i64 x.f4], rfl, ⟨A0, c0, rfl, l0, g0⟩, ⟨[.slice A1 x.f1.length c1], [.slice A2 x.f2.length c2, .int .i64 x.f3, .int .i64 x.f4], rfl, ⟨A1, c1, rfl, l1, g1⟩, ⟨[.slice A2 x.f2.length c2], [.int .i64 x.f3, .int .i64 x.f4], rfl, ⟨A2, c2, rfl, l2, g2⟩, ⟨[.int .i64 x.f3], [.int .i64 x.f4], rfl, rfl, rfl⟩⟩⟩⟩
theorem k27_mkM (w : World) (base : Nat) (ok : Nat → Prop) (x : S27) {v0 : Value} (g0 : (Kd.int .i64).R 3 w base ok v0 x.f0) {v1 : Value} (g1 : (Kd.int .i64).R 3 w base ok v1 x.f1) {v2 : Value} (g2 : (Kd.int .i64).R 3 w base ok v2 x.f2) : k27.M w base ok x [v0, v1, v2, .int .i64 x.f3, .int .i64 x.f4] := ⟨[v0], [v1, v2, .int .i64 x.f3, .int .i64 x.f4], rfl, ⟨v0, rfl, g0⟩, ⟨[v1], [v2, .int .i64 x.f3, .int .i64 x.f4], rfl, ⟨v1, rfl, g1⟩, ⟨[v2], [.int .i64 x.f3, .int .i64 x.f4], rfl, ⟨v2, rfl, g2⟩, ⟨[.int .i64 x.f3], [.int .i64 x.f4], rfl, rfl, rfl⟩⟩⟩⟩
theorem k27_openF {W : World} {ok : Nat → Prop} {x : S27} {cs : List Value} (h : Kd.FK k27 W ok x cs) : ∃ A0 c0 A1 c1 A2 c2, cs = [.slice A0 x.f0.length c0, .slice A1 x.f1.length c1, .slice A2 x.f2.length c2, .int .i64 x.f3, .int .i64 x.f4] ∧ x.f0.length ≤ c0 ∧ Kd.F (Kd.int .i64) W ok A0 x.f0.length x.f0 ∧ x.f1.length ≤ c1 ∧ Kd.F (Kd.int .i64) W ok A1 x.f1.length x.f1 ∧ x.f2.length ≤ c2 ∧ Kd.F (Kd.int .i64) W ok A2 x.f2.length x.f2 := by
 obtain ⟨A0, c0, A1, c1, A2, c2, rfl, l0, _, l1, _, l2, _⟩ := k27_open (Kd.FK_now h)
 exact ⟨A0, c0, A1, c1, A2, c2, rfl, l0, (fun W' hW => by obtain ⟨A0_, c0_, A1_, c1_, A2_, c2_, he, l0_, g0_, l1_, g1_, l2_, g2_⟩ := k27_open (h W' hW); injection (Option.some.inj (show some (Value.slice A0 x.f0.length c0) = some (Value.slice A0_ x.f0.length c0_) from congrArg (fun l => l[0]?) he)) with ha_ _ _; rw [ha_]; exact g0_), l1, (fun W' hW => by obtain ⟨A0_, c0_, A1_, c1_, A2_, c2_, he, l0_, g0_, l1_, g1_, l2_, g2_⟩ := k27_open (h W' hW); injection (Option.some.inj (show some (Value.slice A1 x.f1.length c1) = some (Value.slice A1_ x.f1.length c1_) from congrArg (fun l => l[1]?) he)) with ha_ _ _; rw [ha_]; exact g1_), l2, (fun W' hW => by obtain ⟨A0_, c0_, A1_, c1_, A2_, c2_, he, l0_, g0_, l1_, g1_, l2_, g2_⟩ := k27_open (h W' hW); injection (Option.some.inj (show some (Value.slice A2 x.f2.length c2) = some (Value.slice A2_ x.f2.length c2_) from congrArg (fun l => l[2]?) he)) with ha_ _ _; rw [ha_]; exact g2_)⟩
theorem k27_mkF (W : World) (ok : Nat → Prop) (x : S27) {A0 : Option Addr} {c0 : Nat} (l0 : x.f0.length ≤ c0) (g0 : Kd.F (Kd.int .i64) W ok A0 x.f0.length x.f0) {A1 : Option Addr} {c1 : Nat} (l1 : x.f1.length ≤ c1) (g1 : Kd.F (Kd.int .i64) W ok A1 x.f1.length x.f1) {A2 : Option Addr} {c2 : Nat} (l2 : x.f2.length ≤ c2) (g2 : Kd.F (Kd.int .i64) W ok A2 x.f2.length x.f2) : Kd.FK k27 W ok x [.slice A0 x.f0.length c0, .slice A1 x.f1.length c1, .slice A2 x.f2.length c2, .int .i64 x.f3, .int .i64 x.f4] := fun W2 hW => k27_mk W2 x l0 (g0 W2 hW) l1 (g1 W2 hW) l2 (g2 W2 hW)
def rd_T27 (xs : List S27) (i : Int) : S27 := xs.getD i.toNat z27
theorem at_T27 {w : World} {A : Option Addr} {n : Nat} {xs : List S27} (h : Kd.C k27 w A n xs) (i : Int) (h0 : 0 ≤ i) (h1 : i < n) : ∃ ad A0 c0 A1 c1 A2 c2, A = some ad ∧ w.cell? (ad.add (i.toNat * 5)) = some (.slice A0 (rd_T27 xs i).f0.length c0) ∧ w.cell? ⟨(ad.add (i.toNat * 5)).block, (ad.add (i.toNat * 5)).off + 1, none⟩ = some (.slice A1 (rd_T27 xs i).f1.length c1) ∧ w.cell? ⟨(ad.add (i.toNat * 5)).block, (ad.add (i.toNat * 5)).off + 2, none⟩ = some (.slice A2 (rd_T27 xs i).f2.length c2) ∧ w.cell? ⟨(ad.add (i.toNat * 5)).block, (ad.add (i.toNat * 5)).off + 3, none⟩ = some (.int .i64 (rd_T27 xs i).f3) ∧ w.cell? ⟨(ad.add (i.toNat * 5)).block, (ad.add (i.toNat * 5)).off + 4, none⟩ = some (.int .i64 (rd_T27 xs i).f4) ∧ (rd_T27 xs i).f0.length ≤ c0 ∧ (Kd.int .i64).C w A0 (rd_T27 xs i).f0.length (rd_T27 xs i).f0 ∧ (rd_T27 xs i).f1.length ≤ c1 ∧ (Kd.int .i64).C w A1 (rd_T27 xs i).f1.length (rd_T27 xs i).f1 ∧ (rd_T27 xs i).f2.length ≤ c2 ∧ (Kd.int .i64).C w A2 (rd_T27 xs i).f2.length (rd_T27 xs i).f2 := by
 obtain ⟨ad, c, e, _, hK, hc0⟩ := Kd.C_get h z27 i h0 h1
 have hc : ∀ j u, c[j]? = some u → w.cell? (ad.add (i.toNat * 5 + j)) = some u := hc0
 obtain ⟨A0, c0, A1, c1, A2, c2, rfl, l0, g0, l1, g1, l2, g2⟩ := k27_open hK
 exact ⟨ad, A0, c0, A1, c1, A2, c2, e, hc 0 _ rfl, by rw [← add_field _ _ 1 (by omega)]; exact hc 1 _ rfl, by rw [← add_field _ _ 2 (by omega)]; exact hc 2 _ rfl, by rw [← add_field _ _ 3 (by omega)]; exact hc 3 _ rfl, by rw [← add_field _ _ 4 (by omega)]; exact hc 4 _ rfl, l0, g0, l1, g1, l2, g2⟩

def rd_L5 (xs : List (List S80)) (i : Int) : (List S80) := xs.getD i.toNat ([] : List S80)
theorem at_L5 {w : World} {A : Option Addr} {n : Nat} {xs : List (List S80)} (h : Kd.C (Kd.slice 80 k80) w A n xs) (i : Int) (h0 : 0 ≤ i) (h1 : i < n) : ∃ ad A0 c0, A = some ad ∧ w.cell? (ad.add i.toNat) = some (.slice A0 (rd_L5 xs i).length c0) ∧ (rd_L5 xs i).length ≤ c0 ∧ k80.C w A0 (rd_L5 xs i).length (rd_L5 xs i) := by
 obtain ⟨ad, c, e, _, hK, hc0⟩ := Kd.C_get h ([] : List S80) i h0 h1
 have hc : ∀ j u, c[j]? = some u → w.cell? (ad.add (i.toNat * 1 + j)) = some u := hc0
 obtain ⟨A0, c0, rfl, l0, g0⟩ := hK
 exact ⟨ad, A0, c0, e, by have hq := hc 0 _ rfl; rwa [Nat.mul_one, Nat.add_zero] at hq, l0, g0⟩

def rd_L6 (xs : List (List (List Int))) (i : Int) : (List (List Int)) := xs.getD i.toNat ([] : List (List Int))
theorem at_L6 {w : World} {A : Option Addr} {n : Nat} {xs : List (List (List Int))} (h : Kd.C (Kd.slice 22 (Kd.slice 3 (Kd.int .i64))) w A n xs) (i : Int) (h0 : 0 ≤ i) (h1 : i < n) : ∃ ad A0 c0, A = some ad ∧ w.cell? (ad.add i.toNat) = some (.slice A0 (rd_L6 xs i).length c0) ∧ (rd_L6 xs i).length ≤ c0 ∧ (Kd.slice 3 (Kd.int .i64)).C w A0 (rd_L6 xs i).length (rd_L6 xs i) := by
 obtain ⟨ad, c, e, _, hK, hc0⟩ := Kd.C_get h ([] : List (List Int)) i h0 h1
 have hc : ∀ j u, c[j]? = some u → w.cell? (ad.add (i.toNat * 1 + j)) = some u := hc0
 obtain ⟨A0, c0, rfl, l0, g0⟩ := hK
 exact ⟨ad, A0, c0, e, by have hq := hc 0 _ rfl; rwa [Nat.mul_one, Nat.add_zero] at hq, l0, g0⟩

/-! #### struct type 44 -/
structure S44 where
 f0 : S27
 f1 : (List S80)
 f2 : (List (List Int))
 f3 : (List Int)
 f4 : Int
 f5 : Int
 f6 : Int
def z44 : S44 := ⟨z27, ([] : List S80), ([] : List (List Int)), ([] : List Int), (0 : Int), (0 : Int), (0 : Int)⟩
def k44 : Kd S44 := Kd.iso (Kd.pair k27 (Kd.pair (Kd.slice 80 k80) (Kd.pair (Kd.slice 22 (Kd.slice 3 (Kd.int .i64))) (Kd.pair (Kd.slice 3 (Kd.int .i64)) (Kd.pair (Kd.int .i64) (Kd.pair (Kd.int .i64) (Kd.int .i64))))))) (fun x : S44 => (x.f0, x.f1, x.f2, x.f3, x.f4, x.f5, x.f6))
theorem k44_heap : Kd.Heap k44 := Kd.heap_iso _ (Kd.heap_pair k27_heap (Kd.heap_pair (Kd.heap_slice 80 k80_heap) (Kd.heap_pair (Kd.heap_slice 22 (Kd.heap_slice 3 (Kd.heap_int .i64))) (Kd.heap_pair (Kd.heap_slice 3 (Kd.heap_int .i64)) (Kd.heap_pair (Kd.heap_int .i64) (Kd.heap_pair (Kd.heap_int .i64) (Kd.heap_int .i64)))))))
theorem k44_open {w : World} {x : S44} {cs : List Value} (h : k44.K w x cs) : ∃ A0 c0 A1 c1 A2 c2 A5 c5 A6 c6 A7 c7, cs = [.slice A0 x.f0.f0.length c0, .slice A1 x.f0.f1.length c1, .slice A2 x.f0.f2.length c2, .int .i64 x.f0.f3, .int .i64 x.f0.f4, .slice A5 x.f1.length c5, .slice A6 x.f2.length c6, .slice A7 x.f3.length c7, .int .i64 x.f4, .int .i64 x.f5, .int .i64 x.f6] ∧ x.f0.f0.length ≤ c0 ∧ (Kd.int .i64).C w A0 x.f0.f0.length x.f0.f0 ∧ x.f0.f1.length ≤ c1 ∧ (Kd.int .i64).C w A1 x.f0.f1.length x.f0.f1 ∧ x.f0.f2.length ≤ c2 ∧ (Kd.int .i64).C w A2 x.f0.f2.length x.f0.f2 ∧ x.f1.length ≤ c5 ∧ k80.C w A5 x.f1.length x.f1 ∧ x.f2.length ≤ c6 ∧ (Kd.slice 3 (Kd.int .i64)).C w A6 x.f2.length x.f2 ∧ x.f3.length ≤ c7 ∧ (Kd.int .i64).C w A7 x.f3.length x.f3 := by
 obtain ⟨_, _, rfl, s0, ⟨_, _, rfl, ⟨A5, c5, rfl, l5, g5⟩, ⟨_, _, rfl, ⟨A6, c6, rfl, l6, g6⟩, ⟨_, _, rfl, ⟨A7, c7, rfl, l7, g7⟩, ⟨_, _, rfl, rfl, ⟨_, _, rfl, rfl, rfl⟩⟩⟩⟩⟩⟩ := h
 obtain ⟨A0, c0, A1, c1, A2, c2, rfl, l0, g0, l1, g1, l2, g2⟩ := k27_open s0
 exact ⟨A0, c0, A1, c1, A2, c2, A5, c5, A6, c6, A7, c7, rfl, l0, g0, l1, g1, l2, g2, l5, g5, l6, g6, l7, g7⟩
theorem k44_openM {w : World} {base : Nat} {ok : Nat → Prop} {x : S44} {cs : List Value} (h : k44.M w base ok x cs) : ∃ v0 v1 v2 v5 v6 v7, cs = [v0, v1, v2, .int .i64 x.f0.f3, .int .i64 x.f0.f4, v5, v6, v7, .int .i64 x.f4, .int .i64 x.f5, .int .i64 x.f6] ∧ (Kd.int .i64).R 3 w base ok v0 x.f0.f0 ∧ (Kd.int .i64).R 3 w base ok v1 x.f0.f1 ∧ (Kd.int .i64).R 3 w base ok v2 x.f0.f2 ∧ k80.R 80 w base ok v5 x.f1 ∧ (Kd.slice 3 (Kd.int .i64)).R 22 w base ok v6 x.f2 ∧ (Kd.int .i64).R 3 w base ok v7 x.f3 := by
 obtain ⟨_, _, rfl, s0, ⟨_, _, rfl, ⟨v5, rfl, g5⟩, ⟨_, _, rfl, ⟨v6, rfl, g6⟩, ⟨_, _, rfl, ⟨v7, rfl, g7⟩, ⟨_, _, rfl, rfl, ⟨_, _, rfl, rfl, rfl⟩⟩⟩⟩⟩⟩ := h
 obtain ⟨v0, v1, v2, rfl, g0, g1, g2⟩ := k27_openM s0
 exact ⟨v0, v1, v2, v5, v6, v7, rfl, g0, g1, g2, g5, g6, g7⟩
theorem k44_mk (w : World) (x : S44) {A0 : Option Addr} {c0 : Nat} (l0 : x.f0.f0.length ≤ c0) (g0 : (Kd.int .i64).C w A0 x.f0.f0.length x.f0.f0) {A1 : Option Addr} {c1 : Nat} (l1 : x.f0.f1.length ≤ c1) (g1 : (Kd.int .i64).C w A1 x.f0.f1.length x.f0.f1) {A2 : Option Addr} {c2 : Nat} (l2 : x.f0.f2.length ≤ c2) (g2 : (Kd.int .i64).C w A2 x.f0.f2.length x.f0.f2) {A5 : Option Addr} {c5 : Nat} (l5 : x.f1.length ≤ c5) (g5 : k80.C w A5 x.f1.length x.f1) {A6 : Option Addr} {c6 : Nat} (l6 : x.f2.length ≤ c6) (g6 : (Kd.slice 3 (Kd.int .i64)).C w A6 x.f2.length x.f2) {A7 : Option Addr} {c7 : Nat} (l7 : x.f3.length ≤ c7) (g7 : (Kd.int .i64).C w A7 x.f3.length x.f3) : k44.K w x [.slice A0 x.f0.f0.length c0, .slice A1 x.f0.f1.length c1, .slice A2 x.f0.f2.length c2, .int .i64 x.f0.f3, .int .i64 x.f0.f4, .slice A5 x.f1.length c5, .slice A6 x.f2.length c6, .slice A7 x.f3.length c7, .int .i64 x.f4, .int .i64 x.f5, .int .i64 x.f6] := ⟨[.slice A0 x.f0.f0.length c0, .slice A1 x.f0.f1.length c1, .slice A2 x.f0.f2.length c2, .int .i64 x.f0.f3, .int .i64 x.f0.f4], [.slice A5 x.f1.length c5, .slice A6 x.f2.length c6, .slice A7 x.f3.length c7, .int .i64 x.f4, .int .i64 x.f5, .int .i64 x.f6], rfl, (k27_mk w x.f0 l0 g0 l1 g1 l2 g2), ⟨[.slice A5 x.f1.length c5], [.slice A6 x.f2.length c6, .slice A7 x.f3.length c7, .int .i64 x.f4, .int .i64 x.f5, .int .i64 x.f6], rfl, ⟨A5, c5, rfl, l5, g5⟩, ⟨[.slice A6 x.f2.length c6], [.slice A7 x.f3.length c7, .int .i64 x.f4, .int .i64 x.f5, .int .i64 x.f6], rfl, ⟨A6, c6, rfl, l6, g6⟩, ⟨[.slice A7 x.f3.length c7], [.int .i64 x.f4, .int .i64 x.f5, .int .i64 x.f6], rfl, ⟨A7, c7, rfl, l7, g7⟩, ⟨[.int .i64 x.f4], [.int .i64 x.f5, .int .i64 x.f6], rfl, rfl, ⟨[.int .i64 x.f5], [.int .i64 x.f6], rfl, rfl, rfl⟩⟩⟩⟩⟩⟩
theorem k44_mkM (w : World) (base : Nat) (ok : Nat → Prop) (x : S44) {v0 : Value} (g0 : (Kd.int .i64).R 3 w base ok v0 x.f0.f0) {v1 : Value} (g1 : (Kd.int .i64).R 3 w base ok v1 x.f0.f1) {v2 : Value} (g2 : (Kd.int .i64).R 3 w base ok v2 x.f0.f2) {v5 : Value} (g5 : k80.R 80 w base ok v5 x.f1) {v6 : Value} (g6 : (Kd.slice 3 (Kd.int .i64)).R 22 w base ok v6 x.f2) {v7 : Value} (g7 : (Kd.int .i64).R 3 w base ok v7 x.f3) : k44.M w base ok x [v0, v1, v2, .int .i64 x.f0.f3, .int .i64 x.f0.f4, v5, v6, v7, .int .i64 x.f4, .int .i64 x.f5, .int .i64 x.f6] := ⟨[v0, v1, v2, .int .i64 x.f0.f3, .int .i64 x.f0.f4], [v5, v6, v7, .int .i64 x.f4, .int .i64 x.f5, .int .i64 x.f6], rfl, (k27_mkM w base ok x.f0 g0 g1 g2), ⟨[v5], [v6, v7, .int .i64 x.f4, .int .i64 x.f5, .int .i64 x.f6], rfl, ⟨v5, rfl, g5⟩, ⟨[v6], [v7, .int .i64 x.f4, .int .i64 x.f5, .int .i64 x.f6], rfl, ⟨v6, rfl, g6⟩, ⟨[v7], [.int .i64 x.f4, .int .i64 x.f5, .int .i64 x.f6], rfl, ⟨v7, rfl, g7⟩, ⟨[.int .i64 x.f4], [.int .i64 x.f5, .int .i64 x.f6], rfl, rfl, ⟨[.int .i64 x.f5], [.int .i64 x.f6], rfl, rfl, rfl⟩⟩⟩⟩⟩⟩
theorem k44_openF {W : World} {ok : Nat → Prop} {x : S44} {cs : List Value} (h : Kd.FK k44 W ok x cs) : ∃ A0 c0 A1 c1 A2 c2 A5 c5 A6 c6 A7 c7, cs = [.slice A0 x.f0.f0.length c0, .slice A1 x.f0.f1.length c1, .slice A2 x.f0.f2.length c2, .int .i64 x.f0.f3, .int .i64 x.f0.f4, .slice A5 x.f1.length c5, .slice A6 x.f2.length c6, .slice A7 x.f3.length c7, .int .i64 x.f4, .int .i64 x.f5, .int .i64 x.f6] ∧ x.f0.f0.length ≤ c0 ∧ Kd.F (Kd.int .i64) W ok A0 x.f0.f0.length x.f0.f0 ∧ x.f0.f1.length ≤ c1 ∧ Kd.F (Kd.int .i64) W ok A1 x.f0.f1.length x.f0.f1 ∧ x.f0.f2.length ≤ c2 ∧ Kd.F (Kd.int .i64) W ok A2 x.f0.f2.length x.f0.f2 ∧ x.f1.length ≤ c5 ∧ Kd.F k80 W ok A5 x.f1.length x.f1 ∧ x.f2.length ≤ c6 ∧ Kd.F (Kd.slice 3 (Kd.int .i64)) W ok A6 x.f2.length x.f2 ∧ x.f3.length ≤ c7 ∧ Kd.F (Kd.int .i64) W ok A7 x.f3.length x.f3 := by
 obtain ⟨A0, c0, A1, c1, A2, c2, A5, c5, A6, c6, A7, c7, rfl, l0, _, l1, _, l2, _, l5, _, l6, _, l7, _⟩ := k44_open (Kd.FK_now h)
 exact ⟨A0, c0, A1, c1, A2, c2, A5, c5, A6, c6, A7, c7, rfl, l0, (fun W' hW => by obtain ⟨A0_, c0_, A1_, c1_, A2_, c2_, A5_, c5_, A6_, c6_, A7_, c7_, he, l0_, g0_, l1_, g1_, l2_, g2_, l5_, g5_, l6_, g6_, l7_, g7_⟩ := k44_open (h W' hW); injection (Option.some.inj (show some (Value.slice A0 x.f0.f0.length c0) = some (Value.slice A0_ x.f0.f0.length c0_) from congrArg (fun l => l[0]?) he)) with ha_ _ _; rw [ha_]; exact g0_), l1, (fun W' hW => by obtain ⟨A0_, c0_, A1_, c1_, A2_, c2_, A5_, c5_, A6_, c6_, A7_, c7_, he, l0_, g0_, l1_, g1_, l2_, g2_, l5_, g5_, l6_, g6_, l7_, g7_⟩ := k44_open (h W' hW); injection (Option.some.inj (show some (Value.slice A1 x.f0.f1.length c1) = some (Value.slice A1_ x.f0.f1.length c1_) from congrArg (fun l => l[1]?) he)) with ha_ _ _; rw [ha_]; exact g1_), l2, (fun W' hW => by obtain ⟨A0_, c0_, A1_, c1_, A2_, c2_, A5_, c5_, A6_, c6_, A7_, c7_, he, l0_, g0_, l1_, g1_, l2_, g2_, l5_, g5_, l6_, g6_, l7_, g7_⟩ := k44_open (h W' hW); injection (Option.some.inj (show some (Value.slice A2 x.f0.f2.length c2) = some (Value.slice A2_ x.f0.f2.length c2_) from congrArg (fun l => l[2]?) he)) with ha_ _ _; rw [ha_]; exact g2_), l5, (fun W' hW => by obtain ⟨A0_, c0_, A1_, c1_, A2_, c2_, A5_, c5_, A6_, c6_, A7_, c7_, he, l0_, g0_, l1_, g1_, l2_, g2_, l5_, g5_, l6_, g6_, l7_, g7_⟩ := k44_open (h W' hW); injection (Option.some.inj (show some (Value.slice A5 x.f1.length c5) = some (Value.slice A5_ x.f1.length c5_) from congrArg (fun l => l[5]?) he)) with ha_ _ _; rw [ha_]; exact g5_), l6, (fun W' hW => by obtain ⟨A0_, c0_, A1_, c1_, A2_, c2_, A5_, c5_, A6_, c6_, A7_, c7_, he, l0_, g0_, l1_, g1_, l2_, g2_, l5_, g5_, l6_, g6_, l7_, g7_⟩ := k44_open (h W' hW); injection (Option.some.inj (show some (Value.slice A6 x.f2.length c6) = some (Value.slice A6_ x.f2.length c6_) from congrArg (fun l => l[6]?) he)) with ha_ _ _; rw [ha_]; exact g6_), l7, (fun W' hW => by obtain ⟨A0_, c0_, A1_, c1_, A2_, c2_, A5_, c5_, A6_, c6_, A7_, c7_, he, l0_, g0_, l1_, g1_, l2_, g2_, l5_, g5_, l6_, g6_, l7_, g7_⟩ := k44_open (h W' hW); injection (Option.some.inj (show some (Value.slice A7 x.f3.length c7) = some (Value.slice A7_ x.f3.length c7_) from congrArg (fun l => l[7]?) he)) with ha_ _ _; rw [ha_]; exact g7_)⟩
theorem k44_mkF (W : World) (ok : Nat → Prop) (x : S44) {A0 : Option Addr} {c0 : Nat} (l0 : x.f0.f0.length ≤ c0) (g0 : Kd.F (Kd.int .i64) W ok A0 x.f0.f0.length x.f0.f0) {A1 : Option Addr} {c1 : Nat} (l1 : x.f0.f1.length ≤ c1) (g1 : Kd.F (Kd.int .i64) W ok A1 x.f0.f1.length x.f0.f1) {A2 : Option Addr} {c2 : Nat} (l2 : x.f0.f2.length ≤ c2) (g2 : Kd.F (Kd.int .i64) W ok A2 x.f0.f2.length x.f0.f2) {A5 : Option Addr} {c5 : Nat} (l5 : x.f1.length ≤ c5) (g5 : Kd.F k80 W ok A5 x.f1.length x.f1) {A6 : Option Addr} {c6 : Nat} (l6 : x.f2.length ≤ c6) (g6 : Kd.F (Kd.slice 3 (Kd.int .i64)) W ok A6 x.f2.length x.f2) {A7 : Option Addr} {c7 : Nat} (l7 : x.f3.length ≤ c7) (g7 : Kd.F (Kd.int .i64) W ok A7 x.f3.length x.f3) : Kd.FK k44 W ok x [.slice A0 x.f0.f0.length c0, .slice A1 x.f0.f1.length c1, .slice A2 x.f0.f2.length c2, .int .i64 x.f0.f3, .int .i64 x.f0.f4, .slice A5 x.f1.length c5, .slice A6 x.f2.length c6, .slice A7 x.f3.length c7, .int .i64 x.f4, .int .i64 x.f5, .int .i64 x.f6] := fun W2 hW => k44_mk W2 x l0 (g0 W2 hW) l1 (g1 W2 hW) l2 (g2 W2 hW) l5 (g5 W2 hW) l6 (g6 W2 hW) l7 (g7 W2 hW)
def rd_T44 (xs : List S44) (i : Int) : S44 := xs.getD i.toNat z44
theorem at_T44 {w : World} {A : Option Addr} {n : Nat} {xs : List S44} (h : Kd.C k44 w A n xs) (i : Int) (h0 : 0 ≤ i) (h1 : i < n) : ∃ ad A0 c0 A1 c1 A2 c2 A5 c5 A6 c6 A7 c7, A = some ad ∧ w.cell? (ad.add (i.toNat * 11)) = some (.slice A0 (rd_T44 xs i).f0.f0.length c0) ∧ w.cell? ⟨(ad.add (i.toNat * 11)).block, (ad.add (i.toNat * 11)).off + 1, none⟩ = some (.slice A1 (rd_T44 xs i).f0.f1.length c1) ∧ w.cell? ⟨(ad.add (i.toNat * 11)).block, (ad.add (i.toNat * 11)).off + 2, none⟩ = some (.slice A2 (rd_T44 xs i).f0.f2.length c2) ∧ w.cell? ⟨(ad.add (i.toNat * 11)).block, (ad.add (i.toNat * 11)).off + 3, none⟩ = some (.int .i64 (rd_T44 xs i).f0.f3) ∧ w.cell? ⟨(ad.add (i.toNat * 11)).block, (ad.add (i.toNat * 11)).off + 4, none⟩ = some (.int .i64 (rd_T44 xs i).f0.f4) ∧ w.cell? ⟨(ad.add (i.toNat * 11)).block, (ad.add (i.toNat * 11)).off + 5, none⟩ = some (.slice A5 (rd_T44 xs i).f1.length c5) ∧ w.cell? ⟨(ad.add (i.toNat * 11)).block, (ad.add (i.toNat * 11)).off + 6, none⟩ = some (.slice A6 (rd_T44 xs i).f2.length c6) ∧ w.cell? ⟨(ad.add (i.toNat * 11)).block, (ad.add (i.toNat * 11)).off + 7, none⟩ = some (.slice A7 (rd_T44 xs i).f3.length c7) ∧ w.cell? ⟨(ad.add (i.toNat * 11)).block, (ad.add (i.toNat * 11)).off + 8, none⟩ = some (.int .i64 (rd_T44 xs i).f4) ∧ w.cell? ⟨(ad.add (i.toNat * 11)).block, (ad.add (i.toNat * 11)).off + 9, none⟩ = some (.int .i64 (rd_T44 xs i).f5) ∧ w.cell? ⟨(ad.add (i.toNat * 11)).block, (ad.add (i.toNat * 11)).off + 10, none⟩ = some (.int .i64 (rd_T44 xs i).f6) ∧ (rd_T44 xs i).f0.f0.length ≤ c0 ∧ (Kd.int .i64).C w A0 (rd_T44 xs i).f0.f0.length (rd_T44 xs i).f0.f0 ∧ (rd_T44 xs i).f0.f1.length ≤ c1 ∧ (Kd.int .i64).C w A1 (rd_T44 xs i).f0.f1.length (rd_T44 xs i).f0.f1 ∧ (rd_T44 xs i).f0.f2.length ≤ c2 ∧ (Kd.int .i64).C w A2 (rd_T44 xs i).f0.f2.length (rd_T44 xs i).f0.f2 ∧ (rd_T44 xs i).f1.length ≤ c5 ∧ k80.C w A5 (rd_T44 xs i).f1.length (rd_T44 xs i).f1 ∧ (rd_T44 xs i).f2.length ≤ c6 ∧ (Kd.slice 3 (Kd.int .i64)).C w A6 (rd_T44 xs i).f2.length (rd_T44 xs i).f2 ∧ (rd_T44 xs i).f3.length ≤ c7 ∧ (Kd.int .i64).C w A7 (rd_T44 xs i).f3.length (rd_T44 xs i).f3 := by
 obtain ⟨ad, c, e, _, hK, hc0⟩ := Kd.C_get h z44 i h0 h1
 have hc : ∀ j u, c[j]? = some u → w.cell? (ad.add (i.toNat * 11 + j)) = some u := hc0
 obtain ⟨A0, c0, A1, c1, A2, c2, A5, c5, A6, c6, A7, c7, rfl, l0, g0, l1, g1, l2, g2, l5, g5, l6, g6, l7, g7⟩ := k44_open hK
 exact ⟨ad, A0, c0, A1, c1, A2, c2, A5, c5, A6, c6, A7, c7, e, hc 0 _ rfl, by rw [← add_field _ _ 1 (by omega)]; exact hc 1 _ rfl, by rw [← add_field _ _ 2 (by omega)]; exact hc 2 _ rfl, by rw [← add_field _ _ 3 (by omega)]; exact hc 3 _ rfl, by rw [← add_field _ _ 4 (by omega)]; exact hc 4 _ rfl, by rw [← add_field _ _ 5 (by omega)]; exact hc 5 _ rfl, by rw [← add_field _ _ 6 (by omega)]; exact hc 6 _ rfl, by rw [← add_field _ _ 7 (by omega)]; exact hc 7 _ rfl, by rw [← add_field _ _ 8 (by omega)]; exact hc 8 _ rfl, by rw [← add_field _ _ 9 (by omega)]; exact hc 9 _ rfl, by rw [← add_field _ _ 10 (by omega)]; exact hc 10 _ rfl, l0, g0, l1, g1, l2, g2, l5, g5, l6, g6, l7, g7⟩

end Go.Proofs.Ytikbfnbfbpnmjaa.PFnExactTonnesDumped
