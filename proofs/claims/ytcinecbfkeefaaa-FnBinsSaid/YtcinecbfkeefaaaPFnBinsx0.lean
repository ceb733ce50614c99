/- Text written by a program for this claim: contracts of the functions of one law. -/
import Derived.Test.YtcinecbfkeefaaaProg
import Derived.Below
import Derived.Deep.Draws
import Derived.Deep.AppendLies
import Derived.Maps.AppendAt
import Derived.OwnWalk
import Derived.Laws.BytesArg
import Derived.Laws.MakeOwn
import Derived.Laws.OwnMore
import Derived.Deep.OwnRows
import Derived.Tactics
import Derived.Lib.ConvBytes
import Derived.Laws.Slices
import Derived.WalkKit
import Derived.KernelRfl
import Derived.RowKit3
import Derived.Deep.LoopGhost
import Derived.Deep.QuietTactic
import Derived.BigQuiet
import Derived.WideLaws
import Derived.Deep.DeepCutAuto
import Derived.Deep.CutBlock
import Derived.Deep.RegionHeld3
import Derived.Laws.Rows
import Derived.Lib.AppendStr
import Derived.ArgAppend
import Derived.Laws.IdiomCopy
import Derived.OrdersHeld
import Derived.Laws.BitsLemmas
import Derived.RowKit
import Derived.Laws.EntriesVeiled
import Derived.Lib.SliceRun
import Derived.Test.YtcinecbfkeefaaaWWords
import Derived.Test.YtcinecbfkeefaaaWLast
import Derived.Test.YtcinecbfkeefaaaWTab
import Derived.Test.YtcinecbfkeefaaaWQPut
import Derived.Test.YtcinecbfkeefaaaWApart
import Derived.Test.YtcinecbfkeefaaaWArr
import Derived.Test.YtcinecbfkeefaaaWZeros
import Derived.Test.YtcinecbfkeefaaaWFoot
import Derived.Test.YtcinecbfkeefaaaWKept
import Derived.Test.YtcinecbfkeefaaaWShare
import Derived.Test.YtcinecbfkeefaaaWN
import Derived.Test.YtcinecbfkeefaaaWFootNe
import Derived.Test.YtcinecbfkeefaaaWEqStruct
import Derived.Test.YtcinecbfkeefaaaWRepsOne
import Derived.Test.YtcinecbfkeefaaaWGuard
import Derived.Test.YtcinecbfkeefaaaWNEv
import Derived.Test.YtcinecbfkeefaaaWMore
namespace Go.Proofs.Ytcinecbfkeefaaa.PFnBins
open Go.RowKit Go.Proofs.YtcinecbfkeefaaaW.PrintWords Go.Proofs.YtcinecbfkeefaaaW.PrintLast Go.Proofs.YtcinecbfkeefaaaW.PrintMore
attribute [local go_sem] max2_int min2_int max_two min_two max_three min_three max_four min_four   -- for this text's walks alone
set_option linter.unusedVariables false
set_option linter.unusedSimpArgs false
namespace ShortPFnBins0
theorem s1 {α : Type _} {l : List α} {i : Nat} {a : α} : l.toArray.setIfInBounds i a = (l.set i a).toArray := List.setIfInBounds_toArray ..
theorem s2 {α : Type _} {l : List α} {a b : α} : (a :: l).set 0 b = b :: l := rfl
theorem s3 {α : Type _} {l : List α} {n : Nat} {a b : α} : (a :: l).set (n + 1) b = a :: l.set n b := rfl
abbrev Y : Bool := true
abbrev Z : Bool := false
theorem odt {p : Prop} [Decidable p] (h : decide p = true := by first | (with_reducible assumption) | assumption) : p := of_decide_eq_true h
theorem am {p : Prop} (h : p) : Aside0 p := ⟨h⟩
theorem ba {w W : World} (h : Below w.heap.size w W) (o : Obj) : Below w.heap.size w (W.alloc o) := below_alloc h o
theorem bn {B : Nat} {w W : World} (h : Below B w W) (n : Nat) : Below B w (W.drewN n) := pw_below_drewN h n
theorem kn {w : World} {g : Nat} {o : Obj} (h : w.heap[g]? = some o) (n : Nat) : (w.drewN n).heap[g]? = some o := h
theorem kd {w : World} {g : Nat} {o : Obj} (h : w.heap[g]? = some o) : w.drew.heap[g]? = some o := h
theorem ka {w : World} {g : Nat} {o : Obj} (h : w.heap[g]? = some o) (o' : Obj) : (w.alloc o').heap[g]? = some o := blk_alloc h o'
abbrev o0' (a : Obj := by exact .cells #[.int .i64 (wrap64 (((rd_T63 l0 x15_1).f0) - (rd l1 x15_1))), .int .i64 ((rd_T63 l0 x15_1).f1), .int .i64 ((rd_T63 l0 x15_1).f2), .int .i64 ((rd_T63 l0 x15_1).f3)] 63 (0, 0)) : Obj := a
abbrev o1' (a : Obj := by exact .cells #[.int .i64 ((rd_T63 l1 x10_1).f0), .int .i64 ((rd_T63 l1 x10_1).f1), .int .i64 ((rd_T63 l1 x10_1).f2), .int .i64 ((rd_T63 l1 x10_1).f3)] 63 (0, 0)) : Obj := a
abbrev o2' (a : Obj := by exact .cells #[.int .i64 ((rd_T63 l0 x7_1).f0), .int .i64 ((rd_T63 l0 x7_1).f1), .int .i64 ((rd_T63 l0 x7_1).f2), .int .i64 ((rd_T63 l0 x7_1).f3)] 63 (0, 0)) : Obj := a
theorem za' {p : Prop} (h : p := by repeat (first | (with_reducible first | exact HB.out | apply ba | apply bn | apply below_drew1) | exact HB.out)) : p := h
theorem zb' {p : Prop} (h : p := by repeat (first | (with_reducible first | exact HK.out | apply KeepBut.set_ | apply keep_drewN | apply keep_drew | apply keep_alloc) | exact HK.out)) : p := h
theorem zc' {p : Prop} (h : p := by repeat (first | (with_reducible first | exact HI0.out | apply IsS96.alloc | apply IsS96.drewN | apply IsS96.drew | apply IsS96.set_1 | apply IsS96.set_2) | exact HI0.out)) : p := h
theorem zd' {p : Prop} (h : p := by (try simp only [List.map_toArray, List.map_cons, List.map_nil]); first | done | rfl | (simp only [List.length_drop, List.length_take]; rfl)) : p := h
theorem ze' {p : Prop} (h : p := by repeat (first | (with_reducible first | exact HB.out | apply ba | apply bn | apply below_drew1 | refine below_set ?_ (IsS96.ge HI0.out)) | exact HB.out)) : p := h
theorem zf' {p : Prop} (h : p := by (with_reducible repeat (first | apply Kd.R_alloc | apply Kd.R_drewN | apply Kd.R_drew)); exact HO254.out) : p := h
theorem zg' {p : Prop} (h : p := by (with_reducible repeat (first | apply Kd.R_alloc | apply Kd.R_drewN | apply Kd.R_drew)); exact HO_3.out) : p := h
theorem zh' {p : Prop} (h : p := by first | rfl | (simp; done) | (simp [*]; done)) : p := h
theorem zi' {p : Prop} (h : p := by (with_reducible repeat (first | apply Kd.R_alloc | apply Kd.R_drewN | apply Kd.R_drew)); exact HO260.out) : p := h
theorem zj' {p : Prop} (h : p := by repeat (first | exact HR0.out | (with_reducible refine Kd.C_alloc ?_ _) | (with_reducible refine Kd.C_drewN ?_ _) | (with_reducible refine Kd.C_drew ?_))) : p := h
theorem zk' {p : Prop} (h : p := by (with_reducible repeat (first | apply Kd.R_alloc | apply Kd.R_drewN | apply Kd.R_drew)); exact HO256.out) : p := h
theorem zl' {p : Prop} (h : p := by (with_reducible repeat (first | apply Kd.R_alloc | apply Kd.R_drewN | apply Kd.R_drew)); exact HO_5.out) : p := h
theorem zm' {p : Prop} (h : p := by (with_reducible repeat (first | apply Kd.R_alloc | apply Kd.R_drewN | apply Kd.R_drew)); exact HO264.out) : p := h
theorem zn' {p : Prop} (h : p := by repeat (first | exact (Kd.C_below HR0.out HB.out) | (with_reducible refine Kd.C_alloc ?_ _) | (with_reducible refine Kd.C_drewN ?_ _) | (with_reducible refine Kd.C_drew ?_))) : p := h
theorem zo' {p : Prop} (h : p := by first | exact Kd.own_blk (Kd.R_ne HO_6.out BK291.out (by decide)) | exact (HO_6.out.1 _ rfl).2) : p := h
theorem zp' {p : Prop} (h : p := by first | exact Kd.own_blk (Kd.R_ne HO_5.out BK291.out (by decide)) | exact (HO_5.out.1 _ rfl).2) : p := h
theorem zq' {p : Prop} (h : p := by repeat (first | exact (Kd.R_reads' HO278.out).2.2 | (with_reducible refine Kd.C_alloc ?_ _) | (with_reducible refine Kd.C_drewN ?_ _) | (with_reducible refine Kd.C_drew ?_))) : p := h
theorem zr' {p : Prop} (h : p := by have := World.block_lt_of_cell? _ _ hx114_0; first | rwa [add_block] at this | exact this) : p := h
theorem zs' {p : Prop} (h : p := by repeat (first | exact (Kd.R_reads' HO254.out).2.2 | (with_reducible refine Kd.C_alloc ?_ _) | (with_reducible refine Kd.C_drewN ?_ _) | (with_reducible refine Kd.C_drew ?_))) : p := h
theorem zt' {p : Prop} (h : p := by repeat (first | exact (Kd.R_reads' HO256.out).2.2 | (with_reducible refine Kd.C_alloc ?_ _) | (with_reducible refine Kd.C_drewN ?_ _) | (with_reducible refine Kd.C_drew ?_))) : p := h
theorem zu' {p : Prop} (h : p := by (with_reducible repeat (first | apply Kd.R_alloc | apply Kd.R_drewN | apply Kd.R_drew)); exact HO_7.out) : p := h
theorem zv' {p : Prop} (h : p := by first | (go_simp; done) | (go_simp; rfl)) : p := h
theorem zw' {p : Prop} (h : p := by repeat (first | exact (Kd.R_reads' HO_7.out).2.2 | (with_reducible refine Kd.C_alloc ?_ _) | (with_reducible refine Kd.C_drewN ?_ _) | (with_reducible refine Kd.C_drew ?_))) : p := h
theorem zx' {p : Prop} (h : p := by (with_reducible repeat (first | apply Kd.R_alloc | apply Kd.R_drewN | apply Kd.R_drew)); exact HO278.out) : p := h
theorem zy' {p : Prop} (h : p := by first | (rw [add_block]; exact hn293_0) | (show (Addr.add _ _).block ≠ _; rw [add_block]; exact hn293_0) | exact hn293_0) : p := h
theorem zz' {p : Prop} (h : p := by first | (rw [add_block]; exact hn293_1) | (show (Addr.add _ _).block ≠ _; rw [add_block]; exact hn293_1) | exact hn293_1) : p := h
theorem za1' {p : Prop} (h : p := by first | (rw [add_block]; exact hn293_2) | (show (Addr.add _ _).block ≠ _; rw [add_block]; exact hn293_2) | exact hn293_2) : p := h
theorem zb1' {p : Prop} (h : p := by first | (rw [add_block]; exact hn293_3) | (show (Addr.add _ _).block ≠ _; rw [add_block]; exact hn293_3) | exact hn293_3) : p := h
theorem zc1' {p : Prop} (h : p := by first | (rw [add_block]; exact hn294_0) | (show (Addr.add _ _).block ≠ _; rw [add_block]; exact hn294_0) | exact hn294_0) : p := h
theorem zd1' {p : Prop} (h : p := by first | (rw [add_block]; exact hn294_1) | (show (Addr.add _ _).block ≠ _; rw [add_block]; exact hn294_1) | exact hn294_1) : p := h
theorem ze1' {p : Prop} (h : p := by first | (rw [add_block]; exact hn294_2) | (show (Addr.add _ _).block ≠ _; rw [add_block]; exact hn294_2) | exact hn294_2) : p := h
theorem zf1' {p : Prop} (h : p := by first | (rw [add_block]; exact hn294_3) | (show (Addr.add _ _).block ≠ _; rw [add_block]; exact hn294_3) | exact hn294_3) : p := h
theorem zg1' {p : Prop} (h : p := by (with_reducible repeat (first | apply Kd.R_alloc | apply Kd.R_drewN | apply Kd.R_drew)); exact HO_6.out) : p := h
theorem zh1' {p : Prop} (h : p := by repeat (first | exact HR1.out | (with_reducible refine Kd.C_alloc ?_ _) | (with_reducible refine Kd.C_drewN ?_ _) | (with_reducible refine Kd.C_drew ?_))) : p := h
theorem zi1' {p : Prop} (h : p := by repeat (first | exact (Kd.C_below HR1.out HB.out) | (with_reducible refine Kd.C_alloc ?_ _) | (with_reducible refine Kd.C_drewN ?_ _) | (with_reducible refine Kd.C_drew ?_))) : p := h
theorem zj1' {p : Prop} (h : p := by repeat (first | exact (Kd.R_reads' HO260.out).2.2 | (with_reducible refine Kd.C_alloc ?_ _) | (with_reducible refine Kd.C_drewN ?_ _) | (with_reducible refine Kd.C_drew ?_))) : p := h
theorem zk1' {p : Prop} (h : p := by repeat (first | exact (Kd.R_reads' HO264.out).2.2 | (with_reducible refine Kd.C_alloc ?_ _) | (with_reducible refine Kd.C_drewN ?_ _) | (with_reducible refine Kd.C_drew ?_))) : p := h
theorem zl1' {p : Prop} (h : p := by repeat (first | exact (Kd.R_reads' HO_5.out).2.2 | (with_reducible refine Kd.C_alloc ?_ _) | (with_reducible refine Kd.C_drewN ?_ _) | (with_reducible refine Kd.C_drew ?_))) : p := h
theorem zm1' {p : Prop} (h : p := by (with_reducible repeat (first | apply kn | apply kd | apply ka)); refine blk_put (cs := #[.int .i64 ((rd_T63 l0 x7_1).f0), .int .i64 ((rd_T63 l0 x7_1).f1), .int .i64 ((rd_T63 l0 x7_1).f2), .int .i64 0]) ?_ 3 _ rfl; (with_reducible repeat (first | apply kn | apply kd | apply ka)); refine blk_put (cs := #[.int .i64 ((rd_T63 l0 x7_1).f0), .int .i64 ((rd_T63 l0 x7_1).f1), .int .i64 0, .int .i64 0]) ?_ 2 _ rfl; (with_reducible repeat (first | apply kn | apply kd | apply ka)); refine blk_put (cs := #[.int .i64 ((rd_T63 l0 x7_1).f0), .int .i64 0, .int .i64 0, .int .i64 0]) ?_ 1 _ rfl; (with_reducible repeat (first | apply kn | apply kd | apply ka)); refine blk_put (cs := #[.int .i64 0, .int .i64 0, .int .i64 0, .int .i64 0]) ?_ 0 _ rfl; (with_reducible repeat (first | apply kn | apply kd | apply ka)); exact BK105.out) : p := h
theorem zn1' {p : Prop} (h : p := by (with_reducible repeat (first | apply Kd.R_alloc | apply Kd.R_drewN | apply Kd.R_drew)); exact HO_192.out) : p := h
theorem zo1' {p : Prop} (h : p := by (with_reducible repeat (first | apply Kd.R_alloc | apply Kd.R_drewN | apply Kd.R_drew)); exact HO240.out) : p := h
theorem zp1' {p : Prop} (h : p := by (with_reducible repeat (first | apply Kd.N_alloc | apply Kd.N_drewN | apply Kd.N_drew)); exact HO_17.out) : p := h
theorem zq1' {p : Prop} (h : p := by first | (rw [add_block]; exact hn114_0) | (show (Addr.add _ _).block ≠ _; rw [add_block]; exact hn114_0) | exact hn114_0) : p := h
theorem zr1' {p : Prop} (h : p := by first | (rw [add_block]; exact hn114_1) | (show (Addr.add _ _).block ≠ _; rw [add_block]; exact hn114_1) | exact hn114_1) : p := h
theorem zs1' {p : Prop} (h : p := by first | (rw [add_block]; exact hn114_2) | (show (Addr.add _ _).block ≠ _; rw [add_block]; exact hn114_2) | exact hn114_2) : p := h
theorem zt1' {p : Prop} (h : p := by first | (rw [add_block]; exact hn114_3) | (show (Addr.add _ _).block ≠ _; rw [add_block]; exact hn114_3) | exact hn114_3) : p := h
theorem zu1' {p : Prop} (h : p := by repeat (first | (with_reducible exact HR234_0.out) | (with_reducible refine Kd.C_alloc ?_ _) | (with_reducible refine Kd.C_drewN ?_ _) | (with_reducible refine Kd.C_drew ?_) | exact HR234_0.out)) : p := h
theorem zv1' {p : Prop} (h : p := by repeat (first | (with_reducible first | exact HB.out | apply ba | apply bn | apply below_drew1 | refine below_set ?_ GE105.out) | exact HB.out)) : p := h
theorem zw1' {p : Prop} (h : p := by (with_reducible repeat (first | apply Kd.R_alloc | apply Kd.R_drewN | apply Kd.R_drew)); exact (Kd.R_mono (Kd.R_far (p := ⟨gb186, 3, none⟩) (Kd.R_far (p := ⟨gb186, 2, none⟩) (Kd.R_far (p := ⟨gb186, 1, none⟩) (Kd.R_far (p := ⟨gb186, 0, none⟩) (Kd.R_types HO_5.out BK186.out (by decide)) (fun _ hk => hk.2) (.int .i64 ((rd_T63 l0 x13_1).f0))) (fun _ hk => hk.2) (.int .i64 ((rd_T63 l0 x13_1).f1))) (fun _ hk => hk.2) (.int .i64 ((rd_T63 l0 x13_1).f2))) (fun _ hk => hk.2) (.int .i64 ((rd_T63 l0 x13_1).f3))) (fun _ h_ => h_.1))) : p := h
theorem zx1' {p : Prop} (h : p := by repeat (first | (with_reducible first | exact HK.out | apply KeepBut.set_ | apply keep_drewN | apply keep_drew | apply keep_alloc | refine keep_far ?_ GW153.out _) | exact HK.out)) : p := h
theorem zy1' {p : Prop} (h : p := by exact (Reps.one (show Kd.M (Kd.int .i64) _ _ _ (-1) [.int .i64 (-1)] from rfl) (Reps.one (show Kd.M (Kd.int .i64) _ _ _ 1000 [.int .i64 1000] from rfl) (Reps.one (show Kd.M (Kd.int .i64) _ _ _ 1001 [.int .i64 1001] from rfl) (Reps.none _ _))))) : p := h
theorem zz1' {p : Prop} (h : p := by repeat (first | (with_reducible first | exact HB.out | apply ba | apply bn | apply below_drew1 | refine below_set ?_ GE118.out) | exact HB.out)) : p := h
theorem za2' {p : Prop} (h : p := by repeat (first | (with_reducible first | exact HB.out | apply ba | apply bn | apply below_drew1 | refine below_set ?_ GE186.out) | exact HB.out)) : p := h
theorem zb2' {p : Prop} (h : p := by first | exact Kd.R_nil _ _ _ _ _ | exact Kd.N_nil _ _ _ _ _ | exact Kd.V_nil _ _ _ _ _ | exact Kd.Q_nil _ _ _ _ _ | exact Kd.S_nil _ _ _ _ _) : p := h
theorem zc2' {p : Prop} (h : p := by repeat (first | (with_reducible first | exact HI0.out | apply IsS96.alloc | apply IsS96.drewN | apply IsS96.drew | apply IsS96.set_1 | apply IsS96.set_2 | refine IsS96.far ?_ NB0_153.out _) | exact HI0.out)) : p := h
theorem zd2' {p : Prop} (h : p := by (with_reducible repeat (first | apply Kd.R_alloc | apply Kd.R_drewN | apply Kd.R_drew)); exact HO249.out) : p := h
theorem ze2' {p : Prop} (h : p := by (with_reducible repeat (first | apply Kd.N_alloc | apply Kd.N_drewN | apply Kd.N_drew)); exact HO_5.out) : p := h
theorem zf2' {p : Prop} (h : p := by repeat (first | (with_reducible first | exact HB.out | apply ba | apply bn | apply below_drew1 | refine below_set ?_ (IsS96.ge HI0.out) | refine below_set ?_ GE153.out) | exact HB.out)) : p := h
theorem zg2' {p : Prop} (h : p := by exact (Reps.one (show Kd.M (Kd.int .i64) _ _ _ ((rd_T63 l0 x7_1).f1) [.int .i64 ((rd_T63 l0 x7_1).f1)] from rfl) (Reps.one (show Kd.M (Kd.int .i64) _ _ _ ((rd_T63 l0 x7_1).f2) [.int .i64 ((rd_T63 l0 x7_1).f2)] from rfl) (Reps.one (show Kd.M (Kd.int .i64) _ _ _ ((rd_T63 l0 x7_1).f3) [.int .i64 ((rd_T63 l0 x7_1).f3)] from rfl) (Reps.none _ _))))) : p := h
theorem zh2' {p : Prop} (h : p := by exact (Kd.R_reads' HO278.out).2.1) : p := h
theorem zi2' {p : Prop} (h : p := by (with_reducible repeat (first | apply kn | apply kd | apply ka)); refine blk_put (cs := #[.int .i64 ((rd_T63 l0 x15_1).f0), .int .i64 ((rd_T63 l0 x15_1).f1), .int .i64 ((rd_T63 l0 x15_1).f2), .int .i64 ((rd_T63 l0 x15_1).f3)]) ?_ 0 _ rfl; (with_reducible repeat (first | apply kn | apply kd | apply ka)); exact BK118.out) : p := h
theorem zj2' {p : Prop} (h : p := by exact (Kd.R_reads' HO254.out).2.1) : p := h
theorem zk2' {p : Prop} (h : p := by exact (Kd.R_reads' HO256.out).2.1) : p := h
theorem zl2' {p : Prop} (h : p := by exact HC0.out) : p := h
theorem zm2' {p : Prop} (h : p := by first | omega | exact Nat.le_refl _) : p := h
theorem zn2' {p : Prop} (h : p := by (with_reducible repeat (first | apply Kd.R_alloc | apply Kd.R_drewN | apply Kd.R_drew)); exact Kd.R_mono HO_5.out (fun _ hk => hk.1)) : p := h
theorem zo2' {p : Prop} (h : p := by (with_reducible repeat (first | apply Kd.R_alloc | apply Kd.R_drewN | apply Kd.R_drew)); exact Kd.R_mono HO_7.out (fun _ hk => hk.1)) : p := h
theorem zp2' {p : Prop} (h : p := by first | (rw [add_block]; exact hn292_0) | (show (Addr.add _ _).block ≠ _; rw [add_block]; exact hn292_0) | exact hn292_0) : p := h
theorem zq2' {p : Prop} (h : p := by first | (rw [add_block]; exact hn292_1) | (show (Addr.add _ _).block ≠ _; rw [add_block]; exact hn292_1) | exact hn292_1) : p := h
theorem zr2' {p : Prop} (h : p := by first | (rw [add_block]; exact hn292_2) | (show (Addr.add _ _).block ≠ _; rw [add_block]; exact hn292_2) | exact hn292_2) : p := h
theorem zs2' {p : Prop} (h : p := by first | (rw [add_block]; exact hn292_3) | (show (Addr.add _ _).block ≠ _; rw [add_block]; exact hn292_3) | exact hn292_3) : p := h
theorem zt2' {p : Prop} (h : p := by first | (rw [add_block]; exact hn295_0) | (show (Addr.add _ _).block ≠ _; rw [add_block]; exact hn295_0) | exact hn295_0) : p := h
theorem zu2' {p : Prop} (h : p := by first | (rw [add_block]; exact hn295_1) | (show (Addr.add _ _).block ≠ _; rw [add_block]; exact hn295_1) | exact hn295_1) : p := h
theorem zv2' {p : Prop} (h : p := by first | (rw [add_block]; exact hn295_2) | (show (Addr.add _ _).block ≠ _; rw [add_block]; exact hn295_2) | exact hn295_2) : p := h
theorem zw2' {p : Prop} (h : p := by first | (rw [add_block]; exact hn295_3) | (show (Addr.add _ _).block ≠ _; rw [add_block]; exact hn295_3) | exact hn295_3) : p := h
theorem zx2' {p : Prop} (h : p := by exact (Kd.R_reads' HO_7.out).2.1) : p := h
theorem zy2' {p : Prop} (h : p := by (with_reducible repeat (first | apply Kd.N_alloc | apply Kd.N_drewN | apply Kd.N_drew)); exact HO_31.out) : p := h
theorem zz2' {p : Prop} (h : p := by repeat (first | (with_reducible exact HR221_0.out) | (with_reducible refine Kd.C_alloc ?_ _) | (with_reducible refine Kd.C_drewN ?_ _) | (with_reducible refine Kd.C_drew ?_) | exact HR221_0.out)) : p := h
theorem za3' {p : Prop} (h : p := by have := HK1.out; have := HJ12.out; omega) : p := h
theorem zb3' {p : Prop} (h : p := by repeat (first | exact (Kd.R_reads' HO109.out).2.2 | (with_reducible refine Kd.C_alloc ?_ _) | (with_reducible refine Kd.C_drewN ?_ _) | (with_reducible refine Kd.C_drew ?_))) : p := h
theorem zc3' {p : Prop} (h : p := by repeat (first | exact (Kd.C_below HR0.out za') | (with_reducible refine Kd.C_alloc ?_ _) | (with_reducible refine Kd.C_drewN ?_ _) | (with_reducible refine Kd.C_drew ?_))) : p := h
theorem zd3' {p : Prop} (h : p := by (with_reducible repeat (first | apply Kd.R_alloc | apply Kd.R_drewN | apply Kd.R_drew)); exact Kd.R_mono HO254.out (fun _ hk => ⟨hk.1.1.2, hk.1.2⟩)) : p := h
theorem ze3' {p : Prop} (h : p := by (with_reducible repeat (first | apply Kd.R_alloc | apply Kd.R_drewN | apply Kd.R_drew)); exact Kd.R_mono HO260.out (fun _ hk => ⟨hk.1.1.2, hk.1.2⟩)) : p := h
theorem zf3' {p : Prop} (h : p := by (with_reducible repeat (first | apply Kd.R_alloc | apply Kd.R_drewN | apply Kd.R_drew)); exact Kd.R_mono HO264.out (fun _ hk => ⟨hk.1.1.2, hk.1.2⟩)) : p := h
theorem zg3' {p : Prop} (h : p := by exact (Kd.R_reads' HO260.out).2.1) : p := h
theorem zh3' {p : Prop} (h : p := by exact (Kd.R_reads' HO264.out).2.1) : p := h
theorem zi3' {p : Prop} (h : p := by exact (Kd.R_reads' HO_5.out).2.1) : p := h
theorem zj3' {p : Prop} (h : p := by (with_reducible repeat (first | apply Kd.N_alloc | apply Kd.N_drewN | apply Kd.N_drew)); exact Kd.N_mono HO_17.out (fun _ hk => trivial)) : p := h
theorem zk3' {p : Prop} (h : p := by have := HJ13.out; have := HK2.out; first | omega | exact Nat.le_refl _) : p := h
theorem zl3' {p : Prop} (h : p := by exact HC1.out) : p := h
end ShortPFnBins0
open ShortPFnBins0



def errW : Option Int → Value
 | none => .nilIface
 | some c => .iface 0 (.int .i64 c)
theorem errW_none : errW none = .nilIface := rfl
theorem errW_some (c : Int) : errW (some c) = .iface 0 (.int .i64 c) := rfl

theorem info3 : (Try.prog.info? 3).map (fun i => (i.zero, i.size, i.bytes)) = some (some (.int .i64 0), 1, 8) := by kernel_rfl
theorem info29 : (Try.prog.info? 29).map (fun i => (i.zero, i.size, i.bytes)) = some (some (.slice none 0 0), 1, 24) := by kernel_rfl
theorem info63 : (Try.prog.info? 63).map (fun i => (i.zero, i.size, i.bytes)) = some (some (.agg #[(.int .i64 0), (.int .i64 0), (.int .i64 0), (.int .i64 0)]), 4, 32) := by kernel_rfl
-- the values' own types
/-! #### struct type 63 -/
structure S63 where
 f0 : Int
 f1 : Int
 f2 : Int
 f3 : Int
def z63 : S63 := ⟨(0 : Int), (0 : Int), (0 : Int), (0 : Int)⟩
def k63 : Kd S63 := Kd.iso (Kd.pair (Kd.int .i64) (Kd.pair (Kd.int .i64) (Kd.pair (Kd.int .i64) (Kd.int .i64)))) (fun x : S63 => (x.f0, x.f1, x.f2, x.f3))
theorem k63_open {w : World} {x : S63} {cs : List Value} (h : k63.K w x cs) : cs = [.int .i64 x.f0, .int .i64 x.f1, .int .i64 x.f2, .int .i64 x.f3] := by
 obtain ⟨_, _, rfl, rfl, ⟨_, _, rfl, rfl, ⟨_, _, rfl, rfl, rfl⟩⟩⟩ := h
 exact rfl
theorem k63_openM {w : World} {base : Nat} {ok : Nat → Prop} {x : S63} {cs : List Value} (h : k63.M w base ok x cs) : cs = [.int .i64 x.f0, .int .i64 x.f1, .int .i64 x.f2, .int .i64 x.f3] := by
 obtain ⟨_, _, rfl, rfl, ⟨_, _, rfl, rfl, ⟨_, _, rfl, rfl, rfl⟩⟩⟩ := h
 exact rfl
theorem k63_mkM (w : World) (base : Nat) (ok : Nat → Prop) (x : S63)  : k63.M w base ok x [.int .i64 x.f0, .int .i64 x.f1, .int .i64 x.f2, .int .i64 x.f3] := ⟨[.int .i64 x.f0], [.int .i64 x.f1, .int .i64 x.f2, .int .i64 x.f3], rfl, rfl, ⟨[.int .i64 x.f1], [.int .i64 x.f2, .int .i64 x.f3], rfl, rfl, ⟨[.int .i64 x.f2], [.int .i64 x.f3], rfl, rfl, rfl⟩⟩⟩
def rd_T63 (xs : List S63) (i : Int) : S63 := xs.getD i.toNat z63
theorem at_T63 {w : World} {A : Option Addr} {n : Nat} {xs : List S63} (h : Kd.C k63 w A n xs) (i : Int) (h0 : 0 ≤ i) (h1 : i < n) : ∃ ad , A = some ad ∧ w.cell? (ad.add (i.toNat * 4)) = some (.int .i64 (rd_T63 xs i).f0) ∧ w.cell? ⟨(ad.add (i.toNat * 4)).block, (ad.add (i.toNat * 4)).off + 1, none⟩ = some (.int .i64 (rd_T63 xs i).f1) ∧ w.cell? ⟨(ad.add (i.toNat * 4)).block, (ad.add (i.toNat * 4)).off + 2, none⟩ = some (.int .i64 (rd_T63 xs i).f2) ∧ w.cell? ⟨(ad.add (i.toNat * 4)).block, (ad.add (i.toNat * 4)).off + 3, none⟩ = some (.int .i64 (rd_T63 xs i).f3) := by
 obtain ⟨ad, c, e, _, hK, hc0⟩ := Kd.C_get h z63 i h0 h1
 have hc : ∀ j u, c[j]? = some u → w.cell? (ad.add (i.toNat * 4 + j)) = some u := hc0
 obtain rfl := k63_open hK
 exact ⟨ad, e, hc 0 _ rfl, by rw [← add_field _ _ 1 (by omega)]; exact hc 1 _ rfl, by rw [← add_field _ _ 2 (by omega)]; exact hc 2 _ rfl, by rw [← add_field _ _ 3 (by omega)]; exact hc 3 _ rfl⟩

/-! #### struct type 96 -/
structure S96 where
 f0 : (List Int)
 f1 : Int
 f2 : Int
def rd_L7 (xs : List (List Int)) (i : Int) : (List Int) := xs.getD i.toNat ([] : List Int)
theorem at_L7 {w : World} {A : Option Addr} {n : Nat} {xs : List (List Int)} (h : Kd.C (Kd.slice 3 (Kd.int .i64)) w A n xs) (i : Int) (h0 : 0 ≤ i) (h1 : i < n) : ∃ ad A0 c0, A = some ad ∧ w.cell? (ad.add i.toNat) = some (.slice A0 (rd_L7 xs i).length c0) ∧ (rd_L7 xs i).length ≤ c0 ∧ (Kd.int .i64).C w A0 (rd_L7 xs i).length (rd_L7 xs i) := by
 obtain ⟨ad, c, e, _, hK, hc0⟩ := Kd.C_get h ([] : List Int) i h0 h1
 have hc : ∀ j u, c[j]? = some u → w.cell? (ad.add (i.toNat * 1 + j)) = some u := hc0
 obtain ⟨A0, c0, rfl, l0, g0⟩ := hK
 exact ⟨ad, A0, c0, e, by have hq := hc 0 _ rfl; rwa [Nat.mul_one, Nat.add_zero] at hq, l0, g0⟩

end Go.Proofs.Ytcinecbfkeefaaa.PFnBins
