/- Text written by a program for this claim: contracts of the functions of one law. -/
import Derived.Test.YtociipogjmidiaaProg
import Derived.Below
import Derived.Deep.Draws
import Derived.Deep.AppendLies
import Derived.Maps.AppendAt
import Derived.OwnWalk
import Derived.Laws.BytesArg
import Derived.Laws.MakeOwn
import Derived.Laws.OwnMore
import Derived.Deep.OwnRows
import Derived.Tactics
import Derived.Lib.ConvBytes
import Derived.Laws.Slices
import Derived.WalkKit
import Derived.KernelRfl
import Derived.RowKit3
import Derived.Deep.LoopGhost
import Derived.Deep.QuietTactic
import Derived.BigQuiet
import Derived.WideLaws
import Derived.Deep.DeepCutAuto
import Derived.Deep.CutBlock
import Derived.Deep.RegionHeld3
import Derived.Laws.Rows
import Derived.Lib.AppendStr
import Derived.ArgAppend
import Derived.Laws.IdiomCopy
import Derived.OrdersHeld
import Derived.Laws.BitsLemmas
import Derived.RowKit
import Derived.Laws.EntriesVeiled
import Derived.Test.YtociipogjmidiaaWWords
import Derived.Test.YtociipogjmidiaaWLast
import Derived.Test.YtociipogjmidiaaWTab
import Derived.Test.YtociipogjmidiaaWQPut
import Derived.Test.YtociipogjmidiaaWApart
import Derived.Test.YtociipogjmidiaaWArr
import Derived.Test.YtociipogjmidiaaWZeros
import Derived.Test.YtociipogjmidiaaWFoot
import Derived.Test.YtociipogjmidiaaWKept
import Derived.Test.YtociipogjmidiaaWShare
import Derived.Test.YtociipogjmidiaaWN
import Derived.Test.YtociipogjmidiaaWRepsOne
import Derived.Test.YtociipogjmidiaaWGuard
import Derived.Test.YtociipogjmidiaaWNEv
import Derived.Test.YtociipogjmidiaaWMore
namespace Go.Proofs.Ytociipogjmidiaa.PFnCycles
open Go.RowKit Go.Proofs.YtociipogjmidiaaW.PrintWords Go.Proofs.YtociipogjmidiaaW.PrintLast Go.Proofs.YtociipogjmidiaaW.PrintMore
attribute [local go_sem] max2_int min2_int max_two min_two max_three min_three max_four min_four   -- for this text's walks alone
set_option linter.unusedVariables false
set_option linter.unusedSimpArgs false
namespace ShortPFnCycles0
theorem s1 {α : Type _} {l : List α} {i : Nat} {a : α} : l.toArray.setIfInBounds i a = (l.set i a).toArray := List.setIfInBounds_toArray ..
theorem s2 {α : Type _} {l : List α} {a b : α} : (a :: l).set 0 b = b :: l := rfl
theorem s3 {α : Type _} {l : List α} {n : Nat} {a b : α} : (a :: l).set (n + 1) b = a :: l.set n b := rfl
abbrev Y : Bool := true
abbrev Z : Bool := false
theorem odt {p : Prop} [Decidable p] (h : decide p = true := by first | (with_reducible assumption) | assumption) : p := of_decide_eq_true h
theorem am {p : Prop} (h : p) : Aside0 p := ⟨h⟩
theorem ba {w W : World} (h : Below w.heap.size w W) (o : Obj) : Below w.heap.size w (W.alloc o) := below_alloc h o
theorem bn {B : Nat} {w W : World} (h : Below B w W) (n : Nat) : Below B w (W.drewN n) := pw_below_drewN h n
theorem kn {w : World} {g : Nat} {o : Obj} (h : w.heap[g]? = some o) (n : Nat) : (w.drewN n).heap[g]? = some o := h
theorem kd {w : World} {g : Nat} {o : Obj} (h : w.heap[g]? = some o) : w.drew.heap[g]? = some o := h
theorem ka {w : World} {g : Nat} {o : Obj} (h : w.heap[g]? = some o) (o' : Obj) : (w.alloc o').heap[g]? = some o := blk_alloc h o'
abbrev o0' (a : Obj := by exact .cells #[.int .i64 a0_0, .int .i64 a0_1, .int .i64 a0_2, .int .i64 a0_3] 25 (0, 0)) : Obj := a
abbrev o1' (a : Obj := by exact .cells #[.int .i64 0, .int .i64 0, .int .i64 0, .int .i64 0] 25 (0, 0)) : Obj := a
abbrev o2' (a : Obj := by exact .cells #[.int .i64 t297, .int .i64 t298, .int .i64 t299, .int .i64 t300] 25 (0, 0)) : Obj := a
abbrev o3' (a : Obj := by exact .cells #[.int .i64 (wrap64 (1 + t243)), .int .i64 (wrap64 (1 + t246)), .int .i64 (wrap64 (1 + t249)), .int .i64 (wrap64 (1 + t252))] 25 (0, 0)) : Obj := a
abbrev o4' (a : Obj := by exact .cells #[.int .i64 t320, .int .i64 t321, .int .i64 t322, .int .i64 t323] 25 (0, 0)) : Obj := a
theorem za' {p : Prop} (h : p := by repeat (first | (with_reducible first | exact HB.out | apply ba | apply bn | apply below_drew1) | exact HB.out)) : p := h
theorem zb' {p : Prop} (h : p := by (try simp only [List.map_toArray, List.map_cons, List.map_nil]); first | done | rfl | (simp only [List.length_drop, List.length_take]; rfl)) : p := h
theorem zc' {p : Prop} (h : p := by repeat (first | (with_reducible first | exact HK.out | apply KeepBut.set_ | apply keep_drewN | apply keep_drew | apply keep_alloc | refine keep_far ?_ GW242.out _) | exact HK.out)) : p := h
theorem zd' {p : Prop} (h : p := by repeat (first | (with_reducible first | exact HB.out | apply ba | apply bn | apply below_drew1 | refine below_set ?_ GE303.out | refine below_set ?_ GE326.out) | exact HB.out)) : p := h
theorem ze' {p : Prop} (h : p := by repeat (first | (with_reducible first | exact HI0.out | apply IsS62.alloc | apply IsS62.drewN | apply IsS62.drew | apply IsS62.set_1 | apply IsS62.set_2 | refine IsS62.far ?_ NB0_242.out _) | exact HI0.out)) : p := h
theorem zf' {p : Prop} (h : p := by repeat (first | (with_reducible first | exact HB.out | apply ba | apply bn | apply below_drew1 | refine below_set ?_ (IsS62.ge HI0.out) | refine below_set ?_ GE242.out) | exact HB.out)) : p := h
theorem zg' {p : Prop} (h : p := by repeat (first | (with_reducible first | exact HB.out | apply ba | apply bn | apply below_drew1 | refine below_set ?_ GE129.out) | exact HB.out)) : p := h
theorem zh' {p : Prop} (h : p := by repeat (first | (with_reducible first | exact HK.out | apply KeepBut.set_ | apply keep_drewN | apply keep_drew | apply keep_alloc) | exact HK.out)) : p := h
theorem zi' {p : Prop} (h : p := by repeat (first | (with_reducible first | exact HK.out | apply KeepBut.set_ | apply keep_drewN | apply keep_drew | apply keep_alloc | refine keep_far ?_ GW242.out _ | refine keep_far ?_ GW255.out _) | exact HK.out)) : p := h
theorem zj' {p : Prop} (h : p := by (with_reducible repeat (first | apply kn | apply kd | apply ka)); refine blk_put (cs := #[.int .i64 (wrap64 (1 + t243)), .int .i64 (wrap64 (1 + t246)), .int .i64 (wrap64 (1 + t249)), .int .i64 0]) ?_ 3 _ rfl; (with_reducible repeat (first | apply kn | apply kd | apply ka)); refine blk_put (cs := #[.int .i64 (wrap64 (1 + t243)), .int .i64 (wrap64 (1 + t246)), .int .i64 0, .int .i64 0]) ?_ 2 _ rfl; (with_reducible repeat (first | apply kn | apply kd | apply ka)); refine blk_put (cs := #[.int .i64 (wrap64 (1 + t243)), .int .i64 0, .int .i64 0, .int .i64 0]) ?_ 1 _ rfl; (with_reducible repeat (first | apply kn | apply kd | apply ka)); refine blk_put (cs := #[.int .i64 0, .int .i64 0, .int .i64 0, .int .i64 0]) ?_ 0 _ rfl; (with_reducible repeat (first | apply kn | apply kd | apply ka)); exact BK255.out) : p := h
theorem zk' {p : Prop} (h : p := by (with_reducible repeat (first | apply kn | apply kd | apply ka)); exact BK242.out) : p := h
theorem zl' {p : Prop} (h : p := by (with_reducible repeat (first | apply Kd.R_alloc | apply Kd.R_drewN | apply Kd.R_drew)); exact HO_10.out) : p := h
theorem zm' {p : Prop} (h : p := by repeat (first | (with_reducible first | exact HB.out | apply ba | apply bn | apply below_drew1 | refine below_set ?_ GE156.out) | exact HB.out)) : p := h
theorem zn' {p : Prop} (h : p := by repeat (first | (with_reducible first | exact HI0.out | apply IsS62.alloc | apply IsS62.drewN | apply IsS62.drew | apply IsS62.set_1 | apply IsS62.set_2 | refine IsS62.far ?_ NB0_242.out _ | refine IsS62.far ?_ NB0_255.out _) | exact HI0.out)) : p := h
theorem zo' {p : Prop} (h : p := by repeat (first | (with_reducible first | exact HB.out | apply ba | apply bn | apply below_drew1 | refine below_set ?_ (IsS62.ge HI0.out) | refine below_set ?_ GE242.out | refine below_set ?_ GE255.out) | exact HB.out)) : p := h
theorem zp' {p : Prop} (h : p := by (with_reducible repeat (first | apply kn | apply kd | apply ka)); exact BK303.out) : p := h
theorem zq' {p : Prop} (h : p := by first | (go_simp; done) | (go_simp; rfl)) : p := h
theorem zr' {p : Prop} (h : p := by repeat (first | (with_reducible first | exact HB.out | apply ba | apply bn | apply below_drew1 | refine below_set ?_ GE175.out) | exact HB.out)) : p := h
theorem zs' {p : Prop} (h : p := by repeat (first | (with_reducible first | exact HI0.out | apply IsS62.alloc | apply IsS62.drewN | apply IsS62.drew | apply IsS62.set_1 | apply IsS62.set_2) | exact HI0.out)) : p := h
theorem zt' {p : Prop} (h : p := by (with_reducible repeat (first | apply kn | apply kd | apply ka)); refine blk_far ?_ NB242_255.out _; (with_reducible repeat (first | apply kn | apply kd | apply ka)); refine blk_far ?_ NB242_255.out _; (with_reducible repeat (first | apply kn | apply kd | apply ka)); refine blk_far ?_ NB242_255.out _; (with_reducible repeat (first | apply kn | apply kd | apply ka)); refine blk_far ?_ NB242_255.out _; (with_reducible repeat (first | apply kn | apply kd | apply ka)); exact BK242.out) : p := h
theorem zu' {p : Prop} (h : p := by (with_reducible repeat (first | apply kn | apply kd | apply ka)); exact BK326.out) : p := h
theorem zv' {p : Prop} (h : p := by repeat (first | (with_reducible first | exact HB.out | apply ba | apply bn | apply below_drew1 | refine below_set ?_ (IsS62.ge HI0.out)) | exact HB.out)) : p := h
theorem zw' {p : Prop} (h : p := by first | rfl | (simp; done) | (simp [*]; done)) : p := h
theorem zx' {p : Prop} (h : p := by repeat (first | (with_reducible first | exact HB.out | apply ba | apply bn | apply below_drew1 | refine below_set ?_ GE303.out) | exact HB.out)) : p := h
theorem zy' {p : Prop} (h : p := by repeat (first | (with_reducible first | exact HB.out | apply ba | apply bn | apply below_drew1 | refine below_set ?_ GE207.out) | exact HB.out)) : p := h
theorem zz' {p : Prop} (h : p := by (with_reducible repeat (first | apply Kd.R_alloc | apply Kd.R_drewN | apply Kd.R_drew)); exact HO_9.out) : p := h
theorem za1' {p : Prop} (h : p := by (with_reducible repeat (first | apply kn | apply kd | apply ka)); exact BK129.out) : p := h
theorem zb1' {p : Prop} (h : p := by (with_reducible repeat (first | apply Kd.R_alloc | apply Kd.R_drewN | apply Kd.R_drew)); exact HO306.out) : p := h
theorem zc1' {p : Prop} (h : p := by (with_reducible repeat (first | apply kn | apply kd | apply ka)); exact BK156.out) : p := h
theorem zd1' {p : Prop} (h : p := by (with_reducible repeat (first | apply kn | apply kd | apply ka)); exact BK175.out) : p := h
theorem ze1' {p : Prop} (h : p := by (with_reducible repeat (first | apply Kd.R_alloc | apply Kd.R_drewN | apply Kd.R_drew)); exact HO310.out) : p := h
theorem zf1' {p : Prop} (h : p := by (with_reducible repeat (first | apply Kd.R_alloc | apply Kd.R_drewN | apply Kd.R_drew)); exact Kd.R_mono HO_10.out (fun _ hk => ⟨trivial, hk⟩)) : p := h
theorem zg1' {p : Prop} (h : p := by exact (by (with_reducible repeat (first | apply Kd.R_alloc | apply Kd.R_drewN | apply Kd.R_drew)); exact Kd.R_mono HO_10.out (fun _ hk => hk.2))) : p := h
theorem zh1' {p : Prop} (h : p := by (with_reducible repeat (first | apply Kd.R_alloc | apply Kd.R_drewN | apply Kd.R_drew)); exact HO336.out) : p := h
theorem zi1' {p : Prop} (h : p := by (with_reducible repeat (first | apply kn | apply kd | apply ka)); exact BK207.out) : p := h
theorem zj1' {p : Prop} (h : p := by exact (Reps.one (show Kd.M (Kd.int .i64) _ _ _ 0 [.int .i64 0] from rfl) (Reps.one (show Kd.M (Kd.int .i64) _ _ _ 100 [.int .i64 100] from rfl) (Reps.one (show Kd.M (Kd.int .i64) _ _ _ 101 [.int .i64 101] from rfl) (Reps.none _ _))))) : p := h
theorem zk1' {p : Prop} (h : p := by repeat (first | (with_reducible first | exact HB.out | apply ba | apply bn | apply below_drew1 | refine below_set ?_ GE119.out) | exact HB.out)) : p := h
theorem zl1' {p : Prop} (h : p := by repeat (first | (with_reducible first | exact HB.out | apply ba | apply bn | apply below_drew1 | refine below_set ?_ GE147.out) | exact HB.out)) : p := h
theorem zm1' {p : Prop} (h : p := by repeat (first | (with_reducible first | exact HB.out | apply ba | apply bn | apply below_drew1 | refine below_set ?_ GE194.out) | exact HB.out)) : p := h
theorem zn1' {p : Prop} (h : p := by repeat (first | (with_reducible first | exact HB.out | apply ba | apply bn | apply below_drew1 | refine below_set ?_ GE215.out) | exact HB.out)) : p := h
theorem zo1' {p : Prop} (h : p := by (with_reducible repeat (first | apply kn | apply kd | apply ka)); exact BK255.out) : p := h
theorem zp1' {p : Prop} (h : p := by repeat (first | exact (Kd.R_reads' HO336.out).2.2 | (with_reducible refine Kd.C_alloc ?_ _) | (with_reducible refine Kd.C_drewN ?_ _) | (with_reducible refine Kd.C_drew ?_))) : p := h
theorem zq1' {p : Prop} (h : p := by repeat (first | exact (Kd.R_reads' HO340.out).2.2 | (with_reducible refine Kd.C_alloc ?_ _) | (with_reducible refine Kd.C_drewN ?_ _) | (with_reducible refine Kd.C_drew ?_))) : p := h
theorem zr1' {p : Prop} (h : p := by repeat (first | (with_reducible first | exact HB.out | apply ba | apply bn | apply below_drew1 | refine below_set ?_ GE110.out) | exact HB.out)) : p := h
theorem zs1' {p : Prop} (h : p := by repeat (first | (with_reducible first | exact HB.out | apply ba | apply bn | apply below_drew1 | refine below_set ?_ GE168.out) | exact HB.out)) : p := h
theorem zt1' {p : Prop} (h : p := by repeat (first | (with_reducible first | exact HB.out | apply ba | apply bn | apply below_drew1 | refine below_set ?_ GE186.out) | exact HB.out)) : p := h
theorem zu1' {p : Prop} (h : p := by repeat (first | (with_reducible first | exact HB.out | apply ba | apply bn | apply below_drew1 | refine below_set ?_ GE203.out) | exact HB.out)) : p := h
theorem zv1' {p : Prop} (h : p := by repeat (first | (with_reducible first | exact HB.out | apply ba | apply bn | apply below_drew1 | refine below_set ?_ GE224.out) | exact HB.out)) : p := h
theorem zw1' {p : Prop} (h : p := by (with_reducible repeat (first | apply Kd.R_alloc | apply Kd.R_drewN | apply Kd.R_drew)); exact Kd.R_mono HO_10.out (fun _ hk => trivial)) : p := h
theorem zx1' {p : Prop} (h : p := by exact (Reps.one (show Kd.M (Kd.int .i64) _ _ _ a0_0 [.int .i64 a0_0] from rfl) (Reps.one (show Kd.M (Kd.int .i64) _ _ _ a0_1 [.int .i64 a0_1] from rfl) (Reps.one (show Kd.M (Kd.int .i64) _ _ _ a0_2 [.int .i64 a0_2] from rfl) (Reps.one (show Kd.M (Kd.int .i64) _ _ _ a0_3 [.int .i64 a0_3] from rfl) (Reps.none _ _)))))) : p := h
theorem zy1' {p : Prop} (h : p := by (with_reducible repeat (first | apply kn | apply kd | apply ka)); exact BK119.out) : p := h
theorem zz1' {p : Prop} (h : p := by exact (fun k_ hk => Kd.fresh' (Kd.R_lt (by (with_reducible repeat (first | apply Kd.R_alloc | apply Kd.R_drewN | apply Kd.R_drew)); exact HO135.out)) k_ hk)) : p := h
theorem za2' {p : Prop} (h : p := by exact (fun k_ hk => Kd.fresh' (Kd.R_lt (by (with_reducible repeat (first | apply Kd.R_alloc | apply Kd.R_drewN | apply Kd.R_drew)); exact HO143.out)) k_ hk)) : p := h
theorem zb2' {p : Prop} (h : p := by (with_reducible repeat (first | apply Kd.R_alloc | apply Kd.R_drewN | apply Kd.R_drew)); exact HO_252.out) : p := h
theorem zc2' {p : Prop} (h : p := by (with_reducible repeat (first | apply Kd.R_alloc | apply Kd.R_drewN | apply Kd.R_drew)); exact Kd.R_mono HO135.out (fun _ hk => ⟨trivial, hk⟩)) : p := h
theorem zd2' {p : Prop} (h : p := by (with_reducible repeat (first | apply Kd.R_alloc | apply Kd.R_drewN | apply Kd.R_drew)); exact Kd.R_mono HO143.out (fun _ hk => ⟨trivial, hk⟩)) : p := h
theorem ze2' {p : Prop} (h : p := by repeat (first | (with_reducible first | exact HB.out | apply ba | apply bn | apply below_drew1 | refine below_set ?_ GE116.out) | exact HB.out)) : p := h
theorem zf2' {p : Prop} (h : p := by repeat (first | (with_reducible first | exact HB.out | apply ba | apply bn | apply below_drew1 | refine below_set ?_ GE121.out) | exact HB.out)) : p := h
theorem zg2' {p : Prop} (h : p := by repeat (first | (with_reducible first | exact HB.out | apply ba | apply bn | apply below_drew1 | refine below_set ?_ GE125.out) | exact HB.out)) : p := h
theorem zh2' {p : Prop} (h : p := by (with_reducible repeat (first | apply kn | apply kd | apply ka)); exact BK203.out) : p := h
theorem zi2' {p : Prop} (h : p := by exact (fun k_ hk => Kd.fresh' (Kd.R_lt zl') k_ hk)) : p := h
theorem zj2' {p : Prop} (h : p := by have := HJ13.out; have := HJ86.out; have := HJ174.out; have := HK4.out; omega) : p := h
theorem zk2' {p : Prop} (h : p := by have := HJ13.out; first | omega | exact Nat.le_refl _) : p := h
theorem zl2' {p : Prop} (h : p := by exact (below_size zg')) : p := h
theorem zm2' {p : Prop} (h : p := by simpa using blk_new (w.alloc (.cells #[.int .i64 0, .int .i64 0, .int .i64 0, .int .i64 0] 25)) (.cells #[.slice A0 l0.length c0, .int .i64 0, .int .u64 0] 62)) : p := h
theorem zn2' {p : Prop} (h : p := by (with_reducible repeat (first | apply kn | apply kd | apply ka)); exact BK110.out) : p := h
theorem zo2' {p : Prop} (h : p := by (with_reducible repeat (first | apply kn | apply kd | apply ka)); exact BK116.out) : p := h
theorem zp2' {p : Prop} (h : p := by (with_reducible repeat (first | apply kn | apply kd | apply ka)); exact BK121.out) : p := h
theorem zq2' {p : Prop} (h : p := by (with_reducible repeat (first | apply kn | apply kd | apply ka)); exact BK125.out) : p := h
theorem zr2' {p : Prop} (h : p := by (with_reducible repeat (first | apply kn | apply kd | apply ka)); exact BK147.out) : p := h
theorem zs2' {p : Prop} (h : p := by (with_reducible repeat (first | apply kn | apply kd | apply ka)); exact BK168.out) : p := h
theorem zt2' {p : Prop} (h : p := by (with_reducible repeat (first | apply kn | apply kd | apply ka)); exact BK186.out) : p := h
theorem zu2' {p : Prop} (h : p := by (with_reducible repeat (first | apply kn | apply kd | apply ka)); exact BK194.out) : p := h
theorem zv2' {p : Prop} (h : p := by (with_reducible repeat (first | apply kn | apply kd | apply ka)); exact BK215.out) : p := h
theorem zw2' {p : Prop} (h : p := by (with_reducible repeat (first | apply kn | apply kd | apply ka)); exact BK224.out) : p := h
theorem zx2' {p : Prop} (h : p := by repeat (first | (with_reducible first | exact HB.out | apply ba | apply bn | apply below_drew1 | refine below_set ?_ GE103.out) | exact HB.out)) : p := h
theorem zy2' {p : Prop} (h : p := by first | exact Kd.R_nil _ _ _ _ _ | exact Kd.N_nil _ _ _ _ _ | exact Kd.V_nil _ _ _ _ _ | exact Kd.Q_nil _ _ _ _ _ | exact Kd.S_nil _ _ _ _ _) : p := h
end ShortPFnCycles0
open ShortPFnCycles0



def errW : Option Int → Value
 | none => .nilIface
 | some c => .iface 0 (.int .i64 c)
theorem errW_none : errW none = .nilIface := rfl
theorem errW_some (c : Int) : errW (some c) = .iface 0 (.int .i64 c) := rfl

theorem info3 : (Try.prog.info? 3).map (fun i => (i.zero, i.size, i.bytes)) = some (some (.int .i64 0), 1, 8) := by kernel_rfl
-- the values' own types
/-! #### struct type 25 -/
structure S25 where
 f0 : Int
 f1 : Int
 f2 : Int
 f3 : Int
end Go.Proofs.Ytociipogjmidiaa.PFnCycles
