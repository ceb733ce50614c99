/- Text written by a program for this claim: contracts of the functions of one law. -/
import Derived.Test.YtikbfnbfbpnmjaaPFnExactCountStatesx0
import Derived.Test.YtikbfnbfbpnmjaaPFnExactCountStatesx9
import Derived.Test.YtikbfnbfbpnmjaaPFnExactCountStatesx10
namespace Go.Proofs.Ytikbfnbfbpnmjaa.PFnExactCountStates
open Go.RowKit Go.Proofs.YtikbfnbfbpnmjaaW.PrintWords Go.Proofs.YtikbfnbfbpnmjaaW.PrintLast Go.Proofs.YtikbfnbfbpnmjaaW.PrintMore
attribute [local go_sem] max2_int min2_int max_two min_two max_three min_three max_four min_four   -- for this text's walks alone
set_option linter.unusedVariables false
set_option linter.unusedSimpArgs false
open ShortPFnExactCountStates0

/-! ### impl_IsYard: function 28 -/
mutual
def impl_IsYard.j0 : Nat → Bool → List Int → List Int → List Int → Int → Int → List (S80) → List (List Int) → List Int → Int → Int → Int → Option (Bool)
 | 0, _, _, _, _, _, _, _, _, _, _, _, _ => none
 | k + 1, x65, x271000, x271001, x271002, x271003, x271004, x271005, x271006, x271007, x271008, x271009, x271010 => if x65 = true then (some false) else (if 0 ≤ (x271006.length : Int) then (if ((x271006.length : Int) : Int).toNat ≤ 35184372088832 then (impl_IsYard.l0 k (List.replicate ((x271006.length : Int) : Int).toNat 0) 0 x271005 (x271005.length : Int) 0 x271000 x271001 x271002 x271003 x271004 x271005 x271006 x271007 x271008 x271009 x271010) else (none)) else (none))
def impl_IsYard.l0 : Nat → List Int → Int → List (S80) → Int → Int → List Int → List Int → List Int → Int → Int → List (S80) → List (List Int) → List Int → Int → Int → Int → Option (Bool)
 | 0, _, _, _, _, _, _, _, _, _, _, _, _, _, _, _, _ => none
 | k + 1, x3, x4, x71, x72, x73, x271000, x271001, x271002, x271003, x271004, x271005, x271006, x271007, x271008, x271009, x271010 => if x73 < x72 then (if 0 ≤ x73 then (if x73 < (x71.length : Int) then (if ((rd_T80 x71 x73).f0) < 0 then (impl_IsYard.j2 k x3 x4 x71 x72 x73 true x271000 x271001 x271002 x271003 x271004 x271005 x271006 x271007 x271008 x271009 x271010 ((rd_T80 x71 x73).f0) ((rd_T80 x71 x73).f1) ((rd_T80 x71 x73).f2)) else (if ((rd_T80 x71 x73).f0) > 5 then (impl_IsYard.j2 k x3 x4 x71 x72 x73 true x271000 x271001 x271002 x271003 x271004 x271005 x271006 x271007 x271008 x271009 x271010 ((rd_T80 x71 x73).f0) ((rd_T80 x71 x73).f1) ((rd_T80 x71 x73).f2)) else (if ((rd_T80 x71 x73).f1) < 0 then (impl_IsYard.j2 k x3 x4 x71 x72 x73 true x271000 x271001 x271002 x271003 x271004 x271005 x271006 x271007 x271008 x271009 x271010 ((rd_T80 x71 x73).f0) ((rd_T80 x71 x73).f1) ((rd_T80 x71 x73).f2)) else (impl_IsYard.j2 k x3 x4 x71 x72 x73 (decide (((rd_T80 x71 x73).f1) ≥ (x271006.length : Int))) x271000 x271001 x271002 x271003 x271004 x271005 x271006 x271007 x271008 x271009 x271010 ((rd_T80 x71 x73).f0) ((rd_T80 x71 x73).f1) ((rd_T80 x71 x73).f2))))) else (none)) else (none)) else ((slices_Max_int_int.f k x3).bind fun t275 => (if t275 ≤ 1 then (if x4 ≤ 1 then ((impl_goodLines.f k x271000 x271001 x271002 x271003 x271004 x271005 x271006 x271007 x271008 x271009 x271010).bind fun t276 => (some t276)) else (some false)) else (some false)))
def impl_IsYard.j2 : Nat → List Int → Int → List (S80) → Int → Int → Bool → List Int → List Int → List Int → Int → Int → List (S80) → List (List Int) → List Int → Int → Int → Int → Int → Int → Int → Option (Bool)
 | 0, _, _, _, _, _, _, _, _, _, _, _, _, _, _, _, _, _, _, _, _ => none
 | k + 1, x3, x4, x71, x72, x73, x97, x271000, x271001, x271002, x271003, x271004, x271005, x271006, x271007, x271008, x271009, x271010, x279000, x279001, x279002 => if x97 = true then (some false) else ((impl_stateTime.f x271000 x271001 x271002 x271003 x271004 x279000 x279001 x279002).bind fun t279 => (if x279002 < (mn 1 t279) then (impl_IsYard.j3 k x3 x4 x71 x72 x73 true x271000 x271001 x271002 x271003 x271004 x271005 x271006 x271007 x271008 x271009 x271010 x279000 x279001 x279002) else (impl_IsYard.j3 k x3 x4 x71 x72 x73 (decide (x279002 > t279)) x271000 x271001 x271002 x271003 x271004 x271005 x271006 x271007 x271008 x271009 x271010 x279000 x279001 x279002)))
def impl_IsYard.j3 : Nat → List Int → Int → List (S80) → Int → Int → Bool → List Int → List Int → List Int → Int → Int → List (S80) → List (List Int) → List Int → Int → Int → Int → Int → Int → Int → Option (Bool)
 | 0, _, _, _, _, _, _, _, _, _, _, _, _, _, _, _, _, _, _, _, _ => none
 | k + 1, x3, x4, x71, x72, x73, x112, x271000, x271001, x271002, x271003, x271004, x271005, x271006, x271007, x271008, x271009, x271010, x279000, x279001, x279002 => if x112 = true then (some false) else (if x279000 = 1 then (if 0 ≤ x279001 then (if x279001 < (x3.length : Int) then ((some (x3.set (x279001 : Int).toNat (wrap64 ((rd x3 x279001) + 1)) : List Int)).bind fun y281 => (if x279000 = 4 then (impl_IsYard.l0 k y281 (wrap64 (x4 + 1)) x71 x72 (wrap64 (x73 + 1)) x271000 x271001 x271002 x271003 x271004 x271005 x271006 x271007 x271008 x271009 x271010) else (impl_IsYard.l0 k y281 x4 x71 x72 (wrap64 (x73 + 1)) x271000 x271001 x271002 x271003 x271004 x271005 x271006 x271007 x271008 x271009 x271010))) else (none)) else (none)) else (if x279000 = 4 then (impl_IsYard.l0 k x3 (wrap64 (x4 + 1)) x71 x72 (wrap64 (x73 + 1)) x271000 x271001 x271002 x271003 x271004 x271005 x271006 x271007 x271008 x271009 x271010) else (impl_IsYard.l0 k x3 x4 x71 x72 (wrap64 (x73 + 1)) x271000 x271001 x271002 x271003 x271004 x271005 x271006 x271007 x271008 x271009 x271010)))
end
def impl_IsYard.f (k : Nat) (l0_0 : List Int) (l0_1 : List Int) (l0_2 : List Int) (a0_3 : Int) (a0_4 : Int) (l0_5 : List (S80)) (l0_6 : List (List Int)) (l0_7 : List Int) (a0_8 : Int) (a0_9 : Int) (a0_10 : Int) : Option (Bool) := (impl_IsFleet.f k l0_0 l0_1 l0_2 a0_3 a0_4).bind fun t271 => (if t271 = true then (if (l0_5.length : Int) < 1 then (impl_IsYard.j0 k true l0_0 l0_1 l0_2 a0_3 a0_4 l0_5 l0_6 l0_7 a0_8 a0_9 a0_10) else (if (l0_5.length : Int) > 8 then (impl_IsYard.j0 k true l0_0 l0_1 l0_2 a0_3 a0_4 l0_5 l0_6 l0_7 a0_8 a0_9 a0_10) else (if (l0_6.length : Int) = (l0_0.length : Int) then (if a0_8 < 0 then (impl_IsYard.j0 k true l0_0 l0_1 l0_2 a0_3 a0_4 l0_5 l0_6 l0_7 a0_8 a0_9 a0_10) else (if a0_8 > 100000 then (impl_IsYard.j0 k true l0_0 l0_1 l0_2 a0_3 a0_4 l0_5 l0_6 l0_7 a0_8 a0_9 a0_10) else (if a0_9 < 0 then (impl_IsYard.j0 k true l0_0 l0_1 l0_2 a0_3 a0_4 l0_5 l0_6 l0_7 a0_8 a0_9 a0_10) else (if a0_9 > 100000 then (impl_IsYard.j0 k true l0_0 l0_1 l0_2 a0_3 a0_4 l0_5 l0_6 l0_7 a0_8 a0_9 a0_10) else (if a0_10 < 0 then (impl_IsYard.j0 k true l0_0 l0_1 l0_2 a0_3 a0_4 l0_5 l0_6 l0_7 a0_8 a0_9 a0_10) else (impl_IsYard.j0 k (decide (a0_10 > a0_8)) l0_0 l0_1 l0_2 a0_3 a0_4 l0_5 l0_6 l0_7 a0_8 a0_9 a0_10)))))) else (impl_IsYard.j0 k true l0_0 l0_1 l0_2 a0_3 a0_4 l0_5 l0_6 l0_7 a0_8 a0_9 a0_10)))) else (impl_IsYard.j0 k true l0_0 l0_1 l0_2 a0_3 a0_4 l0_5 l0_6 l0_7 a0_8 a0_9 a0_10))
set_option maxHeartbeats 8000000 in
set_option maxRecDepth 100000 in
theorem impl_IsYard.calls (k : Nat) (A0_0 : Option Addr) (c0_0 : Nat) (l0_0 : List Int) (A0_1 : Option Addr) (c0_1 : Nat) (l0_1 : List Int) (A0_2 : Option Addr) (c0_2 : Nat) (l0_2 : List Int) (a0_3 : Int) (a0_4 : Int) (A0_5 : Option Addr) (c0_5 : Nat) (l0_5 : List (S80)) (A0_6 : Option Addr) (c0_6 : Nat) (l0_6 : List (List Int)) (A0_7 : Option Addr) (c0_7 : Nat) (l0_7 : List Int) (a0_8 : Int) (a0_9 : Int) (a0_10 : Int) (r : Bool) (w : World) (hr0_0 : Kd.C (Kd.int .i64) w A0_0 l0_0.length l0_0) (hc0_0 : l0_0.length ≤ c0_0) (hr0_1 : Kd.C (Kd.int .i64) w A0_1 l0_1.length l0_1) (hc0_1 : l0_1.length ≤ c0_1) (hr0_2 : Kd.C (Kd.int .i64) w A0_2 l0_2.length l0_2) (hc0_2 : l0_2.length ≤ c0_2) (hr0_5 : Kd.C k80 w A0_5 l0_5.length l0_5) (hc0_5 : l0_5.length ≤ c0_5) (hr0_6 : Kd.C (Kd.slice 3 (Kd.int .i64)) w A0_6 l0_6.length l0_6) (hc0_6 : l0_6.length ≤ c0_6) (hr0_7 : Kd.C (Kd.int .i64) w A0_7 l0_7.length l0_7) (hc0_7 : l0_7.length ≤ c0_7) (h : impl_IsYard.f k l0_0 l0_1 l0_2 a0_3 a0_4 l0_5 l0_6 l0_7 a0_8 a0_9 a0_10 = some r) :
  Calls Try.prog 28 #[.agg #[.slice A0_0 l0_0.length c0_0, .slice A0_1 l0_1.length c0_1, .slice A0_2 l0_2.length c0_2, .int .i64 a0_3, .int .i64 a0_4, .slice A0_5 l0_5.length c0_5, .slice A0_6 l0_6.length c0_6, .slice A0_7 l0_7.length c0_7, .int .i64 a0_8, .int .i64 a0_9, .int .i64 a0_10]] w fun e w' => e = .returned (.bool r) ∧ Below w.heap.size w w' := by
 have hu44 := Try.underlying44
 have hu27 := Try.underlying27
 have hu80 := Try.underlying80
 have HR0_0 := Aside0.mk hr0_0
 have HC0_0 := Aside0.mk hc0_0
 clear hr0_0 hc0_0
 have HR0_1 := Aside0.mk hr0_1
 have HC0_1 := Aside0.mk hc0_1
 clear hr0_1 hc0_1
 have HR0_2 := Aside0.mk hr0_2
 have HC0_2 := Aside0.mk hc0_2
 clear hr0_2 hc0_2
 have HR0_5 := Aside0.mk hr0_5
 have HC0_5 := Aside0.mk hc0_5
 clear hr0_5 hc0_5
 have HR0_6 := Aside0.mk hr0_6
 have HC0_6 := Aside0.mk hc0_6
 clear hr0_6 hc0_6
 have HR0_7 := Aside0.mk hr0_7
 have HC0_7 := Aside0.mk hc0_7
 clear hr0_7 hc0_7
 have HB := am (Below.refl w.heap.size w)
 have H : ((impl_IsFleet.f k l0_0 l0_1 l0_2 a0_3 a0_4).bind fun t271 => (if t271 = true then (if (l0_5.length : Int) < 1 then (impl_IsYard.j0 k true l0_0 l0_1 l0_2 a0_3 a0_4 l0_5 l0_6 l0_7 a0_8 a0_9 a0_10) else (if (l0_5.length : Int) > 8 then (impl_IsYard.j0 k true l0_0 l0_1 l0_2 a0_3 a0_4 l0_5 l0_6 l0_7 a0_8 a0_9 a0_10) else (if (l0_6.length : Int) = (l0_0.length : Int) then (if a0_8 < 0 then (impl_IsYard.j0 k true l0_0 l0_1 l0_2 a0_3 a0_4 l0_5 l0_6 l0_7 a0_8 a0_9 a0_10) else (if a0_8 > 100000 then (impl_IsYard.j0 k true l0_0 l0_1 l0_2 a0_3 a0_4 l0_5 l0_6 l0_7 a0_8 a0_9 a0_10) else (if a0_9 < 0 then (impl_IsYard.j0 k true l0_0 l0_1 l0_2 a0_3 a0_4 l0_5 l0_6 l0_7 a0_8 a0_9 a0_10) else (if a0_9 > 100000 then (impl_IsYard.j0 k true l0_0 l0_1 l0_2 a0_3 a0_4 l0_5 l0_6 l0_7 a0_8 a0_9 a0_10) else (if a0_10 < 0 then (impl_IsYard.j0 k true l0_0 l0_1 l0_2 a0_3 a0_4 l0_5 l0_6 l0_7 a0_8 a0_9 a0_10) else (impl_IsYard.j0 k (decide (a0_10 > a0_8)) l0_0 l0_1 l0_2 a0_3 a0_4 l0_5 l0_6 l0_7 a0_8 a0_9 a0_10)))))) else (impl_IsYard.j0 k true l0_0 l0_1 l0_2 a0_3 a0_4 l0_5 l0_6 l0_7 a0_8 a0_9 a0_10)))) else (impl_IsYard.j0 k true l0_0 l0_1 l0_2 a0_3 a0_4 l0_5 l0_6 l0_7 a0_8 a0_9 a0_10))) = some r := h
 clear h
 have HC2 := Aside0.mk H
 clear H
 go_enter Try.func28, Try.ntmps28
 go_upto_region 1 with (first | ((with_reducible refine gate_dst (N := 1) rfl ?_); (try (refine gate_guard (by rfl) ?_; dsimp only)); refine box_event ?hg (N := 1) ?hd (cs := #[.slice A0_0 l0_0.length c0_0, .slice A0_1 l0_1.length c0_1, .slice A0_2 l0_2.length c0_2, .int .i64 a0_3, .int .i64 a0_4, .slice A0_5 l0_5.length c0_5, .slice A0_6 l0_6.length c0_6, .slice A0_7 l0_7.length c0_7, .int .i64 a0_8, .int .i64 a0_9, .int .i64 a0_10]) (t := 44) ?hr ?_; (case hd => rfl); (case hg => rfl); (case hr => exact zl'); intro gb270 hg w3 hbox hb; have n0_ := am (below_step za' hb); have n1_ := am (hbox); have n2_ := am ((by rw [hg]; exact (below_size za') : w.heap.size ≤ gb270)); have n3_ := am ((by rw [hg]; exact (below_size za') : w.heap.size ≤ gb270)); clear HB; have HB := n0_; have BK270 := n1_; have GW270 := n2_; have GE270 := n3_; clear n0_ n1_ n2_ n3_; clear hb hbox hg))
 (try simp only [Act.put, s1, s2, s3])
 go_cut [65] (fun v65 wc => ∃ (kq : Nat) (x65_1 : Bool), v65 = .bool x65_1 ∧ Aside0 (impl_IsYard.j0 kq x65_1 l0_0 l0_1 l0_2 a0_3 a0_4 l0_5 l0_6 l0_7 a0_8 a0_9 a0_10 = some r) ∧ Aside0 (kq ≤ k) ∧ Aside0 (wc.heap[gb270]? = some (.cells #[(.slice A0_0 l0_0.length c0_0), (.slice A0_1 l0_1.length c0_1), (.slice A0_2 l0_2.length c0_2), .int .i64 a0_3, .int .i64 a0_4, (.slice A0_5 l0_5.length c0_5), (.slice A0_6 l0_6.length c0_6), (.slice A0_7 l0_7.length c0_7), .int .i64 a0_8, .int .i64 a0_9, .int .i64 a0_10] 44 (0, 0))) ∧ Aside0 (Below w.heap.size w wc))
 case first =>
  have H := HC2.out
  clear HC2
  replace H := Option.bind_eq_some_iff.mp H
  obtain ⟨t271, A40, H⟩ := H
  replace H : (if t271 = true then (if (l0_5.length : Int) < 1 then (impl_IsYard.j0 k true l0_0 l0_1 l0_2 a0_3 a0_4 l0_5 l0_6 l0_7 a0_8 a0_9 a0_10) else (if (l0_5.length : Int) > 8 then (impl_IsYard.j0 k true l0_0 l0_1 l0_2 a0_3 a0_4 l0_5 l0_6 l0_7 a0_8 a0_9 a0_10) else (if (l0_6.length : Int) = (l0_0.length : Int) then (if a0_8 < 0 then (impl_IsYard.j0 k true l0_0 l0_1 l0_2 a0_3 a0_4 l0_5 l0_6 l0_7 a0_8 a0_9 a0_10) else (if a0_8 > 100000 then (impl_IsYard.j0 k true l0_0 l0_1 l0_2 a0_3 a0_4 l0_5 l0_6 l0_7 a0_8 a0_9 a0_10) else (if a0_9 < 0 then (impl_IsYard.j0 k true l0_0 l0_1 l0_2 a0_3 a0_4 l0_5 l0_6 l0_7 a0_8 a0_9 a0_10) else (if a0_9 > 100000 then (impl_IsYard.j0 k true l0_0 l0_1 l0_2 a0_3 a0_4 l0_5 l0_6 l0_7 a0_8 a0_9 a0_10) else (if a0_10 < 0 then (impl_IsYard.j0 k true l0_0 l0_1 l0_2 a0_3 a0_4 l0_5 l0_6 l0_7 a0_8 a0_9 a0_10) else (impl_IsYard.j0 k (decide (a0_10 > a0_8)) l0_0 l0_1 l0_2 a0_3 a0_4 l0_5 l0_6 l0_7 a0_8 a0_9 a0_10)))))) else (impl_IsYard.j0 k true l0_0 l0_1 l0_2 a0_3 a0_4 l0_5 l0_6 l0_7 a0_8 a0_9 a0_10)))) else (impl_IsYard.j0 k true l0_0 l0_1 l0_2 a0_3 a0_4 l0_5 l0_6 l0_7 a0_8 a0_9 a0_10)) = some r := H
  have A4 := Aside0.mk A40
  clear A40
  by_cases c5 : t271 = true
  ·subst c5
   have H1 : (if (l0_5.length : Int) < 1 then (impl_IsYard.j0 k true l0_0 l0_1 l0_2 a0_3 a0_4 l0_5 l0_6 l0_7 a0_8 a0_9 a0_10) else (if (l0_5.length : Int) > 8 then (impl_IsYard.j0 k true l0_0 l0_1 l0_2 a0_3 a0_4 l0_5 l0_6 l0_7 a0_8 a0_9 a0_10) else (if (l0_6.length : Int) = (l0_0.length : Int) then (if a0_8 < 0 then (impl_IsYard.j0 k true l0_0 l0_1 l0_2 a0_3 a0_4 l0_5 l0_6 l0_7 a0_8 a0_9 a0_10) else (if a0_8 > 100000 then (impl_IsYard.j0 k true l0_0 l0_1 l0_2 a0_3 a0_4 l0_5 l0_6 l0_7 a0_8 a0_9 a0_10) else (if a0_9 < 0 then (impl_IsYard.j0 k true l0_0 l0_1 l0_2 a0_3 a0_4 l0_5 l0_6 l0_7 a0_8 a0_9 a0_10) else (if a0_9 > 100000 then (impl_IsYard.j0 k true l0_0 l0_1 l0_2 a0_3 a0_4 l0_5 l0_6 l0_7 a0_8 a0_9 a0_10) else (if a0_10 < 0 then (impl_IsYard.j0 k true l0_0 l0_1 l0_2 a0_3 a0_4 l0_5 l0_6 l0_7 a0_8 a0_9 a0_10) else (impl_IsYard.j0 k (decide (a0_10 > a0_8)) l0_0 l0_1 l0_2 a0_3 a0_4 l0_5 l0_6 l0_7 a0_8 a0_9 a0_10)))))) else (impl_IsYard.j0 k true l0_0 l0_1 l0_2 a0_3 a0_4 l0_5 l0_6 l0_7 a0_8 a0_9 a0_10)))) = some r := by rw [if_pos rfl] at H; exact H
   clear H; have H := H1; clear H1
   by_cases c6 : (l0_5.length : Int) < 1
   ·rw [if_pos c6] at H
    have c6b0 : decide ((l0_5.length : Int) < 1) = true := decide_eq_true c6; have c6b1 : decide (l0_5.length < 1) = true := decide_eq_true (by omega); clear c6
    (first | rw [c6b0] | (simp only [i64_w, i32_w]; rw [c6b0]) | skip)
    have H' := Aside0.mk H; clear H; have hcz7_0 : w3.cell? ⟨gb270, 0, none⟩ = some (.slice A0_0 l0_0.length c0_0) := (blk_cell BK270.out 0).trans rfl; have hcz7_1 : w3.cell? ⟨gb270, 1, none⟩ = some (.slice A0_1 l0_1.length c0_1) := (blk_cell BK270.out 1).trans rfl; have hcz7_2 : w3.cell? ⟨gb270, 2, none⟩ = some (.slice A0_2 l0_2.length c0_2) := (blk_cell BK270.out 2).trans rfl; have hcz7_3 : w3.cell? ⟨gb270, 3, none⟩ = some (.int .i64 a0_3) := (blk_cell BK270.out 3).trans rfl; have hcz7_4 : w3.cell? ⟨gb270, 4, none⟩ = some (.int .i64 a0_4) := (blk_cell BK270.out 4).trans rfl; have hcz7_5 : w3.cell? ⟨gb270, 5, none⟩ = some (.slice A0_5 l0_5.length c0_5) := (blk_cell BK270.out 5).trans rfl; have hcz7_6 : w3.cell? ⟨gb270, 6, none⟩ = some (.slice A0_6 l0_6.length c0_6) := (blk_cell BK270.out 6).trans rfl; have hcz7_7 : w3.cell? ⟨gb270, 7, none⟩ = some (.slice A0_7 l0_7.length c0_7) := (blk_cell BK270.out 7).trans rfl; have hcz7_8 : w3.cell? ⟨gb270, 8, none⟩ = some (.int .i64 a0_8) := (blk_cell BK270.out 8).trans rfl; have hcz7_9 : w3.cell? ⟨gb270, 9, none⟩ = some (.int .i64 a0_9) := (blk_cell BK270.out 9).trans rfl; have hcz7_10 : w3.cell? ⟨gb270, 10, none⟩ = some (.int .i64 a0_10) := (blk_cell BK270.out 10).trans rfl; have hfz7_0 := blk_frozen BK270.out 0; have hfz7_1 := blk_frozen BK270.out 1; have hfz7_2 := blk_frozen BK270.out 2; have hfz7_3 := blk_frozen BK270.out 3; have hfz7_4 := blk_frozen BK270.out 4; have hfz7_5 := blk_frozen BK270.out 5; have hfz7_6 := blk_frozen BK270.out 6
    have hfz7_7 := blk_frozen BK270.out 7; have hfz7_8 := blk_frozen BK270.out 8; have hfz7_9 := blk_frozen BK270.out 9; have hfz7_10 := blk_frozen BK270.out 10
    go_wp2_with (first | ((with_reducible refine gate_callee (f := 19) rfl ?_); refine goesL_ (some 10) rfl rfl Try.func19 (by kernel_rfl) rfl #[.agg #[.slice A0_0 l0_0.length c0_0, .slice A0_1 l0_1.length c0_1, .slice A0_2 l0_2.length c0_2, .int .i64 a0_3, .int .i64 a0_4]] rfl zb' ?_; (with_reducible refine (impl_IsFleet.calls k (fun k_ => k_ < w.heap.size) _ _ l0_0 (fun k_ => k_ < w.heap.size) _ _ l0_1 (fun k_ => k_ < w.heap.size) _ _ l0_2 a0_3 a0_4 true _ ?side1 ?side2 ?side3 A4.out).mono ?_); (case side1 => exact zl2'); (case side2 => exact zm2'); (case side3 => exact zn2'); rintro e w8 ⟨rfl, hb⟩; refine ⟨_, rfl, ?_⟩; have n0_ := am (blk_below (g := gb270) (o := o0') zr' hb); have n1_ := am (below_step zd' hb); clear BK270; clear HB; have BK270 := n0_; have HB := n1_; clear n0_ n1_; (try clear hb); (try clear hb2); (try clear hk); (try clear hi); have hcz9_0 : w8.cell? ⟨gb270, 0, none⟩ = some (.slice A0_0 l0_0.length c0_0) := (blk_cell BK270.out 0).trans rfl; have hcz9_1 : w8.cell? ⟨gb270, 1, none⟩ = some (.slice A0_1 l0_1.length c0_1) := (blk_cell BK270.out 1).trans rfl; have hcz9_2 : w8.cell? ⟨gb270, 2, none⟩ = some (.slice A0_2 l0_2.length c0_2) := (blk_cell BK270.out 2).trans rfl; have hcz9_3 : w8.cell? ⟨gb270, 3, none⟩ = some (.int .i64 a0_3) := (blk_cell BK270.out 3).trans rfl; have hcz9_4 : w8.cell? ⟨gb270, 4, none⟩ = some (.int .i64 a0_4) := (blk_cell BK270.out 4).trans rfl; have hcz9_5 : w8.cell? ⟨gb270, 5, none⟩ = some (.slice A0_5 l0_5.length c0_5) := (blk_cell BK270.out 5).trans rfl; have hcz9_6 : w8.cell? ⟨gb270, 6, none⟩ = some (.slice A0_6 l0_6.length c0_6) := (blk_cell BK270.out 6).trans rfl; have hcz9_7 : w8.cell? ⟨gb270, 7, none⟩ = some (.slice A0_7 l0_7.length c0_7) := (blk_cell BK270.out 7).trans rfl; have hcz9_8 : w8.cell? ⟨gb270, 8, none⟩ = some (.int .i64 a0_8) := (blk_cell BK270.out 8).trans rfl; have hcz9_9 : w8.cell? ⟨gb270, 9, none⟩ = some (.int .i64 a0_9) := (blk_cell BK270.out 9).trans rfl; have hcz9_10 : w8.cell? ⟨gb270, 10, none⟩ = some (.int .i64 a0_10) := (blk_cell BK270.out 10).trans rfl; have hfz9_0 := blk_frozen BK270.out 0; have hfz9_1 := blk_frozen BK270.out 1; have hfz9_2 := blk_frozen BK270.out 2; have hfz9_3 := blk_frozen BK270.out 3; have hfz9_4 := blk_frozen BK270.out 4; have hfz9_5 := blk_frozen BK270.out 5; have hfz9_6 := blk_frozen BK270.out 6; have hfz9_7 := blk_frozen BK270.out 7; have hfz9_8 := blk_frozen BK270.out 8; have hfz9_9 := blk_frozen BK270.out 9; have hfz9_10 := blk_frozen BK270.out 10))
    go_meet
    case rel => exact ⟨_, (true), zj', H', ⟨zt2'⟩, ⟨zr'⟩, ⟨zd'⟩⟩
   ·rw [if_neg c6] at H
    have c6b0 : decide ((l0_5.length : Int) < 1) = false := decide_eq_false c6; have c6b1 : decide (l0_5.length < 1) = false := decide_eq_false (by omega); clear c6
    (first | rw [c6b0] | (simp only [i64_w, i32_w]; rw [c6b0]) | skip)
    by_cases c10 : (l0_5.length : Int) > 8
    ·rw [if_pos c10] at H
     have c10b0 : decide (8 < (l0_5.length : Int)) = true := decide_eq_true c10; have c10b1 : decide (8 < l0_5.length) = true := decide_eq_true (by omega); clear c10; have H' := Aside0.mk H; clear H; have hcz11_0 : w3.cell? ⟨gb270, 0, none⟩ = some (.slice A0_0 l0_0.length c0_0) := (blk_cell BK270.out 0).trans rfl; have hcz11_1 : w3.cell? ⟨gb270, 1, none⟩ = some (.slice A0_1 l0_1.length c0_1) := (blk_cell BK270.out 1).trans rfl; have hcz11_2 : w3.cell? ⟨gb270, 2, none⟩ = some (.slice A0_2 l0_2.length c0_2) := (blk_cell BK270.out 2).trans rfl; have hcz11_3 : w3.cell? ⟨gb270, 3, none⟩ = some (.int .i64 a0_3) := (blk_cell BK270.out 3).trans rfl; have hcz11_4 : w3.cell? ⟨gb270, 4, none⟩ = some (.int .i64 a0_4) := (blk_cell BK270.out 4).trans rfl; have hcz11_5 : w3.cell? ⟨gb270, 5, none⟩ = some (.slice A0_5 l0_5.length c0_5) := (blk_cell BK270.out 5).trans rfl; have hcz11_6 : w3.cell? ⟨gb270, 6, none⟩ = some (.slice A0_6 l0_6.length c0_6) := (blk_cell BK270.out 6).trans rfl; have hcz11_7 : w3.cell? ⟨gb270, 7, none⟩ = some (.slice A0_7 l0_7.length c0_7) := (blk_cell BK270.out 7).trans rfl; have hcz11_8 : w3.cell? ⟨gb270, 8, none⟩ = some (.int .i64 a0_8) := (blk_cell BK270.out 8).trans rfl; have hcz11_9 : w3.cell? ⟨gb270, 9, none⟩ = some (.int .i64 a0_9) := (blk_cell BK270.out 9).trans rfl; have hcz11_10 : w3.cell? ⟨gb270, 10, none⟩ = some (.int .i64 a0_10) := (blk_cell BK270.out 10).trans rfl; have hfz11_0 := blk_frozen BK270.out 0; have hfz11_1 := blk_frozen BK270.out 1; have hfz11_2 := blk_frozen BK270.out 2
     have hfz11_3 := blk_frozen BK270.out 3; have hfz11_4 := blk_frozen BK270.out 4; have hfz11_5 := blk_frozen BK270.out 5; have hfz11_6 := blk_frozen BK270.out 6; have hfz11_7 := blk_frozen BK270.out 7; have hfz11_8 := blk_frozen BK270.out 8; have hfz11_9 := blk_frozen BK270.out 9; have hfz11_10 := blk_frozen BK270.out 10
     go_wp2_with (first | ((with_reducible refine gate_callee (f := 19) rfl ?_); refine goesL_ (some 10) rfl rfl Try.func19 (by kernel_rfl) rfl #[.agg #[.slice A0_0 l0_0.length c0_0, .slice A0_1 l0_1.length c0_1, .slice A0_2 l0_2.length c0_2, .int .i64 a0_3, .int .i64 a0_4]] rfl zb' ?_; (with_reducible refine (impl_IsFleet.calls k (fun k_ => k_ < w.heap.size) _ _ l0_0 (fun k_ => k_ < w.heap.size) _ _ l0_1 (fun k_ => k_ < w.heap.size) _ _ l0_2 a0_3 a0_4 true _ ?side1 ?side2 ?side3 A4.out).mono ?_); (case side1 => exact zl2'); (case side2 => exact zm2'); (case side3 => exact zn2'); rintro e w12 ⟨rfl, hb⟩; refine ⟨_, rfl, ?_⟩; have n0_ := am (blk_below (g := gb270) (o := o0') zr' hb); have n1_ := am (below_step zd' hb); clear BK270; clear HB; have BK270 := n0_; have HB := n1_; clear n0_ n1_; (try clear hb); (try clear hb2); (try clear hk); (try clear hi); have hcz13_0 : w12.cell? ⟨gb270, 0, none⟩ = some (.slice A0_0 l0_0.length c0_0) := (blk_cell BK270.out 0).trans rfl; have hcz13_1 : w12.cell? ⟨gb270, 1, none⟩ = some (.slice A0_1 l0_1.length c0_1) := (blk_cell BK270.out 1).trans rfl; have hcz13_2 : w12.cell? ⟨gb270, 2, none⟩ = some (.slice A0_2 l0_2.length c0_2) := (blk_cell BK270.out 2).trans rfl; have hcz13_3 : w12.cell? ⟨gb270, 3, none⟩ = some (.int .i64 a0_3) := (blk_cell BK270.out 3).trans rfl; have hcz13_4 : w12.cell? ⟨gb270, 4, none⟩ = some (.int .i64 a0_4) := (blk_cell BK270.out 4).trans rfl; have hcz13_5 : w12.cell? ⟨gb270, 5, none⟩ = some (.slice A0_5 l0_5.length c0_5) := (blk_cell BK270.out 5).trans rfl; have hcz13_6 : w12.cell? ⟨gb270, 6, none⟩ = some (.slice A0_6 l0_6.length c0_6) := (blk_cell BK270.out 6).trans rfl; have hcz13_7 : w12.cell? ⟨gb270, 7, none⟩ = some (.slice A0_7 l0_7.length c0_7) := (blk_cell BK270.out 7).trans rfl; have hcz13_8 : w12.cell? ⟨gb270, 8, none⟩ = some (.int .i64 a0_8) := (blk_cell BK270.out 8).trans rfl; have hcz13_9 : w12.cell? ⟨gb270, 9, none⟩ = some (.int .i64 a0_9) := (blk_cell BK270.out 9).trans rfl; have hcz13_10 : w12.cell? ⟨gb270, 10, none⟩ = some (.int .i64 a0_10) := (blk_cell BK270.out 10).trans rfl; have hfz13_0 := blk_frozen BK270.out 0; have hfz13_1 := blk_frozen BK270.out 1; have hfz13_2 := blk_frozen BK270.out 2; have hfz13_3 := blk_frozen BK270.out 3; have hfz13_4 := blk_frozen BK270.out 4; have hfz13_5 := blk_frozen BK270.out 5; have hfz13_6 := blk_frozen BK270.out 6; have hfz13_7 := blk_frozen BK270.out 7; have hfz13_8 := blk_frozen BK270.out 8; have hfz13_9 := blk_frozen BK270.out 9; have hfz13_10 := blk_frozen BK270.out 10))
     go_meet
     case rel => exact ⟨_, (true), zj', H', ⟨zt2'⟩, ⟨zr'⟩, ⟨zd'⟩⟩
    ·rw [if_neg c10] at H
     have c10b0 : decide (8 < (l0_5.length : Int)) = false := decide_eq_false c10; have c10b1 : decide (8 < l0_5.length) = false := decide_eq_false (by omega); clear c10
     by_cases c14 : (l0_6.length : Int) = (l0_0.length : Int)
     ·rw [if_pos c14] at H
      have c14b0 : ((l0_6.length : Int) == (l0_0.length : Int)) = true := beq_iff_eq.mpr c14; have c14b1 : ((l0_6.length : Int) != (l0_0.length : Int)) = false := bne_eq_false_iff_eq.mpr c14
      have c14b2 : (l0_6.length == l0_0.length) = true := by first | simpa using c14 | (simp at c14 ⊢; omega)
      clear c14
      by_cases c15 : a0_8 < 0
      ·rw [if_pos c15] at H
       have c15b0 : decide (a0_8 < 0) = true := decide_eq_true c15; clear c15; have H' := Aside0.mk H; clear H; have hcz16_0 : w3.cell? ⟨gb270, 0, none⟩ = some (.slice A0_0 l0_0.length c0_0) := (blk_cell BK270.out 0).trans rfl; have hcz16_1 : w3.cell? ⟨gb270, 1, none⟩ = some (.slice A0_1 l0_1.length c0_1) := (blk_cell BK270.out 1).trans rfl; have hcz16_2 : w3.cell? ⟨gb270, 2, none⟩ = some (.slice A0_2 l0_2.length c0_2) := (blk_cell BK270.out 2).trans rfl; have hcz16_3 : w3.cell? ⟨gb270, 3, none⟩ = some (.int .i64 a0_3) := (blk_cell BK270.out 3).trans rfl; have hcz16_4 : w3.cell? ⟨gb270, 4, none⟩ = some (.int .i64 a0_4) := (blk_cell BK270.out 4).trans rfl; have hcz16_5 : w3.cell? ⟨gb270, 5, none⟩ = some (.slice A0_5 l0_5.length c0_5) := (blk_cell BK270.out 5).trans rfl; have hcz16_6 : w3.cell? ⟨gb270, 6, none⟩ = some (.slice A0_6 l0_6.length c0_6) := (blk_cell BK270.out 6).trans rfl; have hcz16_7 : w3.cell? ⟨gb270, 7, none⟩ = some (.slice A0_7 l0_7.length c0_7) := (blk_cell BK270.out 7).trans rfl; have hcz16_8 : w3.cell? ⟨gb270, 8, none⟩ = some (.int .i64 a0_8) := (blk_cell BK270.out 8).trans rfl; have hcz16_9 : w3.cell? ⟨gb270, 9, none⟩ = some (.int .i64 a0_9) := (blk_cell BK270.out 9).trans rfl; have hcz16_10 : w3.cell? ⟨gb270, 10, none⟩ = some (.int .i64 a0_10) := (blk_cell BK270.out 10).trans rfl; have hfz16_0 := blk_frozen BK270.out 0; have hfz16_1 := blk_frozen BK270.out 1; have hfz16_2 := blk_frozen BK270.out 2; have hfz16_3 := blk_frozen BK270.out 3; have hfz16_4 := blk_frozen BK270.out 4
       have hfz16_5 := blk_frozen BK270.out 5; have hfz16_6 := blk_frozen BK270.out 6; have hfz16_7 := blk_frozen BK270.out 7; have hfz16_8 := blk_frozen BK270.out 8; have hfz16_9 := blk_frozen BK270.out 9; have hfz16_10 := blk_frozen BK270.out 10
       go_wp2_with (first | ((with_reducible refine gate_callee (f := 19) rfl ?_); refine goesL_ (some 10) rfl rfl Try.func19 (by kernel_rfl) rfl #[.agg #[.slice A0_0 l0_0.length c0_0, .slice A0_1 l0_1.length c0_1, .slice A0_2 l0_2.length c0_2, .int .i64 a0_3, .int .i64 a0_4]] rfl zb' ?_; (with_reducible refine (impl_IsFleet.calls k (fun k_ => k_ < w.heap.size) _ _ l0_0 (fun k_ => k_ < w.heap.size) _ _ l0_1 (fun k_ => k_ < w.heap.size) _ _ l0_2 a0_3 a0_4 true _ ?side1 ?side2 ?side3 A4.out).mono ?_); (case side1 => exact zl2'); (case side2 => exact zm2'); (case side3 => exact zn2'); rintro e w17 ⟨rfl, hb⟩; refine ⟨_, rfl, ?_⟩; have n0_ := am (blk_below (g := gb270) (o := o0') zr' hb); have n1_ := am (below_step zd' hb); clear BK270; clear HB; have BK270 := n0_; have HB := n1_; clear n0_ n1_; (try clear hb); (try clear hb2); (try clear hk); (try clear hi); have hcz18_0 : w17.cell? ⟨gb270, 0, none⟩ = some (.slice A0_0 l0_0.length c0_0) := (blk_cell BK270.out 0).trans rfl; have hcz18_1 : w17.cell? ⟨gb270, 1, none⟩ = some (.slice A0_1 l0_1.length c0_1) := (blk_cell BK270.out 1).trans rfl; have hcz18_2 : w17.cell? ⟨gb270, 2, none⟩ = some (.slice A0_2 l0_2.length c0_2) := (blk_cell BK270.out 2).trans rfl; have hcz18_3 : w17.cell? ⟨gb270, 3, none⟩ = some (.int .i64 a0_3) := (blk_cell BK270.out 3).trans rfl; have hcz18_4 : w17.cell? ⟨gb270, 4, none⟩ = some (.int .i64 a0_4) := (blk_cell BK270.out 4).trans rfl; have hcz18_5 : w17.cell? ⟨gb270, 5, none⟩ = some (.slice A0_5 l0_5.length c0_5) := (blk_cell BK270.out 5).trans rfl; have hcz18_6 : w17.cell? ⟨gb270, 6, none⟩ = some (.slice A0_6 l0_6.length c0_6) := (blk_cell BK270.out 6).trans rfl; have hcz18_7 : w17.cell? ⟨gb270, 7, none⟩ = some (.slice A0_7 l0_7.length c0_7) := (blk_cell BK270.out 7).trans rfl; have hcz18_8 : w17.cell? ⟨gb270, 8, none⟩ = some (.int .i64 a0_8) := (blk_cell BK270.out 8).trans rfl; have hcz18_9 : w17.cell? ⟨gb270, 9, none⟩ = some (.int .i64 a0_9) := (blk_cell BK270.out 9).trans rfl; have hcz18_10 : w17.cell? ⟨gb270, 10, none⟩ = some (.int .i64 a0_10) := (blk_cell BK270.out 10).trans rfl; have hfz18_0 := blk_frozen BK270.out 0; have hfz18_1 := blk_frozen BK270.out 1; have hfz18_2 := blk_frozen BK270.out 2; have hfz18_3 := blk_frozen BK270.out 3; have hfz18_4 := blk_frozen BK270.out 4; have hfz18_5 := blk_frozen BK270.out 5; have hfz18_6 := blk_frozen BK270.out 6; have hfz18_7 := blk_frozen BK270.out 7; have hfz18_8 := blk_frozen BK270.out 8; have hfz18_9 := blk_frozen BK270.out 9; have hfz18_10 := blk_frozen BK270.out 10))
       go_meet
       case rel => exact ⟨_, (true), zj', H', ⟨zt2'⟩, ⟨zr'⟩, ⟨zd'⟩⟩
      ·rw [if_neg c15] at H
       have c15b0 : decide (a0_8 < 0) = false := decide_eq_false c15; clear c15
       by_cases c19 : a0_8 > 100000
       ·rw [if_pos c19] at H
        have c19b0 : decide (100000 < a0_8) = true := decide_eq_true c19; clear c19; have H' := Aside0.mk H; clear H; have hcz20_0 : w3.cell? ⟨gb270, 0, none⟩ = some (.slice A0_0 l0_0.length c0_0) := (blk_cell BK270.out 0).trans rfl; have hcz20_1 : w3.cell? ⟨gb270, 1, none⟩ = some (.slice A0_1 l0_1.length c0_1) := (blk_cell BK270.out 1).trans rfl; have hcz20_2 : w3.cell? ⟨gb270, 2, none⟩ = some (.slice A0_2 l0_2.length c0_2) := (blk_cell BK270.out 2).trans rfl; have hcz20_3 : w3.cell? ⟨gb270, 3, none⟩ = some (.int .i64 a0_3) := (blk_cell BK270.out 3).trans rfl; have hcz20_4 : w3.cell? ⟨gb270, 4, none⟩ = some (.int .i64 a0_4) := (blk_cell BK270.out 4).trans rfl; have hcz20_5 : w3.cell? ⟨gb270, 5, none⟩ = some (.slice A0_5 l0_5.length c0_5) := (blk_cell BK270.out 5).trans rfl; have hcz20_6 : w3.cell? ⟨gb270, 6, none⟩ = some (.slice A0_6 l0_6.length c0_6) := (blk_cell BK270.out 6).trans rfl; have hcz20_7 : w3.cell? ⟨gb270, 7, none⟩ = some (.slice A0_7 l0_7.length c0_7) := (blk_cell BK270.out 7).trans rfl; have hcz20_8 : w3.cell? ⟨gb270, 8, none⟩ = some (.int .i64 a0_8) := (blk_cell BK270.out 8).trans rfl; have hcz20_9 : w3.cell? ⟨gb270, 9, none⟩ = some (.int .i64 a0_9) := (blk_cell BK270.out 9).trans rfl; have hcz20_10 : w3.cell? ⟨gb270, 10, none⟩ = some (.int .i64 a0_10) := (blk_cell BK270.out 10).trans rfl; have hfz20_0 := blk_frozen BK270.out 0; have hfz20_1 := blk_frozen BK270.out 1; have hfz20_2 := blk_frozen BK270.out 2; have hfz20_3 := blk_frozen BK270.out 3; have hfz20_4 := blk_frozen BK270.out 4
        have hfz20_5 := blk_frozen BK270.out 5; have hfz20_6 := blk_frozen BK270.out 6; have hfz20_7 := blk_frozen BK270.out 7; have hfz20_8 := blk_frozen BK270.out 8; have hfz20_9 := blk_frozen BK270.out 9; have hfz20_10 := blk_frozen BK270.out 10
        go_wp2_with (first | ((with_reducible refine gate_callee (f := 19) rfl ?_); refine goesL_ (some 10) rfl rfl Try.func19 (by kernel_rfl) rfl #[.agg #[.slice A0_0 l0_0.length c0_0, .slice A0_1 l0_1.length c0_1, .slice A0_2 l0_2.length c0_2, .int .i64 a0_3, .int .i64 a0_4]] rfl zb' ?_; (with_reducible refine (impl_IsFleet.calls k (fun k_ => k_ < w.heap.size) _ _ l0_0 (fun k_ => k_ < w.heap.size) _ _ l0_1 (fun k_ => k_ < w.heap.size) _ _ l0_2 a0_3 a0_4 true _ ?side1 ?side2 ?side3 A4.out).mono ?_); (case side1 => exact zl2'); (case side2 => exact zm2'); (case side3 => exact zn2'); rintro e w21 ⟨rfl, hb⟩; refine ⟨_, rfl, ?_⟩; have n0_ := am (blk_below (g := gb270) (o := o0') zr' hb); have n1_ := am (below_step zd' hb); clear BK270; clear HB; have BK270 := n0_; have HB := n1_; clear n0_ n1_; (try clear hb); (try clear hb2); (try clear hk); (try clear hi); have hcz22_0 : w21.cell? ⟨gb270, 0, none⟩ = some (.slice A0_0 l0_0.length c0_0) := (blk_cell BK270.out 0).trans rfl; have hcz22_1 : w21.cell? ⟨gb270, 1, none⟩ = some (.slice A0_1 l0_1.length c0_1) := (blk_cell BK270.out 1).trans rfl; have hcz22_2 : w21.cell? ⟨gb270, 2, none⟩ = some (.slice A0_2 l0_2.length c0_2) := (blk_cell BK270.out 2).trans rfl; have hcz22_3 : w21.cell? ⟨gb270, 3, none⟩ = some (.int .i64 a0_3) := (blk_cell BK270.out 3).trans rfl; have hcz22_4 : w21.cell? ⟨gb270, 4, none⟩ = some (.int .i64 a0_4) := (blk_cell BK270.out 4).trans rfl; have hcz22_5 : w21.cell? ⟨gb270, 5, none⟩ = some (.slice A0_5 l0_5.length c0_5) := (blk_cell BK270.out 5).trans rfl; have hcz22_6 : w21.cell? ⟨gb270, 6, none⟩ = some (.slice A0_6 l0_6.length c0_6) := (blk_cell BK270.out 6).trans rfl; have hcz22_7 : w21.cell? ⟨gb270, 7, none⟩ = some (.slice A0_7 l0_7.length c0_7) := (blk_cell BK270.out 7).trans rfl; have hcz22_8 : w21.cell? ⟨gb270, 8, none⟩ = some (.int .i64 a0_8) := (blk_cell BK270.out 8).trans rfl; have hcz22_9 : w21.cell? ⟨gb270, 9, none⟩ = some (.int .i64 a0_9) := (blk_cell BK270.out 9).trans rfl; have hcz22_10 : w21.cell? ⟨gb270, 10, none⟩ = some (.int .i64 a0_10) := (blk_cell BK270.out 10).trans rfl; have hfz22_0 := blk_frozen BK270.out 0; have hfz22_1 := blk_frozen BK270.out 1; have hfz22_2 := blk_frozen BK270.out 2; have hfz22_3 := blk_frozen BK270.out 3; have hfz22_4 := blk_frozen BK270.out 4; have hfz22_5 := blk_frozen BK270.out 5; have hfz22_6 := blk_frozen BK270.out 6; have hfz22_7 := blk_frozen BK270.out 7; have hfz22_8 := blk_frozen BK270.out 8; have hfz22_9 := blk_frozen BK270.out 9; have hfz22_10 := blk_frozen BK270.out 10))
        go_meet
        case rel => exact ⟨_, (true), zj', H', ⟨zt2'⟩, ⟨zr'⟩, ⟨zd'⟩⟩
       ·rw [if_neg c19] at H
        have c19b0 : decide (100000 < a0_8) = false := decide_eq_false c19; clear c19
        by_cases c23 : a0_9 < 0
        ·rw [if_pos c23] at H
         have c23b0 : decide (a0_9 < 0) = true := decide_eq_true c23; clear c23; have H' := Aside0.mk H; clear H; have hcz24_0 : w3.cell? ⟨gb270, 0, none⟩ = some (.slice A0_0 l0_0.length c0_0) := (blk_cell BK270.out 0).trans rfl; have hcz24_1 : w3.cell? ⟨gb270, 1, none⟩ = some (.slice A0_1 l0_1.length c0_1) := (blk_cell BK270.out 1).trans rfl; have hcz24_2 : w3.cell? ⟨gb270, 2, none⟩ = some (.slice A0_2 l0_2.length c0_2) := (blk_cell BK270.out 2).trans rfl; have hcz24_3 : w3.cell? ⟨gb270, 3, none⟩ = some (.int .i64 a0_3) := (blk_cell BK270.out 3).trans rfl; have hcz24_4 : w3.cell? ⟨gb270, 4, none⟩ = some (.int .i64 a0_4) := (blk_cell BK270.out 4).trans rfl; have hcz24_5 : w3.cell? ⟨gb270, 5, none⟩ = some (.slice A0_5 l0_5.length c0_5) := (blk_cell BK270.out 5).trans rfl; have hcz24_6 : w3.cell? ⟨gb270, 6, none⟩ = some (.slice A0_6 l0_6.length c0_6) := (blk_cell BK270.out 6).trans rfl; have hcz24_7 : w3.cell? ⟨gb270, 7, none⟩ = some (.slice A0_7 l0_7.length c0_7) := (blk_cell BK270.out 7).trans rfl; have hcz24_8 : w3.cell? ⟨gb270, 8, none⟩ = some (.int .i64 a0_8) := (blk_cell BK270.out 8).trans rfl; have hcz24_9 : w3.cell? ⟨gb270, 9, none⟩ = some (.int .i64 a0_9) := (blk_cell BK270.out 9).trans rfl; have hcz24_10 : w3.cell? ⟨gb270, 10, none⟩ = some (.int .i64 a0_10) := (blk_cell BK270.out 10).trans rfl; have hfz24_0 := blk_frozen BK270.out 0; have hfz24_1 := blk_frozen BK270.out 1; have hfz24_2 := blk_frozen BK270.out 2; have hfz24_3 := blk_frozen BK270.out 3; have hfz24_4 := blk_frozen BK270.out 4
         have hfz24_5 := blk_frozen BK270.out 5; have hfz24_6 := blk_frozen BK270.out 6; have hfz24_7 := blk_frozen BK270.out 7; have hfz24_8 := blk_frozen BK270.out 8; have hfz24_9 := blk_frozen BK270.out 9; have hfz24_10 := blk_frozen BK270.out 10
         go_wp2_with (first | ((with_reducible refine gate_callee (f := 19) rfl ?_); refine goesL_ (some 10) rfl rfl Try.func19 (by kernel_rfl) rfl #[.agg #[.slice A0_0 l0_0.length c0_0, .slice A0_1 l0_1.length c0_1, .slice A0_2 l0_2.length c0_2, .int .i64 a0_3, .int .i64 a0_4]] rfl zb' ?_; (with_reducible refine (impl_IsFleet.calls k (fun k_ => k_ < w.heap.size) _ _ l0_0 (fun k_ => k_ < w.heap.size) _ _ l0_1 (fun k_ => k_ < w.heap.size) _ _ l0_2 a0_3 a0_4 true _ ?side1 ?side2 ?side3 A4.out).mono ?_); (case side1 => exact zl2'); (case side2 => exact zm2'); (case side3 => exact zn2'); rintro e w25 ⟨rfl, hb⟩; refine ⟨_, rfl, ?_⟩; have n0_ := am (blk_below (g := gb270) (o := o0') zr' hb); have n1_ := am (below_step zd' hb); clear BK270; clear HB; have BK270 := n0_; have HB := n1_; clear n0_ n1_; (try clear hb); (try clear hb2); (try clear hk); (try clear hi); have hcz26_0 : w25.cell? ⟨gb270, 0, none⟩ = some (.slice A0_0 l0_0.length c0_0) := (blk_cell BK270.out 0).trans rfl; have hcz26_1 : w25.cell? ⟨gb270, 1, none⟩ = some (.slice A0_1 l0_1.length c0_1) := (blk_cell BK270.out 1).trans rfl; have hcz26_2 : w25.cell? ⟨gb270, 2, none⟩ = some (.slice A0_2 l0_2.length c0_2) := (blk_cell BK270.out 2).trans rfl; have hcz26_3 : w25.cell? ⟨gb270, 3, none⟩ = some (.int .i64 a0_3) := (blk_cell BK270.out 3).trans rfl; have hcz26_4 : w25.cell? ⟨gb270, 4, none⟩ = some (.int .i64 a0_4) := (blk_cell BK270.out 4).trans rfl; have hcz26_5 : w25.cell? ⟨gb270, 5, none⟩ = some (.slice A0_5 l0_5.length c0_5) := (blk_cell BK270.out 5).trans rfl; have hcz26_6 : w25.cell? ⟨gb270, 6, none⟩ = some (.slice A0_6 l0_6.length c0_6) := (blk_cell BK270.out 6).trans rfl; have hcz26_7 : w25.cell? ⟨gb270, 7, none⟩ = some (.slice A0_7 l0_7.length c0_7) := (blk_cell BK270.out 7).trans rfl; have hcz26_8 : w25.cell? ⟨gb270, 8, none⟩ = some (.int .i64 a0_8) := (blk_cell BK270.out 8).trans rfl; have hcz26_9 : w25.cell? ⟨gb270, 9, none⟩ = some (.int .i64 a0_9) := (blk_cell BK270.out 9).trans rfl; have hcz26_10 : w25.cell? ⟨gb270, 10, none⟩ = some (.int .i64 a0_10) := (blk_cell BK270.out 10).trans rfl; have hfz26_0 := blk_frozen BK270.out 0; have hfz26_1 := blk_frozen BK270.out 1; have hfz26_2 := blk_frozen BK270.out 2; have hfz26_3 := blk_frozen BK270.out 3; have hfz26_4 := blk_frozen BK270.out 4; have hfz26_5 := blk_frozen BK270.out 5; have hfz26_6 := blk_frozen BK270.out 6; have hfz26_7 := blk_frozen BK270.out 7; have hfz26_8 := blk_frozen BK270.out 8; have hfz26_9 := blk_frozen BK270.out 9; have hfz26_10 := blk_frozen BK270.out 10))
         go_meet
         case rel => exact ⟨_, (true), zj', H', ⟨zt2'⟩, ⟨zr'⟩, ⟨zd'⟩⟩
        ·rw [if_neg c23] at H
         have c23b0 : decide (a0_9 < 0) = false := decide_eq_false c23; clear c23
         by_cases c27 : a0_9 > 100000
         ·rw [if_pos c27] at H
          have c27b0 : decide (100000 < a0_9) = true := decide_eq_true c27; clear c27; have H' := Aside0.mk H; clear H; have hcz28_0 : w3.cell? ⟨gb270, 0, none⟩ = some (.slice A0_0 l0_0.length c0_0) := (blk_cell BK270.out 0).trans rfl; have hcz28_1 : w3.cell? ⟨gb270, 1, none⟩ = some (.slice A0_1 l0_1.length c0_1) := (blk_cell BK270.out 1).trans rfl; have hcz28_2 : w3.cell? ⟨gb270, 2, none⟩ = some (.slice A0_2 l0_2.length c0_2) := (blk_cell BK270.out 2).trans rfl; have hcz28_3 : w3.cell? ⟨gb270, 3, none⟩ = some (.int .i64 a0_3) := (blk_cell BK270.out 3).trans rfl; have hcz28_4 : w3.cell? ⟨gb270, 4, none⟩ = some (.int .i64 a0_4) := (blk_cell BK270.out 4).trans rfl; have hcz28_5 : w3.cell? ⟨gb270, 5, none⟩ = some (.slice A0_5 l0_5.length c0_5) := (blk_cell BK270.out 5).trans rfl; have hcz28_6 : w3.cell? ⟨gb270, 6, none⟩ = some (.slice A0_6 l0_6.length c0_6) := (blk_cell BK270.out 6).trans rfl; have hcz28_7 : w3.cell? ⟨gb270, 7, none⟩ = some (.slice A0_7 l0_7.length c0_7) := (blk_cell BK270.out 7).trans rfl; have hcz28_8 : w3.cell? ⟨gb270, 8, none⟩ = some (.int .i64 a0_8) := (blk_cell BK270.out 8).trans rfl; have hcz28_9 : w3.cell? ⟨gb270, 9, none⟩ = some (.int .i64 a0_9) := (blk_cell BK270.out 9).trans rfl; have hcz28_10 : w3.cell? ⟨gb270, 10, none⟩ = some (.int .i64 a0_10) := (blk_cell BK270.out 10).trans rfl; have hfz28_0 := blk_frozen BK270.out 0; have hfz28_1 := blk_frozen BK270.out 1; have hfz28_2 := blk_frozen BK270.out 2; have hfz28_3 := blk_frozen BK270.out 3; have hfz28_4 := blk_frozen BK270.out 4
          have hfz28_5 := blk_frozen BK270.out 5; have hfz28_6 := blk_frozen BK270.out 6; have hfz28_7 := blk_frozen BK270.out 7; have hfz28_8 := blk_frozen BK270.out 8; have hfz28_9 := blk_frozen BK270.out 9; have hfz28_10 := blk_frozen BK270.out 10
          go_wp2_with (first | ((with_reducible refine gate_callee (f := 19) rfl ?_); refine goesL_ (some 10) rfl rfl Try.func19 (by kernel_rfl) rfl #[.agg #[.slice A0_0 l0_0.length c0_0, .slice A0_1 l0_1.length c0_1, .slice A0_2 l0_2.length c0_2, .int .i64 a0_3, .int .i64 a0_4]] rfl zb' ?_; (with_reducible refine (impl_IsFleet.calls k (fun k_ => k_ < w.heap.size) _ _ l0_0 (fun k_ => k_ < w.heap.size) _ _ l0_1 (fun k_ => k_ < w.heap.size) _ _ l0_2 a0_3 a0_4 true _ ?side1 ?side2 ?side3 A4.out).mono ?_); (case side1 => exact zl2'); (case side2 => exact zm2'); (case side3 => exact zn2'); rintro e w29 ⟨rfl, hb⟩; refine ⟨_, rfl, ?_⟩; have n0_ := am (blk_below (g := gb270) (o := o0') zr' hb); have n1_ := am (below_step zd' hb); clear BK270; clear HB; have BK270 := n0_; have HB := n1_; clear n0_ n1_; (try clear hb); (try clear hb2); (try clear hk); (try clear hi); have hcz30_0 : w29.cell? ⟨gb270, 0, none⟩ = some (.slice A0_0 l0_0.length c0_0) := (blk_cell BK270.out 0).trans rfl; have hcz30_1 : w29.cell? ⟨gb270, 1, none⟩ = some (.slice A0_1 l0_1.length c0_1) := (blk_cell BK270.out 1).trans rfl; have hcz30_2 : w29.cell? ⟨gb270, 2, none⟩ = some (.slice A0_2 l0_2.length c0_2) := (blk_cell BK270.out 2).trans rfl; have hcz30_3 : w29.cell? ⟨gb270, 3, none⟩ = some (.int .i64 a0_3) := (blk_cell BK270.out 3).trans rfl; have hcz30_4 : w29.cell? ⟨gb270, 4, none⟩ = some (.int .i64 a0_4) := (blk_cell BK270.out 4).trans rfl; have hcz30_5 : w29.cell? ⟨gb270, 5, none⟩ = some (.slice A0_5 l0_5.length c0_5) := (blk_cell BK270.out 5).trans rfl; have hcz30_6 : w29.cell? ⟨gb270, 6, none⟩ = some (.slice A0_6 l0_6.length c0_6) := (blk_cell BK270.out 6).trans rfl; have hcz30_7 : w29.cell? ⟨gb270, 7, none⟩ = some (.slice A0_7 l0_7.length c0_7) := (blk_cell BK270.out 7).trans rfl; have hcz30_8 : w29.cell? ⟨gb270, 8, none⟩ = some (.int .i64 a0_8) := (blk_cell BK270.out 8).trans rfl; have hcz30_9 : w29.cell? ⟨gb270, 9, none⟩ = some (.int .i64 a0_9) := (blk_cell BK270.out 9).trans rfl; have hcz30_10 : w29.cell? ⟨gb270, 10, none⟩ = some (.int .i64 a0_10) := (blk_cell BK270.out 10).trans rfl; have hfz30_0 := blk_frozen BK270.out 0; have hfz30_1 := blk_frozen BK270.out 1; have hfz30_2 := blk_frozen BK270.out 2; have hfz30_3 := blk_frozen BK270.out 3; have hfz30_4 := blk_frozen BK270.out 4; have hfz30_5 := blk_frozen BK270.out 5; have hfz30_6 := blk_frozen BK270.out 6; have hfz30_7 := blk_frozen BK270.out 7; have hfz30_8 := blk_frozen BK270.out 8; have hfz30_9 := blk_frozen BK270.out 9; have hfz30_10 := blk_frozen BK270.out 10))
          go_meet
          case rel => exact ⟨_, (true), zj', H', ⟨zt2'⟩, ⟨zr'⟩, ⟨zd'⟩⟩
         ·rw [if_neg c27] at H
          have c27b0 : decide (100000 < a0_9) = false := decide_eq_false c27; clear c27
          by_cases c31 : a0_10 < 0
          ·rw [if_pos c31] at H
           have c31b0 : decide (a0_10 < 0) = true := decide_eq_true c31; clear c31; have H' := Aside0.mk H; clear H; have hcz32_0 : w3.cell? ⟨gb270, 0, none⟩ = some (.slice A0_0 l0_0.length c0_0) := (blk_cell BK270.out 0).trans rfl; have hcz32_1 : w3.cell? ⟨gb270, 1, none⟩ = some (.slice A0_1 l0_1.length c0_1) := (blk_cell BK270.out 1).trans rfl; have hcz32_2 : w3.cell? ⟨gb270, 2, none⟩ = some (.slice A0_2 l0_2.length c0_2) := (blk_cell BK270.out 2).trans rfl; have hcz32_3 : w3.cell? ⟨gb270, 3, none⟩ = some (.int .i64 a0_3) := (blk_cell BK270.out 3).trans rfl; have hcz32_4 : w3.cell? ⟨gb270, 4, none⟩ = some (.int .i64 a0_4) := (blk_cell BK270.out 4).trans rfl; have hcz32_5 : w3.cell? ⟨gb270, 5, none⟩ = some (.slice A0_5 l0_5.length c0_5) := (blk_cell BK270.out 5).trans rfl; have hcz32_6 : w3.cell? ⟨gb270, 6, none⟩ = some (.slice A0_6 l0_6.length c0_6) := (blk_cell BK270.out 6).trans rfl; have hcz32_7 : w3.cell? ⟨gb270, 7, none⟩ = some (.slice A0_7 l0_7.length c0_7) := (blk_cell BK270.out 7).trans rfl; have hcz32_8 : w3.cell? ⟨gb270, 8, none⟩ = some (.int .i64 a0_8) := (blk_cell BK270.out 8).trans rfl; have hcz32_9 : w3.cell? ⟨gb270, 9, none⟩ = some (.int .i64 a0_9) := (blk_cell BK270.out 9).trans rfl; have hcz32_10 : w3.cell? ⟨gb270, 10, none⟩ = some (.int .i64 a0_10) := (blk_cell BK270.out 10).trans rfl; have hfz32_0 := blk_frozen BK270.out 0; have hfz32_1 := blk_frozen BK270.out 1; have hfz32_2 := blk_frozen BK270.out 2; have hfz32_3 := blk_frozen BK270.out 3; have hfz32_4 := blk_frozen BK270.out 4
           have hfz32_5 := blk_frozen BK270.out 5; have hfz32_6 := blk_frozen BK270.out 6; have hfz32_7 := blk_frozen BK270.out 7; have hfz32_8 := blk_frozen BK270.out 8; have hfz32_9 := blk_frozen BK270.out 9; have hfz32_10 := blk_frozen BK270.out 10
           go_wp2_with (first | ((with_reducible refine gate_callee (f := 19) rfl ?_); refine goesL_ (some 10) rfl rfl Try.func19 (by kernel_rfl) rfl #[.agg #[.slice A0_0 l0_0.length c0_0, .slice A0_1 l0_1.length c0_1, .slice A0_2 l0_2.length c0_2, .int .i64 a0_3, .int .i64 a0_4]] rfl zb' ?_; (with_reducible refine (impl_IsFleet.calls k (fun k_ => k_ < w.heap.size) _ _ l0_0 (fun k_ => k_ < w.heap.size) _ _ l0_1 (fun k_ => k_ < w.heap.size) _ _ l0_2 a0_3 a0_4 true _ ?side1 ?side2 ?side3 A4.out).mono ?_); (case side1 => exact zl2'); (case side2 => exact zm2'); (case side3 => exact zn2'); rintro e w33 ⟨rfl, hb⟩; refine ⟨_, rfl, ?_⟩; have n0_ := am (blk_below (g := gb270) (o := o0') zr' hb); have n1_ := am (below_step zd' hb); clear BK270; clear HB; have BK270 := n0_; have HB := n1_; clear n0_ n1_; (try clear hb); (try clear hb2); (try clear hk); (try clear hi); have hcz34_0 : w33.cell? ⟨gb270, 0, none⟩ = some (.slice A0_0 l0_0.length c0_0) := (blk_cell BK270.out 0).trans rfl; have hcz34_1 : w33.cell? ⟨gb270, 1, none⟩ = some (.slice A0_1 l0_1.length c0_1) := (blk_cell BK270.out 1).trans rfl; have hcz34_2 : w33.cell? ⟨gb270, 2, none⟩ = some (.slice A0_2 l0_2.length c0_2) := (blk_cell BK270.out 2).trans rfl; have hcz34_3 : w33.cell? ⟨gb270, 3, none⟩ = some (.int .i64 a0_3) := (blk_cell BK270.out 3).trans rfl; have hcz34_4 : w33.cell? ⟨gb270, 4, none⟩ = some (.int .i64 a0_4) := (blk_cell BK270.out 4).trans rfl; have hcz34_5 : w33.cell? ⟨gb270, 5, none⟩ = some (.slice A0_5 l0_5.length c0_5) := (blk_cell BK270.out 5).trans rfl; have hcz34_6 : w33.cell? ⟨gb270, 6, none⟩ = some (.slice A0_6 l0_6.length c0_6) := (blk_cell BK270.out 6).trans rfl; have hcz34_7 : w33.cell? ⟨gb270, 7, none⟩ = some (.slice A0_7 l0_7.length c0_7) := (blk_cell BK270.out 7).trans rfl; have hcz34_8 : w33.cell? ⟨gb270, 8, none⟩ = some (.int .i64 a0_8) := (blk_cell BK270.out 8).trans rfl; have hcz34_9 : w33.cell? ⟨gb270, 9, none⟩ = some (.int .i64 a0_9) := (blk_cell BK270.out 9).trans rfl; have hcz34_10 : w33.cell? ⟨gb270, 10, none⟩ = some (.int .i64 a0_10) := (blk_cell BK270.out 10).trans rfl; have hfz34_0 := blk_frozen BK270.out 0; have hfz34_1 := blk_frozen BK270.out 1; have hfz34_2 := blk_frozen BK270.out 2; have hfz34_3 := blk_frozen BK270.out 3; have hfz34_4 := blk_frozen BK270.out 4; have hfz34_5 := blk_frozen BK270.out 5; have hfz34_6 := blk_frozen BK270.out 6; have hfz34_7 := blk_frozen BK270.out 7; have hfz34_8 := blk_frozen BK270.out 8; have hfz34_9 := blk_frozen BK270.out 9; have hfz34_10 := blk_frozen BK270.out 10))
           go_meet
           case rel => exact ⟨_, (true), zj', H', ⟨zt2'⟩, ⟨zr'⟩, ⟨zd'⟩⟩
          ·rw [if_neg c31] at H
           have c31b0 : decide (a0_10 < 0) = false := decide_eq_false c31; clear c31; have H' := Aside0.mk H; clear H; have hcz35_0 : w3.cell? ⟨gb270, 0, none⟩ = some (.slice A0_0 l0_0.length c0_0) := (blk_cell BK270.out 0).trans rfl; have hcz35_1 : w3.cell? ⟨gb270, 1, none⟩ = some (.slice A0_1 l0_1.length c0_1) := (blk_cell BK270.out 1).trans rfl; have hcz35_2 : w3.cell? ⟨gb270, 2, none⟩ = some (.slice A0_2 l0_2.length c0_2) := (blk_cell BK270.out 2).trans rfl; have hcz35_3 : w3.cell? ⟨gb270, 3, none⟩ = some (.int .i64 a0_3) := (blk_cell BK270.out 3).trans rfl; have hcz35_4 : w3.cell? ⟨gb270, 4, none⟩ = some (.int .i64 a0_4) := (blk_cell BK270.out 4).trans rfl; have hcz35_5 : w3.cell? ⟨gb270, 5, none⟩ = some (.slice A0_5 l0_5.length c0_5) := (blk_cell BK270.out 5).trans rfl; have hcz35_6 : w3.cell? ⟨gb270, 6, none⟩ = some (.slice A0_6 l0_6.length c0_6) := (blk_cell BK270.out 6).trans rfl; have hcz35_7 : w3.cell? ⟨gb270, 7, none⟩ = some (.slice A0_7 l0_7.length c0_7) := (blk_cell BK270.out 7).trans rfl; have hcz35_8 : w3.cell? ⟨gb270, 8, none⟩ = some (.int .i64 a0_8) := (blk_cell BK270.out 8).trans rfl; have hcz35_9 : w3.cell? ⟨gb270, 9, none⟩ = some (.int .i64 a0_9) := (blk_cell BK270.out 9).trans rfl; have hcz35_10 : w3.cell? ⟨gb270, 10, none⟩ = some (.int .i64 a0_10) := (blk_cell BK270.out 10).trans rfl; have hfz35_0 := blk_frozen BK270.out 0; have hfz35_1 := blk_frozen BK270.out 1; have hfz35_2 := blk_frozen BK270.out 2; have hfz35_3 := blk_frozen BK270.out 3; have hfz35_4 := blk_frozen BK270.out 4
           have hfz35_5 := blk_frozen BK270.out 5; have hfz35_6 := blk_frozen BK270.out 6; have hfz35_7 := blk_frozen BK270.out 7; have hfz35_8 := blk_frozen BK270.out 8; have hfz35_9 := blk_frozen BK270.out 9; have hfz35_10 := blk_frozen BK270.out 10
           go_wp2_with (first | ((with_reducible refine gate_callee (f := 19) rfl ?_); refine goesL_ (some 10) rfl rfl Try.func19 (by kernel_rfl) rfl #[.agg #[.slice A0_0 l0_0.length c0_0, .slice A0_1 l0_1.length c0_1, .slice A0_2 l0_2.length c0_2, .int .i64 a0_3, .int .i64 a0_4]] rfl zb' ?_; (with_reducible refine (impl_IsFleet.calls k (fun k_ => k_ < w.heap.size) _ _ l0_0 (fun k_ => k_ < w.heap.size) _ _ l0_1 (fun k_ => k_ < w.heap.size) _ _ l0_2 a0_3 a0_4 true _ ?side1 ?side2 ?side3 A4.out).mono ?_); (case side1 => exact zl2'); (case side2 => exact zm2'); (case side3 => exact zn2'); rintro e w36 ⟨rfl, hb⟩; refine ⟨_, rfl, ?_⟩; have n0_ := am (blk_below (g := gb270) (o := o0') zr' hb); have n1_ := am (below_step zd' hb); clear BK270; clear HB; have BK270 := n0_; have HB := n1_; clear n0_ n1_; (try clear hb); (try clear hb2); (try clear hk); (try clear hi); have hcz37_0 : w36.cell? ⟨gb270, 0, none⟩ = some (.slice A0_0 l0_0.length c0_0) := (blk_cell BK270.out 0).trans rfl; have hcz37_1 : w36.cell? ⟨gb270, 1, none⟩ = some (.slice A0_1 l0_1.length c0_1) := (blk_cell BK270.out 1).trans rfl; have hcz37_2 : w36.cell? ⟨gb270, 2, none⟩ = some (.slice A0_2 l0_2.length c0_2) := (blk_cell BK270.out 2).trans rfl; have hcz37_3 : w36.cell? ⟨gb270, 3, none⟩ = some (.int .i64 a0_3) := (blk_cell BK270.out 3).trans rfl; have hcz37_4 : w36.cell? ⟨gb270, 4, none⟩ = some (.int .i64 a0_4) := (blk_cell BK270.out 4).trans rfl; have hcz37_5 : w36.cell? ⟨gb270, 5, none⟩ = some (.slice A0_5 l0_5.length c0_5) := (blk_cell BK270.out 5).trans rfl; have hcz37_6 : w36.cell? ⟨gb270, 6, none⟩ = some (.slice A0_6 l0_6.length c0_6) := (blk_cell BK270.out 6).trans rfl; have hcz37_7 : w36.cell? ⟨gb270, 7, none⟩ = some (.slice A0_7 l0_7.length c0_7) := (blk_cell BK270.out 7).trans rfl; have hcz37_8 : w36.cell? ⟨gb270, 8, none⟩ = some (.int .i64 a0_8) := (blk_cell BK270.out 8).trans rfl; have hcz37_9 : w36.cell? ⟨gb270, 9, none⟩ = some (.int .i64 a0_9) := (blk_cell BK270.out 9).trans rfl; have hcz37_10 : w36.cell? ⟨gb270, 10, none⟩ = some (.int .i64 a0_10) := (blk_cell BK270.out 10).trans rfl; have hfz37_0 := blk_frozen BK270.out 0; have hfz37_1 := blk_frozen BK270.out 1; have hfz37_2 := blk_frozen BK270.out 2; have hfz37_3 := blk_frozen BK270.out 3; have hfz37_4 := blk_frozen BK270.out 4; have hfz37_5 := blk_frozen BK270.out 5; have hfz37_6 := blk_frozen BK270.out 6; have hfz37_7 := blk_frozen BK270.out 7; have hfz37_8 := blk_frozen BK270.out 8; have hfz37_9 := blk_frozen BK270.out 9; have hfz37_10 := blk_frozen BK270.out 10))
           go_meet
           case rel => exact ⟨_, (decide (a0_10 > a0_8)), zj', H', ⟨zt2'⟩, ⟨zr'⟩, ⟨zd'⟩⟩
     ·rw [if_neg c14] at H
      have c14b0 : ((l0_6.length : Int) == (l0_0.length : Int)) = false := beq_eq_false_iff_ne.mpr c14; have c14b1 : ((l0_6.length : Int) != (l0_0.length : Int)) = true := bne_iff_ne.mpr c14
      have c14b2 : (l0_6.length == l0_0.length) = false := by first | simpa using c14 | (simp at c14 ⊢; omega)
      have H' := Aside0.mk H; clear H; have hcz38_0 : w3.cell? ⟨gb270, 0, none⟩ = some (.slice A0_0 l0_0.length c0_0) := (blk_cell BK270.out 0).trans rfl; have hcz38_1 : w3.cell? ⟨gb270, 1, none⟩ = some (.slice A0_1 l0_1.length c0_1) := (blk_cell BK270.out 1).trans rfl; have hcz38_2 : w3.cell? ⟨gb270, 2, none⟩ = some (.slice A0_2 l0_2.length c0_2) := (blk_cell BK270.out 2).trans rfl; have hcz38_3 : w3.cell? ⟨gb270, 3, none⟩ = some (.int .i64 a0_3) := (blk_cell BK270.out 3).trans rfl; have hcz38_4 : w3.cell? ⟨gb270, 4, none⟩ = some (.int .i64 a0_4) := (blk_cell BK270.out 4).trans rfl; have hcz38_5 : w3.cell? ⟨gb270, 5, none⟩ = some (.slice A0_5 l0_5.length c0_5) := (blk_cell BK270.out 5).trans rfl; have hcz38_6 : w3.cell? ⟨gb270, 6, none⟩ = some (.slice A0_6 l0_6.length c0_6) := (blk_cell BK270.out 6).trans rfl; have hcz38_7 : w3.cell? ⟨gb270, 7, none⟩ = some (.slice A0_7 l0_7.length c0_7) := (blk_cell BK270.out 7).trans rfl; have hcz38_8 : w3.cell? ⟨gb270, 8, none⟩ = some (.int .i64 a0_8) := (blk_cell BK270.out 8).trans rfl; have hcz38_9 : w3.cell? ⟨gb270, 9, none⟩ = some (.int .i64 a0_9) := (blk_cell BK270.out 9).trans rfl; have hcz38_10 : w3.cell? ⟨gb270, 10, none⟩ = some (.int .i64 a0_10) := (blk_cell BK270.out 10).trans rfl; have hfz38_0 := blk_frozen BK270.out 0; have hfz38_1 := blk_frozen BK270.out 1; have hfz38_2 := blk_frozen BK270.out 2; have hfz38_3 := blk_frozen BK270.out 3; have hfz38_4 := blk_frozen BK270.out 4; have hfz38_5 := blk_frozen BK270.out 5; have hfz38_6 := blk_frozen BK270.out 6
      have hfz38_7 := blk_frozen BK270.out 7; have hfz38_8 := blk_frozen BK270.out 8; have hfz38_9 := blk_frozen BK270.out 9; have hfz38_10 := blk_frozen BK270.out 10
      go_wp2_with (first | ((with_reducible refine gate_callee (f := 19) rfl ?_); refine goesL_ (some 10) rfl rfl Try.func19 (by kernel_rfl) rfl #[.agg #[.slice A0_0 l0_0.length c0_0, .slice A0_1 l0_1.length c0_1, .slice A0_2 l0_2.length c0_2, .int .i64 a0_3, .int .i64 a0_4]] rfl zb' ?_; (with_reducible refine (impl_IsFleet.calls k (fun k_ => k_ < w.heap.size) _ _ l0_0 (fun k_ => k_ < w.heap.size) _ _ l0_1 (fun k_ => k_ < w.heap.size) _ _ l0_2 a0_3 a0_4 true _ ?side1 ?side2 ?side3 A4.out).mono ?_); (case side1 => exact zl2'); (case side2 => exact zm2'); (case side3 => exact zn2'); rintro e w39 ⟨rfl, hb⟩; refine ⟨_, rfl, ?_⟩; have n0_ := am (blk_below (g := gb270) (o := o0') zr' hb); have n1_ := am (below_step zd' hb); clear BK270; clear HB; have BK270 := n0_; have HB := n1_; clear n0_ n1_; (try clear hb); (try clear hb2); (try clear hk); (try clear hi); have hcz40_0 : w39.cell? ⟨gb270, 0, none⟩ = some (.slice A0_0 l0_0.length c0_0) := (blk_cell BK270.out 0).trans rfl; have hcz40_1 : w39.cell? ⟨gb270, 1, none⟩ = some (.slice A0_1 l0_1.length c0_1) := (blk_cell BK270.out 1).trans rfl; have hcz40_2 : w39.cell? ⟨gb270, 2, none⟩ = some (.slice A0_2 l0_2.length c0_2) := (blk_cell BK270.out 2).trans rfl; have hcz40_3 : w39.cell? ⟨gb270, 3, none⟩ = some (.int .i64 a0_3) := (blk_cell BK270.out 3).trans rfl; have hcz40_4 : w39.cell? ⟨gb270, 4, none⟩ = some (.int .i64 a0_4) := (blk_cell BK270.out 4).trans rfl; have hcz40_5 : w39.cell? ⟨gb270, 5, none⟩ = some (.slice A0_5 l0_5.length c0_5) := (blk_cell BK270.out 5).trans rfl; have hcz40_6 : w39.cell? ⟨gb270, 6, none⟩ = some (.slice A0_6 l0_6.length c0_6) := (blk_cell BK270.out 6).trans rfl; have hcz40_7 : w39.cell? ⟨gb270, 7, none⟩ = some (.slice A0_7 l0_7.length c0_7) := (blk_cell BK270.out 7).trans rfl; have hcz40_8 : w39.cell? ⟨gb270, 8, none⟩ = some (.int .i64 a0_8) := (blk_cell BK270.out 8).trans rfl; have hcz40_9 : w39.cell? ⟨gb270, 9, none⟩ = some (.int .i64 a0_9) := (blk_cell BK270.out 9).trans rfl; have hcz40_10 : w39.cell? ⟨gb270, 10, none⟩ = some (.int .i64 a0_10) := (blk_cell BK270.out 10).trans rfl; have hfz40_0 := blk_frozen BK270.out 0; have hfz40_1 := blk_frozen BK270.out 1; have hfz40_2 := blk_frozen BK270.out 2; have hfz40_3 := blk_frozen BK270.out 3; have hfz40_4 := blk_frozen BK270.out 4; have hfz40_5 := blk_frozen BK270.out 5; have hfz40_6 := blk_frozen BK270.out 6; have hfz40_7 := blk_frozen BK270.out 7; have hfz40_8 := blk_frozen BK270.out 8; have hfz40_9 := blk_frozen BK270.out 9; have hfz40_10 := blk_frozen BK270.out 10))
      go_meet
      case rel => exact ⟨_, (true), zj', H', ⟨zt2'⟩, ⟨zr'⟩, ⟨zd'⟩⟩
  ·replace c5 := Bool.eq_false_iff.mpr c5
   subst c5
   have H1 : (impl_IsYard.j0 k true l0_0 l0_1 l0_2 a0_3 a0_4 l0_5 l0_6 l0_7 a0_8 a0_9 a0_10) = some r := by rw [if_neg (show ¬ (false = true) by decide)] at H; exact H
   clear H; have H := H1; clear H1; have H' := Aside0.mk H; clear H; have hcz41_0 : w3.cell? ⟨gb270, 0, none⟩ = some (.slice A0_0 l0_0.length c0_0) := (blk_cell BK270.out 0).trans rfl; have hcz41_1 : w3.cell? ⟨gb270, 1, none⟩ = some (.slice A0_1 l0_1.length c0_1) := (blk_cell BK270.out 1).trans rfl; have hcz41_2 : w3.cell? ⟨gb270, 2, none⟩ = some (.slice A0_2 l0_2.length c0_2) := (blk_cell BK270.out 2).trans rfl; have hcz41_3 : w3.cell? ⟨gb270, 3, none⟩ = some (.int .i64 a0_3) := (blk_cell BK270.out 3).trans rfl; have hcz41_4 : w3.cell? ⟨gb270, 4, none⟩ = some (.int .i64 a0_4) := (blk_cell BK270.out 4).trans rfl; have hcz41_5 : w3.cell? ⟨gb270, 5, none⟩ = some (.slice A0_5 l0_5.length c0_5) := (blk_cell BK270.out 5).trans rfl; have hcz41_6 : w3.cell? ⟨gb270, 6, none⟩ = some (.slice A0_6 l0_6.length c0_6) := (blk_cell BK270.out 6).trans rfl; have hcz41_7 : w3.cell? ⟨gb270, 7, none⟩ = some (.slice A0_7 l0_7.length c0_7) := (blk_cell BK270.out 7).trans rfl; have hcz41_8 : w3.cell? ⟨gb270, 8, none⟩ = some (.int .i64 a0_8) := (blk_cell BK270.out 8).trans rfl; have hcz41_9 : w3.cell? ⟨gb270, 9, none⟩ = some (.int .i64 a0_9) := (blk_cell BK270.out 9).trans rfl; have hcz41_10 : w3.cell? ⟨gb270, 10, none⟩ = some (.int .i64 a0_10) := (blk_cell BK270.out 10).trans rfl; have hfz41_0 := blk_frozen BK270.out 0; have hfz41_1 := blk_frozen BK270.out 1; have hfz41_2 := blk_frozen BK270.out 2; have hfz41_3 := blk_frozen BK270.out 3; have hfz41_4 := blk_frozen BK270.out 4; have hfz41_5 := blk_frozen BK270.out 5
   have hfz41_6 := blk_frozen BK270.out 6; have hfz41_7 := blk_frozen BK270.out 7; have hfz41_8 := blk_frozen BK270.out 8; have hfz41_9 := blk_frozen BK270.out 9; have hfz41_10 := blk_frozen BK270.out 10
   go_wp2_with (first | ((with_reducible refine gate_callee (f := 19) rfl ?_); refine goesL_ (some 10) rfl rfl Try.func19 (by kernel_rfl) rfl #[.agg #[.slice A0_0 l0_0.length c0_0, .slice A0_1 l0_1.length c0_1, .slice A0_2 l0_2.length c0_2, .int .i64 a0_3, .int .i64 a0_4]] rfl zb' ?_; (with_reducible refine (impl_IsFleet.calls k (fun k_ => k_ < w.heap.size) _ _ l0_0 (fun k_ => k_ < w.heap.size) _ _ l0_1 (fun k_ => k_ < w.heap.size) _ _ l0_2 a0_3 a0_4 false _ ?side1 ?side2 ?side3 A4.out).mono ?_); (case side1 => exact zl2'); (case side2 => exact zm2'); (case side3 => exact zn2'); rintro e w42 ⟨rfl, hb⟩; refine ⟨_, rfl, ?_⟩; have n0_ := am (blk_below (g := gb270) (o := o0') zr' hb); have n1_ := am (below_step zd' hb); clear BK270; clear HB; have BK270 := n0_; have HB := n1_; clear n0_ n1_; (try clear hb); (try clear hb2); (try clear hk); (try clear hi)))
   go_meet
   case rel => exact ⟨_, (true), zj', H', ⟨zt2'⟩, ⟨zr'⟩, ⟨zd'⟩⟩
 case rest =>
  clear HC2
  try clear c1
  try clear c2
  try clear p2
  try clear c3
  try clear c5
  try clear c6
  try clear c6b0
  try clear c6b1
  try clear c10
  try clear c10b0
  try clear c10b1
  try clear c14
  try clear c14b0
  try clear c14b1
  try clear c14b2
  try clear c15
  try clear c15b0
  try clear c19
  try clear c19b0
  try clear c23
  try clear c23b0
  try clear c27
  try clear c27b0
  try clear c28
  try clear c31
  try clear c31b0
  try clear hcz11_0
  try clear hcz11_1
  try clear hcz11_10
  try clear hcz11_2
  try clear hcz11_3
  try clear hcz11_4
  try clear hcz11_5
  try clear hcz11_6
  try clear hcz11_7
  try clear hcz11_8
  try clear hcz11_9
  try clear hcz13_0
  try clear hcz13_1
  try clear hcz13_10
  try clear hcz13_2
  try clear hcz13_3
  try clear hcz13_4
  try clear hcz13_5
  try clear hcz13_6
  try clear hcz13_7
  try clear hcz13_8
  try clear hcz13_9
  try clear hcz16_0
  try clear hcz16_1
  try clear hcz16_10
  try clear hcz16_2
  try clear hcz16_3
  try clear hcz16_4
  try clear hcz16_5
  try clear hcz16_6
  try clear hcz16_7
  try clear hcz16_8
  try clear hcz16_9
  try clear hcz18_0
  try clear hcz18_1
  try clear hcz18_10
  try clear hcz18_2
  try clear hcz18_3
  try clear hcz18_4
  try clear hcz18_5
  try clear hcz18_6
  try clear hcz18_7
  try clear hcz18_8
  try clear hcz18_9
  try clear hcz20_0
  try clear hcz20_1
  try clear hcz20_10
  try clear hcz20_2
  try clear hcz20_3
  try clear hcz20_4
  try clear hcz20_5
  try clear hcz20_6
  try clear hcz20_7
  try clear hcz20_8
  try clear hcz20_9
  try clear hcz22_0
  try clear hcz22_1
  try clear hcz22_10
  try clear hcz22_2
  try clear hcz22_3
  try clear hcz22_4
  try clear hcz22_5
  try clear hcz22_6
  try clear hcz22_7
  try clear hcz22_8
  try clear hcz22_9
  try clear hcz24_0
  try clear hcz24_1
  try clear hcz24_10
  try clear hcz24_2
  try clear hcz24_3
  try clear hcz24_4
  try clear hcz24_5
  try clear hcz24_6
  try clear hcz24_7
  try clear hcz24_8
  try clear hcz24_9
  try clear hcz26_0
  try clear hcz26_1
  try clear hcz26_10
  try clear hcz26_2
  try clear hcz26_3
  try clear hcz26_4
  try clear hcz26_5
  try clear hcz26_6
  try clear hcz26_7
  try clear hcz26_8
  try clear hcz26_9
  try clear hcz28_0
  try clear hcz28_1
  try clear hcz28_10
  try clear hcz28_2
  try clear hcz28_3
  try clear hcz28_4
  try clear hcz28_5
  try clear hcz28_6
  try clear hcz28_7
  try clear hcz28_8
  try clear hcz28_9
  try clear hcz30_0
  try clear hcz30_1
  try clear hcz30_10
  try clear hcz30_2
  try clear hcz30_3
  try clear hcz30_4
  try clear hcz30_5
  try clear hcz30_6
  try clear hcz30_7
  try clear hcz30_8
  try clear hcz30_9
  try clear hcz32_0
  try clear hcz32_1
  try clear hcz32_10
  try clear hcz32_2
  try clear hcz32_3
  try clear hcz32_4
  try clear hcz32_5
  try clear hcz32_6
  try clear hcz32_7
  try clear hcz32_8
  try clear hcz32_9
  try clear hcz34_0
  try clear hcz34_1
  try clear hcz34_10
  try clear hcz34_2
  try clear hcz34_3
  try clear hcz34_4
  try clear hcz34_5
  try clear hcz34_6
  try clear hcz34_7
  try clear hcz34_8
  try clear hcz34_9
  try clear hcz35_0
  try clear hcz35_1
  try clear hcz35_10
  try clear hcz35_2
  try clear hcz35_3
  try clear hcz35_4
  try clear hcz35_5
  try clear hcz35_6
  try clear hcz35_7
  try clear hcz35_8
  try clear hcz35_9
  try clear hcz37_0
  try clear hcz37_1
  try clear hcz37_10
  try clear hcz37_2
  try clear hcz37_3
  try clear hcz37_4
  try clear hcz37_5
  try clear hcz37_6
  try clear hcz37_7
  try clear hcz37_8
  try clear hcz37_9
  try clear hcz38_0
  try clear hcz38_1
  try clear hcz38_10
  try clear hcz38_2
  try clear hcz38_3
  try clear hcz38_4
  try clear hcz38_5
  try clear hcz38_6
  try clear hcz38_7
  try clear hcz38_8
  try clear hcz38_9
  try clear hcz40_0
  try clear hcz40_1
  try clear hcz40_10
  try clear hcz40_2
  try clear hcz40_3
  try clear hcz40_4
  try clear hcz40_5
  try clear hcz40_6
  try clear hcz40_7
  try clear hcz40_8
  try clear hcz40_9
  try clear hcz41_0
  try clear hcz41_1
  try clear hcz41_10
  try clear hcz41_2
  try clear hcz41_3
  try clear hcz41_4
  try clear hcz41_5
  try clear hcz41_6
  try clear hcz41_7
  try clear hcz41_8
  try clear hcz41_9
  try clear hcz7_0
  try clear hcz7_1
  try clear hcz7_10
  try clear hcz7_2
  try clear hcz7_3
  try clear hcz7_4
  try clear hcz7_5
  try clear hcz7_6
  try clear hcz7_7
  try clear hcz7_8
  try clear hcz7_9
  try clear hcz9_0
  try clear hcz9_1
  try clear hcz9_10
  try clear hcz9_2
  try clear hcz9_3
  try clear hcz9_4
  try clear hcz9_5
  try clear hcz9_6
  try clear hcz9_7
  try clear hcz9_8
  try clear hcz9_9
  try clear hfz11_0
  try clear hfz11_1
  try clear hfz11_10
  try clear hfz11_2
  try clear hfz11_3
  try clear hfz11_4
  try clear hfz11_5
  try clear hfz11_6
  try clear hfz11_7
  try clear hfz11_8
  try clear hfz11_9
  try clear hfz13_0
  try clear hfz13_1
  try clear hfz13_10
  try clear hfz13_2
  try clear hfz13_3
  try clear hfz13_4
  try clear hfz13_5
  try clear hfz13_6
  try clear hfz13_7
  try clear hfz13_8
  try clear hfz13_9
  try clear hfz16_0
  try clear hfz16_1
  try clear hfz16_10
  try clear hfz16_2
  try clear hfz16_3
  try clear hfz16_4
  try clear hfz16_5
  try clear hfz16_6
  try clear hfz16_7
  try clear hfz16_8
  try clear hfz16_9
  try clear hfz18_0
  try clear hfz18_1
  try clear hfz18_10
  try clear hfz18_2
  try clear hfz18_3
  try clear hfz18_4
  try clear hfz18_5
  try clear hfz18_6
  try clear hfz18_7
  try clear hfz18_8
  try clear hfz18_9
  try clear hfz20_0
  try clear hfz20_1
  try clear hfz20_10
  try clear hfz20_2
  try clear hfz20_3
  try clear hfz20_4
  try clear hfz20_5
  try clear hfz20_6
  try clear hfz20_7
  try clear hfz20_8
  try clear hfz20_9
  try clear hfz22_0
  try clear hfz22_1
  try clear hfz22_10
  try clear hfz22_2
  try clear hfz22_3
  try clear hfz22_4
  try clear hfz22_5
  try clear hfz22_6
  try clear hfz22_7
  try clear hfz22_8
  try clear hfz22_9
  try clear hfz24_0
  try clear hfz24_1
  try clear hfz24_10
  try clear hfz24_2
  try clear hfz24_3
  try clear hfz24_4
  try clear hfz24_5
  try clear hfz24_6
  try clear hfz24_7
  try clear hfz24_8
  try clear hfz24_9
  try clear hfz26_0
  try clear hfz26_1
  try clear hfz26_10
  try clear hfz26_2
  try clear hfz26_3
  try clear hfz26_4
  try clear hfz26_5
  try clear hfz26_6
  try clear hfz26_7
  try clear hfz26_8
  try clear hfz26_9
  try clear hfz28_0
  try clear hfz28_1
  try clear hfz28_10
  try clear hfz28_2
  try clear hfz28_3
  try clear hfz28_4
  try clear hfz28_5
  try clear hfz28_6
  try clear hfz28_7
  try clear hfz28_8
  try clear hfz28_9
  try clear hfz30_0
  try clear hfz30_1
  try clear hfz30_10
  try clear hfz30_2
  try clear hfz30_3
  try clear hfz30_4
  try clear hfz30_5
  try clear hfz30_6
  try clear hfz30_7
  try clear hfz30_8
  try clear hfz30_9
  try clear hfz32_0
  try clear hfz32_1
  try clear hfz32_10
  try clear hfz32_2
  try clear hfz32_3
  try clear hfz32_4
  try clear hfz32_5
  try clear hfz32_6
  try clear hfz32_7
  try clear hfz32_8
  try clear hfz32_9
  try clear hfz34_0
  try clear hfz34_1
  try clear hfz34_10
  try clear hfz34_2
  try clear hfz34_3
  try clear hfz34_4
  try clear hfz34_5
  try clear hfz34_6
  try clear hfz34_7
  try clear hfz34_8
  try clear hfz34_9
  try clear hfz35_0
  try clear hfz35_1
  try clear hfz35_10
  try clear hfz35_2
  try clear hfz35_3
  try clear hfz35_4
  try clear hfz35_5
  try clear hfz35_6
  try clear hfz35_7
  try clear hfz35_8
  try clear hfz35_9
  try clear hfz37_0
  try clear hfz37_1
  try clear hfz37_10
  try clear hfz37_2
  try clear hfz37_3
  try clear hfz37_4
  try clear hfz37_5
  try clear hfz37_6
  try clear hfz37_7
  try clear hfz37_8
  try clear hfz37_9
  try clear hfz38_0
  try clear hfz38_1
  try clear hfz38_10
  try clear hfz38_2
  try clear hfz38_3
  try clear hfz38_4
  try clear hfz38_5
  try clear hfz38_6
  try clear hfz38_7
  try clear hfz38_8
  try clear hfz38_9
  try clear hfz40_0
  try clear hfz40_1
  try clear hfz40_10
  try clear hfz40_2
  try clear hfz40_3
  try clear hfz40_4
  try clear hfz40_5
  try clear hfz40_6
  try clear hfz40_7
  try clear hfz40_8
  try clear hfz40_9
  try clear hfz41_0
  try clear hfz41_1
  try clear hfz41_10
  try clear hfz41_2
  try clear hfz41_3
  try clear hfz41_4
  try clear hfz41_5
  try clear hfz41_6
  try clear hfz41_7
  try clear hfz41_8
  try clear hfz41_9
  try clear hfz7_0
  try clear hfz7_1
  try clear hfz7_10
  try clear hfz7_2
  try clear hfz7_3
  try clear hfz7_4
  try clear hfz7_5
  try clear hfz7_6
  try clear hfz7_7
  try clear hfz7_8
  try clear hfz7_9
  try clear hfz9_0
  try clear hfz9_1
  try clear hfz9_10
  try clear hfz9_2
  try clear hfz9_3
  try clear hfz9_4
  try clear hfz9_5
  try clear hfz9_6
  try clear hfz9_7
  try clear hfz9_8
  try clear hfz9_9
  obtain ⟨kq, x65_1, rfl, HA, HJ1, BK270, HB⟩ := hcut
  cases kq with
  | zero => exact absurd HA.out (by simp [impl_IsYard.j0])
  | succ kj1 =>
   have H := HA.out; clear HA; simp only [impl_IsYard.j0] at H
   by_cases c43 : x65_1 = true
   ·subst c43
    have H1 : (some false) = some r := by rw [if_pos rfl] at H; exact H
    clear H; have H := H1; clear H1; obtain rfl := Option.some.inj H
    go_wp2
    go_ret
    exact ⟨by first | rfl | (simp [errW_none, errW_some] <;> rfl) | (simp [*, errW_none, errW_some] <;> rfl), by repeat (first | (with_reducible first | exact HB.out | apply ba | apply bn | apply below_drew1 | refine below_set ?_ GE270.out) | exact HB.out)⟩
   ·replace c43 := Bool.eq_false_iff.mpr c43
    subst c43
    have H1 : (if 0 ≤ (l0_6.length : Int) then (if ((l0_6.length : Int) : Int).toNat ≤ 35184372088832 then (impl_IsYard.l0 kj1 (List.replicate ((l0_6.length : Int) : Int).toNat 0) 0 l0_5 (l0_5.length : Int) 0 l0_0 l0_1 l0_2 a0_3 a0_4 l0_5 l0_6 l0_7 a0_8 a0_9 a0_10) else (none)) else (none)) = some r := by rw [if_neg (show ¬ (false = true) by decide)] at H; exact H
    clear H; have H := H1; clear H1
    by_cases c44 : 0 ≤ (l0_6.length : Int)
    ·rw [if_pos c44] at H
     have c44b0 := eq_true c44; have c44b1 : decide (0 ≤ (l0_6.length : Int)) = true := decide_eq_true c44; clear c44
     by_cases c45 : ((l0_6.length : Int) : Int).toNat ≤ 35184372088832
     ·rw [if_pos c45] at H
      have c45b0 := eq_true c45; have c45b1 : decide (((l0_6.length : Int) : Int).toNat ≤ 35184372088832) = true := decide_eq_true c45; clear c45
      obtain ⟨y272, hy272⟩ : ∃ y_ : List Int, y_ = (List.replicate ((l0_6.length : Int) : Int).toNat 0) := ⟨_, rfl⟩
      replace H : (impl_IsYard.l0 kj1 y272 0 l0_5 (l0_5.length : Int) 0 l0_0 l0_1 l0_2 a0_3 a0_4 l0_5 l0_6 l0_7 a0_8 a0_9 a0_10) = some r := by first | (rw [hy272]; with_reducible exact H) | (have H2_ := (Option.bind_some _ _).symm.trans H; rw [hy272]; with_reducible exact H2_) | (have H2_ := (Option.bind_some _ _).symm.trans H; with_reducible exact H2_) | with_reducible exact H | (rw [hy272]; exact H) | exact H
      have Ny272 := Aside0.mk hy272; clear hy272; have H' := Aside0.mk H; clear H; have hcz46_0 : wc.cell? ⟨gb270, 0, none⟩ = some (.slice A0_0 l0_0.length c0_0) := (blk_cell BK270.out 0).trans rfl; have hcz46_1 : wc.cell? ⟨gb270, 1, none⟩ = some (.slice A0_1 l0_1.length c0_1) := (blk_cell BK270.out 1).trans rfl; have hcz46_2 : wc.cell? ⟨gb270, 2, none⟩ = some (.slice A0_2 l0_2.length c0_2) := (blk_cell BK270.out 2).trans rfl; have hcz46_3 : wc.cell? ⟨gb270, 3, none⟩ = some (.int .i64 a0_3) := (blk_cell BK270.out 3).trans rfl; have hcz46_4 : wc.cell? ⟨gb270, 4, none⟩ = some (.int .i64 a0_4) := (blk_cell BK270.out 4).trans rfl; have hcz46_5 : wc.cell? ⟨gb270, 5, none⟩ = some (.slice A0_5 l0_5.length c0_5) := (blk_cell BK270.out 5).trans rfl; have hcz46_6 : wc.cell? ⟨gb270, 6, none⟩ = some (.slice A0_6 l0_6.length c0_6) := (blk_cell BK270.out 6).trans rfl; have hcz46_7 : wc.cell? ⟨gb270, 7, none⟩ = some (.slice A0_7 l0_7.length c0_7) := (blk_cell BK270.out 7).trans rfl; have hcz46_8 : wc.cell? ⟨gb270, 8, none⟩ = some (.int .i64 a0_8) := (blk_cell BK270.out 8).trans rfl; have hcz46_9 : wc.cell? ⟨gb270, 9, none⟩ = some (.int .i64 a0_9) := (blk_cell BK270.out 9).trans rfl; have hcz46_10 : wc.cell? ⟨gb270, 10, none⟩ = some (.int .i64 a0_10) := (blk_cell BK270.out 10).trans rfl; have hfz46_0 := blk_frozen BK270.out 0; have hfz46_1 := blk_frozen BK270.out 1; have hfz46_2 := blk_frozen BK270.out 2; have hfz46_3 := blk_frozen BK270.out 3; have hfz46_4 := blk_frozen BK270.out 4; have hfz46_5 := blk_frozen BK270.out 5
      have hfz46_6 := blk_frozen BK270.out 6; have hfz46_7 := blk_frozen BK270.out 7; have hfz46_8 := blk_frozen BK270.out 8; have hfz46_9 := blk_frozen BK270.out 9; have hfz46_10 := blk_frozen BK270.out 10
      go_wp2_with (first | ((with_reducible refine gate_dst (N := 69) rfl ?_); (try (refine gate_guard (by rfl) ?_; dsimp only)); refine Kd.R_make (Kd.int .i64) _ 3 rfl (N := 69) rfl 22 _ _ rfl (l0_6.length : Int) rfl rfl Try.underlying22 (.int .i64 0) 8 info3 rfl (by decide) (by omega) 0 (ok := fun _ => True) (okp := fun _ => True) rfl (fun _ hk => hk) trivial odt (Nat.le_trans (Nat.mul_le_mul_right _ (odt : (l0_6.length : Int).toNat ≤ 35184372088832)) (by omega)) (Below.refl _ _) (Nat.le_refl _) ?_; intro v273 w47 ho48 hb hg_ hnew_; clear hg_ hnew_; (first | rw [← Ny272.out] at ho48 | (simp only [Int.reduceToNat] at ho48; rw [← Ny272.out] at ho48)); have n0_ := am (Kd.R_lower ho48 (below_size zd')); have n1_ := am (blk_below (g := gb270) (o := o0') zr' hb); have n2_ := am (below_step zd' hb); clear BK270; clear HB; have HO274 := n0_; have BK270 := n1_; have HB := n2_; clear n0_ n1_ n2_; clear hb ho48; have hcz49_0 : w47.cell? ⟨gb270, 0, none⟩ = some (.slice A0_0 l0_0.length c0_0) := (blk_cell BK270.out 0).trans rfl; have hcz49_1 : w47.cell? ⟨gb270, 1, none⟩ = some (.slice A0_1 l0_1.length c0_1) := (blk_cell BK270.out 1).trans rfl; have hcz49_2 : w47.cell? ⟨gb270, 2, none⟩ = some (.slice A0_2 l0_2.length c0_2) := (blk_cell BK270.out 2).trans rfl; have hcz49_3 : w47.cell? ⟨gb270, 3, none⟩ = some (.int .i64 a0_3) := (blk_cell BK270.out 3).trans rfl; have hcz49_4 : w47.cell? ⟨gb270, 4, none⟩ = some (.int .i64 a0_4) := (blk_cell BK270.out 4).trans rfl; have hcz49_5 : w47.cell? ⟨gb270, 5, none⟩ = some (.slice A0_5 l0_5.length c0_5) := (blk_cell BK270.out 5).trans rfl; have hcz49_6 : w47.cell? ⟨gb270, 6, none⟩ = some (.slice A0_6 l0_6.length c0_6) := (blk_cell BK270.out 6).trans rfl; have hcz49_7 : w47.cell? ⟨gb270, 7, none⟩ = some (.slice A0_7 l0_7.length c0_7) := (blk_cell BK270.out 7).trans rfl; have hcz49_8 : w47.cell? ⟨gb270, 8, none⟩ = some (.int .i64 a0_8) := (blk_cell BK270.out 8).trans rfl; have hcz49_9 : w47.cell? ⟨gb270, 9, none⟩ = some (.int .i64 a0_9) := (blk_cell BK270.out 9).trans rfl; have hcz49_10 : w47.cell? ⟨gb270, 10, none⟩ = some (.int .i64 a0_10) := (blk_cell BK270.out 10).trans rfl; have hfz49_0 := blk_frozen BK270.out 0; have hfz49_1 := blk_frozen BK270.out 1; have hfz49_2 := blk_frozen BK270.out 2; have hfz49_3 := blk_frozen BK270.out 3; have hfz49_4 := blk_frozen BK270.out 4; have hfz49_5 := blk_frozen BK270.out 5; have hfz49_6 := blk_frozen BK270.out 6; have hfz49_7 := blk_frozen BK270.out 7; have hfz49_8 := blk_frozen BK270.out 8; have hfz49_9 := blk_frozen BK270.out 9; have hfz49_10 := blk_frozen BK270.out 10))
      go_loopg [4, 73] kj1 (fun kq v4 v73 w' => ∃ (x3_2 : List Int) (x4_2 : Int) (x73_2 : Int), v4 = .int .i64 x4_2 ∧ v73 = .int .i64 x73_2 ∧ Aside0 (impl_IsYard.l0 kq x3_2 x4_2 l0_5 (l0_5.length : Int) x73_2 l0_0 l0_1 l0_2 a0_3 a0_4 l0_5 l0_6 l0_7 a0_8 a0_9 a0_10 = some r) ∧ Aside0 (kq ≤ kj1) ∧ Aside0 (Kd.R (Kd.int .i64) 3 w' w.heap.size (fun _ => True) v273 x3_2) ∧ Aside0 (w'.heap[gb270]? = some (.cells #[(.slice A0_0 l0_0.length c0_0), (.slice A0_1 l0_1.length c0_1), (.slice A0_2 l0_2.length c0_2), .int .i64 a0_3, .int .i64 a0_4, (.slice A0_5 l0_5.length c0_5), (.slice A0_6 l0_6.length c0_6), (.slice A0_7 l0_7.length c0_7), .int .i64 a0_8, .int .i64 a0_9, .int .i64 a0_10] 44 (0, 0))) ∧ Aside0 (Below w.heap.size w w'))
      case atStart => exact ⟨(y272), (0), (0), zj', zj', H', ⟨Nat.le_refl _⟩, ⟨by (with_reducible repeat (first | apply Kd.R_alloc | apply Kd.R_drewN | apply Kd.R_drew)); exact HO274.out⟩, ⟨zr'⟩, ⟨zd'⟩⟩
      case round =>
       clear H'; (try clear c1); (try clear c2); (try clear p2); (try clear c3); (try clear c4); (try clear c5); (try clear c6); (try clear c6b0); (try clear c6b1); (try clear c10); (try clear c10b0); (try clear c10b1); (try clear c14); (try clear c14b0); (try clear c14b1); (try clear c14b2); (try clear c15); (try clear c15b0); (try clear c19); (try clear c19b0); (try clear c23); (try clear c23b0); (try clear c27); (try clear c27b0); (try clear c28); (try clear c31); (try clear c31b0); (try clear c43); (try clear c44); (try clear c44b0); (try clear c44b1); (try clear c45); (try clear c45b0); (try clear c45b1); (try clear hcz11_0); (try clear hcz11_1); (try clear hcz11_10); (try clear hcz11_2); (try clear hcz11_3); (try clear hcz11_4); (try clear hcz11_5); (try clear hcz11_6); (try clear hcz11_7); (try clear hcz11_8); (try clear hcz11_9); (try clear hcz13_0); (try clear hcz13_1); (try clear hcz13_10); (try clear hcz13_2); (try clear hcz13_3); (try clear hcz13_4); (try clear hcz13_5); (try clear hcz13_6); (try clear hcz13_7); (try clear hcz13_8); (try clear hcz13_9); (try clear hcz16_0); (try clear hcz16_1); (try clear hcz16_10); (try clear hcz16_2); (try clear hcz16_3); (try clear hcz16_4); (try clear hcz16_5); (try clear hcz16_6); (try clear hcz16_7); (try clear hcz16_8); (try clear hcz16_9); (try clear hcz18_0); (try clear hcz18_1); (try clear hcz18_10); (try clear hcz18_2); (try clear hcz18_3); (try clear hcz18_4); (try clear hcz18_5); (try clear hcz18_6); (try clear hcz18_7); (try clear hcz18_8)
       (try clear hcz18_9); (try clear hcz20_0); (try clear hcz20_1); (try clear hcz20_10); (try clear hcz20_2); (try clear hcz20_3); (try clear hcz20_4); (try clear hcz20_5); (try clear hcz20_6); (try clear hcz20_7); (try clear hcz20_8); (try clear hcz20_9); (try clear hcz22_0); (try clear hcz22_1); (try clear hcz22_10); (try clear hcz22_2); (try clear hcz22_3); (try clear hcz22_4); (try clear hcz22_5); (try clear hcz22_6); (try clear hcz22_7); (try clear hcz22_8); (try clear hcz22_9); (try clear hcz24_0); (try clear hcz24_1); (try clear hcz24_10); (try clear hcz24_2); (try clear hcz24_3); (try clear hcz24_4); (try clear hcz24_5); (try clear hcz24_6); (try clear hcz24_7); (try clear hcz24_8); (try clear hcz24_9); (try clear hcz26_0); (try clear hcz26_1); (try clear hcz26_10); (try clear hcz26_2); (try clear hcz26_3); (try clear hcz26_4); (try clear hcz26_5); (try clear hcz26_6); (try clear hcz26_7); (try clear hcz26_8); (try clear hcz26_9); (try clear hcz28_0); (try clear hcz28_1); (try clear hcz28_10); (try clear hcz28_2); (try clear hcz28_3); (try clear hcz28_4); (try clear hcz28_5); (try clear hcz28_6); (try clear hcz28_7); (try clear hcz28_8); (try clear hcz28_9); (try clear hcz30_0); (try clear hcz30_1); (try clear hcz30_10); (try clear hcz30_2); (try clear hcz30_3); (try clear hcz30_4); (try clear hcz30_5); (try clear hcz30_6); (try clear hcz30_7); (try clear hcz30_8); (try clear hcz30_9); (try clear hcz32_0); (try clear hcz32_1); (try clear hcz32_10); (try clear hcz32_2); (try clear hcz32_3)
       (try clear hcz32_4); (try clear hcz32_5); (try clear hcz32_6); (try clear hcz32_7); (try clear hcz32_8); (try clear hcz32_9); (try clear hcz34_0); (try clear hcz34_1); (try clear hcz34_10); (try clear hcz34_2); (try clear hcz34_3); (try clear hcz34_4); (try clear hcz34_5); (try clear hcz34_6); (try clear hcz34_7); (try clear hcz34_8); (try clear hcz34_9); (try clear hcz35_0); (try clear hcz35_1); (try clear hcz35_10); (try clear hcz35_2); (try clear hcz35_3); (try clear hcz35_4); (try clear hcz35_5); (try clear hcz35_6); (try clear hcz35_7); (try clear hcz35_8); (try clear hcz35_9); (try clear hcz37_0); (try clear hcz37_1); (try clear hcz37_10); (try clear hcz37_2); (try clear hcz37_3); (try clear hcz37_4); (try clear hcz37_5); (try clear hcz37_6); (try clear hcz37_7); (try clear hcz37_8); (try clear hcz37_9); (try clear hcz38_0); (try clear hcz38_1); (try clear hcz38_10); (try clear hcz38_2); (try clear hcz38_3); (try clear hcz38_4); (try clear hcz38_5); (try clear hcz38_6); (try clear hcz38_7); (try clear hcz38_8); (try clear hcz38_9); (try clear hcz40_0); (try clear hcz40_1); (try clear hcz40_10); (try clear hcz40_2); (try clear hcz40_3); (try clear hcz40_4); (try clear hcz40_5); (try clear hcz40_6); (try clear hcz40_7); (try clear hcz40_8); (try clear hcz40_9); (try clear hcz41_0); (try clear hcz41_1); (try clear hcz41_10); (try clear hcz41_2); (try clear hcz41_3); (try clear hcz41_4); (try clear hcz41_5); (try clear hcz41_6); (try clear hcz41_7); (try clear hcz41_8); (try clear hcz41_9)
       (try clear hcz46_0); (try clear hcz46_1); (try clear hcz46_10); (try clear hcz46_2); (try clear hcz46_3); (try clear hcz46_4); (try clear hcz46_5); (try clear hcz46_6); (try clear hcz46_7); (try clear hcz46_8); (try clear hcz46_9); (try clear hcz49_0); (try clear hcz49_1); (try clear hcz49_10); (try clear hcz49_2); (try clear hcz49_3); (try clear hcz49_4); (try clear hcz49_5); (try clear hcz49_6); (try clear hcz49_7); (try clear hcz49_8); (try clear hcz49_9); (try clear hcz7_0); (try clear hcz7_1); (try clear hcz7_10); (try clear hcz7_2); (try clear hcz7_3); (try clear hcz7_4); (try clear hcz7_5); (try clear hcz7_6); (try clear hcz7_7); (try clear hcz7_8); (try clear hcz7_9); (try clear hcz9_0); (try clear hcz9_1); (try clear hcz9_10); (try clear hcz9_2); (try clear hcz9_3); (try clear hcz9_4); (try clear hcz9_5); (try clear hcz9_6); (try clear hcz9_7); (try clear hcz9_8); (try clear hcz9_9); (try clear hfz11_0); (try clear hfz11_1); (try clear hfz11_10); (try clear hfz11_2); (try clear hfz11_3); (try clear hfz11_4); (try clear hfz11_5); (try clear hfz11_6); (try clear hfz11_7); (try clear hfz11_8); (try clear hfz11_9); (try clear hfz13_0); (try clear hfz13_1); (try clear hfz13_10); (try clear hfz13_2); (try clear hfz13_3); (try clear hfz13_4); (try clear hfz13_5); (try clear hfz13_6); (try clear hfz13_7); (try clear hfz13_8); (try clear hfz13_9); (try clear hfz16_0); (try clear hfz16_1); (try clear hfz16_10); (try clear hfz16_2); (try clear hfz16_3); (try clear hfz16_4); (try clear hfz16_5)
       (try clear hfz16_6); (try clear hfz16_7); (try clear hfz16_8); (try clear hfz16_9); (try clear hfz18_0); (try clear hfz18_1); (try clear hfz18_10); (try clear hfz18_2); (try clear hfz18_3); (try clear hfz18_4); (try clear hfz18_5); (try clear hfz18_6); (try clear hfz18_7); (try clear hfz18_8); (try clear hfz18_9); (try clear hfz20_0); (try clear hfz20_1); (try clear hfz20_10); (try clear hfz20_2); (try clear hfz20_3); (try clear hfz20_4); (try clear hfz20_5); (try clear hfz20_6); (try clear hfz20_7); (try clear hfz20_8); (try clear hfz20_9); (try clear hfz22_0); (try clear hfz22_1); (try clear hfz22_10); (try clear hfz22_2); (try clear hfz22_3); (try clear hfz22_4); (try clear hfz22_5); (try clear hfz22_6); (try clear hfz22_7); (try clear hfz22_8); (try clear hfz22_9); (try clear hfz24_0); (try clear hfz24_1); (try clear hfz24_10); (try clear hfz24_2); (try clear hfz24_3); (try clear hfz24_4); (try clear hfz24_5); (try clear hfz24_6); (try clear hfz24_7); (try clear hfz24_8); (try clear hfz24_9); (try clear hfz26_0); (try clear hfz26_1); (try clear hfz26_10); (try clear hfz26_2); (try clear hfz26_3); (try clear hfz26_4); (try clear hfz26_5); (try clear hfz26_6); (try clear hfz26_7); (try clear hfz26_8); (try clear hfz26_9); (try clear hfz28_0); (try clear hfz28_1); (try clear hfz28_10); (try clear hfz28_2); (try clear hfz28_3); (try clear hfz28_4); (try clear hfz28_5); (try clear hfz28_6); (try clear hfz28_7); (try clear hfz28_8); (try clear hfz28_9); (try clear hfz30_0); (try clear hfz30_1)
       (try clear hfz30_10); (try clear hfz30_2); (try clear hfz30_3); (try clear hfz30_4); (try clear hfz30_5); (try clear hfz30_6); (try clear hfz30_7); (try clear hfz30_8); (try clear hfz30_9); (try clear hfz32_0); (try clear hfz32_1); (try clear hfz32_10); (try clear hfz32_2); (try clear hfz32_3); (try clear hfz32_4); (try clear hfz32_5); (try clear hfz32_6); (try clear hfz32_7); (try clear hfz32_8); (try clear hfz32_9); (try clear hfz34_0); (try clear hfz34_1); (try clear hfz34_10); (try clear hfz34_2); (try clear hfz34_3); (try clear hfz34_4); (try clear hfz34_5); (try clear hfz34_6); (try clear hfz34_7); (try clear hfz34_8); (try clear hfz34_9); (try clear hfz35_0); (try clear hfz35_1); (try clear hfz35_10); (try clear hfz35_2); (try clear hfz35_3); (try clear hfz35_4); (try clear hfz35_5); (try clear hfz35_6); (try clear hfz35_7); (try clear hfz35_8); (try clear hfz35_9); (try clear hfz37_0); (try clear hfz37_1); (try clear hfz37_10); (try clear hfz37_2); (try clear hfz37_3); (try clear hfz37_4); (try clear hfz37_5); (try clear hfz37_6); (try clear hfz37_7); (try clear hfz37_8); (try clear hfz37_9); (try clear hfz38_0); (try clear hfz38_1); (try clear hfz38_10); (try clear hfz38_2); (try clear hfz38_3); (try clear hfz38_4); (try clear hfz38_5); (try clear hfz38_6); (try clear hfz38_7); (try clear hfz38_8); (try clear hfz38_9); (try clear hfz40_0); (try clear hfz40_1); (try clear hfz40_10); (try clear hfz40_2); (try clear hfz40_3); (try clear hfz40_4); (try clear hfz40_5); (try clear hfz40_6)
       (try clear hfz40_7); (try clear hfz40_8); (try clear hfz40_9); (try clear hfz41_0); (try clear hfz41_1); (try clear hfz41_10); (try clear hfz41_2); (try clear hfz41_3); (try clear hfz41_4); (try clear hfz41_5); (try clear hfz41_6); (try clear hfz41_7); (try clear hfz41_8); (try clear hfz41_9); (try clear hfz46_0); (try clear hfz46_1); (try clear hfz46_10); (try clear hfz46_2); (try clear hfz46_3); (try clear hfz46_4); (try clear hfz46_5); (try clear hfz46_6); (try clear hfz46_7); (try clear hfz46_8); (try clear hfz46_9); (try clear hfz49_0); (try clear hfz49_1); (try clear hfz49_10); (try clear hfz49_2); (try clear hfz49_3); (try clear hfz49_4); (try clear hfz49_5); (try clear hfz49_6); (try clear hfz49_7); (try clear hfz49_8); (try clear hfz49_9); (try clear hfz7_0); (try clear hfz7_1); (try clear hfz7_10); (try clear hfz7_2); (try clear hfz7_3); (try clear hfz7_4); (try clear hfz7_5); (try clear hfz7_6); (try clear hfz7_7); (try clear hfz7_8); (try clear hfz7_9); (try clear hfz9_0); (try clear hfz9_1); (try clear hfz9_10); (try clear hfz9_2); (try clear hfz9_3); (try clear hfz9_4); (try clear hfz9_5); (try clear hfz9_6); (try clear hfz9_7); (try clear hfz9_8); (try clear hfz9_9); (try clear p2); obtain ⟨x3_2, x4_2, x73_2, rfl, rfl, HA, HK2, HO_3, BK270, HB⟩ := hrel
       cases gk with
       | zero => exact absurd HA.out (by simp [impl_IsYard.l0])
       | succ k2 =>
        have H := HA.out; clear HA; simp only [impl_IsYard.l0] at H
        by_cases c50 : x73_2 < (l0_5.length : Int)
        ·rw [if_pos c50] at H
         have c50b0 : decide (x73_2 < (l0_5.length : Int)) = true := decide_eq_true c50; clear c50
         by_cases c51 : 0 ≤ x73_2
         ·rw [if_pos c51] at H
          have c51b0 : decide (0 ≤ x73_2) = true := decide_eq_true c51; clear c51
          by_cases c52 : x73_2 < (l0_5.length : Int)
          ·rw [if_pos c52] at H
           have c52b0 : decide (x73_2 < (l0_5.length : Int)) = true := decide_eq_true c52; clear c52; have HC53 := Aside0.mk H; clear H; have p277 : 0 ≤ (x73_2 : Int) := odt; have q277 : x73_2 < (l0_5.length : Int) := odt; obtain ⟨ad277, e277, hx277_0, hx277_1, hx277_2⟩ := at_T80 HR0_5.out x73_2 p277 q277; cases e277
           try replace hx277_0 := (HB.out.cell (World.block_lt_of_cell? w _ hx277_0)).trans hx277_0
           try replace hx277_1 := (HB.out.cell (World.block_lt_of_cell? w _ hx277_1)).trans hx277_1
           try replace hx277_2 := (HB.out.cell (World.block_lt_of_cell? w _ hx277_2)).trans hx277_2
           replace p277 := eq_true p277; replace q277 := eq_true q277
           go_upto_region 8 with (first | ((with_reducible refine gate_dst (N := 6) rfl ?_); (try (refine gate_guard (by rfl) ?_; dsimp only)); refine box_event ?hg (N := 6) ?hd (cs := #[.int .i64 0, .int .i64 0, .int .i64 0]) (t := 80) ?hr ?_; (case hd => rfl); (case hg => rfl); (case hr => exact zl'); intro gb278 hg w54 hbox hb; have n0_ := am (Kd.R_below zh' hb); have n1_ := am (blk_below (g := gb270) (o := o6') zr' hb); have n2_ := am (below_step zd' hb); have n3_ := am (hbox); have n4_ := am ((by rw [hg]; exact (below_size zd') : w.heap.size ≤ gb278)); have n5_ := am ((by rw [hg]; exact (below_size zd') : w.heap.size ≤ gb278)); have n6_ := am ((by rw [hg]; exact Nat.ne_of_lt (blk_lt (g := gb270) (o := o6') zr') : gb270 ≠ gb278)); have n7_ := am ((by rw [hg]; exact Nat.ne_of_gt (blk_lt (g := gb270) (o := o6') zr') : gb278 ≠ gb270)); clear HO_3; clear BK270; clear HB; have HO_3 := n0_; have BK270 := n1_; have HB := n2_; have BK278 := n3_; have GW278 := n4_; have GE278 := n5_; have NB270_278 := n6_; have NB278_270 := n7_; clear n0_ n1_ n2_ n3_ n4_ n5_ n6_ n7_; clear hb hbox hg; have hnb55 := NB278_270.out; have hnc55 := NB270_278.out; have hcz56_0 : w54.cell? ⟨gb278, 0, none⟩ = some (.int .i64 0) := (blk_cell BK278.out 0).trans rfl; have hcz56_1 : w54.cell? ⟨gb278, 1, none⟩ = some (.int .i64 0) := (blk_cell BK278.out 1).trans rfl; have hcz56_2 : w54.cell? ⟨gb278, 2, none⟩ = some (.int .i64 0) := (blk_cell BK278.out 2).trans rfl; have hfz56_0 := blk_frozen BK278.out 0; have hfz56_1 := blk_frozen BK278.out 1; have hfz56_2 := blk_frozen BK278.out 2))
           (try simp only [Act.put, s1, s2, s3])
           go_cut [97] (fun v97 wc => ∃ (kq : Nat) (x97_52 : Bool), v97 = .bool x97_52 ∧ Aside0 (impl_IsYard.j2 kq x3_2 x4_2 l0_5 (l0_5.length : Int) x73_2 x97_52 l0_0 l0_1 l0_2 a0_3 a0_4 l0_5 l0_6 l0_7 a0_8 a0_9 a0_10 ((rd_T80 l0_5 x73_2).f0) ((rd_T80 l0_5 x73_2).f1) ((rd_T80 l0_5 x73_2).f2) = some r) ∧ Aside0 (kq ≤ k2) ∧ Aside0 (Kd.R (Kd.int .i64) 3 wc w.heap.size (fun _ => True) v273 x3_2) ∧ Aside0 (wc.heap[gb270]? = some (.cells #[(.slice A0_0 l0_0.length c0_0), (.slice A0_1 l0_1.length c0_1), (.slice A0_2 l0_2.length c0_2), .int .i64 a0_3, .int .i64 a0_4, (.slice (some ad277) l0_5.length c0_5), (.slice A0_6 l0_6.length c0_6), (.slice A0_7 l0_7.length c0_7), .int .i64 a0_8, .int .i64 a0_9, .int .i64 a0_10] 44 (0, 0))) ∧ Aside0 (wc.heap[gb278]? = some (.cells #[.int .i64 ((rd_T80 l0_5 x73_2).f0), .int .i64 ((rd_T80 l0_5 x73_2).f1), .int .i64 ((rd_T80 l0_5 x73_2).f2)] 80 (0, 0))) ∧ Aside0 (Below w.heap.size w wc))
           case first =>
            have H := HC53.out; clear HC53
            by_cases c57 : ((rd_T80 l0_5 x73_2).f0) < 0
            ·rw [if_pos c57] at H
             have c57b0 : decide (((rd_T80 l0_5 x73_2).f0) < 0) = true := decide_eq_true c57; clear c57
             (first | rw [c57b0] | (simp only [i64_w, i32_w]; rw [c57b0]) | skip)
             have H' := Aside0.mk H; clear H; have hnb58 := NB278_270.out; have hnc58 := NB270_278.out; have hcz59_0 : w54.cell? ⟨gb278, 0, none⟩ = some (.int .i64 0) := (blk_cell BK278.out 0).trans rfl; have hcz59_1 : w54.cell? ⟨gb278, 1, none⟩ = some (.int .i64 0) := (blk_cell BK278.out 1).trans rfl; have hcz59_2 : w54.cell? ⟨gb278, 2, none⟩ = some (.int .i64 0) := (blk_cell BK278.out 2).trans rfl; have hfz59_0 := blk_frozen BK278.out 0; have hfz59_1 := blk_frozen BK278.out 1; have hfz59_2 := blk_frozen BK278.out 2
             go_wp2
             go_meet
             case rel => exact ⟨_, (true), zj', H', ⟨zq4'⟩, ⟨zg1'⟩, ⟨zo1'⟩, ⟨zb1'⟩, ⟨zc1'⟩⟩
            ·rw [if_neg c57] at H
             have c57b0 : decide (((rd_T80 l0_5 x73_2).f0) < 0) = false := decide_eq_false c57; clear c57
             (first | rw [c57b0] | (simp only [i64_w, i32_w]; rw [c57b0]) | skip)
             by_cases c60 : ((rd_T80 l0_5 x73_2).f0) > 5
             ·rw [if_pos c60] at H
              have c60b0 : decide (5 < ((rd_T80 l0_5 x73_2).f0)) = true := decide_eq_true c60; clear c60; have H' := Aside0.mk H; clear H; have hnb61 := NB278_270.out; have hnc61 := NB270_278.out; have hcz62_0 : w54.cell? ⟨gb278, 0, none⟩ = some (.int .i64 0) := (blk_cell BK278.out 0).trans rfl; have hcz62_1 : w54.cell? ⟨gb278, 1, none⟩ = some (.int .i64 0) := (blk_cell BK278.out 1).trans rfl; have hcz62_2 : w54.cell? ⟨gb278, 2, none⟩ = some (.int .i64 0) := (blk_cell BK278.out 2).trans rfl; have hfz62_0 := blk_frozen BK278.out 0; have hfz62_1 := blk_frozen BK278.out 1; have hfz62_2 := blk_frozen BK278.out 2
              go_wp2
              go_meet
              case rel => exact ⟨_, (true), zj', H', ⟨zq4'⟩, ⟨zg1'⟩, ⟨zo1'⟩, ⟨zb1'⟩, ⟨zc1'⟩⟩
             ·rw [if_neg c60] at H
              have c60b0 : decide (5 < ((rd_T80 l0_5 x73_2).f0)) = false := decide_eq_false c60; clear c60
              by_cases c63 : ((rd_T80 l0_5 x73_2).f1) < 0
              ·rw [if_pos c63] at H
               have c63b0 : decide (((rd_T80 l0_5 x73_2).f1) < 0) = true := decide_eq_true c63; clear c63; have H' := Aside0.mk H; clear H; have hnb64 := NB278_270.out; have hnc64 := NB270_278.out; have hcz65_0 : w54.cell? ⟨gb278, 0, none⟩ = some (.int .i64 0) := (blk_cell BK278.out 0).trans rfl; have hcz65_1 : w54.cell? ⟨gb278, 1, none⟩ = some (.int .i64 0) := (blk_cell BK278.out 1).trans rfl; have hcz65_2 : w54.cell? ⟨gb278, 2, none⟩ = some (.int .i64 0) := (blk_cell BK278.out 2).trans rfl; have hfz65_0 := blk_frozen BK278.out 0; have hfz65_1 := blk_frozen BK278.out 1; have hfz65_2 := blk_frozen BK278.out 2
               go_wp2
               go_meet
               case rel => exact ⟨_, (true), zj', H', ⟨zq4'⟩, ⟨zg1'⟩, ⟨zo1'⟩, ⟨zb1'⟩, ⟨zc1'⟩⟩
              ·rw [if_neg c63] at H
               have c63b0 : decide (((rd_T80 l0_5 x73_2).f1) < 0) = false := decide_eq_false c63; clear c63; have H' := Aside0.mk H; clear H; have hnb66 := NB278_270.out; have hnc66 := NB270_278.out; have hcz67_0 : w54.cell? ⟨gb278, 0, none⟩ = some (.int .i64 0) := (blk_cell BK278.out 0).trans rfl; have hcz67_1 : w54.cell? ⟨gb278, 1, none⟩ = some (.int .i64 0) := (blk_cell BK278.out 1).trans rfl; have hcz67_2 : w54.cell? ⟨gb278, 2, none⟩ = some (.int .i64 0) := (blk_cell BK278.out 2).trans rfl; have hfz67_0 := blk_frozen BK278.out 0; have hfz67_1 := blk_frozen BK278.out 1; have hfz67_2 := blk_frozen BK278.out 2; have hcz68_0 : w54.cell? ⟨gb270, 0, none⟩ = some (.slice A0_0 l0_0.length c0_0) := (blk_cell BK270.out 0).trans rfl; have hcz68_1 : w54.cell? ⟨gb270, 1, none⟩ = some (.slice A0_1 l0_1.length c0_1) := (blk_cell BK270.out 1).trans rfl; have hcz68_2 : w54.cell? ⟨gb270, 2, none⟩ = some (.slice A0_2 l0_2.length c0_2) := (blk_cell BK270.out 2).trans rfl; have hcz68_3 : w54.cell? ⟨gb270, 3, none⟩ = some (.int .i64 a0_3) := (blk_cell BK270.out 3).trans rfl; have hcz68_4 : w54.cell? ⟨gb270, 4, none⟩ = some (.int .i64 a0_4) := (blk_cell BK270.out 4).trans rfl; have hcz68_5 : w54.cell? ⟨gb270, 5, none⟩ = some (.slice (some ad277) l0_5.length c0_5) := (blk_cell BK270.out 5).trans rfl; have hcz68_6 : w54.cell? ⟨gb270, 6, none⟩ = some (.slice A0_6 l0_6.length c0_6) := (blk_cell BK270.out 6).trans rfl; have hcz68_7 : w54.cell? ⟨gb270, 7, none⟩ = some (.slice A0_7 l0_7.length c0_7) := (blk_cell BK270.out 7).trans rfl
               have hcz68_8 : w54.cell? ⟨gb270, 8, none⟩ = some (.int .i64 a0_8) := (blk_cell BK270.out 8).trans rfl; have hcz68_9 : w54.cell? ⟨gb270, 9, none⟩ = some (.int .i64 a0_9) := (blk_cell BK270.out 9).trans rfl; have hcz68_10 : w54.cell? ⟨gb270, 10, none⟩ = some (.int .i64 a0_10) := (blk_cell BK270.out 10).trans rfl; have hfz68_0 := blk_frozen BK270.out 0; have hfz68_1 := blk_frozen BK270.out 1; have hfz68_2 := blk_frozen BK270.out 2; have hfz68_3 := blk_frozen BK270.out 3; have hfz68_4 := blk_frozen BK270.out 4; have hfz68_5 := blk_frozen BK270.out 5; have hfz68_6 := blk_frozen BK270.out 6; have hfz68_7 := blk_frozen BK270.out 7; have hfz68_8 := blk_frozen BK270.out 8; have hfz68_9 := blk_frozen BK270.out 9; have hfz68_10 := blk_frozen BK270.out 10
               go_wp2
               go_meet
               case rel => exact ⟨_, (decide (((rd_T80 l0_5 x73_2).f1) ≥ (l0_6.length : Int))), zj', H', ⟨zq4'⟩, ⟨zg1'⟩, ⟨zo1'⟩, ⟨zb1'⟩, ⟨zc1'⟩⟩
           case rest =>
            clear HC53; (try clear p2); (try clear q2); (try clear hx2); (try clear c4); (try clear c5); (try clear c6); (try clear p27); (try clear q27); (try clear hx27); (try clear c45); (try clear c45b0); (try clear c45b1); (try clear c50); (try clear c50b0); (try clear c51); (try clear c51b0); (try clear c52); (try clear c52b0); (try clear c55); (try clear c57); (try clear c57b0); (try clear c58); (try clear c60); (try clear c60b0); (try clear c61); (try clear c63); (try clear c63b0); (try clear c64); (try clear c66); (try clear hcz11_0); (try clear hcz11_1); (try clear hcz11_10); (try clear hcz11_2); (try clear hcz11_3); (try clear hcz11_4); (try clear hcz11_5); (try clear hcz11_6); (try clear hcz11_7); (try clear hcz11_8); (try clear hcz11_9); (try clear hcz13_0); (try clear hcz13_1); (try clear hcz13_10); (try clear hcz13_2); (try clear hcz13_3); (try clear hcz13_4); (try clear hcz13_5); (try clear hcz13_6); (try clear hcz13_7); (try clear hcz13_8); (try clear hcz13_9); (try clear hcz16_0); (try clear hcz16_1); (try clear hcz16_10); (try clear hcz16_2); (try clear hcz16_3); (try clear hcz16_4); (try clear hcz16_5); (try clear hcz16_6); (try clear hcz16_7); (try clear hcz16_8); (try clear hcz16_9); (try clear hcz18_0); (try clear hcz18_1); (try clear hcz18_10); (try clear hcz18_2); (try clear hcz18_3); (try clear hcz18_4); (try clear hcz18_5); (try clear hcz18_6); (try clear hcz18_7); (try clear hcz18_8); (try clear hcz18_9); (try clear hcz20_0); (try clear hcz20_1); (try clear hcz20_10)
            (try clear hcz20_2); (try clear hcz20_3); (try clear hcz20_4); (try clear hcz20_5); (try clear hcz20_6); (try clear hcz20_7); (try clear hcz20_8); (try clear hcz20_9); (try clear hcz22_0); (try clear hcz22_1); (try clear hcz22_10); (try clear hcz22_2); (try clear hcz22_3); (try clear hcz22_4); (try clear hcz22_5); (try clear hcz22_6); (try clear hcz22_7); (try clear hcz22_8); (try clear hcz22_9); (try clear hcz24_0); (try clear hcz24_1); (try clear hcz24_10); (try clear hcz24_2); (try clear hcz24_3); (try clear hcz24_4); (try clear hcz24_5); (try clear hcz24_6); (try clear hcz24_7); (try clear hcz24_8); (try clear hcz24_9); (try clear hcz26_0); (try clear hcz26_1); (try clear hcz26_10); (try clear hcz26_2); (try clear hcz26_3); (try clear hcz26_4); (try clear hcz26_5); (try clear hcz26_6); (try clear hcz26_7); (try clear hcz26_8); (try clear hcz26_9); (try clear hcz28_0); (try clear hcz28_1); (try clear hcz28_10); (try clear hcz28_2); (try clear hcz28_3); (try clear hcz28_4); (try clear hcz28_5); (try clear hcz28_6); (try clear hcz28_7); (try clear hcz28_8); (try clear hcz28_9); (try clear hcz30_0); (try clear hcz30_1); (try clear hcz30_10); (try clear hcz30_2); (try clear hcz30_3); (try clear hcz30_4); (try clear hcz30_5); (try clear hcz30_6); (try clear hcz30_7); (try clear hcz30_8); (try clear hcz30_9); (try clear hcz32_0); (try clear hcz32_1); (try clear hcz32_10); (try clear hcz32_2); (try clear hcz32_3); (try clear hcz32_4); (try clear hcz32_5); (try clear hcz32_6); (try clear hcz32_7)
            (try clear hcz32_8); (try clear hcz32_9); (try clear hcz34_0); (try clear hcz34_1); (try clear hcz34_10); (try clear hcz34_2); (try clear hcz34_3); (try clear hcz34_4); (try clear hcz34_5); (try clear hcz34_6); (try clear hcz34_7); (try clear hcz34_8); (try clear hcz34_9); (try clear hcz35_0); (try clear hcz35_1); (try clear hcz35_10); (try clear hcz35_2); (try clear hcz35_3); (try clear hcz35_4); (try clear hcz35_5); (try clear hcz35_6); (try clear hcz35_7); (try clear hcz35_8); (try clear hcz35_9); (try clear hcz37_0); (try clear hcz37_1); (try clear hcz37_10); (try clear hcz37_2); (try clear hcz37_3); (try clear hcz37_4); (try clear hcz37_5); (try clear hcz37_6); (try clear hcz37_7); (try clear hcz37_8); (try clear hcz37_9); (try clear hcz38_0); (try clear hcz38_1); (try clear hcz38_10); (try clear hcz38_2); (try clear hcz38_3); (try clear hcz38_4); (try clear hcz38_5); (try clear hcz38_6); (try clear hcz38_7); (try clear hcz38_8); (try clear hcz38_9); (try clear hcz40_0); (try clear hcz40_1); (try clear hcz40_10); (try clear hcz40_2); (try clear hcz40_3); (try clear hcz40_4); (try clear hcz40_5); (try clear hcz40_6); (try clear hcz40_7); (try clear hcz40_8); (try clear hcz40_9); (try clear hcz41_0); (try clear hcz41_1); (try clear hcz41_10); (try clear hcz41_2); (try clear hcz41_3); (try clear hcz41_4); (try clear hcz41_5); (try clear hcz41_6); (try clear hcz41_7); (try clear hcz41_8); (try clear hcz41_9); (try clear hcz46_0); (try clear hcz46_1); (try clear hcz46_10); (try clear hcz46_2)
            (try clear hcz46_3); (try clear hcz46_4); (try clear hcz46_5); (try clear hcz46_6); (try clear hcz46_7); (try clear hcz46_8); (try clear hcz46_9); (try clear hcz49_0); (try clear hcz49_1); (try clear hcz49_10); (try clear hcz49_2); (try clear hcz49_3); (try clear hcz49_4); (try clear hcz49_5); (try clear hcz49_6); (try clear hcz49_7); (try clear hcz49_8); (try clear hcz49_9); (try clear hcz56_0); (try clear hcz56_1); (try clear hcz56_2); (try clear hcz59_0); (try clear hcz59_1); (try clear hcz59_2); (try clear hcz62_0); (try clear hcz62_1); (try clear hcz62_2); (try clear hcz65_0); (try clear hcz65_1); (try clear hcz65_2); (try clear hcz67_0); (try clear hcz67_1); (try clear hcz67_2); (try clear hcz68_0); (try clear hcz68_1); (try clear hcz68_10); (try clear hcz68_2); (try clear hcz68_3); (try clear hcz68_4); (try clear hcz68_5); (try clear hcz68_6); (try clear hcz68_7); (try clear hcz68_8); (try clear hcz68_9); (try clear hcz7_0); (try clear hcz7_1); (try clear hcz7_10); (try clear hcz7_2); (try clear hcz7_3); (try clear hcz7_4); (try clear hcz7_5); (try clear hcz7_6); (try clear hcz7_7); (try clear hcz7_8); (try clear hcz7_9); (try clear hcz9_0); (try clear hcz9_1); (try clear hcz9_10); (try clear hcz9_2); (try clear hcz9_3); (try clear hcz9_4); (try clear hcz9_5); (try clear hcz9_6); (try clear hcz9_7); (try clear hcz9_8); (try clear hcz9_9); (try clear hfz11_0); (try clear hfz11_1); (try clear hfz11_10); (try clear hfz11_2); (try clear hfz11_3); (try clear hfz11_4); (try clear hfz11_5)
            (try clear hfz11_6); (try clear hfz11_7); (try clear hfz11_8); (try clear hfz11_9); (try clear hfz13_0); (try clear hfz13_1); (try clear hfz13_10); (try clear hfz13_2); (try clear hfz13_3); (try clear hfz13_4); (try clear hfz13_5); (try clear hfz13_6); (try clear hfz13_7); (try clear hfz13_8); (try clear hfz13_9); (try clear hfz16_0); (try clear hfz16_1); (try clear hfz16_10); (try clear hfz16_2); (try clear hfz16_3); (try clear hfz16_4); (try clear hfz16_5); (try clear hfz16_6); (try clear hfz16_7); (try clear hfz16_8); (try clear hfz16_9); (try clear hfz18_0); (try clear hfz18_1); (try clear hfz18_10); (try clear hfz18_2); (try clear hfz18_3); (try clear hfz18_4); (try clear hfz18_5); (try clear hfz18_6); (try clear hfz18_7); (try clear hfz18_8); (try clear hfz18_9); (try clear hfz20_0); (try clear hfz20_1); (try clear hfz20_10); (try clear hfz20_2); (try clear hfz20_3); (try clear hfz20_4); (try clear hfz20_5); (try clear hfz20_6); (try clear hfz20_7); (try clear hfz20_8); (try clear hfz20_9); (try clear hfz22_0); (try clear hfz22_1); (try clear hfz22_10); (try clear hfz22_2); (try clear hfz22_3); (try clear hfz22_4); (try clear hfz22_5); (try clear hfz22_6); (try clear hfz22_7); (try clear hfz22_8); (try clear hfz22_9); (try clear hfz24_0); (try clear hfz24_1); (try clear hfz24_10); (try clear hfz24_2); (try clear hfz24_3); (try clear hfz24_4); (try clear hfz24_5); (try clear hfz24_6); (try clear hfz24_7); (try clear hfz24_8); (try clear hfz24_9); (try clear hfz26_0); (try clear hfz26_1)
            (try clear hfz26_10); (try clear hfz26_2); (try clear hfz26_3); (try clear hfz26_4); (try clear hfz26_5); (try clear hfz26_6); (try clear hfz26_7); (try clear hfz26_8); (try clear hfz26_9); (try clear hfz28_0); (try clear hfz28_1); (try clear hfz28_10); (try clear hfz28_2); (try clear hfz28_3); (try clear hfz28_4); (try clear hfz28_5); (try clear hfz28_6); (try clear hfz28_7); (try clear hfz28_8); (try clear hfz28_9); (try clear hfz30_0); (try clear hfz30_1); (try clear hfz30_10); (try clear hfz30_2); (try clear hfz30_3); (try clear hfz30_4); (try clear hfz30_5); (try clear hfz30_6); (try clear hfz30_7); (try clear hfz30_8); (try clear hfz30_9); (try clear hfz32_0); (try clear hfz32_1); (try clear hfz32_10); (try clear hfz32_2); (try clear hfz32_3); (try clear hfz32_4); (try clear hfz32_5); (try clear hfz32_6); (try clear hfz32_7); (try clear hfz32_8); (try clear hfz32_9); (try clear hfz34_0); (try clear hfz34_1); (try clear hfz34_10); (try clear hfz34_2); (try clear hfz34_3); (try clear hfz34_4); (try clear hfz34_5); (try clear hfz34_6); (try clear hfz34_7); (try clear hfz34_8); (try clear hfz34_9); (try clear hfz35_0); (try clear hfz35_1); (try clear hfz35_10); (try clear hfz35_2); (try clear hfz35_3); (try clear hfz35_4); (try clear hfz35_5); (try clear hfz35_6); (try clear hfz35_7); (try clear hfz35_8); (try clear hfz35_9); (try clear hfz37_0); (try clear hfz37_1); (try clear hfz37_10); (try clear hfz37_2); (try clear hfz37_3); (try clear hfz37_4); (try clear hfz37_5); (try clear hfz37_6)
            (try clear hfz37_7); (try clear hfz37_8); (try clear hfz37_9); (try clear hfz38_0); (try clear hfz38_1); (try clear hfz38_10); (try clear hfz38_2); (try clear hfz38_3); (try clear hfz38_4); (try clear hfz38_5); (try clear hfz38_6); (try clear hfz38_7); (try clear hfz38_8); (try clear hfz38_9); (try clear hfz40_0); (try clear hfz40_1); (try clear hfz40_10); (try clear hfz40_2); (try clear hfz40_3); (try clear hfz40_4); (try clear hfz40_5); (try clear hfz40_6); (try clear hfz40_7); (try clear hfz40_8); (try clear hfz40_9); (try clear hfz41_0); (try clear hfz41_1); (try clear hfz41_10); (try clear hfz41_2); (try clear hfz41_3); (try clear hfz41_4); (try clear hfz41_5); (try clear hfz41_6); (try clear hfz41_7); (try clear hfz41_8); (try clear hfz41_9); (try clear hfz46_0); (try clear hfz46_1); (try clear hfz46_10); (try clear hfz46_2); (try clear hfz46_3); (try clear hfz46_4); (try clear hfz46_5); (try clear hfz46_6); (try clear hfz46_7); (try clear hfz46_8); (try clear hfz46_9); (try clear hfz49_0); (try clear hfz49_1); (try clear hfz49_10); (try clear hfz49_2); (try clear hfz49_3); (try clear hfz49_4); (try clear hfz49_5); (try clear hfz49_6); (try clear hfz49_7); (try clear hfz49_8); (try clear hfz49_9); (try clear hfz56_0); (try clear hfz56_1); (try clear hfz56_2); (try clear hfz59_0); (try clear hfz59_1); (try clear hfz59_2); (try clear hfz62_0); (try clear hfz62_1); (try clear hfz62_2); (try clear hfz65_0); (try clear hfz65_1); (try clear hfz65_2); (try clear hfz67_0); (try clear hfz67_1)
            (try clear hfz67_2); (try clear hfz68_0); (try clear hfz68_1); (try clear hfz68_10); (try clear hfz68_2); (try clear hfz68_3); (try clear hfz68_4); (try clear hfz68_5); (try clear hfz68_6); (try clear hfz68_7); (try clear hfz68_8); (try clear hfz68_9); (try clear hfz7_0); (try clear hfz7_1); (try clear hfz7_10); (try clear hfz7_2); (try clear hfz7_3); (try clear hfz7_4); (try clear hfz7_5); (try clear hfz7_6); (try clear hfz7_7); (try clear hfz7_8); (try clear hfz7_9); (try clear hfz9_0); (try clear hfz9_1); (try clear hfz9_10); (try clear hfz9_2); (try clear hfz9_3); (try clear hfz9_4); (try clear hfz9_5); (try clear hfz9_6); (try clear hfz9_7); (try clear hfz9_8); (try clear hfz9_9); (try clear hx277_0); (try clear hx277_1); (try clear hx277_2); (try clear p2); (try clear p277); (try clear q277); obtain ⟨kq, x97_52, rfl, HA, HJ52, HO_3, BK270, BK278, HB⟩ := hcut
            cases kq with
            | zero => exact absurd HA.out (by simp [impl_IsYard.j2])
            | succ kj52 =>
             have H := HA.out; clear HA; simp only [impl_IsYard.j2] at H
             by_cases c69 : x97_52 = true
             ·subst c69
              have H1 : (some false) = some r := by rw [if_pos rfl] at H; exact H
              clear H; have H := H1; clear H1; obtain rfl := Option.some.inj H
              go_wp2
              go_ret
              exact ⟨by first | rfl | (simp [errW_none, errW_some] <;> rfl) | (simp [*, errW_none, errW_some] <;> rfl), by repeat (first | (with_reducible first | exact HB.out | apply ba | apply bn | apply below_drew1 | refine below_set ?_ GE270.out | refine below_set ?_ GE278.out) | exact HB.out)⟩
             ·replace c69 := Bool.eq_false_iff.mpr c69
              subst c69
              have H1 : ((impl_stateTime.f l0_0 l0_1 l0_2 a0_3 a0_4 ((rd_T80 l0_5 x73_2).f0) ((rd_T80 l0_5 x73_2).f1) ((rd_T80 l0_5 x73_2).f2)).bind fun t279 => (if ((rd_T80 l0_5 x73_2).f2) < (mn 1 t279) then (impl_IsYard.j3 kj52 x3_2 x4_2 l0_5 (l0_5.length : Int) x73_2 true l0_0 l0_1 l0_2 a0_3 a0_4 l0_5 l0_6 l0_7 a0_8 a0_9 a0_10 ((rd_T80 l0_5 x73_2).f0) ((rd_T80 l0_5 x73_2).f1) ((rd_T80 l0_5 x73_2).f2)) else (impl_IsYard.j3 kj52 x3_2 x4_2 l0_5 (l0_5.length : Int) x73_2 (decide (((rd_T80 l0_5 x73_2).f2) > t279)) l0_0 l0_1 l0_2 a0_3 a0_4 l0_5 l0_6 l0_7 a0_8 a0_9 a0_10 ((rd_T80 l0_5 x73_2).f0) ((rd_T80 l0_5 x73_2).f1) ((rd_T80 l0_5 x73_2).f2)))) = some r := by rw [if_neg (show ¬ (false = true) by decide)] at H; exact H
              clear H; have H := H1; clear H1; replace H := Option.bind_eq_some_iff.mp H; obtain ⟨t279, A700, H⟩ := H; replace H : (if ((rd_T80 l0_5 x73_2).f2) < (mn 1 t279) then (impl_IsYard.j3 kj52 x3_2 x4_2 l0_5 (l0_5.length : Int) x73_2 true l0_0 l0_1 l0_2 a0_3 a0_4 l0_5 l0_6 l0_7 a0_8 a0_9 a0_10 ((rd_T80 l0_5 x73_2).f0) ((rd_T80 l0_5 x73_2).f1) ((rd_T80 l0_5 x73_2).f2)) else (impl_IsYard.j3 kj52 x3_2 x4_2 l0_5 (l0_5.length : Int) x73_2 (decide (((rd_T80 l0_5 x73_2).f2) > t279)) l0_0 l0_1 l0_2 a0_3 a0_4 l0_5 l0_6 l0_7 a0_8 a0_9 a0_10 ((rd_T80 l0_5 x73_2).f0) ((rd_T80 l0_5 x73_2).f1) ((rd_T80 l0_5 x73_2).f2))) = some r := H; have A70 := Aside0.mk A700; clear A700; have HC71 := Aside0.mk H; clear H; have hnb72 := NB270_278.out; have hnc72 := NB278_270.out; have hcz73_0 : wc.cell? ⟨gb270, 0, none⟩ = some (.slice A0_0 l0_0.length c0_0) := (blk_cell BK270.out 0).trans rfl; have hcz73_1 : wc.cell? ⟨gb270, 1, none⟩ = some (.slice A0_1 l0_1.length c0_1) := (blk_cell BK270.out 1).trans rfl; have hcz73_2 : wc.cell? ⟨gb270, 2, none⟩ = some (.slice A0_2 l0_2.length c0_2) := (blk_cell BK270.out 2).trans rfl; have hcz73_3 : wc.cell? ⟨gb270, 3, none⟩ = some (.int .i64 a0_3) := (blk_cell BK270.out 3).trans rfl; have hcz73_4 : wc.cell? ⟨gb270, 4, none⟩ = some (.int .i64 a0_4) := (blk_cell BK270.out 4).trans rfl; have hcz73_5 : wc.cell? ⟨gb270, 5, none⟩ = some (.slice (some ad277) l0_5.length c0_5) := (blk_cell BK270.out 5).trans rfl; have hcz73_6 : wc.cell? ⟨gb270, 6, none⟩ = some (.slice A0_6 l0_6.length c0_6) := (blk_cell BK270.out 6).trans rfl
              have hcz73_7 : wc.cell? ⟨gb270, 7, none⟩ = some (.slice A0_7 l0_7.length c0_7) := (blk_cell BK270.out 7).trans rfl; have hcz73_8 : wc.cell? ⟨gb270, 8, none⟩ = some (.int .i64 a0_8) := (blk_cell BK270.out 8).trans rfl; have hcz73_9 : wc.cell? ⟨gb270, 9, none⟩ = some (.int .i64 a0_9) := (blk_cell BK270.out 9).trans rfl; have hcz73_10 : wc.cell? ⟨gb270, 10, none⟩ = some (.int .i64 a0_10) := (blk_cell BK270.out 10).trans rfl; have hfz73_0 := blk_frozen BK270.out 0; have hfz73_1 := blk_frozen BK270.out 1; have hfz73_2 := blk_frozen BK270.out 2; have hfz73_3 := blk_frozen BK270.out 3; have hfz73_4 := blk_frozen BK270.out 4; have hfz73_5 := blk_frozen BK270.out 5; have hfz73_6 := blk_frozen BK270.out 6; have hfz73_7 := blk_frozen BK270.out 7; have hfz73_8 := blk_frozen BK270.out 8; have hfz73_9 := blk_frozen BK270.out 9; have hfz73_10 := blk_frozen BK270.out 10; have hcz74_0 : wc.cell? ⟨gb278, 0, none⟩ = some (.int .i64 ((rd_T80 l0_5 x73_2).f0)) := (blk_cell BK278.out 0).trans rfl; have hcz74_1 : wc.cell? ⟨gb278, 1, none⟩ = some (.int .i64 ((rd_T80 l0_5 x73_2).f1)) := (blk_cell BK278.out 1).trans rfl; have hcz74_2 : wc.cell? ⟨gb278, 2, none⟩ = some (.int .i64 ((rd_T80 l0_5 x73_2).f2)) := (blk_cell BK278.out 2).trans rfl; have hfz74_0 := blk_frozen BK278.out 0; have hfz74_1 := blk_frozen BK278.out 1; have hfz74_2 := blk_frozen BK278.out 2
              go_upto_region 11 with (first | ((with_reducible refine gate_callee (f := 75) rfl ?_); refine goesL_ (some 101) rfl rfl Try.func75 (by kernel_rfl) rfl #[.agg #[.slice A0_0 l0_0.length c0_0, .slice A0_1 l0_1.length c0_1, .slice A0_2 l0_2.length c0_2, .int .i64 a0_3, .int .i64 a0_4], .agg #[.int .i64 ((rd_T80 l0_5 x73_2).f0), .int .i64 ((rd_T80 l0_5 x73_2).f1), .int .i64 ((rd_T80 l0_5 x73_2).f2)]] rfl zb' ?_; (with_reducible refine (impl_stateTime.calls _ _ l0_0 _ _ l0_1 _ _ l0_2 a0_3 a0_4 ((rd_T80 l0_5 x73_2).f0) ((rd_T80 l0_5 x73_2).f1) ((rd_T80 l0_5 x73_2).f2) t279 _ ?side1 ?side2 ?side3 ?side4 ?side5 ?side6 A70.out).mono ?_); (case side1 => exact zc'); (case side2 => exact zg2'); (case side3 => exact ze'); (case side4 => exact zo2'); (case side5 => exact zf'); (case side6 => exact zq2'); rintro e w75 ⟨rfl, hb⟩; refine ⟨_, rfl, ?_⟩; have n0_ := am (Kd.R_below zh' hb); have n1_ := am (blk_below (g := gb270) (o := o6') zr' hb); have n2_ := am (blk_below (g := gb278) (o := o16') zs3' hb); have n3_ := am (below_step zc1' hb); clear HO_3; clear BK270; clear BK278; clear HB; have HO_3 := n0_; have BK270 := n1_; have BK278 := n2_; have HB := n3_; clear n0_ n1_ n2_ n3_; (try clear hb); (try clear hb2); (try clear hk); (try clear hi)))
              (try simp only [Act.put, s1, s2, s3])
              go_cut [112] (fun v112 wc => ∃ (kq : Nat) (x112_70 : Bool), v112 = .bool x112_70 ∧ Aside0 (impl_IsYard.j3 kq x3_2 x4_2 l0_5 (l0_5.length : Int) x73_2 x112_70 l0_0 l0_1 l0_2 a0_3 a0_4 l0_5 l0_6 l0_7 a0_8 a0_9 a0_10 ((rd_T80 l0_5 x73_2).f0) ((rd_T80 l0_5 x73_2).f1) ((rd_T80 l0_5 x73_2).f2) = some r) ∧ Aside0 (kq ≤ kj52) ∧ Aside0 (Kd.R (Kd.int .i64) 3 wc w.heap.size (fun _ => True) v273 x3_2) ∧ Aside0 (wc.heap[gb270]? = some (.cells #[(.slice A0_0 l0_0.length c0_0), (.slice A0_1 l0_1.length c0_1), (.slice A0_2 l0_2.length c0_2), .int .i64 a0_3, .int .i64 a0_4, (.slice (some ad277) l0_5.length c0_5), (.slice A0_6 l0_6.length c0_6), (.slice A0_7 l0_7.length c0_7), .int .i64 a0_8, .int .i64 a0_9, .int .i64 a0_10] 44 (0, 0))) ∧ Aside0 (wc.heap[gb278]? = some (.cells #[.int .i64 ((rd_T80 l0_5 x73_2).f0), .int .i64 ((rd_T80 l0_5 x73_2).f1), .int .i64 ((rd_T80 l0_5 x73_2).f2)] 80 (0, 0))) ∧ Aside0 (Below w.heap.size w wc))
              case first =>
               have H := HC71.out; clear HC71
               obtain ⟨ji76, hji76⟩ : ∃ j_ : Int, (mn 1 t279) = j_ := ⟨_, rfl⟩
               replace H : (if ((rd_T80 l0_5 x73_2).f2) < (ji76) then (impl_IsYard.j3 kj52 x3_2 x4_2 l0_5 (l0_5.length : Int) x73_2 true l0_0 l0_1 l0_2 a0_3 a0_4 l0_5 l0_6 l0_7 a0_8 a0_9 a0_10 ((rd_T80 l0_5 x73_2).f0) ((rd_T80 l0_5 x73_2).f1) ((rd_T80 l0_5 x73_2).f2)) else (impl_IsYard.j3 kj52 x3_2 x4_2 l0_5 (l0_5.length : Int) x73_2 (decide (((rd_T80 l0_5 x73_2).f2) > t279)) l0_0 l0_1 l0_2 a0_3 a0_4 l0_5 l0_6 l0_7 a0_8 a0_9 a0_10 ((rd_T80 l0_5 x73_2).f0) ((rd_T80 l0_5 x73_2).f1) ((rd_T80 l0_5 x73_2).f2))) = some r := by first | (rw [hji76] at H; exact H) | (simp only [hji76] at H ⊢; exact H)
               (try (have hji76h : ji76 ≤ 1 := by (rw [← hji76]; unfold mn; (repeat' split) <;> omega))); (try (have hji76g : ji76 ≤ 64 := by omega)); have hji76_ : (if t279 < 1 then t279 else 1) = ji76 := hji76
               by_cases c77 : ((rd_T80 l0_5 x73_2).f2) < (ji76)
               ·rw [if_pos c77] at H
                have c77b0 : decide (((rd_T80 l0_5 x73_2).f2) < (ji76)) = true := decide_eq_true c77; clear c77
                (first | rw [c77b0] | (simp only [i64_w, i32_w]; rw [c77b0]) | skip)
                have H' := Aside0.mk H; clear H; have hnb78 := NB278_270.out; have hnc78 := NB270_278.out; have hcz79_0 : w75.cell? ⟨gb278, 0, none⟩ = some (.int .i64 ((rd_T80 l0_5 x73_2).f0)) := (blk_cell BK278.out 0).trans rfl; have hcz79_1 : w75.cell? ⟨gb278, 1, none⟩ = some (.int .i64 ((rd_T80 l0_5 x73_2).f1)) := (blk_cell BK278.out 1).trans rfl; have hcz79_2 : w75.cell? ⟨gb278, 2, none⟩ = some (.int .i64 ((rd_T80 l0_5 x73_2).f2)) := (blk_cell BK278.out 2).trans rfl; have hfz79_0 := blk_frozen BK278.out 0; have hfz79_1 := blk_frozen BK278.out 1; have hfz79_2 := blk_frozen BK278.out 2
                go_wp2
                go_meet
                case rel => exact ⟨_, (true), zj', H', ⟨by have := HJ1.out; have := HK2.out; have := HJ52.out; first | omega | exact Nat.le_refl _⟩, ⟨zh'⟩, ⟨zr'⟩, ⟨zs3'⟩, ⟨zc1'⟩⟩
               ·rw [if_neg c77] at H
                have c77b0 : decide (((rd_T80 l0_5 x73_2).f2) < (ji76)) = false := decide_eq_false c77; clear c77
                (first | rw [c77b0] | (simp only [i64_w, i32_w]; rw [c77b0]) | skip)
                have H' := Aside0.mk H; clear H; have hnb80 := NB278_270.out; have hnc80 := NB270_278.out; have hcz81_0 : w75.cell? ⟨gb278, 0, none⟩ = some (.int .i64 ((rd_T80 l0_5 x73_2).f0)) := (blk_cell BK278.out 0).trans rfl; have hcz81_1 : w75.cell? ⟨gb278, 1, none⟩ = some (.int .i64 ((rd_T80 l0_5 x73_2).f1)) := (blk_cell BK278.out 1).trans rfl; have hcz81_2 : w75.cell? ⟨gb278, 2, none⟩ = some (.int .i64 ((rd_T80 l0_5 x73_2).f2)) := (blk_cell BK278.out 2).trans rfl; have hfz81_0 := blk_frozen BK278.out 0; have hfz81_1 := blk_frozen BK278.out 1; have hfz81_2 := blk_frozen BK278.out 2
                go_wp2
                go_meet
                case rel => exact ⟨_, (decide (((rd_T80 l0_5 x73_2).f2) > t279)), zj', H', ⟨by have := HJ1.out; have := HK2.out; have := HJ52.out; first | omega | exact Nat.le_refl _⟩, ⟨zh'⟩, ⟨zr'⟩, ⟨zs3'⟩, ⟨zc1'⟩⟩
              case rest =>
               clear HC71; (try clear p2); (try clear q2); (try clear hx2); (try clear c6); (try clear c7); (try clear c8); (try clear p27); (try clear q27); (try clear hx27); (try clear c69); (try clear c72); (try clear c75); (try clear c77); (try clear c77b0); (try clear c78); (try clear c80); (try clear hcz16_5); (try clear hcz16_6); (try clear hcz16_7); (try clear hcz16_8); (try clear hcz16_9); (try clear hcz18_0); (try clear hcz18_1); (try clear hcz18_10); (try clear hcz18_2); (try clear hcz18_3); (try clear hcz18_4); (try clear hcz18_5); (try clear hcz18_6); (try clear hcz18_7); (try clear hcz18_8); (try clear hcz18_9); (try clear hcz20_0); (try clear hcz20_1); (try clear hcz20_10); (try clear hcz20_2); (try clear hcz20_3); (try clear hcz20_4); (try clear hcz20_5); (try clear hcz20_6); (try clear hcz20_7); (try clear hcz20_8); (try clear hcz20_9); (try clear hcz22_0); (try clear hcz22_1); (try clear hcz22_10); (try clear hcz22_2); (try clear hcz22_3); (try clear hcz22_4); (try clear hcz22_5); (try clear hcz22_6); (try clear hcz22_7); (try clear hcz22_8); (try clear hcz22_9); (try clear hcz24_0); (try clear hcz24_1); (try clear hcz24_10); (try clear hcz24_2); (try clear hcz24_3); (try clear hcz24_4); (try clear hcz24_5); (try clear hcz24_6); (try clear hcz24_7); (try clear hcz24_8); (try clear hcz24_9); (try clear hcz26_0); (try clear hcz26_1); (try clear hcz26_10); (try clear hcz26_2); (try clear hcz26_3); (try clear hcz26_4); (try clear hcz26_5); (try clear hcz26_6); (try clear hcz26_7)
               (try clear hcz26_8); (try clear hcz26_9); (try clear hcz28_0); (try clear hcz28_1); (try clear hcz28_10); (try clear hcz28_2); (try clear hcz28_3); (try clear hcz28_4); (try clear hcz28_5); (try clear hcz28_6); (try clear hcz28_7); (try clear hcz28_8); (try clear hcz28_9); (try clear hcz30_0); (try clear hcz30_1); (try clear hcz30_10); (try clear hcz30_2); (try clear hcz30_3); (try clear hcz30_4); (try clear hcz30_5); (try clear hcz30_6); (try clear hcz30_7); (try clear hcz30_8); (try clear hcz30_9); (try clear hcz32_0); (try clear hcz32_1); (try clear hcz32_10); (try clear hcz32_2); (try clear hcz32_3); (try clear hcz32_4); (try clear hcz32_5); (try clear hcz32_6); (try clear hcz32_7); (try clear hcz32_8); (try clear hcz32_9); (try clear hcz34_0); (try clear hcz34_1); (try clear hcz34_10); (try clear hcz34_2); (try clear hcz34_3); (try clear hcz34_4); (try clear hcz34_5); (try clear hcz34_6); (try clear hcz34_7); (try clear hcz34_8); (try clear hcz34_9); (try clear hcz35_0); (try clear hcz35_1); (try clear hcz35_10); (try clear hcz35_2); (try clear hcz35_3); (try clear hcz35_4); (try clear hcz35_5); (try clear hcz35_6); (try clear hcz35_7); (try clear hcz35_8); (try clear hcz35_9); (try clear hcz37_0); (try clear hcz37_1); (try clear hcz37_10); (try clear hcz37_2); (try clear hcz37_3); (try clear hcz37_4); (try clear hcz37_5); (try clear hcz37_6); (try clear hcz37_7); (try clear hcz37_8); (try clear hcz37_9); (try clear hcz38_0); (try clear hcz38_1); (try clear hcz38_10); (try clear hcz38_2)
               (try clear hcz38_3); (try clear hcz38_4); (try clear hcz38_5); (try clear hcz38_6); (try clear hcz38_7); (try clear hcz38_8); (try clear hcz38_9); (try clear hcz40_0); (try clear hcz40_1); (try clear hcz40_10); (try clear hcz40_2); (try clear hcz40_3); (try clear hcz40_4); (try clear hcz40_5); (try clear hcz40_6); (try clear hcz40_7); (try clear hcz40_8); (try clear hcz40_9); (try clear hcz41_0); (try clear hcz41_1); (try clear hcz41_10); (try clear hcz41_2); (try clear hcz41_3); (try clear hcz41_4); (try clear hcz41_5); (try clear hcz41_6); (try clear hcz41_7); (try clear hcz41_8); (try clear hcz41_9); (try clear hcz46_0); (try clear hcz46_1); (try clear hcz46_10); (try clear hcz46_2); (try clear hcz46_3); (try clear hcz46_4); (try clear hcz46_5); (try clear hcz46_6); (try clear hcz46_7); (try clear hcz46_8); (try clear hcz46_9); (try clear hcz49_0); (try clear hcz49_1); (try clear hcz49_10); (try clear hcz49_2); (try clear hcz49_3); (try clear hcz49_4); (try clear hcz49_5); (try clear hcz49_6); (try clear hcz49_7); (try clear hcz49_8); (try clear hcz49_9); (try clear hcz56_0); (try clear hcz56_1); (try clear hcz56_2); (try clear hcz59_0); (try clear hcz59_1); (try clear hcz59_2); (try clear hcz62_0); (try clear hcz62_1); (try clear hcz62_2); (try clear hcz65_0); (try clear hcz65_1); (try clear hcz65_2); (try clear hcz67_0); (try clear hcz67_1); (try clear hcz67_2); (try clear hcz68_0); (try clear hcz68_1); (try clear hcz68_10); (try clear hcz68_2); (try clear hcz68_3); (try clear hcz68_4)
               (try clear hcz68_5); (try clear hcz68_6); (try clear hcz68_7); (try clear hcz68_8); (try clear hcz68_9); (try clear hcz73_0); (try clear hcz73_1); (try clear hcz73_10); (try clear hcz73_2); (try clear hcz73_3); (try clear hcz73_4); (try clear hcz73_5); (try clear hcz73_6); (try clear hcz73_7); (try clear hcz73_8); (try clear hcz73_9); (try clear hcz74_0); (try clear hcz74_1); (try clear hcz74_2); (try clear hcz79_0); (try clear hcz79_1); (try clear hcz79_2); (try clear hcz7_0); (try clear hcz7_1); (try clear hcz7_10); (try clear hcz7_2); (try clear hcz7_3); (try clear hcz7_4); (try clear hcz7_5); (try clear hcz7_6); (try clear hcz7_7); (try clear hcz7_8); (try clear hcz7_9); (try clear hcz81_0); (try clear hcz81_1); (try clear hcz81_2); (try clear hcz9_0); (try clear hcz9_1); (try clear hcz9_10); (try clear hcz9_2); (try clear hcz9_3); (try clear hcz9_4); (try clear hcz9_5); (try clear hcz9_6); (try clear hcz9_7); (try clear hcz9_8); (try clear hcz9_9); (try clear hfz11_0); (try clear hfz11_1); (try clear hfz11_10); (try clear hfz11_2); (try clear hfz11_3); (try clear hfz11_4); (try clear hfz11_5); (try clear hfz11_6); (try clear hfz11_7); (try clear hfz11_8); (try clear hfz11_9); (try clear hfz13_0); (try clear hfz13_1); (try clear hfz13_10); (try clear hfz13_2); (try clear hfz13_3); (try clear hfz13_4); (try clear hfz13_5); (try clear hfz13_6); (try clear hfz13_7); (try clear hfz13_8); (try clear hfz13_9); (try clear hfz16_0); (try clear hfz16_1); (try clear hfz16_10); (try clear hfz16_2)
               (try clear hfz16_3); (try clear hfz16_4); (try clear hfz16_5); (try clear hfz16_6); (try clear hfz16_7); (try clear hfz16_8); (try clear hfz16_9); (try clear hfz18_0); (try clear hfz18_1); (try clear hfz18_10); (try clear hfz18_2); (try clear hfz18_3); (try clear hfz18_4); (try clear hfz18_5); (try clear hfz18_6); (try clear hfz18_7); (try clear hfz18_8); (try clear hfz18_9); (try clear hfz20_0); (try clear hfz20_1); (try clear hfz20_10); (try clear hfz20_2); (try clear hfz20_3); (try clear hfz20_4); (try clear hfz20_5); (try clear hfz20_6); (try clear hfz20_7); (try clear hfz20_8); (try clear hfz20_9); (try clear hfz22_0); (try clear hfz22_1); (try clear hfz22_10); (try clear hfz22_2); (try clear hfz22_3); (try clear hfz22_4); (try clear hfz22_5); (try clear hfz22_6); (try clear hfz22_7); (try clear hfz22_8); (try clear hfz22_9); (try clear hfz24_0); (try clear hfz24_1); (try clear hfz24_10); (try clear hfz24_2); (try clear hfz24_3); (try clear hfz24_4); (try clear hfz24_5); (try clear hfz24_6); (try clear hfz24_7); (try clear hfz24_8); (try clear hfz24_9); (try clear hfz26_0); (try clear hfz26_1); (try clear hfz26_10); (try clear hfz26_2); (try clear hfz26_3); (try clear hfz26_4); (try clear hfz26_5); (try clear hfz26_6); (try clear hfz26_7); (try clear hfz26_8); (try clear hfz26_9); (try clear hfz28_0); (try clear hfz28_1); (try clear hfz28_10); (try clear hfz28_2); (try clear hfz28_3); (try clear hfz28_4); (try clear hfz28_5); (try clear hfz28_6); (try clear hfz28_7); (try clear hfz28_8)
               (try clear hfz28_9); (try clear hfz30_0); (try clear hfz30_1); (try clear hfz30_10); (try clear hfz30_2); (try clear hfz30_3); (try clear hfz30_4); (try clear hfz30_5); (try clear hfz30_6); (try clear hfz30_7); (try clear hfz30_8); (try clear hfz30_9); (try clear hfz32_0); (try clear hfz32_1); (try clear hfz32_10); (try clear hfz32_2); (try clear hfz32_3); (try clear hfz32_4); (try clear hfz32_5); (try clear hfz32_6); (try clear hfz32_7); (try clear hfz32_8); (try clear hfz32_9); (try clear hfz34_0); (try clear hfz34_1); (try clear hfz34_10); (try clear hfz34_2); (try clear hfz34_3); (try clear hfz34_4); (try clear hfz34_5); (try clear hfz34_6); (try clear hfz34_7); (try clear hfz34_8); (try clear hfz34_9); (try clear hfz35_0); (try clear hfz35_1); (try clear hfz35_10); (try clear hfz35_2); (try clear hfz35_3); (try clear hfz35_4); (try clear hfz35_5); (try clear hfz35_6); (try clear hfz35_7); (try clear hfz35_8); (try clear hfz35_9); (try clear hfz37_0); (try clear hfz37_1); (try clear hfz37_10); (try clear hfz37_2); (try clear hfz37_3); (try clear hfz37_4); (try clear hfz37_5); (try clear hfz37_6); (try clear hfz37_7); (try clear hfz37_8); (try clear hfz37_9); (try clear hfz38_0); (try clear hfz38_1); (try clear hfz38_10); (try clear hfz38_2); (try clear hfz38_3); (try clear hfz38_4); (try clear hfz38_5); (try clear hfz38_6); (try clear hfz38_7); (try clear hfz38_8); (try clear hfz38_9); (try clear hfz40_0); (try clear hfz40_1); (try clear hfz40_10); (try clear hfz40_2); (try clear hfz40_3)
               (try clear hfz40_4); (try clear hfz40_5); (try clear hfz40_6); (try clear hfz40_7); (try clear hfz40_8); (try clear hfz40_9); (try clear hfz41_0); (try clear hfz41_1); (try clear hfz41_10); (try clear hfz41_2); (try clear hfz41_3); (try clear hfz41_4); (try clear hfz41_5); (try clear hfz41_6); (try clear hfz41_7); (try clear hfz41_8); (try clear hfz41_9); (try clear hfz46_0); (try clear hfz46_1); (try clear hfz46_10); (try clear hfz46_2); (try clear hfz46_3); (try clear hfz46_4); (try clear hfz46_5); (try clear hfz46_6); (try clear hfz46_7); (try clear hfz46_8); (try clear hfz46_9); (try clear hfz49_0); (try clear hfz49_1); (try clear hfz49_10); (try clear hfz49_2); (try clear hfz49_3); (try clear hfz49_4); (try clear hfz49_5); (try clear hfz49_6); (try clear hfz49_7); (try clear hfz49_8); (try clear hfz49_9); (try clear hfz56_0); (try clear hfz56_1); (try clear hfz56_2); (try clear hfz59_0); (try clear hfz59_1); (try clear hfz59_2); (try clear hfz62_0); (try clear hfz62_1); (try clear hfz62_2); (try clear hfz65_0); (try clear hfz65_1); (try clear hfz65_2); (try clear hfz67_0); (try clear hfz67_1); (try clear hfz67_2); (try clear hfz68_0); (try clear hfz68_1); (try clear hfz68_10); (try clear hfz68_2); (try clear hfz68_3); (try clear hfz68_4); (try clear hfz68_5); (try clear hfz68_6); (try clear hfz68_7); (try clear hfz68_8); (try clear hfz68_9); (try clear hfz73_0); (try clear hfz73_1); (try clear hfz73_10); (try clear hfz73_2); (try clear hfz73_3); (try clear hfz73_4); (try clear hfz73_5)
               (try clear hfz73_6); (try clear hfz73_7); (try clear hfz73_8); (try clear hfz73_9); (try clear hfz74_0); (try clear hfz74_1); (try clear hfz74_2); (try clear hfz79_0); (try clear hfz79_1); (try clear hfz79_2); (try clear hfz7_0); (try clear hfz7_1); (try clear hfz7_10); (try clear hfz7_2); (try clear hfz7_3); (try clear hfz7_4); (try clear hfz7_5); (try clear hfz7_6); (try clear hfz7_7); (try clear hfz7_8); (try clear hfz7_9); (try clear hfz81_0); (try clear hfz81_1); (try clear hfz81_2); (try clear hfz9_0); (try clear hfz9_1); (try clear hfz9_10); (try clear hfz9_2); (try clear hfz9_3); (try clear hfz9_4); (try clear hfz9_5); (try clear hfz9_6); (try clear hfz9_7); (try clear hfz9_8); (try clear hfz9_9); (try clear hx277_0); (try clear hx277_1); (try clear hx277_2); (try clear p2); (try clear p277); (try clear q277); obtain ⟨kq, x112_70, rfl, HA, HJ70, HO_3, BK270, BK278, HB⟩ := hcut
               cases kq with
               | zero => exact absurd HA.out (by simp [impl_IsYard.j3])
               | succ kj70 =>
                have H := HA.out; clear HA; simp only [impl_IsYard.j3] at H
                by_cases c82 : x112_70 = true
                ·subst c82
                 have H1 : (some false) = some r := by rw [if_pos rfl] at H; exact H
                 clear H; have H := H1; clear H1; obtain rfl := Option.some.inj H
                 go_wp2
                 go_ret
                 exact ⟨by first | rfl | (simp [errW_none, errW_some] <;> rfl) | (simp [*, errW_none, errW_some] <;> rfl), by repeat (first | (with_reducible first | exact HB.out | apply ba | apply bn | apply below_drew1 | refine below_set ?_ GE270.out | refine below_set ?_ GE278.out) | exact HB.out)⟩
                ·replace c82 := Bool.eq_false_iff.mpr c82
                 subst c82
                 have H1 : (if ((rd_T80 l0_5 x73_2).f0) = 1 then (if 0 ≤ ((rd_T80 l0_5 x73_2).f1) then (if ((rd_T80 l0_5 x73_2).f1) < (x3_2.length : Int) then ((some (x3_2.set (((rd_T80 l0_5 x73_2).f1) : Int).toNat (wrap64 ((rd x3_2 ((rd_T80 l0_5 x73_2).f1)) + 1)) : List Int)).bind fun y281 => (if ((rd_T80 l0_5 x73_2).f0) = 4 then (impl_IsYard.l0 kj70 y281 (wrap64 (x4_2 + 1)) l0_5 (l0_5.length : Int) (wrap64 (x73_2 + 1)) l0_0 l0_1 l0_2 a0_3 a0_4 l0_5 l0_6 l0_7 a0_8 a0_9 a0_10) else (impl_IsYard.l0 kj70 y281 x4_2 l0_5 (l0_5.length : Int) (wrap64 (x73_2 + 1)) l0_0 l0_1 l0_2 a0_3 a0_4 l0_5 l0_6 l0_7 a0_8 a0_9 a0_10))) else (none)) else (none)) else (if ((rd_T80 l0_5 x73_2).f0) = 4 then (impl_IsYard.l0 kj70 x3_2 (wrap64 (x4_2 + 1)) l0_5 (l0_5.length : Int) (wrap64 (x73_2 + 1)) l0_0 l0_1 l0_2 a0_3 a0_4 l0_5 l0_6 l0_7 a0_8 a0_9 a0_10) else (impl_IsYard.l0 kj70 x3_2 x4_2 l0_5 (l0_5.length : Int) (wrap64 (x73_2 + 1)) l0_0 l0_1 l0_2 a0_3 a0_4 l0_5 l0_6 l0_7 a0_8 a0_9 a0_10))) = some r := by rw [if_neg (show ¬ (false = true) by decide)] at H; exact H
                 clear H; have H := H1; clear H1
                 by_cases c83 : ((rd_T80 l0_5 x73_2).f0) = 1
                 ·rw [if_pos c83] at H
                  have c83b0 : (((rd_T80 l0_5 x73_2).f0) == 1) = true := beq_iff_eq.mpr c83; have c83b1 : (((rd_T80 l0_5 x73_2).f0) != 1) = false := bne_eq_false_iff_eq.mpr c83; clear c83
                  by_cases c84 : 0 ≤ ((rd_T80 l0_5 x73_2).f1)
                  ·rw [if_pos c84] at H
                   have c84b0 : decide (0 ≤ ((rd_T80 l0_5 x73_2).f1)) = true := decide_eq_true c84; clear c84
                   by_cases c85 : ((rd_T80 l0_5 x73_2).f1) < (x3_2.length : Int)
                   ·rw [if_pos c85] at H
                    have c85b0 : decide (((rd_T80 l0_5 x73_2).f1) < (x3_2.length : Int)) = true := decide_eq_true c85; clear c85
                    obtain ⟨y281, hy281⟩ : ∃ y_ : List Int, y_ = (x3_2.set (((rd_T80 l0_5 x73_2).f1) : Int).toNat (wrap64 ((rd x3_2 ((rd_T80 l0_5 x73_2).f1)) + 1))) := ⟨_, rfl⟩
                    replace H : (if ((rd_T80 l0_5 x73_2).f0) = 4 then (impl_IsYard.l0 kj70 y281 (wrap64 (x4_2 + 1)) l0_5 (l0_5.length : Int) (wrap64 (x73_2 + 1)) l0_0 l0_1 l0_2 a0_3 a0_4 l0_5 l0_6 l0_7 a0_8 a0_9 a0_10) else (impl_IsYard.l0 kj70 y281 x4_2 l0_5 (l0_5.length : Int) (wrap64 (x73_2 + 1)) l0_0 l0_1 l0_2 a0_3 a0_4 l0_5 l0_6 l0_7 a0_8 a0_9 a0_10)) = some r := by first | (rw [hy281]; with_reducible exact H) | (have H2_ := (Option.bind_some _ _).symm.trans H; rw [hy281]; with_reducible exact H2_) | (have H2_ := (Option.bind_some _ _).symm.trans H; with_reducible exact H2_) | with_reducible exact H | (rw [hy281]; exact H) | exact H
                    have Ny281 := Aside0.mk hy281; clear hy281
                    by_cases c87 : ((rd_T80 l0_5 x73_2).f0) = 4
                    ·rw [if_pos c87] at H
                     have c87b0 : (((rd_T80 l0_5 x73_2).f0) == 4) = true := beq_iff_eq.mpr c87; have c87b1 : (((rd_T80 l0_5 x73_2).f0) != 4) = false := bne_eq_false_iff_eq.mpr c87; clear c87; have H' := Aside0.mk H; clear H; have hnb88 := NB278_270.out; have hnc88 := NB270_278.out; have hcz89_0 : wc.cell? ⟨gb278, 0, none⟩ = some (.int .i64 ((rd_T80 l0_5 x73_2).f0)) := (blk_cell BK278.out 0).trans rfl; have hcz89_1 : wc.cell? ⟨gb278, 1, none⟩ = some (.int .i64 ((rd_T80 l0_5 x73_2).f1)) := (blk_cell BK278.out 1).trans rfl; have hcz89_2 : wc.cell? ⟨gb278, 2, none⟩ = some (.int .i64 ((rd_T80 l0_5 x73_2).f2)) := (blk_cell BK278.out 2).trans rfl; have hfz89_0 := blk_frozen BK278.out 0; have hfz89_1 := blk_frozen BK278.out 1; have hfz89_2 := blk_frozen BK278.out 2; obtain ⟨Ao90, co90, eo90⟩ := Kd.R_slice HO_3.out; subst eo90; have p280 : 0 ≤ (((rd_T80 l0_5 x73_2).f1) : Int) := odt; have q280 : ((rd_T80 l0_5 x73_2).f1) < (x3_2.length : Int) := odt; obtain ⟨ad280, e280, hx280_0⟩ := Kd.at_int (Kd.R_reads' HO_3.out).2.2 ((rd_T80 l0_5 x73_2).f1) p280 q280; cases e280; replace p280 := eq_true p280; replace q280 := eq_true q280; have p86 : 0 ≤ (((rd_T80 l0_5 x73_2).f1) : Int) := odt; have q86 : (((rd_T80 l0_5 x73_2).f1) : Int) < ((x3_2.length : Int) : Int) := odt; obtain ⟨go86, co86, eo86, gb86, gl86, cl86, HG86⟩ := Kd.R_form HO_3.out (by omega)
                     (first | cases eo86 | (injection eo86 with ea_ en_ ec_; (first | subst ea_ | (injection ea_ with ea_; subst ea_)); subst ec_; clear en_))
                     have GB86 := Aside0.mk gb86; have GG86 := Aside0.mk HG86; clear gb86 gl86 HG86
                     (first | simp only [add_plain] at hx280_0 | skip)
                     obtain ⟨hx86_0, hf86_0⟩ := Kd.R_celln 0 HO_3.out (((rd_T80 l0_5 x73_2).f1) : Int) p86 q86; replace p86 := eq_true p86; replace q86 := eq_true q86; have HP91 := Kd.R_putg HO_3.out (((rd_T80 l0_5 x73_2).f1) : Int) (wrap64 ((rd x3_2 ((rd_T80 l0_5 x73_2).f1)) + 1))
                     go_wp2_with (first | ((with_reducible refine gate_store (t := 3) (p := 122) rfl ?_); refine store_event (t := 3) (p := 122) (v := ?vo_w92) (w1 := (wc.setCell ⟨go86, (((rd_T80 l0_5 x73_2).f1) : Int).toNat, none⟩ (.int .i64 (wrap64 ((rd x3_2 ((rd_T80 l0_5 x73_2).f1)) + 1))))) ?hg ?ho ?hn ?hr ?_; (case ho => rfl); (case hg => rfl); (case hn => rfl); (case hr => exact zl'); intro w92 hw; have hg : wc.grownBy w92 (some go86) := (by rw [hw]; exact HP91.2); have hp_ : Kd.R (Kd.int .i64) 3 w92 w.heap.size (fun _ => True) (.slice (some ⟨go86, 0, none⟩) x3_2.length co90) y281 := (by rw [hw, Ny281.out]; exact HP91.1); clear HP91; have n0_ := am (hp_); have n1_ := am (blk_grown (g := gb270) (o := o6') zr' hg (Kd.R_ne HO_3.out BK270.out (by decide))); have n2_ := am (blk_grown (g := gb278) (o := o16') zs3' hg (Kd.R_ne HO_3.out BK278.out (by decide))); have n3_ := am ((by rw [hw]; exact below_set (HB.out) GB86.out : Below w.heap.size w w92)); clear HO_3; clear BK270; clear BK278; clear HB; have HO_3 := n0_; have BK270 := n1_; have BK278 := n2_; have HB := n3_; clear n0_ n1_ n2_ n3_; clear hg hw hp_; have hcz93_0 : w92.cell? ⟨gb278, 0, none⟩ = some (.int .i64 ((rd_T80 l0_5 x73_2).f0)) := (blk_cell BK278.out 0).trans rfl; have hcz93_1 : w92.cell? ⟨gb278, 1, none⟩ = some (.int .i64 ((rd_T80 l0_5 x73_2).f1)) := (blk_cell BK278.out 1).trans rfl; have hcz93_2 : w92.cell? ⟨gb278, 2, none⟩ = some (.int .i64 ((rd_T80 l0_5 x73_2).f2)) := (blk_cell BK278.out 2).trans rfl; have hfz93_0 := blk_frozen BK278.out 0; have hfz93_1 := blk_frozen BK278.out 1; have hfz93_2 := blk_frozen BK278.out 2))
                     go_roundg kj70
                     case measure => have := HJ1.out; have := HK2.out; have := HJ52.out; have := HJ70.out; omega
                     case rel => exact ⟨(y281), (wrap64 (x4_2 + 1)), (wrap64 (x73_2 + 1)), zj', zj', H', ⟨zo4'⟩, ⟨zh'⟩, ⟨zr'⟩, ⟨zc1'⟩⟩
                    ·rw [if_neg c87] at H
                     have c87b0 : (((rd_T80 l0_5 x73_2).f0) == 4) = false := beq_eq_false_iff_ne.mpr c87; have c87b1 : (((rd_T80 l0_5 x73_2).f0) != 4) = true := bne_iff_ne.mpr c87; have H' := Aside0.mk H; clear H; have hnb94 := NB278_270.out; have hnc94 := NB270_278.out; have hcz95_0 : wc.cell? ⟨gb278, 0, none⟩ = some (.int .i64 ((rd_T80 l0_5 x73_2).f0)) := (blk_cell BK278.out 0).trans rfl; have hcz95_1 : wc.cell? ⟨gb278, 1, none⟩ = some (.int .i64 ((rd_T80 l0_5 x73_2).f1)) := (blk_cell BK278.out 1).trans rfl; have hcz95_2 : wc.cell? ⟨gb278, 2, none⟩ = some (.int .i64 ((rd_T80 l0_5 x73_2).f2)) := (blk_cell BK278.out 2).trans rfl; have hfz95_0 := blk_frozen BK278.out 0; have hfz95_1 := blk_frozen BK278.out 1; have hfz95_2 := blk_frozen BK278.out 2; obtain ⟨Ao96, co96, eo96⟩ := Kd.R_slice HO_3.out; subst eo96; have p280 : 0 ≤ (((rd_T80 l0_5 x73_2).f1) : Int) := odt; have q280 : ((rd_T80 l0_5 x73_2).f1) < (x3_2.length : Int) := odt; obtain ⟨ad280, e280, hx280_0⟩ := Kd.at_int (Kd.R_reads' HO_3.out).2.2 ((rd_T80 l0_5 x73_2).f1) p280 q280; cases e280; replace p280 := eq_true p280; replace q280 := eq_true q280; have p86 : 0 ≤ (((rd_T80 l0_5 x73_2).f1) : Int) := odt; have q86 : (((rd_T80 l0_5 x73_2).f1) : Int) < ((x3_2.length : Int) : Int) := odt; obtain ⟨go86, co86, eo86, gb86, gl86, cl86, HG86⟩ := Kd.R_form HO_3.out (by omega)
                     (first | cases eo86 | (injection eo86 with ea_ en_ ec_; (first | subst ea_ | (injection ea_ with ea_; subst ea_)); subst ec_; clear en_))
                     have GB86 := Aside0.mk gb86; have GG86 := Aside0.mk HG86; clear gb86 gl86 HG86
                     (first | simp only [add_plain] at hx280_0 | skip)
                     obtain ⟨hx86_0, hf86_0⟩ := Kd.R_celln 0 HO_3.out (((rd_T80 l0_5 x73_2).f1) : Int) p86 q86; replace p86 := eq_true p86; replace q86 := eq_true q86; have HP97 := Kd.R_putg HO_3.out (((rd_T80 l0_5 x73_2).f1) : Int) (wrap64 ((rd x3_2 ((rd_T80 l0_5 x73_2).f1)) + 1))
                     go_wp2_with (first | ((with_reducible refine gate_store (t := 3) (p := 122) rfl ?_); refine store_event (t := 3) (p := 122) (v := ?vo_w98) (w1 := (wc.setCell ⟨go86, (((rd_T80 l0_5 x73_2).f1) : Int).toNat, none⟩ (.int .i64 (wrap64 ((rd x3_2 ((rd_T80 l0_5 x73_2).f1)) + 1))))) ?hg ?ho ?hn ?hr ?_; (case ho => rfl); (case hg => rfl); (case hn => rfl); (case hr => exact zl'); intro w98 hw; have hg : wc.grownBy w98 (some go86) := (by rw [hw]; exact HP97.2); have hp_ : Kd.R (Kd.int .i64) 3 w98 w.heap.size (fun _ => True) (.slice (some ⟨go86, 0, none⟩) x3_2.length co96) y281 := (by rw [hw, Ny281.out]; exact HP97.1); clear HP97; have n0_ := am (hp_); have n1_ := am (blk_grown (g := gb270) (o := o6') zr' hg (Kd.R_ne HO_3.out BK270.out (by decide))); have n2_ := am (blk_grown (g := gb278) (o := o16') zs3' hg (Kd.R_ne HO_3.out BK278.out (by decide))); have n3_ := am ((by rw [hw]; exact below_set (HB.out) GB86.out : Below w.heap.size w w98)); clear HO_3; clear BK270; clear BK278; clear HB; have HO_3 := n0_; have BK270 := n1_; have BK278 := n2_; have HB := n3_; clear n0_ n1_ n2_ n3_; clear hg hw hp_; have hcz99_0 : w98.cell? ⟨gb278, 0, none⟩ = some (.int .i64 ((rd_T80 l0_5 x73_2).f0)) := (blk_cell BK278.out 0).trans rfl; have hcz99_1 : w98.cell? ⟨gb278, 1, none⟩ = some (.int .i64 ((rd_T80 l0_5 x73_2).f1)) := (blk_cell BK278.out 1).trans rfl; have hcz99_2 : w98.cell? ⟨gb278, 2, none⟩ = some (.int .i64 ((rd_T80 l0_5 x73_2).f2)) := (blk_cell BK278.out 2).trans rfl; have hfz99_0 := blk_frozen BK278.out 0; have hfz99_1 := blk_frozen BK278.out 1; have hfz99_2 := blk_frozen BK278.out 2))
                     go_roundg kj70
                     case measure => have := HJ1.out; have := HK2.out; have := HJ52.out; have := HJ70.out; omega
                     case rel => exact ⟨(y281), (x4_2), (wrap64 (x73_2 + 1)), zj', zj', H', ⟨zo4'⟩, ⟨zh'⟩, ⟨zr'⟩, ⟨zc1'⟩⟩
                   ·rw [if_neg c85] at H
                    exact absurd H (by simp)
                  ·rw [if_neg c84] at H
                   exact absurd H (by simp)
                 ·rw [if_neg c83] at H
                  have c83b0 : (((rd_T80 l0_5 x73_2).f0) == 1) = false := beq_eq_false_iff_ne.mpr c83; have c83b1 : (((rd_T80 l0_5 x73_2).f0) != 1) = true := bne_iff_ne.mpr c83
                  by_cases c100 : ((rd_T80 l0_5 x73_2).f0) = 4
                  ·rw [if_pos c100] at H
                   have c100b0 : (((rd_T80 l0_5 x73_2).f0) == 4) = true := beq_iff_eq.mpr c100; have c100b1 : (((rd_T80 l0_5 x73_2).f0) != 4) = false := bne_eq_false_iff_eq.mpr c100; clear c100; have H' := Aside0.mk H; clear H; have hnb101 := NB278_270.out; have hnc101 := NB270_278.out; have hcz102_0 : wc.cell? ⟨gb278, 0, none⟩ = some (.int .i64 ((rd_T80 l0_5 x73_2).f0)) := (blk_cell BK278.out 0).trans rfl; have hcz102_1 : wc.cell? ⟨gb278, 1, none⟩ = some (.int .i64 ((rd_T80 l0_5 x73_2).f1)) := (blk_cell BK278.out 1).trans rfl; have hcz102_2 : wc.cell? ⟨gb278, 2, none⟩ = some (.int .i64 ((rd_T80 l0_5 x73_2).f2)) := (blk_cell BK278.out 2).trans rfl; have hfz102_0 := blk_frozen BK278.out 0; have hfz102_1 := blk_frozen BK278.out 1; have hfz102_2 := blk_frozen BK278.out 2
                   go_wp2
                   go_roundg kj70
                   case measure => have := HJ1.out; have := HK2.out; have := HJ52.out; have := HJ70.out; omega
                   case rel => exact ⟨(x3_2), (wrap64 (x4_2 + 1)), (wrap64 (x73_2 + 1)), zj', zj', H', ⟨zo4'⟩, ⟨zh'⟩, ⟨zr'⟩, ⟨zc1'⟩⟩
                  ·rw [if_neg c100] at H
                   have c100b0 : (((rd_T80 l0_5 x73_2).f0) == 4) = false := beq_eq_false_iff_ne.mpr c100; have c100b1 : (((rd_T80 l0_5 x73_2).f0) != 4) = true := bne_iff_ne.mpr c100; have H' := Aside0.mk H; clear H; have hnb103 := NB278_270.out; have hnc103 := NB270_278.out; have hcz104_0 : wc.cell? ⟨gb278, 0, none⟩ = some (.int .i64 ((rd_T80 l0_5 x73_2).f0)) := (blk_cell BK278.out 0).trans rfl; have hcz104_1 : wc.cell? ⟨gb278, 1, none⟩ = some (.int .i64 ((rd_T80 l0_5 x73_2).f1)) := (blk_cell BK278.out 1).trans rfl; have hcz104_2 : wc.cell? ⟨gb278, 2, none⟩ = some (.int .i64 ((rd_T80 l0_5 x73_2).f2)) := (blk_cell BK278.out 2).trans rfl; have hfz104_0 := blk_frozen BK278.out 0; have hfz104_1 := blk_frozen BK278.out 1; have hfz104_2 := blk_frozen BK278.out 2
                   go_wp2
                   go_roundg kj70
                   case measure => have := HJ1.out; have := HK2.out; have := HJ52.out; have := HJ70.out; omega
                   case rel => exact ⟨(x3_2), (x4_2), (wrap64 (x73_2 + 1)), zj', zj', H', ⟨zo4'⟩, ⟨zh'⟩, ⟨zr'⟩, ⟨zc1'⟩⟩
          ·rw [if_neg c52] at H
           exact absurd H (by simp)
         ·rw [if_neg c51] at H
          exact absurd H (by simp)
        ·rw [if_neg c50] at H
         have c50b0 : decide (x73_2 < (l0_5.length : Int)) = false := decide_eq_false c50; clear c50; replace H := Option.bind_eq_some_iff.mp H; obtain ⟨t275, A1050, H⟩ := H; replace H : (if t275 ≤ 1 then (if x4_2 ≤ 1 then ((impl_goodLines.f k2 l0_0 l0_1 l0_2 a0_3 a0_4 l0_5 l0_6 l0_7 a0_8 a0_9 a0_10).bind fun t276 => (some t276)) else (some false)) else (some false)) = some r := H; have A105 := Aside0.mk A1050; clear A1050
         by_cases c106 : t275 ≤ 1
         ·rw [if_pos c106] at H
          have c106b0 : decide (t275 ≤ 1) = true := decide_eq_true c106; clear c106
          by_cases c107 : x4_2 ≤ 1
          ·rw [if_pos c107] at H
           have c107b0 : decide (x4_2 ≤ 1) = true := decide_eq_true c107; clear c107; replace H := Option.bind_eq_some_iff.mp H; obtain ⟨t276, A1080, H⟩ := H; replace H : (some t276) = some r := H; have A108 := Aside0.mk A1080; clear A1080; obtain rfl := Option.some.inj H; obtain ⟨Ao109, co109, eo109⟩ := Kd.R_slice HO_3.out; subst eo109
           go_wp2_with (first | ((with_reducible refine gate_callee (f := 76) rfl ?_); refine goesL_ (some 130) rfl rfl Try.func76 (by kernel_rfl) rfl #[.slice Ao109 x3_2.length co109] rfl zb' ?_; (with_reducible refine (slices_Max_int_int.calls k2 _ _ x3_2 t275 _ ?side1 ?side2 A105.out).mono ?_); (case side1 => exact zw'); (case side2 => exact zg3'); rintro e w' ⟨rfl, ⟨nd, rfl⟩⟩; refine ⟨_, rfl, ?_⟩; have hcz110_0 : wr.cell? ⟨gb270, 0, none⟩ = some (.slice A0_0 l0_0.length c0_0) := (blk_cell BK270.out 0).trans rfl; have hcz110_1 : wr.cell? ⟨gb270, 1, none⟩ = some (.slice A0_1 l0_1.length c0_1) := (blk_cell BK270.out 1).trans rfl; have hcz110_2 : wr.cell? ⟨gb270, 2, none⟩ = some (.slice A0_2 l0_2.length c0_2) := (blk_cell BK270.out 2).trans rfl; have hcz110_3 : wr.cell? ⟨gb270, 3, none⟩ = some (.int .i64 a0_3) := (blk_cell BK270.out 3).trans rfl; have hcz110_4 : wr.cell? ⟨gb270, 4, none⟩ = some (.int .i64 a0_4) := (blk_cell BK270.out 4).trans rfl; have hcz110_5 : wr.cell? ⟨gb270, 5, none⟩ = some (.slice A0_5 l0_5.length c0_5) := (blk_cell BK270.out 5).trans rfl; have hcz110_6 : wr.cell? ⟨gb270, 6, none⟩ = some (.slice A0_6 l0_6.length c0_6) := (blk_cell BK270.out 6).trans rfl; have hcz110_7 : wr.cell? ⟨gb270, 7, none⟩ = some (.slice A0_7 l0_7.length c0_7) := (blk_cell BK270.out 7).trans rfl; have hcz110_8 : wr.cell? ⟨gb270, 8, none⟩ = some (.int .i64 a0_8) := (blk_cell BK270.out 8).trans rfl; have hcz110_9 : wr.cell? ⟨gb270, 9, none⟩ = some (.int .i64 a0_9) := (blk_cell BK270.out 9).trans rfl; have hcz110_10 : wr.cell? ⟨gb270, 10, none⟩ = some (.int .i64 a0_10) := (blk_cell BK270.out 10).trans rfl; have hfz110_0 := blk_frozen BK270.out 0; have hfz110_1 := blk_frozen BK270.out 1; have hfz110_2 := blk_frozen BK270.out 2; have hfz110_3 := blk_frozen BK270.out 3; have hfz110_4 := blk_frozen BK270.out 4; have hfz110_5 := blk_frozen BK270.out 5; have hfz110_6 := blk_frozen BK270.out 6; have hfz110_7 := blk_frozen BK270.out 7; have hfz110_8 := blk_frozen BK270.out 8; have hfz110_9 := blk_frozen BK270.out 9; have hfz110_10 := blk_frozen BK270.out 10) | (go_at_call 77; (with_reducible refine (impl_goodLines.calls k2 _ _ l0_0 _ _ l0_1 _ _ l0_2 a0_3 a0_4 _ _ l0_5 _ _ l0_6 _ _ l0_7 a0_8 a0_9 a0_10 t276 _ ?side1 ?side2 ?side3 ?side4 ?side5 ?side6 ?side7 ?side8 ?side9 ?side10 ?side11 ?side12 A108.out).mono ?_); (case side1 => repeat (first | exact (Kd.C_below HR0_0.out zd') | (with_reducible refine Kd.C_alloc ?_ _) | (with_reducible refine Kd.C_drewN ?_ _) | (with_reducible refine Kd.C_drew ?_))); (case side2 => exact zg2'); (case side3 => repeat (first | exact (Kd.C_below HR0_1.out zd') | (with_reducible refine Kd.C_alloc ?_ _) | (with_reducible refine Kd.C_drewN ?_ _) | (with_reducible refine Kd.C_drew ?_))); (case side4 => exact zo2'); (case side5 => repeat (first | exact (Kd.C_below HR0_2.out zd') | (with_reducible refine Kd.C_alloc ?_ _) | (with_reducible refine Kd.C_drewN ?_ _) | (with_reducible refine Kd.C_drew ?_))); (case side6 => exact zq2'); (case side7 => repeat (first | exact (Kd.C_below HR0_5.out zd') | (with_reducible refine Kd.C_alloc ?_ _) | (with_reducible refine Kd.C_drewN ?_ _) | (with_reducible refine Kd.C_drew ?_))); (case side8 => exact zh4'); (case side9 => repeat (first | exact (Kd.C_below HR0_6.out zd') | (with_reducible refine Kd.C_alloc ?_ _) | (with_reducible refine Kd.C_drewN ?_ _) | (with_reducible refine Kd.C_drew ?_))); (case side10 => exact zn4'); (case side11 => repeat (first | exact (Kd.C_below HR0_7.out zd') | (with_reducible refine Kd.C_alloc ?_ _) | (with_reducible refine Kd.C_drewN ?_ _) | (with_reducible refine Kd.C_drew ?_))); (case side12 => exact zi4'); rintro e w111 ⟨rfl, hb⟩; have n0_ := am (Kd.R_below zh' hb); have n1_ := am (blk_below (g := gb270) (o := o0') zr' hb); have n2_ := am (below_step zd' hb); clear HO_3; clear BK270; clear HB; have HO_3 := n0_; have BK270 := n1_; have HB := n2_; clear n0_ n1_ n2_; (try clear hb); (try clear hb2); (try clear hk); (try clear hi)))
           go_ret
           exact ⟨by first | rfl | (simp [errW_none, errW_some] <;> rfl) | (simp [*, errW_none, errW_some] <;> rfl), by repeat (first | (with_reducible first | exact HB.out | apply ba | apply bn | apply below_drew1 | refine below_set ?_ GE270.out) | exact HB.out)⟩
          ·rw [if_neg c107] at H
           have c107b0 : decide (x4_2 ≤ 1) = false := decide_eq_false c107; clear c107; obtain rfl := Option.some.inj H; obtain ⟨Ao112, co112, eo112⟩ := Kd.R_slice HO_3.out; subst eo112
           go_wp2_with (first | ((with_reducible refine gate_callee (f := 76) rfl ?_); refine goesL_ (some 130) rfl rfl Try.func76 (by kernel_rfl) rfl #[.slice Ao112 x3_2.length co112] rfl zb' ?_; (with_reducible refine (slices_Max_int_int.calls k2 _ _ x3_2 t275 _ ?side1 ?side2 A105.out).mono ?_); (case side1 => exact zw'); (case side2 => exact zg3'); rintro e w' ⟨rfl, ⟨nd, rfl⟩⟩; refine ⟨_, rfl, ?_⟩))
           go_ret
           exact ⟨by first | rfl | (simp [errW_none, errW_some] <;> rfl) | (simp [*, errW_none, errW_some] <;> rfl), by repeat (first | (with_reducible first | exact HB.out | apply ba | apply bn | apply below_drew1 | refine below_set ?_ GE270.out) | exact HB.out)⟩
         ·rw [if_neg c106] at H
          have c106b0 : decide (t275 ≤ 1) = false := decide_eq_false c106; clear c106; obtain rfl := Option.some.inj H; obtain ⟨Ao113, co113, eo113⟩ := Kd.R_slice HO_3.out; subst eo113
          go_wp2_with (first | ((with_reducible refine gate_callee (f := 76) rfl ?_); refine goesL_ (some 130) rfl rfl Try.func76 (by kernel_rfl) rfl #[.slice Ao113 x3_2.length co113] rfl zb' ?_; (with_reducible refine (slices_Max_int_int.calls k2 _ _ x3_2 t275 _ ?side1 ?side2 A105.out).mono ?_); (case side1 => exact zw'); (case side2 => exact zg3'); rintro e w' ⟨rfl, ⟨nd, rfl⟩⟩; refine ⟨_, rfl, ?_⟩))
          go_ret
          exact ⟨by first | rfl | (simp [errW_none, errW_some] <;> rfl) | (simp [*, errW_none, errW_some] <;> rfl), by repeat (first | (with_reducible first | exact HB.out | apply ba | apply bn | apply below_drew1 | refine below_set ?_ GE270.out) | exact HB.out)⟩
     ·rw [if_neg c45] at H
      exact absurd H (by simp)
    ·rw [if_neg c44] at H
     exact absurd H (by simp)

end Go.Proofs.Ytikbfnbfbpnmjaa.PFnExactCountStates
