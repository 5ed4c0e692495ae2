-- Written by a program of this claim (patch_print.py over the print): no hand has typed it.
import Derived.Test.YtpfjjheognelhaaPFnExactWorthBetweenx0
import Derived.Test.YtpfjjheognelhaaPFnExactWorthBetweenx1
import Derived.Test.YtpfjjheognelhaaPFnExactWorthBetweenx2
import Derived.Test.YtpfjjheognelhaaPFnExactWorthBetweenx5
import Derived.Test.YtpfjjheognelhaaPFnExactWorthBetweenx9
namespace Go.Proofs.Ytpfjjheognelhaa.PFnExactWorthBetween
open Go.RowKit Go.Proofs.YtpfjjheognelhaaW.PrintWords Go.Proofs.YtpfjjheognelhaaW.PrintLast Go.Proofs.YtpfjjheognelhaaW.PrintMore
attribute [local go_sem] max2_int min2_int max_two min_two max_three min_three max_four min_four   -- for this text's walks alone
set_option linter.unusedVariables false
set_option linter.unusedSimpArgs false

/-! ### laws_FnExactWorthBetween: function 9 -/
mutual
def laws_FnExactWorthBetween.j0 : Nat → List Int → Bool → List Int → Bool → Bool → List (List Int) → List Int → List Int → Int → Int → Int → Int → Int → Int → List Int → Int → List Int → List (List Int) → List Int → List Int → Int → Int → Int → Int → Int → Int → List Int → Int → List Int → Option (Bool)
 | 0, _, _, _, _, _, _, _, _, _, _, _, _, _, _, _, _, _, _, _, _, _, _, _, _, _, _, _, _, _ => none
 | k + 1, x8, x9, x13, x14, x66, x269000, x269001, x269002, x269003, x269004, x269005, x269006, x269007, x270000, x270001, x271000, x271001, x315000, x315001, x315002, x315003, x315004, x315005, x315006, x315007, x320000, x320001, x325000, x325001 => if x66 = true then (none) else ((laws_toJob.f k x269000 x269001 x269002 x269003 x269004 x269005 x269006 x269007).bind fun bt330 => ((laws_eqJob.f k x315000 x315001 x315002 x315003 x315004 x315005 x315006 x315007 bt330.1 bt330.2.1 bt330.2.2.1 bt330.2.2.2.1 bt330.2.2.2.2.1 bt330.2.2.2.2.2.1 bt330.2.2.2.2.2.2.1 bt330.2.2.2.2.2.2.2).bind fun t344 => (if t344 = true then ((laws_toPlan.f k x270000 x270001).bind fun bt345 => ((laws_eqPlan.f k x320000 x320001 bt345.1 bt345.2).bind fun t349 => (if t349 = true then ((laws_toPlan.f k x271000 x271001).bind fun bt350 => ((laws_eqPlan.f k x325000 x325001 bt350.1 bt350.2).bind fun t354 => (if t354 = true then ((laws_markJob.f k x315000 x315001 x315002 x315003 x315004 x315005 x315006 x315007 1).bind fun t355 => ((laws_markPlan.f k x320000 x320001 t355).bind fun bt356 => ((laws_markPlan.f k x325000 x325001 bt356.1).bind fun bt358 => (if bt358.1 < 0 then (laws_FnExactWorthBetween.j1 k x8 x9 x13 true x269000 x269001 x269002 x269003 x269004 x269005 x269006 x269007 x270000 x270001 x271000 x271001) else ((laws_eqIntS.f k x13 x8).bind fun t360 => (if t360 = true then (laws_FnExactWorthBetween.j1 k x8 x9 x13 (x14 != x9) x269000 x269001 x269002 x269003 x269004 x269005 x269006 x269007 x270000 x270001 x271000 x271001) else (laws_FnExactWorthBetween.j1 k x8 x9 x13 true x269000 x269001 x269002 x269003 x269004 x269005 x269006 x269007 x270000 x270001 x271000 x271001))))))) else (none)))) else (none)))) else (none))))
def laws_FnExactWorthBetween.j1 : Nat → List Int → Bool → List Int → Bool → List (List Int) → List Int → List Int → Int → Int → Int → Int → Int → Int → List Int → Int → List Int → Option (Bool)
 | 0, _, _, _, _, _, _, _, _, _, _, _, _, _, _, _, _ => none
 | k + 1, x8, x9, x13, x103, x269000, x269001, x269002, x269003, x269004, x269005, x269006, x269007, x270000, x270001, x271000, x271001 => if x103 = true then (none) else ((laws_markIntS.f k x13 1).bind fun bt361 => ((laws_heldIntS.f k bt361.2 1).bind fun t363 => (if t363 < 0 then (none) else (if t363 = bt361.1 then ((laws_toJob.f k x269000 x269001 x269002 x269003 x269004 x269005 x269006 x269007).bind fun bt364 => ((laws_toPlan.f k x270000 x270001).bind fun bt378 => ((laws_toPlan.f k x271000 x271001).bind fun bt382 => ((impl_WorthBetween.f k bt364.1 bt364.2.1 bt364.2.2.1 bt364.2.2.2.1 bt364.2.2.2.2.1 bt364.2.2.2.2.2.1 bt364.2.2.2.2.2.2.1 bt364.2.2.2.2.2.2.2 bt378.1 bt378.2 bt382.1 bt382.2).bind fun bt386 => ((laws_eqIntS.f k bt386.1 x8).bind fun t390 => (if t390 = true then (laws_FnExactWorthBetween.j2 k bt361.2 bt361.1 (bt386.2 != x9)) else (laws_FnExactWorthBetween.j2 k bt361.2 bt361.1 true))))))) else (none)))))
def laws_FnExactWorthBetween.j2 : Nat → List Int → Int → Bool → Option (Bool)
 | 0, _, _, _ => none
 | k + 1, x13, x16, x133 => if x133 = true then (none) else ((laws_heldIntS.f k x13 1).bind fun t391 => (if t391 < 0 then (none) else (if t391 = x16 then (some true) else (none))))
end
def laws_FnExactWorthBetween.f (k : Nat) (l0_0 : List (List Int)) (l0_1 : List Int) (l0_2 : List Int) (a0_3 : Int) (a0_4 : Int) (a0_5 : Int) (a0_6 : Int) (a0_7 : Int) (a1_0 : Int) (l1_1 : List Int) (a2_0 : Int) (l2_1 : List Int) : Option (Bool) := (laws_szJob.f k l0_0 l0_1 l0_2 a0_3 a0_4 a0_5 a0_6 a0_7 1048576).bind fun t271 => (if t271 < 0 then (some true) else ((laws_szPlan.f a1_0 l1_1 t271).bind fun t272 => (if t272 < 0 then (some true) else ((laws_szPlan.f a2_0 l2_1 t272).bind fun t273 => (if t273 < 0 then (some true) else ((laws_toJob.f k l0_0 l0_1 l0_2 a0_3 a0_4 a0_5 a0_6 a0_7).bind fun bt274 => ((laws_toPlan.f k a1_0 l1_1).bind fun bt288 => ((laws_toPlan.f k a2_0 l2_1).bind fun bt292 => ((spec_WorthBetween.f k bt274.1 bt274.2.1 bt274.2.2.1 bt274.2.2.2.1 bt274.2.2.2.2.1 bt274.2.2.2.2.2.1 bt274.2.2.2.2.2.2.1 bt274.2.2.2.2.2.2.2 bt288.1 bt288.2 bt292.1 bt292.2).bind fun bt296 => ((laws_toJob.f k l0_0 l0_1 l0_2 a0_3 a0_4 a0_5 a0_6 a0_7).bind fun bt300 => ((laws_toPlan.f k a1_0 l1_1).bind fun bt315 => ((laws_toPlan.f k a2_0 l2_1).bind fun bt320 => ((impl_WorthBetween.f k bt300.1 bt300.2.1 bt300.2.2.1 bt300.2.2.2.1 bt300.2.2.2.2.1 bt300.2.2.2.2.2.1 bt300.2.2.2.2.2.2.1 bt300.2.2.2.2.2.2.2 bt315.1 bt315.2 bt320.1 bt320.2).bind fun bt325 => ((laws_eqIntS.f k bt325.1 bt296.1).bind fun t329 => (if t329 = true then (laws_FnExactWorthBetween.j0 k bt296.1 bt296.2 bt325.1 bt325.2 (bt325.2 != bt296.2) l0_0 l0_1 l0_2 a0_3 a0_4 a0_5 a0_6 a0_7 a1_0 l1_1 a2_0 l2_1 bt300.1 bt300.2.1 bt300.2.2.1 bt300.2.2.2.1 bt300.2.2.2.2.1 bt300.2.2.2.2.2.1 bt300.2.2.2.2.2.2.1 bt300.2.2.2.2.2.2.2 bt315.1 bt315.2 bt320.1 bt320.2) else (laws_FnExactWorthBetween.j0 k bt296.1 bt296.2 bt325.1 bt325.2 true l0_0 l0_1 l0_2 a0_3 a0_4 a0_5 a0_6 a0_7 a1_0 l1_1 a2_0 l2_1 bt300.1 bt300.2.1 bt300.2.2.1 bt300.2.2.2.1 bt300.2.2.2.2.1 bt300.2.2.2.2.2.1 bt300.2.2.2.2.2.2.1 bt300.2.2.2.2.2.2.2 bt315.1 bt315.2 bt320.1 bt320.2))))))))))))))))
def laws_FnExactWorthBetween.T11 : Bool × List (List Nat × List Nat) := (true, [([], []), ([0], [0]), ([], []), ([2, 1], [2]), ([], []), ([4, 3], [4]), ([1, 3, 5, 5], [1, 3, 5]), ([6], [6]), ([7], [7]), ([7], [7]), ([8, 6, 0, 1, 2, 3, 4, 5, 6, 7, 8], [8]), ([9, 10, 0, 1, 2, 3, 4, 5, 6, 7, 8, 9, 10], [9])])
def laws_FnExactWorthBetween.B11 : List Nat := [0, 1, 0, 7, 0, 31, 63, 127, 255, 255, 511, 2047]
theorem laws_FnExactWorthBetween.tab11 : rtab .any (opsOf Try.f9 11) = laws_FnExactWorthBetween.T11 := by kernel_rfl
theorem laws_FnExactWorthBetween.bits11 : waitsOk laws_FnExactWorthBetween.T11.2 laws_FnExactWorthBetween.B11 = true := by kernel_rfl
def laws_FnExactWorthBetween.T38 : Bool × List (List Nat × List Nat) := (true, [([], []), ([0], [0]), ([], []), ([2, 1], [2]), ([], []), ([4, 3], [4]), ([1, 3, 5, 5], [1, 3, 5]), ([6], [6]), ([7], [7]), ([7], [7]), ([8, 6, 0, 1, 2, 3, 4, 5, 6, 7, 8], [8]), ([9, 10, 0, 1, 2, 3, 4, 5, 6, 7, 8, 9, 10], [9])])
def laws_FnExactWorthBetween.B38 : List Nat := [0, 1, 0, 7, 0, 31, 63, 127, 255, 255, 511, 2047]
theorem laws_FnExactWorthBetween.tab38 : rtab .any (opsOf Try.f9 38) = laws_FnExactWorthBetween.T38 := by kernel_rfl
theorem laws_FnExactWorthBetween.bits38 : waitsOk laws_FnExactWorthBetween.T38.2 laws_FnExactWorthBetween.B38 = true := by kernel_rfl
set_option maxHeartbeats 8000000 in
set_option maxRecDepth 100000 in
theorem laws_FnExactWorthBetween.calls (k : Nat) (A0_0 : Option Addr) (c0_0 : Nat) (l0_0 : List (List Int)) (A0_1 : Option Addr) (c0_1 : Nat) (l0_1 : List Int) (A0_2 : Option Addr) (c0_2 : Nat) (l0_2 : List Int) (a0_3 : Int) (a0_4 : Int) (a0_5 : Int) (a0_6 : Int) (a0_7 : Int) (a1_0 : Int) (A1_1 : Option Addr) (c1_1 : Nat) (l1_1 : List Int) (a2_0 : Int) (A2_1 : Option Addr) (c2_1 : Nat) (l2_1 : List Int) (r : Bool) (w : World) (hr0_0 : Kd.C (Kd.slice 3 (Kd.int .i64)) w A0_0 l0_0.length l0_0) (hc0_0 : l0_0.length ≤ c0_0) (hr0_1 : Kd.C (Kd.int .i64) w A0_1 l0_1.length l0_1) (hc0_1 : l0_1.length ≤ c0_1) (hr0_2 : Kd.C (Kd.int .i64) w A0_2 l0_2.length l0_2) (hc0_2 : l0_2.length ≤ c0_2) (hr1_1 : Kd.C (Kd.int .i64) w A1_1 l1_1.length l1_1) (hc1_1 : l1_1.length ≤ c1_1) (hr2_1 : Kd.C (Kd.int .i64) w A2_1 l2_1.length l2_1) (hc2_1 : l2_1.length ≤ c2_1) (h : laws_FnExactWorthBetween.f k l0_0 l0_1 l0_2 a0_3 a0_4 a0_5 a0_6 a0_7 a1_0 l1_1 a2_0 l2_1 = some r) :
  Calls Try.prog 9 #[.agg #[.slice A0_0 l0_0.length c0_0, .slice A0_1 l0_1.length c0_1, .slice A0_2 l0_2.length c0_2, .int .i64 a0_3, .int .i64 a0_4, .int .i64 a0_5, .int .i64 a0_6, .int .i64 a0_7], .agg #[.int .i64 a1_0, .slice A1_1 l1_1.length c1_1], .agg #[.int .i64 a2_0, .slice A2_1 l2_1.length c2_1]] w fun e w' => e = .returned (.bool r) ∧ Below w.heap.size w w' := by
 have hu27 := Try.underlying27
 have hu29 := Try.underlying29
 have hu36 := Try.underlying36
 have hu38 := Try.underlying38
 have HR0_0 := Aside0.mk hr0_0
 have HC0_0 := Aside0.mk hc0_0
 clear hr0_0 hc0_0
 have HR0_1 := Aside0.mk hr0_1
 have HC0_1 := Aside0.mk hc0_1
 clear hr0_1 hc0_1
 have HR0_2 := Aside0.mk hr0_2
 have HC0_2 := Aside0.mk hc0_2
 clear hr0_2 hc0_2
 have HR1_1 := Aside0.mk hr1_1
 have HC1_1 := Aside0.mk hc1_1
 clear hr1_1 hc1_1
 have HR2_1 := Aside0.mk hr2_1
 have HC2_1 := Aside0.mk hc2_1
 clear hr2_1 hc2_1
 have HB := AZ (Below.refl w.heap.size w)
 have H : ((laws_szJob.f k l0_0 l0_1 l0_2 a0_3 a0_4 a0_5 a0_6 a0_7 1048576).bind fun t271 => (if t271 < 0 then (some true) else ((laws_szPlan.f a1_0 l1_1 t271).bind fun t272 => (if t272 < 0 then (some true) else ((laws_szPlan.f a2_0 l2_1 t272).bind fun t273 => (if t273 < 0 then (some true) else ((laws_toJob.f k l0_0 l0_1 l0_2 a0_3 a0_4 a0_5 a0_6 a0_7).bind fun bt274 => ((laws_toPlan.f k a1_0 l1_1).bind fun bt288 => ((laws_toPlan.f k a2_0 l2_1).bind fun bt292 => ((spec_WorthBetween.f k bt274.1 bt274.2.1 bt274.2.2.1 bt274.2.2.2.1 bt274.2.2.2.2.1 bt274.2.2.2.2.2.1 bt274.2.2.2.2.2.2.1 bt274.2.2.2.2.2.2.2 bt288.1 bt288.2 bt292.1 bt292.2).bind fun bt296 => ((laws_toJob.f k l0_0 l0_1 l0_2 a0_3 a0_4 a0_5 a0_6 a0_7).bind fun bt300 => ((laws_toPlan.f k a1_0 l1_1).bind fun bt315 => ((laws_toPlan.f k a2_0 l2_1).bind fun bt320 => ((impl_WorthBetween.f k bt300.1 bt300.2.1 bt300.2.2.1 bt300.2.2.2.1 bt300.2.2.2.2.1 bt300.2.2.2.2.2.1 bt300.2.2.2.2.2.2.1 bt300.2.2.2.2.2.2.2 bt315.1 bt315.2 bt320.1 bt320.2).bind fun bt325 => ((laws_eqIntS.f k bt325.1 bt296.1).bind fun t329 => (if t329 = true then (laws_FnExactWorthBetween.j0 k bt296.1 bt296.2 bt325.1 bt325.2 (bt325.2 != bt296.2) l0_0 l0_1 l0_2 a0_3 a0_4 a0_5 a0_6 a0_7 a1_0 l1_1 a2_0 l2_1 bt300.1 bt300.2.1 bt300.2.2.1 bt300.2.2.2.1 bt300.2.2.2.2.1 bt300.2.2.2.2.2.1 bt300.2.2.2.2.2.2.1 bt300.2.2.2.2.2.2.2 bt315.1 bt315.2 bt320.1 bt320.2) else (laws_FnExactWorthBetween.j0 k bt296.1 bt296.2 bt325.1 bt325.2 true l0_0 l0_1 l0_2 a0_3 a0_4 a0_5 a0_6 a0_7 a1_0 l1_1 a2_0 l2_1 bt300.1 bt300.2.1 bt300.2.2.1 bt300.2.2.2.1 bt300.2.2.2.2.1 bt300.2.2.2.2.2.1 bt300.2.2.2.2.2.2.1 bt300.2.2.2.2.2.2.2 bt315.1 bt315.2 bt320.1 bt320.2))))))))))))))))) = some r := h
 clear h
 replace H := Option.bind_eq_some_iff.mp H
 obtain ⟨t271, A40, H⟩ := H
 replace H : (if t271 < 0 then (some true) else ((laws_szPlan.f a1_0 l1_1 t271).bind fun t272 => (if t272 < 0 then (some true) else ((laws_szPlan.f a2_0 l2_1 t272).bind fun t273 => (if t273 < 0 then (some true) else ((laws_toJob.f k l0_0 l0_1 l0_2 a0_3 a0_4 a0_5 a0_6 a0_7).bind fun bt274 => ((laws_toPlan.f k a1_0 l1_1).bind fun bt288 => ((laws_toPlan.f k a2_0 l2_1).bind fun bt292 => ((spec_WorthBetween.f k bt274.1 bt274.2.1 bt274.2.2.1 bt274.2.2.2.1 bt274.2.2.2.2.1 bt274.2.2.2.2.2.1 bt274.2.2.2.2.2.2.1 bt274.2.2.2.2.2.2.2 bt288.1 bt288.2 bt292.1 bt292.2).bind fun bt296 => ((laws_toJob.f k l0_0 l0_1 l0_2 a0_3 a0_4 a0_5 a0_6 a0_7).bind fun bt300 => ((laws_toPlan.f k a1_0 l1_1).bind fun bt315 => ((laws_toPlan.f k a2_0 l2_1).bind fun bt320 => ((impl_WorthBetween.f k bt300.1 bt300.2.1 bt300.2.2.1 bt300.2.2.2.1 bt300.2.2.2.2.1 bt300.2.2.2.2.2.1 bt300.2.2.2.2.2.2.1 bt300.2.2.2.2.2.2.2 bt315.1 bt315.2 bt320.1 bt320.2).bind fun bt325 => ((laws_eqIntS.f k bt325.1 bt296.1).bind fun t329 => (if t329 = true then (laws_FnExactWorthBetween.j0 k bt296.1 bt296.2 bt325.1 bt325.2 (bt325.2 != bt296.2) l0_0 l0_1 l0_2 a0_3 a0_4 a0_5 a0_6 a0_7 a1_0 l1_1 a2_0 l2_1 bt300.1 bt300.2.1 bt300.2.2.1 bt300.2.2.2.1 bt300.2.2.2.2.1 bt300.2.2.2.2.2.1 bt300.2.2.2.2.2.2.1 bt300.2.2.2.2.2.2.2 bt315.1 bt315.2 bt320.1 bt320.2) else (laws_FnExactWorthBetween.j0 k bt296.1 bt296.2 bt325.1 bt325.2 true l0_0 l0_1 l0_2 a0_3 a0_4 a0_5 a0_6 a0_7 a1_0 l1_1 a2_0 l2_1 bt300.1 bt300.2.1 bt300.2.2.1 bt300.2.2.2.1 bt300.2.2.2.2.1 bt300.2.2.2.2.2.1 bt300.2.2.2.2.2.2.1 bt300.2.2.2.2.2.2.2 bt315.1 bt315.2 bt320.1 bt320.2)))))))))))))))) = some r := H
 have A4 := Aside0.mk A40
 clear A40
 by_cases c5 : t271 < 0
 ·rw [if_pos c5] at H
  have c5b0 : decide (t271 < 0) = true := decide_eq_true c5
  clear c5
  obtain rfl := Option.some.inj H
  go_enter Try.func9, Try.ntmps9
  go_wp2_with (first | ((with_reducible refine gate_dst (N := 3) rfl ?_); refine box_event ?hg (N := 3) ?hd (cs := #[.slice A0_0 l0_0.length c0_0, .slice A0_1 l0_1.length c0_1, .slice A0_2 l0_2.length c0_2, .int .i64 a0_3, .int .i64 a0_4, .int .i64 a0_5, .int .i64 a0_6, .int .i64 a0_7]) (t := 27) ?hr ?_; (case hd => rfl); (case hg => rfl); (case hr => first | (go_simp; done) | (go_simp; rfl)); intro gb268 hg w6 hbox hb; have n0_ := AZ (below_step (bS HB.out) hb); have n1_ := AZ (hbox); have n2_ := AZ (geS hg HB.out); have n3_ := AZ (geS hg HB.out); clear HB; have HB := n0_; have BK268 := n1_; have GW268 := n2_; have GE268 := n3_; clear n0_ n1_ n2_ n3_; clear hb hbox hg) | ((with_reducible refine gate_dst (N := 4) rfl ?_); refine box_event ?hg (N := 4) ?hd (cs := #[.int .i64 a1_0, .slice A1_1 l1_1.length c1_1]) (t := 29) ?hr ?_; (case hd => rfl); (case hg => rfl); (case hr => first | (go_simp; done) | (go_simp; rfl)); intro gb269 hg w7 hbox hb; have n0_ := blkA BK268 hb; have n1_ := AZ (below_step (bS HB.out) hb); have n2_ := AZ (hbox); have n3_ := AZ (geS hg HB.out); have n4_ := AZ (geS hg HB.out); have n5_ := AZ ((by rw [hg]; exact Nat.ne_of_lt (blkL BK268.out) : gb268 ≠ gb269)); have n6_ := AZ ((by rw [hg]; exact Nat.ne_of_gt (blkL BK268.out) : gb269 ≠ gb268)); clear BK268; clear HB; have BK268 := n0_; have HB := n1_; have BK269 := n2_; have GW269 := n3_; have GE269 := n4_; have NB268_269 := n5_; have NB269_268 := n6_; clear n0_ n1_ n2_ n3_ n4_ n5_ n6_; clear hb hbox hg) | ((with_reducible refine gate_dst (N := 5) rfl ?_); refine box_event ?hg (N := 5) ?hd (cs := #[.int .i64 a2_0, .slice A2_1 l2_1.length c2_1]) (t := 29) ?hr ?_; (case hd => rfl); (case hg => rfl); (case hr => first | (go_simp; done) | (go_simp; rfl)); intro gb270 hg w8 hbox hb; have n0_ := blkA BK268 hb; have n1_ := blkA BK269 hb; have n2_ := AZ (below_step (bS HB.out) hb); have n3_ := AZ (hbox); have n4_ := AZ (geS hg HB.out); have n5_ := AZ (geS hg HB.out); have n6_ := AZ ((by rw [hg]; exact Nat.ne_of_lt (blkL BK268.out) : gb268 ≠ gb270)); have n7_ := AZ ((by rw [hg]; exact Nat.ne_of_gt (blkL BK268.out) : gb270 ≠ gb268)); have n8_ := AZ ((by rw [hg]; exact Nat.ne_of_lt (blkL BK269.out) : gb269 ≠ gb270)); have n9_ := AZ ((by rw [hg]; exact Nat.ne_of_gt (blkL BK269.out) : gb270 ≠ gb269)); clear BK268; clear BK269; clear HB; have BK268 := n0_; have BK269 := n1_; have HB := n2_; have BK270 := n3_; have GW270 := n4_; have GE270 := n5_; have NB268_270 := n6_; have NB270_268 := n7_; have NB269_270 := n8_; have NB270_269 := n9_; clear n0_ n1_ n2_ n3_ n4_ n5_ n6_ n7_ n8_ n9_; clear hb hbox hg; have hnb9 := NB268_269.out; have hnc9 := NB269_268.out; have hnb10 := NB268_270.out; have hnc10 := NB270_268.out; have hcz11_0 : w8.cell? ⟨gb268, 0, none⟩ = some (.slice A0_0 l0_0.length c0_0) := (blk_cell BK268.out 0).trans rfl; have hcz11_1 : w8.cell? ⟨gb268, 1, none⟩ = some (.slice A0_1 l0_1.length c0_1) := (blk_cell BK268.out 1).trans rfl; have hcz11_2 : w8.cell? ⟨gb268, 2, none⟩ = some (.slice A0_2 l0_2.length c0_2) := (blk_cell BK268.out 2).trans rfl; have hcz11_3 : w8.cell? ⟨gb268, 3, none⟩ = some (.int .i64 a0_3) := (blk_cell BK268.out 3).trans rfl; have hcz11_4 : w8.cell? ⟨gb268, 4, none⟩ = some (.int .i64 a0_4) := (blk_cell BK268.out 4).trans rfl; have hcz11_5 : w8.cell? ⟨gb268, 5, none⟩ = some (.int .i64 a0_5) := (blk_cell BK268.out 5).trans rfl; have hcz11_6 : w8.cell? ⟨gb268, 6, none⟩ = some (.int .i64 a0_6) := (blk_cell BK268.out 6).trans rfl; have hcz11_7 : w8.cell? ⟨gb268, 7, none⟩ = some (.int .i64 a0_7) := (blk_cell BK268.out 7).trans rfl; have hfz11_0 := blk_frozen BK268.out 0; have hfz11_1 := blk_frozen BK268.out 1; have hfz11_2 := blk_frozen BK268.out 2; have hfz11_3 := blk_frozen BK268.out 3; have hfz11_4 := blk_frozen BK268.out 4; have hfz11_5 := blk_frozen BK268.out 5; have hfz11_6 := blk_frozen BK268.out 6; have hfz11_7 := blk_frozen BK268.out 7) | ((with_reducible refine gate_callee (f := 14) rfl ?_); refine gL (some 22) Try.func14 #[.agg #[.slice A0_0 l0_0.length c0_0, .slice A0_1 l0_1.length c0_1, .slice A0_2 l0_2.length c0_2, .int .i64 a0_3, .int .i64 a0_4, .int .i64 a0_5, .int .i64 a0_6, .int .i64 a0_7], .int .i64 1048576] ?_; (with_reducible refine (laws_szJob.calls k _ _ l0_0 _ _ l0_1 _ _ l0_2 a0_3 a0_4 a0_5 a0_6 a0_7 1048576 t271 _ ?side1 ?side2 ?side3 ?side4 ?side5 ?side6 A4.out).mono ?_); (case side1 => exact cS (Kd.C_below HR0_0.out HB.out)); (case side2 => exact HC0_0.out); (case side3 => exact cS (Kd.C_below HR0_1.out HB.out)); (case side4 => exact HC0_1.out); (case side5 => exact cS (Kd.C_below HR0_2.out HB.out)); (case side6 => exact HC0_2.out); rintro e w12 ⟨rfl, hb⟩; refine ⟨_, rfl, ?_⟩; have n0_ := blkA BK268 hb; have n1_ := blkA BK269 hb; have n2_ := blkA BK270 hb; have n3_ := AZ (below_step (bS HB.out) hb); clear BK268; clear BK269; clear BK270; clear HB; have BK268 := n0_; have BK269 := n1_; have BK270 := n2_; have HB := n3_; clear n0_ n1_ n2_ n3_; (try clear hb)))
  go_ret
  exact ⟨by first | rfl | (simp; done) | (simp [*]; done), bS HB.out⟩
 ·rw [if_neg c5] at H
  have c5b0 : decide (t271 < 0) = false := decide_eq_false c5
  clear c5
  replace H := Option.bind_eq_some_iff.mp H
  obtain ⟨t272, A130, H⟩ := H
  replace H : (if t272 < 0 then (some true) else ((laws_szPlan.f a2_0 l2_1 t272).bind fun t273 => (if t273 < 0 then (some true) else ((laws_toJob.f k l0_0 l0_1 l0_2 a0_3 a0_4 a0_5 a0_6 a0_7).bind fun bt274 => ((laws_toPlan.f k a1_0 l1_1).bind fun bt288 => ((laws_toPlan.f k a2_0 l2_1).bind fun bt292 => ((spec_WorthBetween.f k bt274.1 bt274.2.1 bt274.2.2.1 bt274.2.2.2.1 bt274.2.2.2.2.1 bt274.2.2.2.2.2.1 bt274.2.2.2.2.2.2.1 bt274.2.2.2.2.2.2.2 bt288.1 bt288.2 bt292.1 bt292.2).bind fun bt296 => ((laws_toJob.f k l0_0 l0_1 l0_2 a0_3 a0_4 a0_5 a0_6 a0_7).bind fun bt300 => ((laws_toPlan.f k a1_0 l1_1).bind fun bt315 => ((laws_toPlan.f k a2_0 l2_1).bind fun bt320 => ((impl_WorthBetween.f k bt300.1 bt300.2.1 bt300.2.2.1 bt300.2.2.2.1 bt300.2.2.2.2.1 bt300.2.2.2.2.2.1 bt300.2.2.2.2.2.2.1 bt300.2.2.2.2.2.2.2 bt315.1 bt315.2 bt320.1 bt320.2).bind fun bt325 => ((laws_eqIntS.f k bt325.1 bt296.1).bind fun t329 => (if t329 = true then (laws_FnExactWorthBetween.j0 k bt296.1 bt296.2 bt325.1 bt325.2 (bt325.2 != bt296.2) l0_0 l0_1 l0_2 a0_3 a0_4 a0_5 a0_6 a0_7 a1_0 l1_1 a2_0 l2_1 bt300.1 bt300.2.1 bt300.2.2.1 bt300.2.2.2.1 bt300.2.2.2.2.1 bt300.2.2.2.2.2.1 bt300.2.2.2.2.2.2.1 bt300.2.2.2.2.2.2.2 bt315.1 bt315.2 bt320.1 bt320.2) else (laws_FnExactWorthBetween.j0 k bt296.1 bt296.2 bt325.1 bt325.2 true l0_0 l0_1 l0_2 a0_3 a0_4 a0_5 a0_6 a0_7 a1_0 l1_1 a2_0 l2_1 bt300.1 bt300.2.1 bt300.2.2.1 bt300.2.2.2.1 bt300.2.2.2.2.1 bt300.2.2.2.2.2.1 bt300.2.2.2.2.2.2.1 bt300.2.2.2.2.2.2.2 bt315.1 bt315.2 bt320.1 bt320.2)))))))))))))) = some r := H
  have A13 := Aside0.mk A130
  clear A130
  by_cases c14 : t272 < 0
  ·rw [if_pos c14] at H
   have c14b0 : decide (t272 < 0) = true := decide_eq_true c14
   clear c14
   obtain rfl := Option.some.inj H
   go_enter Try.func9, Try.ntmps9
   go_wp2_with (first | ((with_reducible refine gate_dst (N := 3) rfl ?_); refine box_event ?hg (N := 3) ?hd (cs := #[.slice A0_0 l0_0.length c0_0, .slice A0_1 l0_1.length c0_1, .slice A0_2 l0_2.length c0_2, .int .i64 a0_3, .int .i64 a0_4, .int .i64 a0_5, .int .i64 a0_6, .int .i64 a0_7]) (t := 27) ?hr ?_; (case hd => rfl); (case hg => rfl); (case hr => first | (go_simp; done) | (go_simp; rfl)); intro gb268 hg w15 hbox hb; have n0_ := AZ (below_step (bS HB.out) hb); have n1_ := AZ (hbox); have n2_ := AZ (geS hg HB.out); have n3_ := AZ (geS hg HB.out); clear HB; have HB := n0_; have BK268 := n1_; have GW268 := n2_; have GE268 := n3_; clear n0_ n1_ n2_ n3_; clear hb hbox hg) | ((with_reducible refine gate_dst (N := 4) rfl ?_); refine box_event ?hg (N := 4) ?hd (cs := #[.int .i64 a1_0, .slice A1_1 l1_1.length c1_1]) (t := 29) ?hr ?_; (case hd => rfl); (case hg => rfl); (case hr => first | (go_simp; done) | (go_simp; rfl)); intro gb269 hg w16 hbox hb; have n0_ := blkA BK268 hb; have n1_ := AZ (below_step (bS HB.out) hb); have n2_ := AZ (hbox); have n3_ := AZ (geS hg HB.out); have n4_ := AZ (geS hg HB.out); have n5_ := AZ ((by rw [hg]; exact Nat.ne_of_lt (blkL BK268.out) : gb268 ≠ gb269)); have n6_ := AZ ((by rw [hg]; exact Nat.ne_of_gt (blkL BK268.out) : gb269 ≠ gb268)); clear BK268; clear HB; have BK268 := n0_; have HB := n1_; have BK269 := n2_; have GW269 := n3_; have GE269 := n4_; have NB268_269 := n5_; have NB269_268 := n6_; clear n0_ n1_ n2_ n3_ n4_ n5_ n6_; clear hb hbox hg) | ((with_reducible refine gate_dst (N := 5) rfl ?_); refine box_event ?hg (N := 5) ?hd (cs := #[.int .i64 a2_0, .slice A2_1 l2_1.length c2_1]) (t := 29) ?hr ?_; (case hd => rfl); (case hg => rfl); (case hr => first | (go_simp; done) | (go_simp; rfl)); intro gb270 hg w17 hbox hb; have n0_ := blkA BK268 hb; have n1_ := blkA BK269 hb; have n2_ := AZ (below_step (bS HB.out) hb); have n3_ := AZ (hbox); have n4_ := AZ (geS hg HB.out); have n5_ := AZ (geS hg HB.out); have n6_ := AZ ((by rw [hg]; exact Nat.ne_of_lt (blkL BK268.out) : gb268 ≠ gb270)); have n7_ := AZ ((by rw [hg]; exact Nat.ne_of_gt (blkL BK268.out) : gb270 ≠ gb268)); have n8_ := AZ ((by rw [hg]; exact Nat.ne_of_lt (blkL BK269.out) : gb269 ≠ gb270)); have n9_ := AZ ((by rw [hg]; exact Nat.ne_of_gt (blkL BK269.out) : gb270 ≠ gb269)); clear BK268; clear BK269; clear HB; have BK268 := n0_; have BK269 := n1_; have HB := n2_; have BK270 := n3_; have GW270 := n4_; have GE270 := n5_; have NB268_270 := n6_; have NB270_268 := n7_; have NB269_270 := n8_; have NB270_269 := n9_; clear n0_ n1_ n2_ n3_ n4_ n5_ n6_ n7_ n8_ n9_; clear hb hbox hg; have hnb18 := NB268_269.out; have hnc18 := NB269_268.out; have hnb19 := NB268_270.out; have hnc19 := NB270_268.out; have hcz20_0 : w17.cell? ⟨gb268, 0, none⟩ = some (.slice A0_0 l0_0.length c0_0) := (blk_cell BK268.out 0).trans rfl; have hcz20_1 : w17.cell? ⟨gb268, 1, none⟩ = some (.slice A0_1 l0_1.length c0_1) := (blk_cell BK268.out 1).trans rfl; have hcz20_2 : w17.cell? ⟨gb268, 2, none⟩ = some (.slice A0_2 l0_2.length c0_2) := (blk_cell BK268.out 2).trans rfl; have hcz20_3 : w17.cell? ⟨gb268, 3, none⟩ = some (.int .i64 a0_3) := (blk_cell BK268.out 3).trans rfl; have hcz20_4 : w17.cell? ⟨gb268, 4, none⟩ = some (.int .i64 a0_4) := (blk_cell BK268.out 4).trans rfl; have hcz20_5 : w17.cell? ⟨gb268, 5, none⟩ = some (.int .i64 a0_5) := (blk_cell BK268.out 5).trans rfl; have hcz20_6 : w17.cell? ⟨gb268, 6, none⟩ = some (.int .i64 a0_6) := (blk_cell BK268.out 6).trans rfl; have hcz20_7 : w17.cell? ⟨gb268, 7, none⟩ = some (.int .i64 a0_7) := (blk_cell BK268.out 7).trans rfl; have hfz20_0 := blk_frozen BK268.out 0; have hfz20_1 := blk_frozen BK268.out 1; have hfz20_2 := blk_frozen BK268.out 2; have hfz20_3 := blk_frozen BK268.out 3; have hfz20_4 := blk_frozen BK268.out 4; have hfz20_5 := blk_frozen BK268.out 5; have hfz20_6 := blk_frozen BK268.out 6; have hfz20_7 := blk_frozen BK268.out 7) | ((with_reducible refine gate_callee (f := 14) rfl ?_); refine gL (some 22) Try.func14 #[.agg #[.slice A0_0 l0_0.length c0_0, .slice A0_1 l0_1.length c0_1, .slice A0_2 l0_2.length c0_2, .int .i64 a0_3, .int .i64 a0_4, .int .i64 a0_5, .int .i64 a0_6, .int .i64 a0_7], .int .i64 1048576] ?_; (with_reducible refine (laws_szJob.calls k _ _ l0_0 _ _ l0_1 _ _ l0_2 a0_3 a0_4 a0_5 a0_6 a0_7 1048576 t271 _ ?side1 ?side2 ?side3 ?side4 ?side5 ?side6 A4.out).mono ?_); (case side1 => exact cS (Kd.C_below HR0_0.out HB.out)); (case side2 => exact HC0_0.out); (case side3 => exact cS (Kd.C_below HR0_1.out HB.out)); (case side4 => exact HC0_1.out); (case side5 => exact cS (Kd.C_below HR0_2.out HB.out)); (case side6 => exact HC0_2.out); rintro e w21 ⟨rfl, hb⟩; refine ⟨_, rfl, ?_⟩; have n0_ := blkA BK268 hb; have n1_ := blkA BK269 hb; have n2_ := blkA BK270 hb; have n3_ := AZ (below_step (bS HB.out) hb); clear BK268; clear BK269; clear BK270; clear HB; have BK268 := n0_; have BK269 := n1_; have BK270 := n2_; have HB := n3_; clear n0_ n1_ n2_ n3_; (try clear hb); have hnb22 := NB269_270.out; have hnc22 := NB270_269.out; have hcz23_0 : w21.cell? ⟨gb269, 0, none⟩ = some (.int .i64 a1_0) := (blk_cell BK269.out 0).trans rfl; have hcz23_1 : w21.cell? ⟨gb269, 1, none⟩ = some (.slice A1_1 l1_1.length c1_1) := (blk_cell BK269.out 1).trans rfl; have hfz23_0 := blk_frozen BK269.out 0; have hfz23_1 := blk_frozen BK269.out 1) | ((with_reducible refine gate_callee (f := 15) rfl ?_); refine gL (some 27) Try.func15 #[.agg #[.int .i64 a1_0, .slice A1_1 l1_1.length c1_1], .int .i64 t271] ?_; (with_reducible refine (laws_szPlan.calls a1_0 _ _ l1_1 t271 t272 _ ?side1 ?side2 A13.out).mono ?_); (case side1 => exact cS (Kd.C_below HR1_1.out HB.out)); (case side2 => exact HC1_1.out); rintro e w24 ⟨rfl, hb⟩; refine ⟨_, rfl, ?_⟩; have n0_ := blkA BK268 hb; have n1_ := blkA BK269 hb; have n2_ := blkA BK270 hb; have n3_ := AZ (below_step (bS HB.out) hb); clear BK268; clear BK269; clear BK270; clear HB; have BK268 := n0_; have BK269 := n1_; have BK270 := n2_; have HB := n3_; clear n0_ n1_ n2_ n3_; (try clear hb)))
   go_ret
   exact ⟨by first | rfl | (simp; done) | (simp [*]; done), bS HB.out⟩
  ·rw [if_neg c14] at H
   have c14b0 : decide (t272 < 0) = false := decide_eq_false c14
   clear c14
   replace H := Option.bind_eq_some_iff.mp H
   obtain ⟨t273, A250, H⟩ := H
   replace H : (if t273 < 0 then (some true) else ((laws_toJob.f k l0_0 l0_1 l0_2 a0_3 a0_4 a0_5 a0_6 a0_7).bind fun bt274 => ((laws_toPlan.f k a1_0 l1_1).bind fun bt288 => ((laws_toPlan.f k a2_0 l2_1).bind fun bt292 => ((spec_WorthBetween.f k bt274.1 bt274.2.1 bt274.2.2.1 bt274.2.2.2.1 bt274.2.2.2.2.1 bt274.2.2.2.2.2.1 bt274.2.2.2.2.2.2.1 bt274.2.2.2.2.2.2.2 bt288.1 bt288.2 bt292.1 bt292.2).bind fun bt296 => ((laws_toJob.f k l0_0 l0_1 l0_2 a0_3 a0_4 a0_5 a0_6 a0_7).bind fun bt300 => ((laws_toPlan.f k a1_0 l1_1).bind fun bt315 => ((laws_toPlan.f k a2_0 l2_1).bind fun bt320 => ((impl_WorthBetween.f k bt300.1 bt300.2.1 bt300.2.2.1 bt300.2.2.2.1 bt300.2.2.2.2.1 bt300.2.2.2.2.2.1 bt300.2.2.2.2.2.2.1 bt300.2.2.2.2.2.2.2 bt315.1 bt315.2 bt320.1 bt320.2).bind fun bt325 => ((laws_eqIntS.f k bt325.1 bt296.1).bind fun t329 => (if t329 = true then (laws_FnExactWorthBetween.j0 k bt296.1 bt296.2 bt325.1 bt325.2 (bt325.2 != bt296.2) l0_0 l0_1 l0_2 a0_3 a0_4 a0_5 a0_6 a0_7 a1_0 l1_1 a2_0 l2_1 bt300.1 bt300.2.1 bt300.2.2.1 bt300.2.2.2.1 bt300.2.2.2.2.1 bt300.2.2.2.2.2.1 bt300.2.2.2.2.2.2.1 bt300.2.2.2.2.2.2.2 bt315.1 bt315.2 bt320.1 bt320.2) else (laws_FnExactWorthBetween.j0 k bt296.1 bt296.2 bt325.1 bt325.2 true l0_0 l0_1 l0_2 a0_3 a0_4 a0_5 a0_6 a0_7 a1_0 l1_1 a2_0 l2_1 bt300.1 bt300.2.1 bt300.2.2.1 bt300.2.2.2.1 bt300.2.2.2.2.1 bt300.2.2.2.2.2.1 bt300.2.2.2.2.2.2.1 bt300.2.2.2.2.2.2.2 bt315.1 bt315.2 bt320.1 bt320.2)))))))))))) = some r := H
   have A25 := Aside0.mk A250
   clear A250
   by_cases c26 : t273 < 0
   ·rw [if_pos c26] at H
    have c26b0 : decide (t273 < 0) = true := decide_eq_true c26
    clear c26
    obtain rfl := Option.some.inj H
    go_enter Try.func9, Try.ntmps9
    go_wp2_with (first | ((with_reducible refine gate_dst (N := 3) rfl ?_); refine box_event ?hg (N := 3) ?hd (cs := #[.slice A0_0 l0_0.length c0_0, .slice A0_1 l0_1.length c0_1, .slice A0_2 l0_2.length c0_2, .int .i64 a0_3, .int .i64 a0_4, .int .i64 a0_5, .int .i64 a0_6, .int .i64 a0_7]) (t := 27) ?hr ?_; (case hd => rfl); (case hg => rfl); (case hr => first | (go_simp; done) | (go_simp; rfl)); intro gb268 hg w27 hbox hb; have n0_ := AZ (below_step (bS HB.out) hb); have n1_ := AZ (hbox); have n2_ := AZ (geS hg HB.out); have n3_ := AZ (geS hg HB.out); clear HB; have HB := n0_; have BK268 := n1_; have GW268 := n2_; have GE268 := n3_; clear n0_ n1_ n2_ n3_; clear hb hbox hg) | ((with_reducible refine gate_dst (N := 4) rfl ?_); refine box_event ?hg (N := 4) ?hd (cs := #[.int .i64 a1_0, .slice A1_1 l1_1.length c1_1]) (t := 29) ?hr ?_; (case hd => rfl); (case hg => rfl); (case hr => first | (go_simp; done) | (go_simp; rfl)); intro gb269 hg w28 hbox hb; have n0_ := blkA BK268 hb; have n1_ := AZ (below_step (bS HB.out) hb); have n2_ := AZ (hbox); have n3_ := AZ (geS hg HB.out); have n4_ := AZ (geS hg HB.out); have n5_ := AZ ((by rw [hg]; exact Nat.ne_of_lt (blkL BK268.out) : gb268 ≠ gb269)); have n6_ := AZ ((by rw [hg]; exact Nat.ne_of_gt (blkL BK268.out) : gb269 ≠ gb268)); clear BK268; clear HB; have BK268 := n0_; have HB := n1_; have BK269 := n2_; have GW269 := n3_; have GE269 := n4_; have NB268_269 := n5_; have NB269_268 := n6_; clear n0_ n1_ n2_ n3_ n4_ n5_ n6_; clear hb hbox hg) | ((with_reducible refine gate_dst (N := 5) rfl ?_); refine box_event ?hg (N := 5) ?hd (cs := #[.int .i64 a2_0, .slice A2_1 l2_1.length c2_1]) (t := 29) ?hr ?_; (case hd => rfl); (case hg => rfl); (case hr => first | (go_simp; done) | (go_simp; rfl)); intro gb270 hg w29 hbox hb; have n0_ := blkA BK268 hb; have n1_ := blkA BK269 hb; have n2_ := AZ (below_step (bS HB.out) hb); have n3_ := AZ (hbox); have n4_ := AZ (geS hg HB.out); have n5_ := AZ (geS hg HB.out); have n6_ := AZ ((by rw [hg]; exact Nat.ne_of_lt (blkL BK268.out) : gb268 ≠ gb270)); have n7_ := AZ ((by rw [hg]; exact Nat.ne_of_gt (blkL BK268.out) : gb270 ≠ gb268)); have n8_ := AZ ((by rw [hg]; exact Nat.ne_of_lt (blkL BK269.out) : gb269 ≠ gb270)); have n9_ := AZ ((by rw [hg]; exact Nat.ne_of_gt (blkL BK269.out) : gb270 ≠ gb269)); clear BK268; clear BK269; clear HB; have BK268 := n0_; have BK269 := n1_; have HB := n2_; have BK270 := n3_; have GW270 := n4_; have GE270 := n5_; have NB268_270 := n6_; have NB270_268 := n7_; have NB269_270 := n8_; have NB270_269 := n9_; clear n0_ n1_ n2_ n3_ n4_ n5_ n6_ n7_ n8_ n9_; clear hb hbox hg; have hnb30 := NB268_269.out; have hnc30 := NB269_268.out; have hnb31 := NB268_270.out; have hnc31 := NB270_268.out; have hcz32_0 : w29.cell? ⟨gb268, 0, none⟩ = some (.slice A0_0 l0_0.length c0_0) := (blk_cell BK268.out 0).trans rfl; have hcz32_1 : w29.cell? ⟨gb268, 1, none⟩ = some (.slice A0_1 l0_1.length c0_1) := (blk_cell BK268.out 1).trans rfl; have hcz32_2 : w29.cell? ⟨gb268, 2, none⟩ = some (.slice A0_2 l0_2.length c0_2) := (blk_cell BK268.out 2).trans rfl; have hcz32_3 : w29.cell? ⟨gb268, 3, none⟩ = some (.int .i64 a0_3) := (blk_cell BK268.out 3).trans rfl; have hcz32_4 : w29.cell? ⟨gb268, 4, none⟩ = some (.int .i64 a0_4) := (blk_cell BK268.out 4).trans rfl; have hcz32_5 : w29.cell? ⟨gb268, 5, none⟩ = some (.int .i64 a0_5) := (blk_cell BK268.out 5).trans rfl; have hcz32_6 : w29.cell? ⟨gb268, 6, none⟩ = some (.int .i64 a0_6) := (blk_cell BK268.out 6).trans rfl; have hcz32_7 : w29.cell? ⟨gb268, 7, none⟩ = some (.int .i64 a0_7) := (blk_cell BK268.out 7).trans rfl; have hfz32_0 := blk_frozen BK268.out 0; have hfz32_1 := blk_frozen BK268.out 1; have hfz32_2 := blk_frozen BK268.out 2; have hfz32_3 := blk_frozen BK268.out 3; have hfz32_4 := blk_frozen BK268.out 4; have hfz32_5 := blk_frozen BK268.out 5; have hfz32_6 := blk_frozen BK268.out 6; have hfz32_7 := blk_frozen BK268.out 7) | ((with_reducible refine gate_callee (f := 14) rfl ?_); refine gL (some 22) Try.func14 #[.agg #[.slice A0_0 l0_0.length c0_0, .slice A0_1 l0_1.length c0_1, .slice A0_2 l0_2.length c0_2, .int .i64 a0_3, .int .i64 a0_4, .int .i64 a0_5, .int .i64 a0_6, .int .i64 a0_7], .int .i64 1048576] ?_; (with_reducible refine (laws_szJob.calls k _ _ l0_0 _ _ l0_1 _ _ l0_2 a0_3 a0_4 a0_5 a0_6 a0_7 1048576 t271 _ ?side1 ?side2 ?side3 ?side4 ?side5 ?side6 A4.out).mono ?_); (case side1 => exact cS (Kd.C_below HR0_0.out HB.out)); (case side2 => exact HC0_0.out); (case side3 => exact cS (Kd.C_below HR0_1.out HB.out)); (case side4 => exact HC0_1.out); (case side5 => exact cS (Kd.C_below HR0_2.out HB.out)); (case side6 => exact HC0_2.out); rintro e w33 ⟨rfl, hb⟩; refine ⟨_, rfl, ?_⟩; have n0_ := blkA BK268 hb; have n1_ := blkA BK269 hb; have n2_ := blkA BK270 hb; have n3_ := AZ (below_step (bS HB.out) hb); clear BK268; clear BK269; clear BK270; clear HB; have BK268 := n0_; have BK269 := n1_; have BK270 := n2_; have HB := n3_; clear n0_ n1_ n2_ n3_; (try clear hb); have hnb34 := NB269_270.out; have hnc34 := NB270_269.out; have hcz35_0 : w33.cell? ⟨gb269, 0, none⟩ = some (.int .i64 a1_0) := (blk_cell BK269.out 0).trans rfl; have hcz35_1 : w33.cell? ⟨gb269, 1, none⟩ = some (.slice A1_1 l1_1.length c1_1) := (blk_cell BK269.out 1).trans rfl; have hfz35_0 := blk_frozen BK269.out 0; have hfz35_1 := blk_frozen BK269.out 1) | ((with_reducible refine gate_callee (f := 15) rfl ?_); refine gL (some 27) Try.func15 #[.agg #[.int .i64 a1_0, .slice A1_1 l1_1.length c1_1], .int .i64 t271] ?_; (with_reducible refine (laws_szPlan.calls a1_0 _ _ l1_1 t271 t272 _ ?side1 ?side2 A13.out).mono ?_); (case side1 => exact cS (Kd.C_below HR1_1.out HB.out)); (case side2 => exact HC1_1.out); rintro e w36 ⟨rfl, hb⟩; refine ⟨_, rfl, ?_⟩; have n0_ := blkA BK268 hb; have n1_ := blkA BK269 hb; have n2_ := blkA BK270 hb; have n3_ := AZ (below_step (bS HB.out) hb); clear BK268; clear BK269; clear BK270; clear HB; have BK268 := n0_; have BK269 := n1_; have BK270 := n2_; have HB := n3_; clear n0_ n1_ n2_ n3_; (try clear hb); have hcz37_0 : w36.cell? ⟨gb270, 0, none⟩ = some (.int .i64 a2_0) := (blk_cell BK270.out 0).trans rfl; have hcz37_1 : w36.cell? ⟨gb270, 1, none⟩ = some (.slice A2_1 l2_1.length c2_1) := (blk_cell BK270.out 1).trans rfl; have hfz37_0 := blk_frozen BK270.out 0; have hfz37_1 := blk_frozen BK270.out 1) | ((with_reducible refine gate_callee (f := 15) rfl ?_); refine gL (some 32) Try.func15 #[.agg #[.int .i64 a2_0, .slice A2_1 l2_1.length c2_1], .int .i64 t272] ?_; (with_reducible refine (laws_szPlan.calls a2_0 _ _ l2_1 t272 t273 _ ?side1 ?side2 A25.out).mono ?_); (case side1 => exact cS (Kd.C_below HR2_1.out HB.out)); (case side2 => exact HC2_1.out); rintro e w38 ⟨rfl, hb⟩; refine ⟨_, rfl, ?_⟩; have n0_ := blkA BK268 hb; have n1_ := blkA BK269 hb; have n2_ := blkA BK270 hb; have n3_ := AZ (below_step (bS HB.out) hb); clear BK268; clear BK269; clear BK270; clear HB; have BK268 := n0_; have BK269 := n1_; have BK270 := n2_; have HB := n3_; clear n0_ n1_ n2_ n3_; (try clear hb)))
    go_ret
    exact ⟨by first | rfl | (simp; done) | (simp [*]; done), bS HB.out⟩
   ·rw [if_neg c26] at H
    have c26b0 : decide (t273 < 0) = false := decide_eq_false c26
    clear c26
    replace H := Option.bind_eq_some_iff.mp H
    obtain ⟨⟨t274, t277, t280, t283, t284, t285, t286, t287⟩, A390, H⟩ := H
    replace H : ((laws_toPlan.f k a1_0 l1_1).bind fun bt288 => ((laws_toPlan.f k a2_0 l2_1).bind fun bt292 => ((spec_WorthBetween.f k t274 t277 t280 t283 t284 t285 t286 t287 bt288.1 bt288.2 bt292.1 bt292.2).bind fun bt296 => ((laws_toJob.f k l0_0 l0_1 l0_2 a0_3 a0_4 a0_5 a0_6 a0_7).bind fun bt300 => ((laws_toPlan.f k a1_0 l1_1).bind fun bt315 => ((laws_toPlan.f k a2_0 l2_1).bind fun bt320 => ((impl_WorthBetween.f k bt300.1 bt300.2.1 bt300.2.2.1 bt300.2.2.2.1 bt300.2.2.2.2.1 bt300.2.2.2.2.2.1 bt300.2.2.2.2.2.2.1 bt300.2.2.2.2.2.2.2 bt315.1 bt315.2 bt320.1 bt320.2).bind fun bt325 => ((laws_eqIntS.f k bt325.1 bt296.1).bind fun t329 => (if t329 = true then (laws_FnExactWorthBetween.j0 k bt296.1 bt296.2 bt325.1 bt325.2 (bt325.2 != bt296.2) l0_0 l0_1 l0_2 a0_3 a0_4 a0_5 a0_6 a0_7 a1_0 l1_1 a2_0 l2_1 bt300.1 bt300.2.1 bt300.2.2.1 bt300.2.2.2.1 bt300.2.2.2.2.1 bt300.2.2.2.2.2.1 bt300.2.2.2.2.2.2.1 bt300.2.2.2.2.2.2.2 bt315.1 bt315.2 bt320.1 bt320.2) else (laws_FnExactWorthBetween.j0 k bt296.1 bt296.2 bt325.1 bt325.2 true l0_0 l0_1 l0_2 a0_3 a0_4 a0_5 a0_6 a0_7 a1_0 l1_1 a2_0 l2_1 bt300.1 bt300.2.1 bt300.2.2.1 bt300.2.2.2.1 bt300.2.2.2.2.1 bt300.2.2.2.2.2.1 bt300.2.2.2.2.2.2.1 bt300.2.2.2.2.2.2.2 bt315.1 bt315.2 bt320.1 bt320.2)))))))))) = some r := H
    have A39 := Aside0.mk A390
    clear A390
    replace H := Option.bind_eq_some_iff.mp H
    obtain ⟨⟨t288, t289⟩, A400, H⟩ := H
    replace H : ((laws_toPlan.f k a2_0 l2_1).bind fun bt292 => ((spec_WorthBetween.f k t274 t277 t280 t283 t284 t285 t286 t287 t288 t289 bt292.1 bt292.2).bind fun bt296 => ((laws_toJob.f k l0_0 l0_1 l0_2 a0_3 a0_4 a0_5 a0_6 a0_7).bind fun bt300 => ((laws_toPlan.f k a1_0 l1_1).bind fun bt315 => ((laws_toPlan.f k a2_0 l2_1).bind fun bt320 => ((impl_WorthBetween.f k bt300.1 bt300.2.1 bt300.2.2.1 bt300.2.2.2.1 bt300.2.2.2.2.1 bt300.2.2.2.2.2.1 bt300.2.2.2.2.2.2.1 bt300.2.2.2.2.2.2.2 bt315.1 bt315.2 bt320.1 bt320.2).bind fun bt325 => ((laws_eqIntS.f k bt325.1 bt296.1).bind fun t329 => (if t329 = true then (laws_FnExactWorthBetween.j0 k bt296.1 bt296.2 bt325.1 bt325.2 (bt325.2 != bt296.2) l0_0 l0_1 l0_2 a0_3 a0_4 a0_5 a0_6 a0_7 a1_0 l1_1 a2_0 l2_1 bt300.1 bt300.2.1 bt300.2.2.1 bt300.2.2.2.1 bt300.2.2.2.2.1 bt300.2.2.2.2.2.1 bt300.2.2.2.2.2.2.1 bt300.2.2.2.2.2.2.2 bt315.1 bt315.2 bt320.1 bt320.2) else (laws_FnExactWorthBetween.j0 k bt296.1 bt296.2 bt325.1 bt325.2 true l0_0 l0_1 l0_2 a0_3 a0_4 a0_5 a0_6 a0_7 a1_0 l1_1 a2_0 l2_1 bt300.1 bt300.2.1 bt300.2.2.1 bt300.2.2.2.1 bt300.2.2.2.2.1 bt300.2.2.2.2.2.1 bt300.2.2.2.2.2.2.1 bt300.2.2.2.2.2.2.2 bt315.1 bt315.2 bt320.1 bt320.2))))))))) = some r := H
    have A40 := Aside0.mk A400
    clear A400
    replace H := Option.bind_eq_some_iff.mp H
    obtain ⟨⟨t292, t293⟩, A410, H⟩ := H
    replace H : ((spec_WorthBetween.f k t274 t277 t280 t283 t284 t285 t286 t287 t288 t289 t292 t293).bind fun bt296 => ((laws_toJob.f k l0_0 l0_1 l0_2 a0_3 a0_4 a0_5 a0_6 a0_7).bind fun bt300 => ((laws_toPlan.f k a1_0 l1_1).bind fun bt315 => ((laws_toPlan.f k a2_0 l2_1).bind fun bt320 => ((impl_WorthBetween.f k bt300.1 bt300.2.1 bt300.2.2.1 bt300.2.2.2.1 bt300.2.2.2.2.1 bt300.2.2.2.2.2.1 bt300.2.2.2.2.2.2.1 bt300.2.2.2.2.2.2.2 bt315.1 bt315.2 bt320.1 bt320.2).bind fun bt325 => ((laws_eqIntS.f k bt325.1 bt296.1).bind fun t329 => (if t329 = true then (laws_FnExactWorthBetween.j0 k bt296.1 bt296.2 bt325.1 bt325.2 (bt325.2 != bt296.2) l0_0 l0_1 l0_2 a0_3 a0_4 a0_5 a0_6 a0_7 a1_0 l1_1 a2_0 l2_1 bt300.1 bt300.2.1 bt300.2.2.1 bt300.2.2.2.1 bt300.2.2.2.2.1 bt300.2.2.2.2.2.1 bt300.2.2.2.2.2.2.1 bt300.2.2.2.2.2.2.2 bt315.1 bt315.2 bt320.1 bt320.2) else (laws_FnExactWorthBetween.j0 k bt296.1 bt296.2 bt325.1 bt325.2 true l0_0 l0_1 l0_2 a0_3 a0_4 a0_5 a0_6 a0_7 a1_0 l1_1 a2_0 l2_1 bt300.1 bt300.2.1 bt300.2.2.1 bt300.2.2.2.1 bt300.2.2.2.2.1 bt300.2.2.2.2.2.1 bt300.2.2.2.2.2.2.1 bt300.2.2.2.2.2.2.2 bt315.1 bt315.2 bt320.1 bt320.2)))))))) = some r := H
    have A41 := Aside0.mk A410
    clear A410
    replace H := Option.bind_eq_some_iff.mp H
    obtain ⟨⟨t296, t299⟩, A420, H⟩ := H
    replace H : ((laws_toJob.f k l0_0 l0_1 l0_2 a0_3 a0_4 a0_5 a0_6 a0_7).bind fun bt300 => ((laws_toPlan.f k a1_0 l1_1).bind fun bt315 => ((laws_toPlan.f k a2_0 l2_1).bind fun bt320 => ((impl_WorthBetween.f k bt300.1 bt300.2.1 bt300.2.2.1 bt300.2.2.2.1 bt300.2.2.2.2.1 bt300.2.2.2.2.2.1 bt300.2.2.2.2.2.2.1 bt300.2.2.2.2.2.2.2 bt315.1 bt315.2 bt320.1 bt320.2).bind fun bt325 => ((laws_eqIntS.f k bt325.1 t296).bind fun t329 => (if t329 = true then (laws_FnExactWorthBetween.j0 k t296 t299 bt325.1 bt325.2 (bt325.2 != t299) l0_0 l0_1 l0_2 a0_3 a0_4 a0_5 a0_6 a0_7 a1_0 l1_1 a2_0 l2_1 bt300.1 bt300.2.1 bt300.2.2.1 bt300.2.2.2.1 bt300.2.2.2.2.1 bt300.2.2.2.2.2.1 bt300.2.2.2.2.2.2.1 bt300.2.2.2.2.2.2.2 bt315.1 bt315.2 bt320.1 bt320.2) else (laws_FnExactWorthBetween.j0 k t296 t299 bt325.1 bt325.2 true l0_0 l0_1 l0_2 a0_3 a0_4 a0_5 a0_6 a0_7 a1_0 l1_1 a2_0 l2_1 bt300.1 bt300.2.1 bt300.2.2.1 bt300.2.2.2.1 bt300.2.2.2.2.1 bt300.2.2.2.2.2.1 bt300.2.2.2.2.2.2.1 bt300.2.2.2.2.2.2.2 bt315.1 bt315.2 bt320.1 bt320.2))))))) = some r := H
    have A42 := Aside0.mk A420
    clear A420
    replace H := Option.bind_eq_some_iff.mp H
    obtain ⟨⟨t300, t303, t306, t309, t310, t311, t312, t313⟩, A430, H⟩ := H
    replace H : ((laws_toPlan.f k a1_0 l1_1).bind fun bt315 => ((laws_toPlan.f k a2_0 l2_1).bind fun bt320 => ((impl_WorthBetween.f k t300 t303 t306 t309 t310 t311 t312 t313 bt315.1 bt315.2 bt320.1 bt320.2).bind fun bt325 => ((laws_eqIntS.f k bt325.1 t296).bind fun t329 => (if t329 = true then (laws_FnExactWorthBetween.j0 k t296 t299 bt325.1 bt325.2 (bt325.2 != t299) l0_0 l0_1 l0_2 a0_3 a0_4 a0_5 a0_6 a0_7 a1_0 l1_1 a2_0 l2_1 t300 t303 t306 t309 t310 t311 t312 t313 bt315.1 bt315.2 bt320.1 bt320.2) else (laws_FnExactWorthBetween.j0 k t296 t299 bt325.1 bt325.2 true l0_0 l0_1 l0_2 a0_3 a0_4 a0_5 a0_6 a0_7 a1_0 l1_1 a2_0 l2_1 t300 t303 t306 t309 t310 t311 t312 t313 bt315.1 bt315.2 bt320.1 bt320.2)))))) = some r := H
    have A43 := Aside0.mk A430
    clear A430
    replace H := Option.bind_eq_some_iff.mp H
    obtain ⟨⟨t315, t316⟩, A440, H⟩ := H
    replace H : ((laws_toPlan.f k a2_0 l2_1).bind fun bt320 => ((impl_WorthBetween.f k t300 t303 t306 t309 t310 t311 t312 t313 t315 t316 bt320.1 bt320.2).bind fun bt325 => ((laws_eqIntS.f k bt325.1 t296).bind fun t329 => (if t329 = true then (laws_FnExactWorthBetween.j0 k t296 t299 bt325.1 bt325.2 (bt325.2 != t299) l0_0 l0_1 l0_2 a0_3 a0_4 a0_5 a0_6 a0_7 a1_0 l1_1 a2_0 l2_1 t300 t303 t306 t309 t310 t311 t312 t313 t315 t316 bt320.1 bt320.2) else (laws_FnExactWorthBetween.j0 k t296 t299 bt325.1 bt325.2 true l0_0 l0_1 l0_2 a0_3 a0_4 a0_5 a0_6 a0_7 a1_0 l1_1 a2_0 l2_1 t300 t303 t306 t309 t310 t311 t312 t313 t315 t316 bt320.1 bt320.2))))) = some r := H
    have A44 := Aside0.mk A440
    clear A440
    replace H := Option.bind_eq_some_iff.mp H
    obtain ⟨⟨t320, t321⟩, A450, H⟩ := H
    replace H : ((impl_WorthBetween.f k t300 t303 t306 t309 t310 t311 t312 t313 t315 t316 t320 t321).bind fun bt325 => ((laws_eqIntS.f k bt325.1 t296).bind fun t329 => (if t329 = true then (laws_FnExactWorthBetween.j0 k t296 t299 bt325.1 bt325.2 (bt325.2 != t299) l0_0 l0_1 l0_2 a0_3 a0_4 a0_5 a0_6 a0_7 a1_0 l1_1 a2_0 l2_1 t300 t303 t306 t309 t310 t311 t312 t313 t315 t316 t320 t321) else (laws_FnExactWorthBetween.j0 k t296 t299 bt325.1 bt325.2 true l0_0 l0_1 l0_2 a0_3 a0_4 a0_5 a0_6 a0_7 a1_0 l1_1 a2_0 l2_1 t300 t303 t306 t309 t310 t311 t312 t313 t315 t316 t320 t321)))) = some r := H
    have A45 := Aside0.mk A450
    clear A450
    replace H := Option.bind_eq_some_iff.mp H
    obtain ⟨⟨t325, t328⟩, A460, H⟩ := H
    replace H : ((laws_eqIntS.f k t325 t296).bind fun t329 => (if t329 = true then (laws_FnExactWorthBetween.j0 k t296 t299 t325 t328 (t328 != t299) l0_0 l0_1 l0_2 a0_3 a0_4 a0_5 a0_6 a0_7 a1_0 l1_1 a2_0 l2_1 t300 t303 t306 t309 t310 t311 t312 t313 t315 t316 t320 t321) else (laws_FnExactWorthBetween.j0 k t296 t299 t325 t328 true l0_0 l0_1 l0_2 a0_3 a0_4 a0_5 a0_6 a0_7 a1_0 l1_1 a2_0 l2_1 t300 t303 t306 t309 t310 t311 t312 t313 t315 t316 t320 t321))) = some r := H
    have A46 := Aside0.mk A460
    clear A460
    have HC47 := Aside0.mk H
    clear H
    go_enter Try.func9, Try.ntmps9
    try go_wp2_with (first | ((with_reducible refine gate_dst (N := 3) rfl ?_); refine box_event ?hg (N := 3) ?hd (cs := #[.slice A0_0 l0_0.length c0_0, .slice A0_1 l0_1.length c0_1, .slice A0_2 l0_2.length c0_2, .int .i64 a0_3, .int .i64 a0_4, .int .i64 a0_5, .int .i64 a0_6, .int .i64 a0_7]) (t := 27) ?hr ?_; (case hd => rfl); (case hg => rfl); (case hr => first | (go_simp; done) | (go_simp; rfl)); intro gb268 hg w48 hbox hb; have n0_ := AZ (below_step (bS HB.out) hb); have n1_ := AZ (hbox); have n2_ := AZ (geS hg HB.out); have n3_ := AZ (geS hg HB.out); clear HB; have HB := n0_; have BK268 := n1_; have GW268 := n2_; have GE268 := n3_; clear n0_ n1_ n2_ n3_; clear hb hbox hg) | ((with_reducible refine gate_dst (N := 4) rfl ?_); refine box_event ?hg (N := 4) ?hd (cs := #[.int .i64 a1_0, .slice A1_1 l1_1.length c1_1]) (t := 29) ?hr ?_; (case hd => rfl); (case hg => rfl); (case hr => first | (go_simp; done) | (go_simp; rfl)); intro gb269 hg w49 hbox hb; have n0_ := blkA BK268 hb; have n1_ := AZ (below_step (bS HB.out) hb); have n2_ := AZ (hbox); have n3_ := AZ (geS hg HB.out); have n4_ := AZ (geS hg HB.out); have n5_ := AZ ((by rw [hg]; exact Nat.ne_of_lt (blkL BK268.out) : gb268 ≠ gb269)); have n6_ := AZ ((by rw [hg]; exact Nat.ne_of_gt (blkL BK268.out) : gb269 ≠ gb268)); clear BK268; clear HB; have BK268 := n0_; have HB := n1_; have BK269 := n2_; have GW269 := n3_; have GE269 := n4_; have NB268_269 := n5_; have NB269_268 := n6_; clear n0_ n1_ n2_ n3_ n4_ n5_ n6_; clear hb hbox hg) | ((with_reducible refine gate_dst (N := 5) rfl ?_); refine box_event ?hg (N := 5) ?hd (cs := #[.int .i64 a2_0, .slice A2_1 l2_1.length c2_1]) (t := 29) ?hr ?_; (case hd => rfl); (case hg => rfl); (case hr => first | (go_simp; done) | (go_simp; rfl)); intro gb270 hg w50 hbox hb; have n0_ := blkA BK268 hb; have n1_ := blkA BK269 hb; have n2_ := AZ (below_step (bS HB.out) hb); have n3_ := AZ (hbox); have n4_ := AZ (geS hg HB.out); have n5_ := AZ (geS hg HB.out); have n6_ := AZ ((by rw [hg]; exact Nat.ne_of_lt (blkL BK268.out) : gb268 ≠ gb270)); have n7_ := AZ ((by rw [hg]; exact Nat.ne_of_gt (blkL BK268.out) : gb270 ≠ gb268)); have n8_ := AZ ((by rw [hg]; exact Nat.ne_of_lt (blkL BK269.out) : gb269 ≠ gb270)); have n9_ := AZ ((by rw [hg]; exact Nat.ne_of_gt (blkL BK269.out) : gb270 ≠ gb269)); clear BK268; clear BK269; clear HB; have BK268 := n0_; have BK269 := n1_; have HB := n2_; have BK270 := n3_; have GW270 := n4_; have GE270 := n5_; have NB268_270 := n6_; have NB270_268 := n7_; have NB269_270 := n8_; have NB270_269 := n9_; clear n0_ n1_ n2_ n3_ n4_ n5_ n6_ n7_ n8_ n9_; clear hb hbox hg; have hnb51 := NB268_269.out; have hnc51 := NB269_268.out; have hnb52 := NB268_270.out; have hnc52 := NB270_268.out; have hcz53_0 : w50.cell? ⟨gb268, 0, none⟩ = some (.slice A0_0 l0_0.length c0_0) := (blk_cell BK268.out 0).trans rfl; have hcz53_1 : w50.cell? ⟨gb268, 1, none⟩ = some (.slice A0_1 l0_1.length c0_1) := (blk_cell BK268.out 1).trans rfl; have hcz53_2 : w50.cell? ⟨gb268, 2, none⟩ = some (.slice A0_2 l0_2.length c0_2) := (blk_cell BK268.out 2).trans rfl; have hcz53_3 : w50.cell? ⟨gb268, 3, none⟩ = some (.int .i64 a0_3) := (blk_cell BK268.out 3).trans rfl; have hcz53_4 : w50.cell? ⟨gb268, 4, none⟩ = some (.int .i64 a0_4) := (blk_cell BK268.out 4).trans rfl; have hcz53_5 : w50.cell? ⟨gb268, 5, none⟩ = some (.int .i64 a0_5) := (blk_cell BK268.out 5).trans rfl; have hcz53_6 : w50.cell? ⟨gb268, 6, none⟩ = some (.int .i64 a0_6) := (blk_cell BK268.out 6).trans rfl; have hcz53_7 : w50.cell? ⟨gb268, 7, none⟩ = some (.int .i64 a0_7) := (blk_cell BK268.out 7).trans rfl; have hfz53_0 := blk_frozen BK268.out 0; have hfz53_1 := blk_frozen BK268.out 1; have hfz53_2 := blk_frozen BK268.out 2; have hfz53_3 := blk_frozen BK268.out 3; have hfz53_4 := blk_frozen BK268.out 4; have hfz53_5 := blk_frozen BK268.out 5; have hfz53_6 := blk_frozen BK268.out 6; have hfz53_7 := blk_frozen BK268.out 7) | ((with_reducible refine gate_callee (f := 14) rfl ?_); refine gL (some 22) Try.func14 #[.agg #[.slice A0_0 l0_0.length c0_0, .slice A0_1 l0_1.length c0_1, .slice A0_2 l0_2.length c0_2, .int .i64 a0_3, .int .i64 a0_4, .int .i64 a0_5, .int .i64 a0_6, .int .i64 a0_7], .int .i64 1048576] ?_; (with_reducible refine (laws_szJob.calls k _ _ l0_0 _ _ l0_1 _ _ l0_2 a0_3 a0_4 a0_5 a0_6 a0_7 1048576 t271 _ ?side1 ?side2 ?side3 ?side4 ?side5 ?side6 A4.out).mono ?_); (case side1 => exact cS (Kd.C_below HR0_0.out HB.out)); (case side2 => exact HC0_0.out); (case side3 => exact cS (Kd.C_below HR0_1.out HB.out)); (case side4 => exact HC0_1.out); (case side5 => exact cS (Kd.C_below HR0_2.out HB.out)); (case side6 => exact HC0_2.out); rintro e w54 ⟨rfl, hb⟩; refine ⟨_, rfl, ?_⟩; have n0_ := blkA BK268 hb; have n1_ := blkA BK269 hb; have n2_ := blkA BK270 hb; have n3_ := AZ (below_step (bS HB.out) hb); clear BK268; clear BK269; clear BK270; clear HB; have BK268 := n0_; have BK269 := n1_; have BK270 := n2_; have HB := n3_; clear n0_ n1_ n2_ n3_; (try clear hb); have hnb55 := NB269_270.out; have hnc55 := NB270_269.out; have hcz56_0 : w54.cell? ⟨gb269, 0, none⟩ = some (.int .i64 a1_0) := (blk_cell BK269.out 0).trans rfl; have hcz56_1 : w54.cell? ⟨gb269, 1, none⟩ = some (.slice A1_1 l1_1.length c1_1) := (blk_cell BK269.out 1).trans rfl; have hfz56_0 := blk_frozen BK269.out 0; have hfz56_1 := blk_frozen BK269.out 1) | ((with_reducible refine gate_callee (f := 15) rfl ?_); refine gL (some 27) Try.func15 #[.agg #[.int .i64 a1_0, .slice A1_1 l1_1.length c1_1], .int .i64 t271] ?_; (with_reducible refine (laws_szPlan.calls a1_0 _ _ l1_1 t271 t272 _ ?side1 ?side2 A13.out).mono ?_); (case side1 => exact cS (Kd.C_below HR1_1.out HB.out)); (case side2 => exact HC1_1.out); rintro e w57 ⟨rfl, hb⟩; refine ⟨_, rfl, ?_⟩; have n0_ := blkA BK268 hb; have n1_ := blkA BK269 hb; have n2_ := blkA BK270 hb; have n3_ := AZ (below_step (bS HB.out) hb); clear BK268; clear BK269; clear BK270; clear HB; have BK268 := n0_; have BK269 := n1_; have BK270 := n2_; have HB := n3_; clear n0_ n1_ n2_ n3_; (try clear hb); have hcz58_0 : w57.cell? ⟨gb270, 0, none⟩ = some (.int .i64 a2_0) := (blk_cell BK270.out 0).trans rfl; have hcz58_1 : w57.cell? ⟨gb270, 1, none⟩ = some (.slice A2_1 l2_1.length c2_1) := (blk_cell BK270.out 1).trans rfl; have hfz58_0 := blk_frozen BK270.out 0; have hfz58_1 := blk_frozen BK270.out 1) | ((with_reducible refine gate_callee (f := 15) rfl ?_); refine gL (some 32) Try.func15 #[.agg #[.int .i64 a2_0, .slice A2_1 l2_1.length c2_1], .int .i64 t272] ?_; (with_reducible refine (laws_szPlan.calls a2_0 _ _ l2_1 t272 t273 _ ?side1 ?side2 A25.out).mono ?_); (case side1 => exact cS (Kd.C_below HR2_1.out HB.out)); (case side2 => exact HC2_1.out); rintro e w59 ⟨rfl, hb⟩; refine ⟨_, rfl, ?_⟩; have n0_ := blkA BK268 hb; have n1_ := blkA BK269 hb; have n2_ := blkA BK270 hb; have n3_ := AZ (below_step (bS HB.out) hb); clear BK268; clear BK269; clear BK270; clear HB; have BK268 := n0_; have BK269 := n1_; have BK270 := n2_; have HB := n3_; clear n0_ n1_ n2_ n3_; (try clear hb)))
    have n0_ := AZ (blk_drew BK268.out)
    have n1_ := AZ (blk_drew BK269.out)
    have n2_ := AZ (blk_drew BK270.out)
    have n3_ := AZ (below_drew1 HB.out)
    clear BK268
    clear BK269
    clear BK270
    clear HB
    have BK268 := n0_
    have BK269 := n1_
    have BK270 := n2_
    have HB := n3_
    clear n0_ n1_ n2_ n3_
    refine start_ (n := 12) (S := fun w' => w'.cell? ⟨gb268, 0, none⟩ = some (.slice A0_0 l0_0.length c0_0) ∧ w'.cell? ⟨gb268, 1, none⟩ = some (.slice A0_1 l0_1.length c0_1) ∧ w'.cell? ⟨gb268, 2, none⟩ = some (.slice A0_2 l0_2.length c0_2) ∧ w'.cell? ⟨gb268, 3, none⟩ = some (.int .i64 a0_3) ∧ w'.cell? ⟨gb268, 4, none⟩ = some (.int .i64 a0_4) ∧ w'.cell? ⟨gb268, 5, none⟩ = some (.int .i64 a0_5) ∧ w'.cell? ⟨gb268, 6, none⟩ = some (.int .i64 a0_6) ∧ w'.cell? ⟨gb268, 7, none⟩ = some (.int .i64 a0_7) ∧ w'.cell? ⟨gb269, 0, none⟩ = some (.int .i64 a1_0) ∧ w'.cell? ⟨gb269, 1, none⟩ = some (.slice A1_1 l1_1.length c1_1) ∧ w'.cell? ⟨gb270, 0, none⟩ = some (.int .i64 a2_0) ∧ w'.cell? ⟨gb270, 1, none⟩ = some (.slice A2_1 l2_1.length c2_1)) (ds := []) #[false, false, false, false, false, false, false, false, false, false, false, false] (by kernel_rfl) rfl rfl ⟨(blk_cell BK268.out 0).trans rfl, (blk_cell BK268.out 1).trans rfl, (blk_cell BK268.out 2).trans rfl, (blk_cell BK268.out 3).trans rfl, (blk_cell BK268.out 4).trans rfl, (blk_cell BK268.out 5).trans rfl, (blk_cell BK268.out 6).trans rfl, (blk_cell BK268.out 7).trans rfl, (blk_cell BK269.out 0).trans rfl, (blk_cell BK269.out 1).trans rfl, (blk_cell BK270.out 0).trans rfl, (blk_cell BK270.out 1).trans rfl⟩ (fun hHeld => ?_); refine with_tabW laws_FnExactWorthBetween.tab11 laws_FnExactWorthBetween.bits11 (fun HT_ HW_ => ?_)
    generalize w59.drew = w60 at BK268 BK269 BK270 HB hHeld ⊢
    refine take_ (i := 0) (N := some 36) (v := ?_) (a' := ?_) #[true, false, false, false, false, false, false, false, false, false, false, false] rfl rfl (take_ofW HT_.out HW_.out (by kernel_rfl)) (fun _ _ _ h => h) (Or.inl ⟨by rfl, ?_⟩) hHeld ?_ ?_
    rotate_left
    ·rintro w' ⟨s0, s1, s2, s3, s4, s5, s6, s7, s8, s9, s10, s11⟩
     go_simp
     with_reducible rfl
    rotate_left
    ·simp only [Act.put, List.setIfInBounds_toArray, List.set_cons_zero, List.set_cons_succ, i64_w, i32_w]
     rfl
    refine take_ (i := 2) (N := some 38) (v := ?_) (a' := ?_) #[true, false, true, false, false, false, false, false, false, false, false, false] rfl rfl (take_ofW HT_.out HW_.out (by kernel_rfl)) (fun _ _ _ h => h) (Or.inl ⟨by rfl, ?_⟩) hHeld ?_ ?_
    rotate_left
    ·rintro w' ⟨s0, s1, s2, s3, s4, s5, s6, s7, s8, s9, s10, s11⟩
     go_simp
     with_reducible rfl
    rotate_left
    ·simp only [Act.put, List.setIfInBounds_toArray, List.set_cons_zero, List.set_cons_succ, i64_w, i32_w]
     rfl
    refine take_ (i := 4) (N := some 40) (v := ?_) (a' := ?_) #[true, false, true, false, true, false, false, false, false, false, false, false] rfl rfl (take_ofW HT_.out HW_.out (by kernel_rfl)) (fun _ _ _ h => h) (Or.inl ⟨by rfl, ?_⟩) hHeld ?_ ?_
    rotate_left
    ·rintro w' ⟨s0, s1, s2, s3, s4, s5, s6, s7, s8, s9, s10, s11⟩
     go_simp
     with_reducible rfl
    rotate_left
    ·simp only [Act.put, List.setIfInBounds_toArray, List.set_cons_zero, List.set_cons_succ, i64_w, i32_w]
     rfl
    refine one_ (i := 1) (N := some 37) #[true, true, true, false, true, false, false, false, false, false, false, false] rfl rfl (one_of HT_.out (by kernel_rfl)) (by decide) (fun K hK => ?_)
    refine goes_ Try.func17 (by kernel_rfl) rfl #[.agg #[.slice A0_0 l0_0.length c0_0, .slice A0_1 l0_1.length c0_1, .slice A0_2 l0_2.length c0_2, .int .i64 a0_3, .int .i64 a0_4, .int .i64 a0_5, .int .i64 a0_6, .int .i64 a0_7]] (by rfl) rfl rfl (by (try simp only [List.map_toArray, List.map_cons, List.map_nil]); first | done | rfl | (simp only [List.length_drop, List.length_take]; rfl)) ?_
    with_reducible refine (laws_toJob.calls k _ _ l0_0 _ _ l0_1 _ _ l0_2 a0_3 a0_4 a0_5 a0_6 a0_7 t274 t277 t280 t283 t284 t285 t286 t287 _ ?side1 ?side2 ?side3 ?side4 ?side5 ?side6 A39.out).mono ?_
    (case side1 => exact cS (Kd.C_below HR0_0.out HB.out))
    (case side2 => exact HC0_0.out)
    (case side3 => exact cS (Kd.C_below HR0_1.out HB.out))
    (case side4 => exact HC0_1.out)
    (case side5 => exact cS (Kd.C_below HR0_2.out HB.out))
    (case side6 => exact HC0_2.out)
    rintro e w61 ⟨v275, v278, v281, rfl, ho0, ho1, ho2, hb⟩
    refine ⟨_, rfl, ?_⟩
    have n0_ := AZ (Kd.S_lower ho0 (below_size (bS HB.out)))
    have n1_ := AZ (Kd.R_lower ho1 (below_size (bS HB.out)))
    have n2_ := AZ (Kd.R_lower ho2 (below_size (bS HB.out)))
    have n3_ := blkA BK268 hb
    have n4_ := blkA BK269 hb
    have n5_ := blkA BK270 hb
    have n6_ := AZ (below_step (bS HB.out) hb)
    clear BK268
    clear BK269
    clear BK270
    clear HB
    have HO276 := n0_
    have HO279 := n1_
    have HO282 := n2_
    have BK268 := n3_
    have BK269 := n4_
    have BK270 := n5_
    have HB := n6_
    clear n0_ n1_ n2_ n3_ n4_ n5_ n6_
    (try clear hb)
    (try clear hb2)
    (try clear hk)
    (try clear hi)
    (try clear ho0)
    (try clear ho1)
    (try clear ho2)
    refine hK.out _ _ ⟨(blk_cell BK268.out 0).trans rfl, (blk_cell BK268.out 1).trans rfl, (blk_cell BK268.out 2).trans rfl, (blk_cell BK268.out 3).trans rfl, (blk_cell BK268.out 4).trans rfl, (blk_cell BK268.out 5).trans rfl, (blk_cell BK268.out 6).trans rfl, (blk_cell BK268.out 7).trans rfl, (blk_cell BK269.out 0).trans rfl, (blk_cell BK269.out 1).trans rfl, (blk_cell BK270.out 0).trans rfl, (blk_cell BK270.out 1).trans rfl⟩ (fun hHeld => ?_)
    clear hK K
    refine norm_ (a' := ?_) ?_ ?_
    rotate_left
    ·show Act.put _ (some 37) _ = _
     simp only [Act.put, List.setIfInBounds_toArray, List.set_cons_zero, List.set_cons_succ, i64_w, i32_w]
     rfl
    refine one_ (i := 3) (N := some 39) #[true, true, true, true, true, false, false, false, false, false, false, false] rfl rfl (one_of HT_.out (by kernel_rfl)) (by decide) (fun K hK => ?_)
    refine goes_ Try.func18 (by kernel_rfl) rfl #[.agg #[.int .i64 a1_0, .slice A1_1 l1_1.length c1_1]] (by rfl) rfl rfl (by (try simp only [List.map_toArray, List.map_cons, List.map_nil]); first | done | rfl | (simp only [List.length_drop, List.length_take]; rfl)) ?_
    with_reducible refine (laws_toPlan.calls k a1_0 _ _ l1_1 t288 t289 _ ?side1 ?side2 A40.out).mono ?_
    (case side1 => exact cS (Kd.C_below HR1_1.out HB.out))
    (case side2 => exact HC1_1.out)
    rintro e w62 ⟨v290, rfl, ho0, hb⟩
    refine ⟨_, rfl, ?_⟩
    have n0_ := AZ (Kd.S_elder' (sS HO276.out) (Kd.R_base ho0) hb)
    have n1_ := AZ (Kd.R_elder' (rS HO279.out) (Kd.R_base ho0) hb)
    have n2_ := AZ (Kd.R_elder' (rS HO282.out) (Kd.R_base ho0) hb)
    have n3_ := AZ (Kd.R_lower (Kd.R_new' (Kd.R_new' ho0 (Kd.R_lt (rS HO279.out))) (Kd.R_lt (rS HO282.out))) (below_size (bS HB.out)))
    have n4_ := blkA BK268 hb
    have n5_ := blkA BK269 hb
    have n6_ := blkA BK270 hb
    have n7_ := AZ (below_step (bS HB.out) hb)
    clear HO276
    clear HO279
    clear HO282
    clear BK268
    clear BK269
    clear BK270
    clear HB
    have HO276 := n0_
    have HO279 := n1_
    have HO282 := n2_
    have HO291 := n3_
    have BK268 := n4_
    have BK269 := n5_
    have BK270 := n6_
    have HB := n7_
    clear n0_ n1_ n2_ n3_ n4_ n5_ n6_ n7_
    (try clear hb)
    (try clear hb2)
    (try clear hk)
    (try clear hi)
    (try clear ho0)
    refine hK.out _ _ ⟨(blk_cell BK268.out 0).trans rfl, (blk_cell BK268.out 1).trans rfl, (blk_cell BK268.out 2).trans rfl, (blk_cell BK268.out 3).trans rfl, (blk_cell BK268.out 4).trans rfl, (blk_cell BK268.out 5).trans rfl, (blk_cell BK268.out 6).trans rfl, (blk_cell BK268.out 7).trans rfl, (blk_cell BK269.out 0).trans rfl, (blk_cell BK269.out 1).trans rfl, (blk_cell BK270.out 0).trans rfl, (blk_cell BK270.out 1).trans rfl⟩ (fun hHeld => ?_)
    clear hK K
    refine norm_ (a' := ?_) ?_ ?_
    rotate_left
    ·show Act.put _ (some 39) _ = _
     simp only [Act.put, List.setIfInBounds_toArray, List.set_cons_zero, List.set_cons_succ, i64_w, i32_w]
     rfl
    refine one_ (i := 5) (N := some 41) #[true, true, true, true, true, true, false, false, false, false, false, false] rfl rfl (one_of HT_.out (by kernel_rfl)) (by decide) (fun K hK => ?_)
    refine goes_ Try.func18 (by kernel_rfl) rfl #[.agg #[.int .i64 a2_0, .slice A2_1 l2_1.length c2_1]] (by rfl) rfl rfl (by (try simp only [List.map_toArray, List.map_cons, List.map_nil]); first | done | rfl | (simp only [List.length_drop, List.length_take]; rfl)) ?_
    with_reducible refine (laws_toPlan.calls k a2_0 _ _ l2_1 t292 t293 _ ?side1 ?side2 A41.out).mono ?_
    (case side1 => exact cS (Kd.C_below HR2_1.out HB.out))
    (case side2 => exact HC2_1.out)
    rintro e w63 ⟨v294, rfl, ho0, hb⟩
    refine ⟨_, rfl, ?_⟩
    have n0_ := AZ (Kd.S_elder' (sS HO276.out) (Kd.R_base ho0) hb)
    have n1_ := AZ (Kd.R_elder' (rS HO279.out) (Kd.R_base ho0) hb)
    have n2_ := AZ (Kd.R_elder' (rS HO282.out) (Kd.R_base ho0) hb)
    have n3_ := AZ (Kd.R_elder' (rS HO291.out) (Kd.R_base ho0) hb)
    have n4_ := AZ (Kd.R_lower (Kd.R_new' (Kd.R_new' (Kd.R_new' ho0 (Kd.R_lt (rS HO279.out))) (Kd.R_lt (rS HO282.out))) (Kd.R_lt (rS HO291.out))) (below_size (bS HB.out)))
    have n5_ := blkA BK268 hb
    have n6_ := blkA BK269 hb
    have n7_ := blkA BK270 hb
    have n8_ := AZ (below_step (bS HB.out) hb)
    clear HO276
    clear HO279
    clear HO282
    clear HO291
    clear BK268
    clear BK269
    clear BK270
    clear HB
    have HO276 := n0_
    have HO279 := n1_
    have HO282 := n2_
    have HO291 := n3_
    have HO295 := n4_
    have BK268 := n5_
    have BK269 := n6_
    have BK270 := n7_
    have HB := n8_
    clear n0_ n1_ n2_ n3_ n4_ n5_ n6_ n7_ n8_
    (try clear hb)
    (try clear hb2)
    (try clear hk)
    (try clear hi)
    (try clear ho0)
    obtain ⟨Ao64, co64, eo64⟩ := Kd.S_slice HO276.out
    (first | subst eo64 | (injection eo64 with f1_ f2_ f3_; have f4_ := f1_.symm; have f5_ := f3_.symm; clear f1_ f2_ f3_; subst f4_; subst f5_))
    obtain ⟨Ao65, co65, eo65⟩ := Kd.R_slice HO279.out
    (first | subst eo65 | (injection eo65 with f1_ f2_ f3_; have f4_ := f1_.symm; have f5_ := f3_.symm; clear f1_ f2_ f3_; subst f4_; subst f5_))
    obtain ⟨Ao66, co66, eo66⟩ := Kd.R_slice HO282.out
    (first | subst eo66 | (injection eo66 with f1_ f2_ f3_; have f4_ := f1_.symm; have f5_ := f3_.symm; clear f1_ f2_ f3_; subst f4_; subst f5_))
    obtain ⟨Ao67, co67, eo67⟩ := Kd.R_slice HO291.out
    (first | subst eo67 | (injection eo67 with f1_ f2_ f3_; have f4_ := f1_.symm; have f5_ := f3_.symm; clear f1_ f2_ f3_; subst f4_; subst f5_))
    obtain ⟨Ao68, co68, eo68⟩ := Kd.R_slice HO295.out
    (first | subst eo68 | (injection eo68 with f1_ f2_ f3_; have f4_ := f1_.symm; have f5_ := f3_.symm; clear f1_ f2_ f3_; subst f4_; subst f5_))
    refine hK.out _ _ ⟨(blk_cell BK268.out 0).trans rfl, (blk_cell BK268.out 1).trans rfl, (blk_cell BK268.out 2).trans rfl, (blk_cell BK268.out 3).trans rfl, (blk_cell BK268.out 4).trans rfl, (blk_cell BK268.out 5).trans rfl, (blk_cell BK268.out 6).trans rfl, (blk_cell BK268.out 7).trans rfl, (blk_cell BK269.out 0).trans rfl, (blk_cell BK269.out 1).trans rfl, (blk_cell BK270.out 0).trans rfl, (blk_cell BK270.out 1).trans rfl⟩ (fun hHeld => ?_)
    clear hK K
    refine norm_ (a' := ?_) ?_ ?_
    rotate_left
    ·show Act.put _ (some 41) _ = _
     simp only [Act.put, List.setIfInBounds_toArray, List.set_cons_zero, List.set_cons_succ, i64_w, i32_w]
     rfl
    refine one_ (i := 6) (N := some 42) #[true, true, true, true, true, true, true, false, false, false, false, false] rfl rfl (one_of HT_.out (by kernel_rfl)) (by decide) (fun K hK => ?_)
    refine goes_ Try.func48 (by kernel_rfl) rfl #[.agg #[.slice Ao64 t274.length co64, .slice Ao65 t277.length co65, .slice Ao66 t280.length co66, .int .i64 t283, .int .i64 t284, .int .i64 t285, .int .i64 t286, .int .i64 t287], .agg #[.int .i64 t288, .slice Ao67 t289.length co67], .agg #[.int .i64 t292, .slice Ao68 t293.length co68]] (by rfl) rfl rfl (by (try simp only [List.map_toArray, List.map_cons, List.map_nil]); first | done | rfl | (simp only [List.length_drop, List.length_take]; rfl)) ?_
    with_reducible refine (spec_WorthBetween.calls k _ _ t274 _ _ t277 _ _ t280 t283 t284 t285 t286 t287 t288 _ _ t289 t292 _ _ t293 t296 t299 _ ?side1 ?side2 ?side3 ?side4 ?side5 ?side6 ?side7 ?side8 ?side9 ?side10 A42.out).mono ?_
    (case side1 => exact cS (Kd.S_reads' HO276.out).2.2)
    (case side2 => exact (Kd.S_reads' HO276.out).2.1)
    (case side3 => exact cS (Kd.R_reads' HO279.out).2.2)
    (case side4 => exact (Kd.R_reads' HO279.out).2.1)
    (case side5 => exact cS (Kd.R_reads' HO282.out).2.2)
    (case side6 => exact (Kd.R_reads' HO282.out).2.1)
    (case side7 => exact cS (Kd.R_reads' HO291.out).2.2)
    (case side8 => exact (Kd.R_reads' HO291.out).2.1)
    (case side9 => exact cS (Kd.R_reads' HO295.out).2.2)
    (case side10 => exact (Kd.R_reads' HO295.out).2.1)
    rintro e w69 ⟨v297, rfl, ho0, hb⟩
    refine ⟨_, rfl, ?_⟩
    have n0_ := AZ (Kd.S_elder' (sS HO276.out) (Kd.R_base ho0) hb)
    have n1_ := AZ (Kd.R_elder' (rS HO279.out) (Kd.R_base ho0) hb)
    have n2_ := AZ (Kd.R_elder' (rS HO282.out) (Kd.R_base ho0) hb)
    have n3_ := AZ (Kd.R_elder' (rS HO291.out) (Kd.R_base ho0) hb)
    have n4_ := AZ (Kd.R_elder' (rS HO295.out) (Kd.R_base ho0) hb)
    have n5_ := AZ (Kd.R_lower (Kd.R_new' (Kd.R_new' (Kd.R_new' (Kd.R_new' ho0 (Kd.R_lt (rS HO279.out))) (Kd.R_lt (rS HO282.out))) (Kd.R_lt (rS HO291.out))) (Kd.R_lt (rS HO295.out))) (below_size (bS HB.out)))
    have n6_ := blkA BK268 hb
    have n7_ := blkA BK269 hb
    have n8_ := blkA BK270 hb
    have n9_ := AZ (below_step (bS HB.out) hb)
    clear HO276
    clear HO279
    clear HO282
    clear HO291
    clear HO295
    clear BK268
    clear BK269
    clear BK270
    clear HB
    have HO276 := n0_
    have HO279 := n1_
    have HO282 := n2_
    have HO291 := n3_
    have HO295 := n4_
    have HO298 := n5_
    have BK268 := n6_
    have BK269 := n7_
    have BK270 := n8_
    have HB := n9_
    clear n0_ n1_ n2_ n3_ n4_ n5_ n6_ n7_ n8_ n9_
    (try clear hb)
    (try clear hb2)
    (try clear hk)
    (try clear hi)
    (try clear ho0)
    refine hK.out _ _ ⟨(blk_cell BK268.out 0).trans rfl, (blk_cell BK268.out 1).trans rfl, (blk_cell BK268.out 2).trans rfl, (blk_cell BK268.out 3).trans rfl, (blk_cell BK268.out 4).trans rfl, (blk_cell BK268.out 5).trans rfl, (blk_cell BK268.out 6).trans rfl, (blk_cell BK268.out 7).trans rfl, (blk_cell BK269.out 0).trans rfl, (blk_cell BK269.out 1).trans rfl, (blk_cell BK270.out 0).trans rfl, (blk_cell BK270.out 1).trans rfl⟩ (fun hHeld => ?_)
    clear hK K
    refine norm_ (a' := ?_) ?_ ?_
    rotate_left
    ·show Act.put _ (some 42) _ = _
     simp only [Act.put, List.setIfInBounds_toArray, List.set_cons_zero, List.set_cons_succ, i64_w, i32_w]
     rfl
    refine pure_ (i := 7) (N := some 35) (v := ?_) (a' := ?_) #[true, true, true, true, true, true, true, true, false, false, false, false] rfl rfl (any_of HT_.out (by kernel_rfl)) (fun _ _ _ h => h) (Or.inl ⟨by rfl, ?_⟩) ?_ ?_
    rotate_left
    ·intro w'
     go_simp
     with_reducible rfl
    rotate_left
    ·simp only [Act.put, List.setIfInBounds_toArray, List.set_cons_zero, List.set_cons_succ, i64_w, i32_w]
     rfl
    refine pure_ (i := 8) (N := some 43) (v := ?_) (a' := ?_) #[true, true, true, true, true, true, true, true, true, false, false, false] rfl rfl (any_of HT_.out (by kernel_rfl)) (fun _ _ _ h => h) (Or.inl ⟨by rfl, ?_⟩) ?_ ?_
    rotate_left
    ·intro w'
     go_simp
     with_reducible rfl
    rotate_left
    ·simp only [Act.put, List.setIfInBounds_toArray, List.set_cons_zero, List.set_cons_succ, i64_w, i32_w]
     rfl
    refine pure_ (i := 9) (N := some 44) (v := ?_) (a' := ?_) #[true, true, true, true, true, true, true, true, true, true, false, false] rfl rfl (any_of HT_.out (by kernel_rfl)) (fun _ _ _ h => h) (Or.inl ⟨by rfl, ?_⟩) ?_ ?_
    rotate_left
    ·intro w'
     go_simp
     with_reducible rfl
    rotate_left
    ·simp only [Act.put, List.setIfInBounds_toArray, List.set_cons_zero, List.set_cons_succ, i64_w, i32_w]
     rfl
    refine pure_ (i := 10) (N := some 8) (v := ?_) (a' := ?_) #[true, true, true, true, true, true, true, true, true, true, true, false] rfl rfl (any_of HT_.out (by kernel_rfl)) (fun _ _ _ h => h) (Or.inl ⟨by rfl, ?_⟩) ?_ ?_
    rotate_left
    ·intro w'
     go_simp
     with_reducible rfl
    rotate_left
    ·simp only [Act.put, List.setIfInBounds_toArray, List.set_cons_zero, List.set_cons_succ, i64_w, i32_w]
     rfl
    refine pure_ (i := 11) (N := some 9) (v := ?_) (a' := ?_) #[true, true, true, true, true, true, true, true, true, true, true, true] rfl rfl (any_of HT_.out (by kernel_rfl)) (fun _ _ _ h => h) (Or.inl ⟨by rfl, ?_⟩) ?_ ?_
    rotate_left
    ·intro w'
     go_simp
     with_reducible rfl
    rotate_left
    ·simp only [Act.put, List.setIfInBounds_toArray, List.set_cons_zero, List.set_cons_succ, i64_w, i32_w]
     rfl
    refine done_ (done_of HT_.out (by kernel_rfl)) ?_
    have hcz70_0 : w69.cell? ⟨gb268, 0, none⟩ = some (.slice A0_0 l0_0.length c0_0) := (blk_cell BK268.out 0).trans rfl
    have hcz70_1 : w69.cell? ⟨gb268, 1, none⟩ = some (.slice A0_1 l0_1.length c0_1) := (blk_cell BK268.out 1).trans rfl
    have hcz70_2 : w69.cell? ⟨gb268, 2, none⟩ = some (.slice A0_2 l0_2.length c0_2) := (blk_cell BK268.out 2).trans rfl
    have hcz70_3 : w69.cell? ⟨gb268, 3, none⟩ = some (.int .i64 a0_3) := (blk_cell BK268.out 3).trans rfl
    have hcz70_4 : w69.cell? ⟨gb268, 4, none⟩ = some (.int .i64 a0_4) := (blk_cell BK268.out 4).trans rfl
    have hcz70_5 : w69.cell? ⟨gb268, 5, none⟩ = some (.int .i64 a0_5) := (blk_cell BK268.out 5).trans rfl
    have hcz70_6 : w69.cell? ⟨gb268, 6, none⟩ = some (.int .i64 a0_6) := (blk_cell BK268.out 6).trans rfl
    have hcz70_7 : w69.cell? ⟨gb268, 7, none⟩ = some (.int .i64 a0_7) := (blk_cell BK268.out 7).trans rfl
    have hfz70_0 := blk_frozen BK268.out 0
    have hfz70_1 := blk_frozen BK268.out 1
    have hfz70_2 := blk_frozen BK268.out 2
    have hfz70_3 := blk_frozen BK268.out 3
    have hfz70_4 := blk_frozen BK268.out 4
    have hfz70_5 := blk_frozen BK268.out 5
    have hfz70_6 := blk_frozen BK268.out 6
    have hfz70_7 := blk_frozen BK268.out 7
    go_upto_region 16 with (first | ((with_reducible refine gate_callee (f := 17) rfl ?_); refine gL (some 46) Try.func17 #[.agg #[.slice A0_0 l0_0.length c0_0, .slice A0_1 l0_1.length c0_1, .slice A0_2 l0_2.length c0_2, .int .i64 a0_3, .int .i64 a0_4, .int .i64 a0_5, .int .i64 a0_6, .int .i64 a0_7]] ?_; (with_reducible refine (laws_toJob.calls k _ _ l0_0 _ _ l0_1 _ _ l0_2 a0_3 a0_4 a0_5 a0_6 a0_7 t300 t303 t306 t309 t310 t311 t312 t313 _ ?side1 ?side2 ?side3 ?side4 ?side5 ?side6 A43.out).mono ?_); (case side1 => exact cS (Kd.C_below HR0_0.out HB.out)); (case side2 => exact HC0_0.out); (case side3 => exact cS (Kd.C_below HR0_1.out HB.out)); (case side4 => exact HC0_1.out); (case side5 => exact cS (Kd.C_below HR0_2.out HB.out)); (case side6 => exact HC0_2.out); rintro e w71 ⟨v301, v304, v307, rfl, ho0, ho1, ho2, hb⟩; refine ⟨_, rfl, ?_⟩; have n0_ := AZ (Kd.S_mono (Kd.S_told (Kd.S_told (Kd.S_told (Kd.S_old (sS HO276.out) hb) (Kd.S_base ho0)) (Kd.R_base ho1)) (Kd.R_base ho2)) (fun _ h_ => h_.1)); have n1_ := AZ (Kd.R_mono (Kd.R_told (Kd.R_told (Kd.R_old (rS HO279.out) hb) (Kd.R_base ho1)) (Kd.R_base ho2)) (fun _ h_ => h_.1)); have n2_ := AZ (Kd.R_mono (Kd.R_told (Kd.R_told (Kd.R_old (rS HO282.out) hb) (Kd.R_base ho1)) (Kd.R_base ho2)) (fun _ h_ => h_.1)); have n3_ := AZ (Kd.R_mono (Kd.R_told (Kd.R_told (Kd.R_old (rS HO291.out) hb) (Kd.R_base ho1)) (Kd.R_base ho2)) (fun _ h_ => h_.1)); have n4_ := AZ (Kd.R_mono (Kd.R_told (Kd.R_told (Kd.R_old (rS HO295.out) hb) (Kd.R_base ho1)) (Kd.R_base ho2)) (fun _ h_ => h_.1)); have n5_ := AZ (Kd.R_mono (Kd.R_told (Kd.R_told (Kd.R_old (rS HO298.out) hb) (Kd.R_base ho1)) (Kd.R_base ho2)) (fun _ h_ => h_.1)); have n6_ := AZ (Kd.S_lower (Kd.S_new' (Kd.S_new' (Kd.S_new' (Kd.S_new' (Kd.S_new' (Kd.S_new' ho0 (Kd.S_lt (sS HO276.out))) (Kd.R_lt (rS HO279.out))) (Kd.R_lt (rS HO282.out))) (Kd.R_lt (rS HO291.out))) (Kd.R_lt (rS HO295.out))) (Kd.R_lt (rS HO298.out))) (below_size (bS HB.out))); have n7_ := AZ (Kd.R_lower (Kd.R_new' (Kd.R_new' (Kd.R_new' (Kd.R_new' (Kd.R_new' ho1 (Kd.R_lt (rS HO279.out))) (Kd.R_lt (rS HO282.out))) (Kd.R_lt (rS HO291.out))) (Kd.R_lt (rS HO295.out))) (Kd.R_lt (rS HO298.out))) (below_size (bS HB.out))); have n8_ := AZ (Kd.R_lower (Kd.R_new' (Kd.R_new' (Kd.R_new' (Kd.R_new' (Kd.R_new' ho2 (Kd.R_lt (rS HO279.out))) (Kd.R_lt (rS HO282.out))) (Kd.R_lt (rS HO291.out))) (Kd.R_lt (rS HO295.out))) (Kd.R_lt (rS HO298.out))) (below_size (bS HB.out))); have n9_ := blkA BK268 hb; have n10_ := blkA BK269 hb; have n11_ := blkA BK270 hb; have n12_ := AZ (below_step (bS HB.out) hb); clear HO276; clear HO279; clear HO282; clear HO291; clear HO295; clear HO298; clear BK268; clear BK269; clear BK270; clear HB; have HO276 := n0_; have HO279 := n1_; have HO282 := n2_; have HO291 := n3_; have HO295 := n4_; have HO298 := n5_; have HO302 := n6_; have HO305 := n7_; have HO308 := n8_; have BK268 := n9_; have BK269 := n10_; have BK270 := n11_; have HB := n12_; clear n0_ n1_ n2_ n3_ n4_ n5_ n6_ n7_ n8_ n9_ n10_ n11_ n12_; (try clear hb ho0 ho1 ho2)) | ((with_reducible refine gate_dst (N := 10) rfl ?_); refine box_event ?hg (N := 10) ?hd (cs := #[.slice none 0 0, .slice none 0 0, .slice none 0 0, .int .i64 0, .int .i64 0, .int .i64 0, .int .i64 0, .int .i64 0]) (t := 36) ?hr ?_; (case hd => rfl); (case hg => rfl); (case hr => first | (go_simp; done) | (go_simp; rfl)); intro gb314 hg w72 hbox hb; have n0_ := AZ (Kd.S_below (sS HO276.out) hb); have n1_ := AZ (Kd.R_below (rS HO279.out) hb); have n2_ := AZ (Kd.R_below (rS HO282.out) hb); have n3_ := AZ (Kd.R_below (rS HO291.out) hb); have n4_ := AZ (Kd.R_below (rS HO295.out) hb); have n5_ := AZ (Kd.R_below (rS HO298.out) hb); have n6_ := AZ (Kd.S_below (sS HO302.out) hb); have n7_ := AZ (Kd.R_below (rS HO305.out) hb); have n8_ := AZ (Kd.R_below (rS HO308.out) hb); have n9_ := blkA BK268 hb; have n10_ := blkA BK269 hb; have n11_ := blkA BK270 hb; have n12_ := AZ (below_step (bS HB.out) hb); have n13_ := AZ (hbox); have n14_ := AZ (geS hg HB.out); have n15_ := AZ (geS hg HB.out); have n16_ := AZ ((by rw [hg]; exact Nat.ne_of_lt (blkL BK268.out) : gb268 ≠ gb314)); have n17_ := AZ ((by rw [hg]; exact Nat.ne_of_gt (blkL BK268.out) : gb314 ≠ gb268)); have n18_ := AZ ((by rw [hg]; exact Nat.ne_of_lt (blkL BK269.out) : gb269 ≠ gb314)); have n19_ := AZ ((by rw [hg]; exact Nat.ne_of_gt (blkL BK269.out) : gb314 ≠ gb269)); have n20_ := AZ ((by rw [hg]; exact Nat.ne_of_lt (blkL BK270.out) : gb270 ≠ gb314)); have n21_ := AZ ((by rw [hg]; exact Nat.ne_of_gt (blkL BK270.out) : gb314 ≠ gb270)); clear HO276; clear HO279; clear HO282; clear HO291; clear HO295; clear HO298; clear HO302; clear HO305; clear HO308; clear BK268; clear BK269; clear BK270; clear HB; have HO276 := n0_; have HO279 := n1_; have HO282 := n2_; have HO291 := n3_; have HO295 := n4_; have HO298 := n5_; have HO302 := n6_; have HO305 := n7_; have HO308 := n8_; have BK268 := n9_; have BK269 := n10_; have BK270 := n11_; have HB := n12_; have BK314 := n13_; have GW314 := n14_; have GE314 := n15_; have NB268_314 := n16_; have NB314_268 := n17_; have NB269_314 := n18_; have NB314_269 := n19_; have NB270_314 := n20_; have NB314_270 := n21_; clear n0_ n1_ n2_ n3_ n4_ n5_ n6_ n7_ n8_ n9_ n10_ n11_ n12_ n13_ n14_ n15_ n16_ n17_ n18_ n19_ n20_ n21_; clear hb hbox hg; obtain ⟨Ao73, co73, eo73⟩ := Kd.S_slice HO302.out; subst eo73; have hnb74 := NB314_268.out; have hnc74 := NB268_314.out; have hnb75 := NB314_269.out; have hnc75 := NB269_314.out; have hnb76 := NB314_270.out; have hnc76 := NB270_314.out; have hcz77_0 : w72.cell? ⟨gb314, 0, none⟩ = some (.slice none 0 0) := (blk_cell BK314.out 0).trans rfl; have hcz77_1 : w72.cell? ⟨gb314, 1, none⟩ = some (.slice none 0 0) := (blk_cell BK314.out 1).trans rfl; have hcz77_2 : w72.cell? ⟨gb314, 2, none⟩ = some (.slice none 0 0) := (blk_cell BK314.out 2).trans rfl; have hcz77_3 : w72.cell? ⟨gb314, 3, none⟩ = some (.int .i64 0) := (blk_cell BK314.out 3).trans rfl; have hcz77_4 : w72.cell? ⟨gb314, 4, none⟩ = some (.int .i64 0) := (blk_cell BK314.out 4).trans rfl; have hcz77_5 : w72.cell? ⟨gb314, 5, none⟩ = some (.int .i64 0) := (blk_cell BK314.out 5).trans rfl; have hcz77_6 : w72.cell? ⟨gb314, 6, none⟩ = some (.int .i64 0) := (blk_cell BK314.out 6).trans rfl; have hcz77_7 : w72.cell? ⟨gb314, 7, none⟩ = some (.int .i64 0) := (blk_cell BK314.out 7).trans rfl; have hfz77_0 := blk_frozen BK314.out 0; have hfz77_1 := blk_frozen BK314.out 1; have hfz77_2 := blk_frozen BK314.out 2; have hfz77_3 := blk_frozen BK314.out 3; have hfz77_4 := blk_frozen BK314.out 4; have hfz77_5 := blk_frozen BK314.out 5; have hfz77_6 := blk_frozen BK314.out 6; have hfz77_7 := blk_frozen BK314.out 7; obtain ⟨Ao78, co78, eo78⟩ := Kd.R_slice HO305.out; subst eo78; obtain ⟨Ao79, co79, eo79⟩ := Kd.R_slice HO308.out; subst eo79; have hcz80_0 : w72.cell? ⟨gb269, 0, none⟩ = some (.int .i64 a1_0) := (blk_cell BK269.out 0).trans rfl; have hcz80_1 : w72.cell? ⟨gb269, 1, none⟩ = some (.slice A1_1 l1_1.length c1_1) := (blk_cell BK269.out 1).trans rfl; have hfz80_0 := blk_frozen BK269.out 0; have hfz80_1 := blk_frozen BK269.out 1) | ((with_reducible refine gate_callee (f := 18) rfl ?_); refine gL (some 48) Try.func18 #[.agg #[.int .i64 a1_0, .slice A1_1 l1_1.length c1_1]] ?_; (with_reducible refine (laws_toPlan.calls k a1_0 _ _ l1_1 t315 t316 _ ?side1 ?side2 A44.out).mono ?_); (case side1 => exact Kd.C_below HR1_1.out (bS HB.out)); (case side2 => exact HC1_1.out); rintro e w81 ⟨v317, rfl, ho0, hb⟩; refine ⟨_, rfl, ?_⟩; have n0_ := AZ (Kd.S_elder' (by (with_reducible repeat (first | apply Kd.S_alloc | apply Kd.S_drewN | apply Kd.S_drew)); exact (Kd.S_mono (Kd.S_far (Kd.S_far (Kd.S_far (Kd.S_far (Kd.S_far (Kd.S_far (Kd.S_far (Kd.S_far (Kd.S_types HO276.out BK314.out (by decide)) (fun _ hk => hk.2) _) (fun _ hk => hk.2) _) (fun _ hk => hk.2) _) (fun _ hk => hk.2) _) (fun _ hk => hk.2) _) (fun _ hk => hk.2) _) (fun _ hk => hk.2) _) (fun _ hk => hk.2) _) (fun _ h_ => h_.1))) (Kd.R_base ho0) hb); have n1_ := AZ (Kd.R_elder' (by (with_reducible repeat (first | apply Kd.R_alloc | apply Kd.R_drewN | apply Kd.R_drew)); exact (Kd.R_mono (Kd.R_far (Kd.R_far (Kd.R_far (Kd.R_far (Kd.R_far (Kd.R_far (Kd.R_far (Kd.R_far (Kd.R_types HO279.out BK314.out (by decide)) (fun _ hk => hk.2) _) (fun _ hk => hk.2) _) (fun _ hk => hk.2) _) (fun _ hk => hk.2) _) (fun _ hk => hk.2) _) (fun _ hk => hk.2) _) (fun _ hk => hk.2) _) (fun _ hk => hk.2) _) (fun _ h_ => h_.1))) (Kd.R_base ho0) hb); have n2_ := AZ (Kd.R_elder' (by (with_reducible repeat (first | apply Kd.R_alloc | apply Kd.R_drewN | apply Kd.R_drew)); exact (Kd.R_mono (Kd.R_far (Kd.R_far (Kd.R_far (Kd.R_far (Kd.R_far (Kd.R_far (Kd.R_far (Kd.R_far (Kd.R_types HO282.out BK314.out (by decide)) (fun _ hk => hk.2) _) (fun _ hk => hk.2) _) (fun _ hk => hk.2) _) (fun _ hk => hk.2) _) (fun _ hk => hk.2) _) (fun _ hk => hk.2) _) (fun _ hk => hk.2) _) (fun _ hk => hk.2) _) (fun _ h_ => h_.1))) (Kd.R_base ho0) hb); have n3_ := AZ (Kd.R_elder' (by (with_reducible repeat (first | apply Kd.R_alloc | apply Kd.R_drewN | apply Kd.R_drew)); exact (Kd.R_mono (Kd.R_far (Kd.R_far (Kd.R_far (Kd.R_far (Kd.R_far (Kd.R_far (Kd.R_far (Kd.R_far (Kd.R_types HO291.out BK314.out (by decide)) (fun _ hk => hk.2) _) (fun _ hk => hk.2) _) (fun _ hk => hk.2) _) (fun _ hk => hk.2) _) (fun _ hk => hk.2) _) (fun _ hk => hk.2) _) (fun _ hk => hk.2) _) (fun _ hk => hk.2) _) (fun _ h_ => h_.1))) (Kd.R_base ho0) hb); have n4_ := AZ (Kd.R_elder' (by (with_reducible repeat (first | apply Kd.R_alloc | apply Kd.R_drewN | apply Kd.R_drew)); exact (Kd.R_mono (Kd.R_far (Kd.R_far (Kd.R_far (Kd.R_far (Kd.R_far (Kd.R_far (Kd.R_far (Kd.R_far (Kd.R_types HO295.out BK314.out (by decide)) (fun _ hk => hk.2) _) (fun _ hk => hk.2) _) (fun _ hk => hk.2) _) (fun _ hk => hk.2) _) (fun _ hk => hk.2) _) (fun _ hk => hk.2) _) (fun _ hk => hk.2) _) (fun _ hk => hk.2) _) (fun _ h_ => h_.1))) (Kd.R_base ho0) hb); have n5_ := AZ (Kd.R_elder' (by (with_reducible repeat (first | apply Kd.R_alloc | apply Kd.R_drewN | apply Kd.R_drew)); exact (Kd.R_mono (Kd.R_far (Kd.R_far (Kd.R_far (Kd.R_far (Kd.R_far (Kd.R_far (Kd.R_far (Kd.R_far (Kd.R_types HO298.out BK314.out (by decide)) (fun _ hk => hk.2) _) (fun _ hk => hk.2) _) (fun _ hk => hk.2) _) (fun _ hk => hk.2) _) (fun _ hk => hk.2) _) (fun _ hk => hk.2) _) (fun _ hk => hk.2) _) (fun _ hk => hk.2) _) (fun _ h_ => h_.1))) (Kd.R_base ho0) hb); have n6_ := AZ (Kd.S_elder' (by (with_reducible repeat (first | apply Kd.S_alloc | apply Kd.S_drewN | apply Kd.S_drew)); exact (Kd.S_mono (Kd.S_far (Kd.S_far (Kd.S_far (Kd.S_far (Kd.S_far (Kd.S_far (Kd.S_far (Kd.S_far (Kd.S_types HO302.out BK314.out (by decide)) (fun _ hk => hk.2) _) (fun _ hk => hk.2) _) (fun _ hk => hk.2) _) (fun _ hk => hk.2) _) (fun _ hk => hk.2) _) (fun _ hk => hk.2) _) (fun _ hk => hk.2) _) (fun _ hk => hk.2) _) (fun _ h_ => h_.1))) (Kd.R_base ho0) hb); have n7_ := AZ (Kd.R_elder' (by (with_reducible repeat (first | apply Kd.R_alloc | apply Kd.R_drewN | apply Kd.R_drew)); exact (Kd.R_mono (Kd.R_far (Kd.R_far (Kd.R_far (Kd.R_far (Kd.R_far (Kd.R_far (Kd.R_far (Kd.R_far (Kd.R_types HO305.out BK314.out (by decide)) (fun _ hk => hk.2) _) (fun _ hk => hk.2) _) (fun _ hk => hk.2) _) (fun _ hk => hk.2) _) (fun _ hk => hk.2) _) (fun _ hk => hk.2) _) (fun _ hk => hk.2) _) (fun _ hk => hk.2) _) (fun _ h_ => h_.1))) (Kd.R_base ho0) hb); have n8_ := AZ (Kd.R_elder' (by (with_reducible repeat (first | apply Kd.R_alloc | apply Kd.R_drewN | apply Kd.R_drew)); exact (Kd.R_mono (Kd.R_far (Kd.R_far (Kd.R_far (Kd.R_far (Kd.R_far (Kd.R_far (Kd.R_far (Kd.R_far (Kd.R_types HO308.out BK314.out (by decide)) (fun _ hk => hk.2) _) (fun _ hk => hk.2) _) (fun _ hk => hk.2) _) (fun _ hk => hk.2) _) (fun _ hk => hk.2) _) (fun _ hk => hk.2) _) (fun _ hk => hk.2) _) (fun _ hk => hk.2) _) (fun _ h_ => h_.1))) (Kd.R_base ho0) hb); have n9_ := AZ (Kd.R_lower (Kd.R_new' (Kd.R_new' (Kd.R_new' (Kd.R_new' (Kd.R_new' (Kd.R_new' (Kd.R_new' ho0 (Kd.R_lt (by (with_reducible repeat (first | apply Kd.R_alloc | apply Kd.R_drewN | apply Kd.R_drew)); exact (Kd.R_mono (Kd.R_far (Kd.R_far (Kd.R_far (Kd.R_far (Kd.R_far (Kd.R_far (Kd.R_far (Kd.R_far (Kd.R_types HO279.out BK314.out (by decide)) (fun _ hk => hk.2) _) (fun _ hk => hk.2) _) (fun _ hk => hk.2) _) (fun _ hk => hk.2) _) (fun _ hk => hk.2) _) (fun _ hk => hk.2) _) (fun _ hk => hk.2) _) (fun _ hk => hk.2) _) (fun _ h_ => h_.1))))) (Kd.R_lt (by (with_reducible repeat (first | apply Kd.R_alloc | apply Kd.R_drewN | apply Kd.R_drew)); exact (Kd.R_mono (Kd.R_far (Kd.R_far (Kd.R_far (Kd.R_far (Kd.R_far (Kd.R_far (Kd.R_far (Kd.R_far (Kd.R_types HO282.out BK314.out (by decide)) (fun _ hk => hk.2) _) (fun _ hk => hk.2) _) (fun _ hk => hk.2) _) (fun _ hk => hk.2) _) (fun _ hk => hk.2) _) (fun _ hk => hk.2) _) (fun _ hk => hk.2) _) (fun _ hk => hk.2) _) (fun _ h_ => h_.1))))) (Kd.R_lt (by (with_reducible repeat (first | apply Kd.R_alloc | apply Kd.R_drewN | apply Kd.R_drew)); exact (Kd.R_mono (Kd.R_far (Kd.R_far (Kd.R_far (Kd.R_far (Kd.R_far (Kd.R_far (Kd.R_far (Kd.R_far (Kd.R_types HO291.out BK314.out (by decide)) (fun _ hk => hk.2) _) (fun _ hk => hk.2) _) (fun _ hk => hk.2) _) (fun _ hk => hk.2) _) (fun _ hk => hk.2) _) (fun _ hk => hk.2) _) (fun _ hk => hk.2) _) (fun _ hk => hk.2) _) (fun _ h_ => h_.1))))) (Kd.R_lt (by (with_reducible repeat (first | apply Kd.R_alloc | apply Kd.R_drewN | apply Kd.R_drew)); exact (Kd.R_mono (Kd.R_far (Kd.R_far (Kd.R_far (Kd.R_far (Kd.R_far (Kd.R_far (Kd.R_far (Kd.R_far (Kd.R_types HO295.out BK314.out (by decide)) (fun _ hk => hk.2) _) (fun _ hk => hk.2) _) (fun _ hk => hk.2) _) (fun _ hk => hk.2) _) (fun _ hk => hk.2) _) (fun _ hk => hk.2) _) (fun _ hk => hk.2) _) (fun _ hk => hk.2) _) (fun _ h_ => h_.1))))) (Kd.R_lt (by (with_reducible repeat (first | apply Kd.R_alloc | apply Kd.R_drewN | apply Kd.R_drew)); exact (Kd.R_mono (Kd.R_far (Kd.R_far (Kd.R_far (Kd.R_far (Kd.R_far (Kd.R_far (Kd.R_far (Kd.R_far (Kd.R_types HO298.out BK314.out (by decide)) (fun _ hk => hk.2) _) (fun _ hk => hk.2) _) (fun _ hk => hk.2) _) (fun _ hk => hk.2) _) (fun _ hk => hk.2) _) (fun _ hk => hk.2) _) (fun _ hk => hk.2) _) (fun _ hk => hk.2) _) (fun _ h_ => h_.1))))) (Kd.R_lt (by (with_reducible repeat (first | apply Kd.R_alloc | apply Kd.R_drewN | apply Kd.R_drew)); exact (Kd.R_mono (Kd.R_far (Kd.R_far (Kd.R_far (Kd.R_far (Kd.R_far (Kd.R_far (Kd.R_far (Kd.R_far (Kd.R_types HO305.out BK314.out (by decide)) (fun _ hk => hk.2) _) (fun _ hk => hk.2) _) (fun _ hk => hk.2) _) (fun _ hk => hk.2) _) (fun _ hk => hk.2) _) (fun _ hk => hk.2) _) (fun _ hk => hk.2) _) (fun _ hk => hk.2) _) (fun _ h_ => h_.1))))) (Kd.R_lt (by (with_reducible repeat (first | apply Kd.R_alloc | apply Kd.R_drewN | apply Kd.R_drew)); exact (Kd.R_mono (Kd.R_far (Kd.R_far (Kd.R_far (Kd.R_far (Kd.R_far (Kd.R_far (Kd.R_far (Kd.R_far (Kd.R_types HO308.out BK314.out (by decide)) (fun _ hk => hk.2) _) (fun _ hk => hk.2) _) (fun _ hk => hk.2) _) (fun _ hk => hk.2) _) (fun _ hk => hk.2) _) (fun _ hk => hk.2) _) (fun _ hk => hk.2) _) (fun _ hk => hk.2) _) (fun _ h_ => h_.1))))) (below_size (bS HB.out))); have n10_ := AZ (blk_below (g := gb268) (o := .cells #[.slice A0_0 l0_0.length c0_0, .slice A0_1 l0_1.length c0_1, .slice A0_2 l0_2.length c0_2, .int .i64 a0_3, .int .i64 a0_4, .int .i64 a0_5, .int .i64 a0_6, .int .i64 a0_7] 27 (0, 0)) (by (with_reducible repeat (first | refine blk_drewN ?_ _ | refine blk_drew ?_ | refine blk_alloc ?_ _)); refine blk_far ?_ NB268_314.out _; (with_reducible repeat (first | refine blk_drewN ?_ _ | refine blk_drew ?_ | refine blk_alloc ?_ _)); refine blk_far ?_ NB268_314.out _; (with_reducible repeat (first | refine blk_drewN ?_ _ | refine blk_drew ?_ | refine blk_alloc ?_ _)); refine blk_far ?_ NB268_314.out _; (with_reducible repeat (first | refine blk_drewN ?_ _ | refine blk_drew ?_ | refine blk_alloc ?_ _)); refine blk_far ?_ NB268_314.out _; (with_reducible repeat (first | refine blk_drewN ?_ _ | refine blk_drew ?_ | refine blk_alloc ?_ _)); refine blk_far ?_ NB268_314.out _; (with_reducible repeat (first | refine blk_drewN ?_ _ | refine blk_drew ?_ | refine blk_alloc ?_ _)); refine blk_far ?_ NB268_314.out _; (with_reducible repeat (first | refine blk_drewN ?_ _ | refine blk_drew ?_ | refine blk_alloc ?_ _)); refine blk_far ?_ NB268_314.out _; (with_reducible repeat (first | refine blk_drewN ?_ _ | refine blk_drew ?_ | refine blk_alloc ?_ _)); refine blk_far ?_ NB268_314.out _; (with_reducible repeat (first | refine blk_drewN ?_ _ | refine blk_drew ?_ | refine blk_alloc ?_ _)); exact BK268.out) hb); have n11_ := AZ (blk_below (g := gb269) (o := .cells #[.int .i64 a1_0, .slice A1_1 l1_1.length c1_1] 29 (0, 0)) (by (with_reducible repeat (first | refine blk_drewN ?_ _ | refine blk_drew ?_ | refine blk_alloc ?_ _)); refine blk_far ?_ NB269_314.out _; (with_reducible repeat (first | refine blk_drewN ?_ _ | refine blk_drew ?_ | refine blk_alloc ?_ _)); refine blk_far ?_ NB269_314.out _; (with_reducible repeat (first | refine blk_drewN ?_ _ | refine blk_drew ?_ | refine blk_alloc ?_ _)); refine blk_far ?_ NB269_314.out _; (with_reducible repeat (first | refine blk_drewN ?_ _ | refine blk_drew ?_ | refine blk_alloc ?_ _)); refine blk_far ?_ NB269_314.out _; (with_reducible repeat (first | refine blk_drewN ?_ _ | refine blk_drew ?_ | refine blk_alloc ?_ _)); refine blk_far ?_ NB269_314.out _; (with_reducible repeat (first | refine blk_drewN ?_ _ | refine blk_drew ?_ | refine blk_alloc ?_ _)); refine blk_far ?_ NB269_314.out _; (with_reducible repeat (first | refine blk_drewN ?_ _ | refine blk_drew ?_ | refine blk_alloc ?_ _)); refine blk_far ?_ NB269_314.out _; (with_reducible repeat (first | refine blk_drewN ?_ _ | refine blk_drew ?_ | refine blk_alloc ?_ _)); refine blk_far ?_ NB269_314.out _; (with_reducible repeat (first | refine blk_drewN ?_ _ | refine blk_drew ?_ | refine blk_alloc ?_ _)); exact BK269.out) hb); have n12_ := AZ (blk_below (g := gb270) (o := .cells #[.int .i64 a2_0, .slice A2_1 l2_1.length c2_1] 29 (0, 0)) (by (with_reducible repeat (first | refine blk_drewN ?_ _ | refine blk_drew ?_ | refine blk_alloc ?_ _)); refine blk_far ?_ NB270_314.out _; (with_reducible repeat (first | refine blk_drewN ?_ _ | refine blk_drew ?_ | refine blk_alloc ?_ _)); refine blk_far ?_ NB270_314.out _; (with_reducible repeat (first | refine blk_drewN ?_ _ | refine blk_drew ?_ | refine blk_alloc ?_ _)); refine blk_far ?_ NB270_314.out _; (with_reducible repeat (first | refine blk_drewN ?_ _ | refine blk_drew ?_ | refine blk_alloc ?_ _)); refine blk_far ?_ NB270_314.out _; (with_reducible repeat (first | refine blk_drewN ?_ _ | refine blk_drew ?_ | refine blk_alloc ?_ _)); refine blk_far ?_ NB270_314.out _; (with_reducible repeat (first | refine blk_drewN ?_ _ | refine blk_drew ?_ | refine blk_alloc ?_ _)); refine blk_far ?_ NB270_314.out _; (with_reducible repeat (first | refine blk_drewN ?_ _ | refine blk_drew ?_ | refine blk_alloc ?_ _)); refine blk_far ?_ NB270_314.out _; (with_reducible repeat (first | refine blk_drewN ?_ _ | refine blk_drew ?_ | refine blk_alloc ?_ _)); refine blk_far ?_ NB270_314.out _; (with_reducible repeat (first | refine blk_drewN ?_ _ | refine blk_drew ?_ | refine blk_alloc ?_ _)); exact BK270.out) hb); have n13_ := AZ (blk_below (g := gb314) (o := .cells #[.slice Ao73 t300.length co73, .slice Ao78 t303.length co78, .slice Ao79 t306.length co79, .int .i64 t309, .int .i64 t310, .int .i64 t311, .int .i64 t312, .int .i64 t313] 36 (0, 0)) (by (with_reducible repeat (first | refine blk_drewN ?_ _ | refine blk_drew ?_ | refine blk_alloc ?_ _)); refine blk_put (cs := #[.slice Ao73 t300.length co73, .slice Ao78 t303.length co78, .slice Ao79 t306.length co79, .int .i64 t309, .int .i64 t310, .int .i64 t311, .int .i64 t312, .int .i64 0]) ?_ 7 _ rfl; (with_reducible repeat (first | refine blk_drewN ?_ _ | refine blk_drew ?_ | refine blk_alloc ?_ _)); refine blk_put (cs := #[.slice Ao73 t300.length co73, .slice Ao78 t303.length co78, .slice Ao79 t306.length co79, .int .i64 t309, .int .i64 t310, .int .i64 t311, .int .i64 0, .int .i64 0]) ?_ 6 _ rfl; (with_reducible repeat (first | refine blk_drewN ?_ _ | refine blk_drew ?_ | refine blk_alloc ?_ _)); refine blk_put (cs := #[.slice Ao73 t300.length co73, .slice Ao78 t303.length co78, .slice Ao79 t306.length co79, .int .i64 t309, .int .i64 t310, .int .i64 0, .int .i64 0, .int .i64 0]) ?_ 5 _ rfl; (with_reducible repeat (first | refine blk_drewN ?_ _ | refine blk_drew ?_ | refine blk_alloc ?_ _)); refine blk_put (cs := #[.slice Ao73 t300.length co73, .slice Ao78 t303.length co78, .slice Ao79 t306.length co79, .int .i64 t309, .int .i64 0, .int .i64 0, .int .i64 0, .int .i64 0]) ?_ 4 _ rfl; (with_reducible repeat (first | refine blk_drewN ?_ _ | refine blk_drew ?_ | refine blk_alloc ?_ _)); refine blk_put (cs := #[.slice Ao73 t300.length co73, .slice Ao78 t303.length co78, .slice Ao79 t306.length co79, .int .i64 0, .int .i64 0, .int .i64 0, .int .i64 0, .int .i64 0]) ?_ 3 _ rfl; (with_reducible repeat (first | refine blk_drewN ?_ _ | refine blk_drew ?_ | refine blk_alloc ?_ _)); refine blk_put (cs := #[.slice Ao73 t300.length co73, .slice Ao78 t303.length co78, .slice none 0 0, .int .i64 0, .int .i64 0, .int .i64 0, .int .i64 0, .int .i64 0]) ?_ 2 _ rfl; (with_reducible repeat (first | refine blk_drewN ?_ _ | refine blk_drew ?_ | refine blk_alloc ?_ _)); refine blk_put (cs := #[.slice Ao73 t300.length co73, .slice none 0 0, .slice none 0 0, .int .i64 0, .int .i64 0, .int .i64 0, .int .i64 0, .int .i64 0]) ?_ 1 _ rfl; (with_reducible repeat (first | refine blk_drewN ?_ _ | refine blk_drew ?_ | refine blk_alloc ?_ _)); refine blk_put (cs := #[.slice none 0 0, .slice none 0 0, .slice none 0 0, .int .i64 0, .int .i64 0, .int .i64 0, .int .i64 0, .int .i64 0]) ?_ 0 _ rfl; (with_reducible repeat (first | refine blk_drewN ?_ _ | refine blk_drew ?_ | refine blk_alloc ?_ _)); exact BK314.out) hb); have n14_ := AZ (below_step (bS HB.out) hb); clear HO276; clear HO279; clear HO282; clear HO291; clear HO295; clear HO298; clear HO302; clear HO305; clear HO308; clear BK268; clear BK269; clear BK270; clear BK314; clear HB; have HO276 := n0_; have HO279 := n1_; have HO282 := n2_; have HO291 := n3_; have HO295 := n4_; have HO298 := n5_; have HO302 := n6_; have HO305 := n7_; have HO308 := n8_; have HO318 := n9_; have BK268 := n10_; have BK269 := n11_; have BK270 := n12_; have BK314 := n13_; have HB := n14_; clear n0_ n1_ n2_ n3_ n4_ n5_ n6_ n7_ n8_ n9_ n10_ n11_ n12_ n13_ n14_; (try clear hb ho0)) | ((with_reducible refine gate_dst (N := 11) rfl ?_); refine box_event ?hg (N := 11) ?hd (cs := #[.int .i64 0, .slice none 0 0]) (t := 38) ?hr ?_; (case hd => rfl); (case hg => rfl); (case hr => first | (go_simp; done) | (go_simp; rfl)); intro gb319 hg w82 hbox hb; have n0_ := AZ (Kd.S_below (sS HO276.out) hb); have n1_ := AZ (Kd.R_below (rS HO279.out) hb); have n2_ := AZ (Kd.R_below (rS HO282.out) hb); have n3_ := AZ (Kd.R_below (rS HO291.out) hb); have n4_ := AZ (Kd.R_below (rS HO295.out) hb); have n5_ := AZ (Kd.R_below (rS HO298.out) hb); have n6_ := AZ (Kd.S_below (sS HO302.out) hb); have n7_ := AZ (Kd.R_below (rS HO305.out) hb); have n8_ := AZ (Kd.R_below (rS HO308.out) hb); have n9_ := AZ (Kd.R_below (rS HO318.out) hb); have n10_ := blkA BK268 hb; have n11_ := blkA BK269 hb; have n12_ := blkA BK270 hb; have n13_ := blkA BK314 hb; have n14_ := AZ (below_step (bS HB.out) hb); have n15_ := AZ (hbox); have n16_ := AZ (geS hg HB.out); have n17_ := AZ (geS hg HB.out); have n18_ := AZ ((by rw [hg]; exact Nat.ne_of_lt (blkL BK268.out) : gb268 ≠ gb319)); have n19_ := AZ ((by rw [hg]; exact Nat.ne_of_gt (blkL BK268.out) : gb319 ≠ gb268)); have n20_ := AZ ((by rw [hg]; exact Nat.ne_of_lt (blkL BK269.out) : gb269 ≠ gb319)); have n21_ := AZ ((by rw [hg]; exact Nat.ne_of_gt (blkL BK269.out) : gb319 ≠ gb269)); have n22_ := AZ ((by rw [hg]; exact Nat.ne_of_lt (blkL BK270.out) : gb270 ≠ gb319)); have n23_ := AZ ((by rw [hg]; exact Nat.ne_of_gt (blkL BK270.out) : gb319 ≠ gb270)); have n24_ := AZ ((by rw [hg]; exact Nat.ne_of_lt (blkL BK314.out) : gb314 ≠ gb319)); have n25_ := AZ ((by rw [hg]; exact Nat.ne_of_gt (blkL BK314.out) : gb319 ≠ gb314)); clear HO276; clear HO279; clear HO282; clear HO291; clear HO295; clear HO298; clear HO302; clear HO305; clear HO308; clear HO318; clear BK268; clear BK269; clear BK270; clear BK314; clear HB; have HO276 := n0_; have HO279 := n1_; have HO282 := n2_; have HO291 := n3_; have HO295 := n4_; have HO298 := n5_; have HO302 := n6_; have HO305 := n7_; have HO308 := n8_; have HO318 := n9_; have BK268 := n10_; have BK269 := n11_; have BK270 := n12_; have BK314 := n13_; have HB := n14_; have BK319 := n15_; have GW319 := n16_; have GE319 := n17_; have NB268_319 := n18_; have NB319_268 := n19_; have NB269_319 := n20_; have NB319_269 := n21_; have NB270_319 := n22_; have NB319_270 := n23_; have NB314_319 := n24_; have NB319_314 := n25_; clear n0_ n1_ n2_ n3_ n4_ n5_ n6_ n7_ n8_ n9_ n10_ n11_ n12_ n13_ n14_ n15_ n16_ n17_ n18_ n19_ n20_ n21_ n22_ n23_ n24_ n25_; clear hb hbox hg; have hnb83 := NB319_268.out; have hnc83 := NB268_319.out; have hnb84 := NB319_269.out; have hnc84 := NB269_319.out; have hnb85 := NB319_270.out; have hnc85 := NB270_319.out; have hnb86 := NB319_314.out; have hnc86 := NB314_319.out; have hcz87_0 : w82.cell? ⟨gb319, 0, none⟩ = some (.int .i64 0) := (blk_cell BK319.out 0).trans rfl; have hcz87_1 : w82.cell? ⟨gb319, 1, none⟩ = some (.slice none 0 0) := (blk_cell BK319.out 1).trans rfl; have hfz87_0 := blk_frozen BK319.out 0; have hfz87_1 := blk_frozen BK319.out 1; obtain ⟨Ao88, co88, eo88⟩ := Kd.R_slice HO318.out; subst eo88; have hcz89_0 : w82.cell? ⟨gb270, 0, none⟩ = some (.int .i64 a2_0) := (blk_cell BK270.out 0).trans rfl; have hcz89_1 : w82.cell? ⟨gb270, 1, none⟩ = some (.slice A2_1 l2_1.length c2_1) := (blk_cell BK270.out 1).trans rfl; have hfz89_0 := blk_frozen BK270.out 0; have hfz89_1 := blk_frozen BK270.out 1) | ((with_reducible refine gate_callee (f := 18) rfl ?_); refine gL (some 50) Try.func18 #[.agg #[.int .i64 a2_0, .slice A2_1 l2_1.length c2_1]] ?_; (with_reducible refine (laws_toPlan.calls k a2_0 _ _ l2_1 t320 t321 _ ?side1 ?side2 A45.out).mono ?_); (case side1 => exact Kd.C_below HR2_1.out (bS HB.out)); (case side2 => exact HC2_1.out); rintro e w90 ⟨v322, rfl, ho0, hb⟩; refine ⟨_, rfl, ?_⟩; have n0_ := AZ (Kd.S_elder' (by (with_reducible repeat (first | apply Kd.S_alloc | apply Kd.S_drewN | apply Kd.S_drew)); exact (Kd.S_mono (Kd.S_far (Kd.S_far (Kd.S_types HO276.out BK319.out (by decide)) (fun _ hk => hk.2) _) (fun _ hk => hk.2) _) (fun _ h_ => h_.1))) (Kd.R_base ho0) hb); have n1_ := AZ (Kd.R_elder' (by (with_reducible repeat (first | apply Kd.R_alloc | apply Kd.R_drewN | apply Kd.R_drew)); exact (Kd.R_mono (Kd.R_far (Kd.R_far (Kd.R_types HO279.out BK319.out (by decide)) (fun _ hk => hk.2) _) (fun _ hk => hk.2) _) (fun _ h_ => h_.1))) (Kd.R_base ho0) hb); have n2_ := AZ (Kd.R_elder' (by (with_reducible repeat (first | apply Kd.R_alloc | apply Kd.R_drewN | apply Kd.R_drew)); exact (Kd.R_mono (Kd.R_far (Kd.R_far (Kd.R_types HO282.out BK319.out (by decide)) (fun _ hk => hk.2) _) (fun _ hk => hk.2) _) (fun _ h_ => h_.1))) (Kd.R_base ho0) hb); have n3_ := AZ (Kd.R_elder' (by (with_reducible repeat (first | apply Kd.R_alloc | apply Kd.R_drewN | apply Kd.R_drew)); exact (Kd.R_mono (Kd.R_far (Kd.R_far (Kd.R_types HO291.out BK319.out (by decide)) (fun _ hk => hk.2) _) (fun _ hk => hk.2) _) (fun _ h_ => h_.1))) (Kd.R_base ho0) hb); have n4_ := AZ (Kd.R_elder' (by (with_reducible repeat (first | apply Kd.R_alloc | apply Kd.R_drewN | apply Kd.R_drew)); exact (Kd.R_mono (Kd.R_far (Kd.R_far (Kd.R_types HO295.out BK319.out (by decide)) (fun _ hk => hk.2) _) (fun _ hk => hk.2) _) (fun _ h_ => h_.1))) (Kd.R_base ho0) hb); have n5_ := AZ (Kd.R_elder' (by (with_reducible repeat (first | apply Kd.R_alloc | apply Kd.R_drewN | apply Kd.R_drew)); exact (Kd.R_mono (Kd.R_far (Kd.R_far (Kd.R_types HO298.out BK319.out (by decide)) (fun _ hk => hk.2) _) (fun _ hk => hk.2) _) (fun _ h_ => h_.1))) (Kd.R_base ho0) hb); have n6_ := AZ (Kd.S_elder' (by (with_reducible repeat (first | apply Kd.S_alloc | apply Kd.S_drewN | apply Kd.S_drew)); exact (Kd.S_mono (Kd.S_far (Kd.S_far (Kd.S_types HO302.out BK319.out (by decide)) (fun _ hk => hk.2) _) (fun _ hk => hk.2) _) (fun _ h_ => h_.1))) (Kd.R_base ho0) hb); have n7_ := AZ (Kd.R_elder' (by (with_reducible repeat (first | apply Kd.R_alloc | apply Kd.R_drewN | apply Kd.R_drew)); exact (Kd.R_mono (Kd.R_far (Kd.R_far (Kd.R_types HO305.out BK319.out (by decide)) (fun _ hk => hk.2) _) (fun _ hk => hk.2) _) (fun _ h_ => h_.1))) (Kd.R_base ho0) hb); have n8_ := AZ (Kd.R_elder' (by (with_reducible repeat (first | apply Kd.R_alloc | apply Kd.R_drewN | apply Kd.R_drew)); exact (Kd.R_mono (Kd.R_far (Kd.R_far (Kd.R_types HO308.out BK319.out (by decide)) (fun _ hk => hk.2) _) (fun _ hk => hk.2) _) (fun _ h_ => h_.1))) (Kd.R_base ho0) hb); have n9_ := AZ (Kd.R_elder' (by (with_reducible repeat (first | apply Kd.R_alloc | apply Kd.R_drewN | apply Kd.R_drew)); exact (Kd.R_mono (Kd.R_far (Kd.R_far (Kd.R_types HO318.out BK319.out (by decide)) (fun _ hk => hk.2) _) (fun _ hk => hk.2) _) (fun _ h_ => h_.1))) (Kd.R_base ho0) hb); have n10_ := AZ (Kd.R_lower (Kd.R_new' (Kd.R_new' (Kd.R_new' (Kd.R_new' (Kd.R_new' (Kd.R_new' (Kd.R_new' (Kd.R_new' ho0 (Kd.R_lt (by (with_reducible repeat (first | apply Kd.R_alloc | apply Kd.R_drewN | apply Kd.R_drew)); exact (Kd.R_mono (Kd.R_far (Kd.R_far (Kd.R_types HO279.out BK319.out (by decide)) (fun _ hk => hk.2) _) (fun _ hk => hk.2) _) (fun _ h_ => h_.1))))) (Kd.R_lt (by (with_reducible repeat (first | apply Kd.R_alloc | apply Kd.R_drewN | apply Kd.R_drew)); exact (Kd.R_mono (Kd.R_far (Kd.R_far (Kd.R_types HO282.out BK319.out (by decide)) (fun _ hk => hk.2) _) (fun _ hk => hk.2) _) (fun _ h_ => h_.1))))) (Kd.R_lt (by (with_reducible repeat (first | apply Kd.R_alloc | apply Kd.R_drewN | apply Kd.R_drew)); exact (Kd.R_mono (Kd.R_far (Kd.R_far (Kd.R_types HO291.out BK319.out (by decide)) (fun _ hk => hk.2) _) (fun _ hk => hk.2) _) (fun _ h_ => h_.1))))) (Kd.R_lt (by (with_reducible repeat (first | apply Kd.R_alloc | apply Kd.R_drewN | apply Kd.R_drew)); exact (Kd.R_mono (Kd.R_far (Kd.R_far (Kd.R_types HO295.out BK319.out (by decide)) (fun _ hk => hk.2) _) (fun _ hk => hk.2) _) (fun _ h_ => h_.1))))) (Kd.R_lt (by (with_reducible repeat (first | apply Kd.R_alloc | apply Kd.R_drewN | apply Kd.R_drew)); exact (Kd.R_mono (Kd.R_far (Kd.R_far (Kd.R_types HO298.out BK319.out (by decide)) (fun _ hk => hk.2) _) (fun _ hk => hk.2) _) (fun _ h_ => h_.1))))) (Kd.R_lt (by (with_reducible repeat (first | apply Kd.R_alloc | apply Kd.R_drewN | apply Kd.R_drew)); exact (Kd.R_mono (Kd.R_far (Kd.R_far (Kd.R_types HO305.out BK319.out (by decide)) (fun _ hk => hk.2) _) (fun _ hk => hk.2) _) (fun _ h_ => h_.1))))) (Kd.R_lt (by (with_reducible repeat (first | apply Kd.R_alloc | apply Kd.R_drewN | apply Kd.R_drew)); exact (Kd.R_mono (Kd.R_far (Kd.R_far (Kd.R_types HO308.out BK319.out (by decide)) (fun _ hk => hk.2) _) (fun _ hk => hk.2) _) (fun _ h_ => h_.1))))) (Kd.R_lt (by (with_reducible repeat (first | apply Kd.R_alloc | apply Kd.R_drewN | apply Kd.R_drew)); exact (Kd.R_mono (Kd.R_far (Kd.R_far (Kd.R_types HO318.out BK319.out (by decide)) (fun _ hk => hk.2) _) (fun _ hk => hk.2) _) (fun _ h_ => h_.1))))) (below_size (bS HB.out))); have n11_ := AZ (blk_below (g := gb268) (o := .cells #[.slice A0_0 l0_0.length c0_0, .slice A0_1 l0_1.length c0_1, .slice A0_2 l0_2.length c0_2, .int .i64 a0_3, .int .i64 a0_4, .int .i64 a0_5, .int .i64 a0_6, .int .i64 a0_7] 27 (0, 0)) (by (with_reducible repeat (first | refine blk_drewN ?_ _ | refine blk_drew ?_ | refine blk_alloc ?_ _)); refine blk_far ?_ NB268_319.out _; (with_reducible repeat (first | refine blk_drewN ?_ _ | refine blk_drew ?_ | refine blk_alloc ?_ _)); refine blk_far ?_ NB268_319.out _; (with_reducible repeat (first | refine blk_drewN ?_ _ | refine blk_drew ?_ | refine blk_alloc ?_ _)); exact BK268.out) hb); have n12_ := AZ (blk_below (g := gb269) (o := .cells #[.int .i64 a1_0, .slice A1_1 l1_1.length c1_1] 29 (0, 0)) (by (with_reducible repeat (first | refine blk_drewN ?_ _ | refine blk_drew ?_ | refine blk_alloc ?_ _)); refine blk_far ?_ NB269_319.out _; (with_reducible repeat (first | refine blk_drewN ?_ _ | refine blk_drew ?_ | refine blk_alloc ?_ _)); refine blk_far ?_ NB269_319.out _; (with_reducible repeat (first | refine blk_drewN ?_ _ | refine blk_drew ?_ | refine blk_alloc ?_ _)); exact BK269.out) hb); have n13_ := AZ (blk_below (g := gb270) (o := .cells #[.int .i64 a2_0, .slice A2_1 l2_1.length c2_1] 29 (0, 0)) (by (with_reducible repeat (first | refine blk_drewN ?_ _ | refine blk_drew ?_ | refine blk_alloc ?_ _)); refine blk_far ?_ NB270_319.out _; (with_reducible repeat (first | refine blk_drewN ?_ _ | refine blk_drew ?_ | refine blk_alloc ?_ _)); refine blk_far ?_ NB270_319.out _; (with_reducible repeat (first | refine blk_drewN ?_ _ | refine blk_drew ?_ | refine blk_alloc ?_ _)); exact BK270.out) hb); have n14_ := AZ (blk_below (g := gb314) (o := .cells #[.slice Ao73 t300.length co73, .slice Ao78 t303.length co78, .slice Ao79 t306.length co79, .int .i64 t309, .int .i64 t310, .int .i64 t311, .int .i64 t312, .int .i64 t313] 36 (0, 0)) (by (with_reducible repeat (first | refine blk_drewN ?_ _ | refine blk_drew ?_ | refine blk_alloc ?_ _)); refine blk_far ?_ NB314_319.out _; (with_reducible repeat (first | refine blk_drewN ?_ _ | refine blk_drew ?_ | refine blk_alloc ?_ _)); refine blk_far ?_ NB314_319.out _; (with_reducible repeat (first | refine blk_drewN ?_ _ | refine blk_drew ?_ | refine blk_alloc ?_ _)); exact BK314.out) hb); have n15_ := AZ (blk_below (g := gb319) (o := .cells #[.int .i64 t315, .slice Ao88 t316.length co88] 38 (0, 0)) (by (with_reducible repeat (first | refine blk_drewN ?_ _ | refine blk_drew ?_ | refine blk_alloc ?_ _)); refine blk_put (cs := #[.int .i64 t315, .slice none 0 0]) ?_ 1 _ rfl; (with_reducible repeat (first | refine blk_drewN ?_ _ | refine blk_drew ?_ | refine blk_alloc ?_ _)); refine blk_put (cs := #[.int .i64 0, .slice none 0 0]) ?_ 0 _ rfl; (with_reducible repeat (first | refine blk_drewN ?_ _ | refine blk_drew ?_ | refine blk_alloc ?_ _)); exact BK319.out) hb); have n16_ := AZ (below_step (bS HB.out) hb); clear HO276; clear HO279; clear HO282; clear HO291; clear HO295; clear HO298; clear HO302; clear HO305; clear HO308; clear HO318; clear BK268; clear BK269; clear BK270; clear BK314; clear BK319; clear HB; have HO276 := n0_; have HO279 := n1_; have HO282 := n2_; have HO291 := n3_; have HO295 := n4_; have HO298 := n5_; have HO302 := n6_; have HO305 := n7_; have HO308 := n8_; have HO318 := n9_; have HO323 := n10_; have BK268 := n11_; have BK269 := n12_; have BK270 := n13_; have BK314 := n14_; have BK319 := n15_; have HB := n16_; clear n0_ n1_ n2_ n3_ n4_ n5_ n6_ n7_ n8_ n9_ n10_ n11_ n12_ n13_ n14_ n15_ n16_; (try clear hb ho0)) | ((with_reducible refine gate_dst (N := 12) rfl ?_); refine box_event ?hg (N := 12) ?hd (cs := #[.int .i64 0, .slice none 0 0]) (t := 38) ?hr ?_; (case hd => rfl); (case hg => rfl); (case hr => first | (go_simp; done) | (go_simp; rfl)); intro gb324 hg w91 hbox hb; have n0_ := AZ (Kd.S_below (sS HO276.out) hb); have n1_ := AZ (Kd.R_below (rS HO279.out) hb); have n2_ := AZ (Kd.R_below (rS HO282.out) hb); have n3_ := AZ (Kd.R_below (rS HO291.out) hb); have n4_ := AZ (Kd.R_below (rS HO295.out) hb); have n5_ := AZ (Kd.R_below (rS HO298.out) hb); have n6_ := AZ (Kd.S_below (sS HO302.out) hb); have n7_ := AZ (Kd.R_below (rS HO305.out) hb); have n8_ := AZ (Kd.R_below (rS HO308.out) hb); have n9_ := AZ (Kd.R_below (rS HO318.out) hb); have n10_ := AZ (Kd.R_below (rS HO323.out) hb); have n11_ := blkA BK268 hb; have n12_ := blkA BK269 hb; have n13_ := blkA BK270 hb; have n14_ := blkA BK314 hb; have n15_ := blkA BK319 hb; have n16_ := AZ (below_step (bS HB.out) hb); have n17_ := AZ (hbox); have n18_ := AZ (geS hg HB.out); have n19_ := AZ (geS hg HB.out); have n20_ := AZ ((by rw [hg]; exact Nat.ne_of_lt (blkL BK268.out) : gb268 ≠ gb324)); have n21_ := AZ ((by rw [hg]; exact Nat.ne_of_gt (blkL BK268.out) : gb324 ≠ gb268)); have n22_ := AZ ((by rw [hg]; exact Nat.ne_of_lt (blkL BK269.out) : gb269 ≠ gb324)); have n23_ := AZ ((by rw [hg]; exact Nat.ne_of_gt (blkL BK269.out) : gb324 ≠ gb269)); have n24_ := AZ ((by rw [hg]; exact Nat.ne_of_lt (blkL BK270.out) : gb270 ≠ gb324)); have n25_ := AZ ((by rw [hg]; exact Nat.ne_of_gt (blkL BK270.out) : gb324 ≠ gb270)); have n26_ := AZ ((by rw [hg]; exact Nat.ne_of_lt (blkL BK314.out) : gb314 ≠ gb324)); have n27_ := AZ ((by rw [hg]; exact Nat.ne_of_gt (blkL BK314.out) : gb324 ≠ gb314)); have n28_ := AZ ((by rw [hg]; exact Nat.ne_of_lt (blkL BK319.out) : gb319 ≠ gb324)); have n29_ := AZ ((by rw [hg]; exact Nat.ne_of_gt (blkL BK319.out) : gb324 ≠ gb319)); clear HO276; clear HO279; clear HO282; clear HO291; clear HO295; clear HO298; clear HO302; clear HO305; clear HO308; clear HO318; clear HO323; clear BK268; clear BK269; clear BK270; clear BK314; clear BK319; clear HB; have HO276 := n0_; have HO279 := n1_; have HO282 := n2_; have HO291 := n3_; have HO295 := n4_; have HO298 := n5_; have HO302 := n6_; have HO305 := n7_; have HO308 := n8_; have HO318 := n9_; have HO323 := n10_; have BK268 := n11_; have BK269 := n12_; have BK270 := n13_; have BK314 := n14_; have BK319 := n15_; have HB := n16_; have BK324 := n17_; have GW324 := n18_; have GE324 := n19_; have NB268_324 := n20_; have NB324_268 := n21_; have NB269_324 := n22_; have NB324_269 := n23_; have NB270_324 := n24_; have NB324_270 := n25_; have NB314_324 := n26_; have NB324_314 := n27_; have NB319_324 := n28_; have NB324_319 := n29_; clear n0_ n1_ n2_ n3_ n4_ n5_ n6_ n7_ n8_ n9_ n10_ n11_ n12_ n13_ n14_ n15_ n16_ n17_ n18_ n19_ n20_ n21_ n22_ n23_ n24_ n25_ n26_ n27_ n28_ n29_; clear hb hbox hg; have hnb92 := NB324_268.out; have hnc92 := NB268_324.out; have hnb93 := NB324_269.out; have hnc93 := NB269_324.out; have hnb94 := NB324_270.out; have hnc94 := NB270_324.out; have hnb95 := NB324_314.out; have hnc95 := NB314_324.out; have hnb96 := NB324_319.out; have hnc96 := NB319_324.out; have hcz97_0 : w91.cell? ⟨gb324, 0, none⟩ = some (.int .i64 0) := (blk_cell BK324.out 0).trans rfl; have hcz97_1 : w91.cell? ⟨gb324, 1, none⟩ = some (.slice none 0 0) := (blk_cell BK324.out 1).trans rfl; have hfz97_0 := blk_frozen BK324.out 0; have hfz97_1 := blk_frozen BK324.out 1; obtain ⟨Ao98, co98, eo98⟩ := Kd.R_slice HO323.out; subst eo98; have hcz99_0 : w91.cell? ⟨gb314, 0, none⟩ = some (.slice Ao73 t300.length co73) := (blk_cell BK314.out 0).trans rfl; have hcz99_1 : w91.cell? ⟨gb314, 1, none⟩ = some (.slice Ao78 t303.length co78) := (blk_cell BK314.out 1).trans rfl; have hcz99_2 : w91.cell? ⟨gb314, 2, none⟩ = some (.slice Ao79 t306.length co79) := (blk_cell BK314.out 2).trans rfl; have hcz99_3 : w91.cell? ⟨gb314, 3, none⟩ = some (.int .i64 t309) := (blk_cell BK314.out 3).trans rfl; have hcz99_4 : w91.cell? ⟨gb314, 4, none⟩ = some (.int .i64 t310) := (blk_cell BK314.out 4).trans rfl; have hcz99_5 : w91.cell? ⟨gb314, 5, none⟩ = some (.int .i64 t311) := (blk_cell BK314.out 5).trans rfl; have hcz99_6 : w91.cell? ⟨gb314, 6, none⟩ = some (.int .i64 t312) := (blk_cell BK314.out 6).trans rfl; have hcz99_7 : w91.cell? ⟨gb314, 7, none⟩ = some (.int .i64 t313) := (blk_cell BK314.out 7).trans rfl; have hfz99_0 := blk_frozen BK314.out 0; have hfz99_1 := blk_frozen BK314.out 1; have hfz99_2 := blk_frozen BK314.out 2; have hfz99_3 := blk_frozen BK314.out 3; have hfz99_4 := blk_frozen BK314.out 4; have hfz99_5 := blk_frozen BK314.out 5; have hfz99_6 := blk_frozen BK314.out 6; have hfz99_7 := blk_frozen BK314.out 7; have hcz100_0 : w91.cell? ⟨gb319, 0, none⟩ = some (.int .i64 t315) := (blk_cell BK319.out 0).trans rfl; have hcz100_1 : w91.cell? ⟨gb319, 1, none⟩ = some (.slice Ao88 t316.length co88) := (blk_cell BK319.out 1).trans rfl; have hfz100_0 := blk_frozen BK319.out 0; have hfz100_1 := blk_frozen BK319.out 1) | ((with_reducible refine gate_callee (f := 49) rfl ?_); refine gL (some 55) Try.func49 #[.agg #[.slice Ao73 t300.length co73, .slice Ao78 t303.length co78, .slice Ao79 t306.length co79, .int .i64 t309, .int .i64 t310, .int .i64 t311, .int .i64 t312, .int .i64 t313], .agg #[.int .i64 t315, .slice Ao88 t316.length co88], .agg #[.int .i64 t320, .slice Ao98 t321.length co98]] ?_; (with_reducible refine (impl_WorthBetween.calls k _ _ t300 _ _ t303 _ _ t306 t309 t310 t311 t312 t313 t315 _ _ t316 t320 _ _ t321 t325 t328 _ ?side1 ?side2 ?side3 ?side4 ?side5 ?side6 ?side7 ?side8 ?side9 ?side10 A46.out).mono ?_); (case side1 => refine (Kd.S_reads' (e := 23) (base := w.heap.size) (ok := fun k_ => (((((((((some k_ ≠ (.slice Ao78 t303.length co78 : Value).ownBlock ∧ some k_ ≠ (.slice Ao79 t306.length co79 : Value).ownBlock) ∧ some k_ ≠ (.slice Ao64 t274.length co64 : Value).ownBlock) ∧ some k_ ≠ (.slice Ao65 t277.length co65 : Value).ownBlock) ∧ some k_ ≠ (.slice Ao66 t280.length co66 : Value).ownBlock) ∧ some k_ ≠ (.slice Ao67 t289.length co67 : Value).ownBlock) ∧ some k_ ≠ (.slice Ao68 t293.length co68 : Value).ownBlock) ∧ some k_ ≠ (v297 : Value).ownBlock) ∧ some k_ ≠ (.slice Ao88 t316.length co88 : Value).ownBlock) ∧ some k_ ≠ (.slice Ao98 t321.length co98 : Value).ownBlock)) (n := t300.length) (c := co73) ?_).2.2; exact (by (with_reducible repeat (first | apply Kd.S_alloc | apply Kd.S_drewN | apply Kd.S_drew)); exact (Kd.S_mono (Kd.S_far (Kd.S_far (Kd.S_types HO302.out BK324.out (by decide)) (fun _ hk => hk.2) _) (fun _ hk => hk.2) _) (fun _ h_ => h_.1)))); (case side2 => exact (Kd.S_reads' HO302.out).2.1); (case side3 => refine (Kd.R_reads' (e := 3) (base := w.heap.size) (ok := fun k_ => (((((((some k_ ≠ (.slice Ao79 t306.length co79 : Value).ownBlock ∧ some k_ ≠ (.slice Ao65 t277.length co65 : Value).ownBlock) ∧ some k_ ≠ (.slice Ao66 t280.length co66 : Value).ownBlock) ∧ some k_ ≠ (.slice Ao67 t289.length co67 : Value).ownBlock) ∧ some k_ ≠ (.slice Ao68 t293.length co68 : Value).ownBlock) ∧ some k_ ≠ (v297 : Value).ownBlock) ∧ some k_ ≠ (.slice Ao88 t316.length co88 : Value).ownBlock) ∧ some k_ ≠ (.slice Ao98 t321.length co98 : Value).ownBlock)) (n := t303.length) (c := co78) ?_).2.2; exact (by (with_reducible repeat (first | apply Kd.R_alloc | apply Kd.R_drewN | apply Kd.R_drew)); exact (Kd.R_mono (Kd.R_far (Kd.R_far (Kd.R_types HO305.out BK324.out (by decide)) (fun _ hk => hk.2) _) (fun _ hk => hk.2) _) (fun _ h_ => h_.1)))); (case side4 => exact (Kd.R_reads' HO305.out).2.1); (case side5 => refine (Kd.R_reads' (e := 3) (base := w.heap.size) (ok := fun k_ => (((((((some k_ ≠ (.slice Ao78 t303.length co78 : Value).ownBlock ∧ some k_ ≠ (.slice Ao65 t277.length co65 : Value).ownBlock) ∧ some k_ ≠ (.slice Ao66 t280.length co66 : Value).ownBlock) ∧ some k_ ≠ (.slice Ao67 t289.length co67 : Value).ownBlock) ∧ some k_ ≠ (.slice Ao68 t293.length co68 : Value).ownBlock) ∧ some k_ ≠ (v297 : Value).ownBlock) ∧ some k_ ≠ (.slice Ao88 t316.length co88 : Value).ownBlock) ∧ some k_ ≠ (.slice Ao98 t321.length co98 : Value).ownBlock)) (n := t306.length) (c := co79) ?_).2.2; exact (by (with_reducible repeat (first | apply Kd.R_alloc | apply Kd.R_drewN | apply Kd.R_drew)); exact (Kd.R_mono (Kd.R_far (Kd.R_far (Kd.R_types HO308.out BK324.out (by decide)) (fun _ hk => hk.2) _) (fun _ hk => hk.2) _) (fun _ h_ => h_.1)))); (case side6 => exact (Kd.R_reads' HO308.out).2.1); (case side7 => refine (Kd.R_reads' (e := 3) (base := w.heap.size) (ok := fun k_ => ((((((((True ∧ some k_ ≠ (.slice Ao65 t277.length co65 : Value).ownBlock) ∧ some k_ ≠ (.slice Ao66 t280.length co66 : Value).ownBlock) ∧ some k_ ≠ (.slice Ao67 t289.length co67 : Value).ownBlock) ∧ some k_ ≠ (.slice Ao68 t293.length co68 : Value).ownBlock) ∧ some k_ ≠ (v297 : Value).ownBlock) ∧ some k_ ≠ (.slice Ao78 t303.length co78 : Value).ownBlock) ∧ some k_ ≠ (.slice Ao79 t306.length co79 : Value).ownBlock) ∧ some k_ ≠ (.slice Ao98 t321.length co98 : Value).ownBlock)) (n := t316.length) (c := co88) ?_).2.2; exact (by (with_reducible repeat (first | apply Kd.R_alloc | apply Kd.R_drewN | apply Kd.R_drew)); exact (Kd.R_mono (Kd.R_far (Kd.R_far (Kd.R_types HO318.out BK324.out (by decide)) (fun _ hk => hk.2) _) (fun _ hk => hk.2) _) (fun _ h_ => h_.1)))); (case side8 => exact (Kd.R_reads' HO318.out).2.1); (case side9 => refine (Kd.R_reads' (e := 3) (base := w.heap.size) (ok := fun k_ => ((((((((True ∧ some k_ ≠ (.slice Ao65 t277.length co65 : Value).ownBlock) ∧ some k_ ≠ (.slice Ao66 t280.length co66 : Value).ownBlock) ∧ some k_ ≠ (.slice Ao67 t289.length co67 : Value).ownBlock) ∧ some k_ ≠ (.slice Ao68 t293.length co68 : Value).ownBlock) ∧ some k_ ≠ (v297 : Value).ownBlock) ∧ some k_ ≠ (.slice Ao78 t303.length co78 : Value).ownBlock) ∧ some k_ ≠ (.slice Ao79 t306.length co79 : Value).ownBlock) ∧ some k_ ≠ (.slice Ao88 t316.length co88 : Value).ownBlock)) (n := t321.length) (c := co98) ?_).2.2; exact (by (with_reducible repeat (first | apply Kd.R_alloc | apply Kd.R_drewN | apply Kd.R_drew)); exact (Kd.R_mono (Kd.R_far (Kd.R_far (Kd.R_types HO323.out BK324.out (by decide)) (fun _ hk => hk.2) _) (fun _ hk => hk.2) _) (fun _ h_ => h_.1)))); (case side10 => exact (Kd.R_reads' HO323.out).2.1); rintro e w101 ⟨v326, rfl, ho0, hb⟩; refine ⟨_, rfl, ?_⟩; have n0_ := AZ (Kd.S_elder' (by (with_reducible repeat (first | apply Kd.S_alloc | apply Kd.S_drewN | apply Kd.S_drew)); exact (Kd.S_mono (Kd.S_far (Kd.S_far (Kd.S_types HO276.out BK324.out (by decide)) (fun _ hk => hk.2) _) (fun _ hk => hk.2) _) (fun _ h_ => h_.1))) (Kd.R_base ho0) hb); have n1_ := AZ (Kd.R_elder' (by (with_reducible repeat (first | apply Kd.R_alloc | apply Kd.R_drewN | apply Kd.R_drew)); exact (Kd.R_mono (Kd.R_far (Kd.R_far (Kd.R_types HO279.out BK324.out (by decide)) (fun _ hk => hk.2) _) (fun _ hk => hk.2) _) (fun _ h_ => h_.1))) (Kd.R_base ho0) hb); have n2_ := AZ (Kd.R_elder' (by (with_reducible repeat (first | apply Kd.R_alloc | apply Kd.R_drewN | apply Kd.R_drew)); exact (Kd.R_mono (Kd.R_far (Kd.R_far (Kd.R_types HO282.out BK324.out (by decide)) (fun _ hk => hk.2) _) (fun _ hk => hk.2) _) (fun _ h_ => h_.1))) (Kd.R_base ho0) hb); have n3_ := AZ (Kd.R_elder' (by (with_reducible repeat (first | apply Kd.R_alloc | apply Kd.R_drewN | apply Kd.R_drew)); exact (Kd.R_mono (Kd.R_far (Kd.R_far (Kd.R_types HO291.out BK324.out (by decide)) (fun _ hk => hk.2) _) (fun _ hk => hk.2) _) (fun _ h_ => h_.1))) (Kd.R_base ho0) hb); have n4_ := AZ (Kd.R_elder' (by (with_reducible repeat (first | apply Kd.R_alloc | apply Kd.R_drewN | apply Kd.R_drew)); exact (Kd.R_mono (Kd.R_far (Kd.R_far (Kd.R_types HO295.out BK324.out (by decide)) (fun _ hk => hk.2) _) (fun _ hk => hk.2) _) (fun _ h_ => h_.1))) (Kd.R_base ho0) hb); have n5_ := AZ (Kd.R_elder' (by (with_reducible repeat (first | apply Kd.R_alloc | apply Kd.R_drewN | apply Kd.R_drew)); exact (Kd.R_mono (Kd.R_far (Kd.R_far (Kd.R_types HO298.out BK324.out (by decide)) (fun _ hk => hk.2) _) (fun _ hk => hk.2) _) (fun _ h_ => h_.1))) (Kd.R_base ho0) hb); have n6_ := AZ (Kd.S_elder' (by (with_reducible repeat (first | apply Kd.S_alloc | apply Kd.S_drewN | apply Kd.S_drew)); exact (Kd.S_mono (Kd.S_far (Kd.S_far (Kd.S_types HO302.out BK324.out (by decide)) (fun _ hk => hk.2) _) (fun _ hk => hk.2) _) (fun _ h_ => h_.1))) (Kd.R_base ho0) hb); have n7_ := AZ (Kd.R_elder' (by (with_reducible repeat (first | apply Kd.R_alloc | apply Kd.R_drewN | apply Kd.R_drew)); exact (Kd.R_mono (Kd.R_far (Kd.R_far (Kd.R_types HO305.out BK324.out (by decide)) (fun _ hk => hk.2) _) (fun _ hk => hk.2) _) (fun _ h_ => h_.1))) (Kd.R_base ho0) hb); have n8_ := AZ (Kd.R_elder' (by (with_reducible repeat (first | apply Kd.R_alloc | apply Kd.R_drewN | apply Kd.R_drew)); exact (Kd.R_mono (Kd.R_far (Kd.R_far (Kd.R_types HO308.out BK324.out (by decide)) (fun _ hk => hk.2) _) (fun _ hk => hk.2) _) (fun _ h_ => h_.1))) (Kd.R_base ho0) hb); have n9_ := AZ (Kd.R_elder' (by (with_reducible repeat (first | apply Kd.R_alloc | apply Kd.R_drewN | apply Kd.R_drew)); exact (Kd.R_mono (Kd.R_far (Kd.R_far (Kd.R_types HO318.out BK324.out (by decide)) (fun _ hk => hk.2) _) (fun _ hk => hk.2) _) (fun _ h_ => h_.1))) (Kd.R_base ho0) hb); have n10_ := AZ (Kd.R_elder' (by (with_reducible repeat (first | apply Kd.R_alloc | apply Kd.R_drewN | apply Kd.R_drew)); exact (Kd.R_mono (Kd.R_far (Kd.R_far (Kd.R_types HO323.out BK324.out (by decide)) (fun _ hk => hk.2) _) (fun _ hk => hk.2) _) (fun _ h_ => h_.1))) (Kd.R_base ho0) hb); have n11_ := AZ (Kd.R_lower (Kd.R_new' (Kd.R_new' (Kd.R_new' (Kd.R_new' (Kd.R_new' (Kd.R_new' (Kd.R_new' (Kd.R_new' (Kd.R_new' ho0 (Kd.R_lt (by (with_reducible repeat (first | apply Kd.R_alloc | apply Kd.R_drewN | apply Kd.R_drew)); exact (Kd.R_mono (Kd.R_far (Kd.R_far (Kd.R_types HO279.out BK324.out (by decide)) (fun _ hk => hk.2) _) (fun _ hk => hk.2) _) (fun _ h_ => h_.1))))) (Kd.R_lt (by (with_reducible repeat (first | apply Kd.R_alloc | apply Kd.R_drewN | apply Kd.R_drew)); exact (Kd.R_mono (Kd.R_far (Kd.R_far (Kd.R_types HO282.out BK324.out (by decide)) (fun _ hk => hk.2) _) (fun _ hk => hk.2) _) (fun _ h_ => h_.1))))) (Kd.R_lt (by (with_reducible repeat (first | apply Kd.R_alloc | apply Kd.R_drewN | apply Kd.R_drew)); exact (Kd.R_mono (Kd.R_far (Kd.R_far (Kd.R_types HO291.out BK324.out (by decide)) (fun _ hk => hk.2) _) (fun _ hk => hk.2) _) (fun _ h_ => h_.1))))) (Kd.R_lt (by (with_reducible repeat (first | apply Kd.R_alloc | apply Kd.R_drewN | apply Kd.R_drew)); exact (Kd.R_mono (Kd.R_far (Kd.R_far (Kd.R_types HO295.out BK324.out (by decide)) (fun _ hk => hk.2) _) (fun _ hk => hk.2) _) (fun _ h_ => h_.1))))) (Kd.R_lt (by (with_reducible repeat (first | apply Kd.R_alloc | apply Kd.R_drewN | apply Kd.R_drew)); exact (Kd.R_mono (Kd.R_far (Kd.R_far (Kd.R_types HO298.out BK324.out (by decide)) (fun _ hk => hk.2) _) (fun _ hk => hk.2) _) (fun _ h_ => h_.1))))) (Kd.R_lt (by (with_reducible repeat (first | apply Kd.R_alloc | apply Kd.R_drewN | apply Kd.R_drew)); exact (Kd.R_mono (Kd.R_far (Kd.R_far (Kd.R_types HO305.out BK324.out (by decide)) (fun _ hk => hk.2) _) (fun _ hk => hk.2) _) (fun _ h_ => h_.1))))) (Kd.R_lt (by (with_reducible repeat (first | apply Kd.R_alloc | apply Kd.R_drewN | apply Kd.R_drew)); exact (Kd.R_mono (Kd.R_far (Kd.R_far (Kd.R_types HO308.out BK324.out (by decide)) (fun _ hk => hk.2) _) (fun _ hk => hk.2) _) (fun _ h_ => h_.1))))) (Kd.R_lt (by (with_reducible repeat (first | apply Kd.R_alloc | apply Kd.R_drewN | apply Kd.R_drew)); exact (Kd.R_mono (Kd.R_far (Kd.R_far (Kd.R_types HO318.out BK324.out (by decide)) (fun _ hk => hk.2) _) (fun _ hk => hk.2) _) (fun _ h_ => h_.1))))) (Kd.R_lt (by (with_reducible repeat (first | apply Kd.R_alloc | apply Kd.R_drewN | apply Kd.R_drew)); exact (Kd.R_mono (Kd.R_far (Kd.R_far (Kd.R_types HO323.out BK324.out (by decide)) (fun _ hk => hk.2) _) (fun _ hk => hk.2) _) (fun _ h_ => h_.1))))) (below_size (bS HB.out))); have n12_ := AZ (blk_below (g := gb268) (o := .cells #[.slice A0_0 l0_0.length c0_0, .slice A0_1 l0_1.length c0_1, .slice A0_2 l0_2.length c0_2, .int .i64 a0_3, .int .i64 a0_4, .int .i64 a0_5, .int .i64 a0_6, .int .i64 a0_7] 27 (0, 0)) (by (with_reducible repeat (first | refine blk_drewN ?_ _ | refine blk_drew ?_ | refine blk_alloc ?_ _)); refine blk_far ?_ NB268_324.out _; (with_reducible repeat (first | refine blk_drewN ?_ _ | refine blk_drew ?_ | refine blk_alloc ?_ _)); refine blk_far ?_ NB268_324.out _; (with_reducible repeat (first | refine blk_drewN ?_ _ | refine blk_drew ?_ | refine blk_alloc ?_ _)); exact BK268.out) hb); have n13_ := AZ (blk_below (g := gb269) (o := .cells #[.int .i64 a1_0, .slice A1_1 l1_1.length c1_1] 29 (0, 0)) (by (with_reducible repeat (first | refine blk_drewN ?_ _ | refine blk_drew ?_ | refine blk_alloc ?_ _)); refine blk_far ?_ NB269_324.out _; (with_reducible repeat (first | refine blk_drewN ?_ _ | refine blk_drew ?_ | refine blk_alloc ?_ _)); refine blk_far ?_ NB269_324.out _; (with_reducible repeat (first | refine blk_drewN ?_ _ | refine blk_drew ?_ | refine blk_alloc ?_ _)); exact BK269.out) hb); have n14_ := AZ (blk_below (g := gb270) (o := .cells #[.int .i64 a2_0, .slice A2_1 l2_1.length c2_1] 29 (0, 0)) (by (with_reducible repeat (first | refine blk_drewN ?_ _ | refine blk_drew ?_ | refine blk_alloc ?_ _)); refine blk_far ?_ NB270_324.out _; (with_reducible repeat (first | refine blk_drewN ?_ _ | refine blk_drew ?_ | refine blk_alloc ?_ _)); refine blk_far ?_ NB270_324.out _; (with_reducible repeat (first | refine blk_drewN ?_ _ | refine blk_drew ?_ | refine blk_alloc ?_ _)); exact BK270.out) hb); have n15_ := AZ (blk_below (g := gb314) (o := .cells #[.slice Ao73 t300.length co73, .slice Ao78 t303.length co78, .slice Ao79 t306.length co79, .int .i64 t309, .int .i64 t310, .int .i64 t311, .int .i64 t312, .int .i64 t313] 36 (0, 0)) (by (with_reducible repeat (first | refine blk_drewN ?_ _ | refine blk_drew ?_ | refine blk_alloc ?_ _)); refine blk_far ?_ NB314_324.out _; (with_reducible repeat (first | refine blk_drewN ?_ _ | refine blk_drew ?_ | refine blk_alloc ?_ _)); refine blk_far ?_ NB314_324.out _; (with_reducible repeat (first | refine blk_drewN ?_ _ | refine blk_drew ?_ | refine blk_alloc ?_ _)); exact BK314.out) hb); have n16_ := AZ (blk_below (g := gb319) (o := .cells #[.int .i64 t315, .slice Ao88 t316.length co88] 38 (0, 0)) (by (with_reducible repeat (first | refine blk_drewN ?_ _ | refine blk_drew ?_ | refine blk_alloc ?_ _)); refine blk_far ?_ NB319_324.out _; (with_reducible repeat (first | refine blk_drewN ?_ _ | refine blk_drew ?_ | refine blk_alloc ?_ _)); refine blk_far ?_ NB319_324.out _; (with_reducible repeat (first | refine blk_drewN ?_ _ | refine blk_drew ?_ | refine blk_alloc ?_ _)); exact BK319.out) hb); have n17_ := AZ (blk_below (g := gb324) (o := .cells #[.int .i64 t320, .slice Ao98 t321.length co98] 38 (0, 0)) (by (with_reducible repeat (first | refine blk_drewN ?_ _ | refine blk_drew ?_ | refine blk_alloc ?_ _)); refine blk_put (cs := #[.int .i64 t320, .slice none 0 0]) ?_ 1 _ rfl; (with_reducible repeat (first | refine blk_drewN ?_ _ | refine blk_drew ?_ | refine blk_alloc ?_ _)); refine blk_put (cs := #[.int .i64 0, .slice none 0 0]) ?_ 0 _ rfl; (with_reducible repeat (first | refine blk_drewN ?_ _ | refine blk_drew ?_ | refine blk_alloc ?_ _)); exact BK324.out) hb); have n18_ := AZ (below_step (bS HB.out) hb); clear HO276; clear HO279; clear HO282; clear HO291; clear HO295; clear HO298; clear HO302; clear HO305; clear HO308; clear HO318; clear HO323; clear BK268; clear BK269; clear BK270; clear BK314; clear BK319; clear BK324; clear HB; have HO276 := n0_; have HO279 := n1_; have HO282 := n2_; have HO291 := n3_; have HO295 := n4_; have HO298 := n5_; have HO302 := n6_; have HO305 := n7_; have HO308 := n8_; have HO318 := n9_; have HO323 := n10_; have HO327 := n11_; have BK268 := n12_; have BK269 := n13_; have BK270 := n14_; have BK314 := n15_; have BK319 := n16_; have BK324 := n17_; have HB := n18_; clear n0_ n1_ n2_ n3_ n4_ n5_ n6_ n7_ n8_ n9_ n10_ n11_ n12_ n13_ n14_ n15_ n16_ n17_ n18_; (try clear hb ho0)))
    (try simp only [Act.put, List.setIfInBounds_toArray, List.set_cons_zero, List.set_cons_succ])
    go_cut [66] (fun v66 wc => ∃ (kq : Nat) (x66_46 : Bool), v66 = .bool x66_46 ∧ Aside0 (laws_FnExactWorthBetween.j0 kq t296 t299 t325 t328 x66_46 l0_0 l0_1 l0_2 a0_3 a0_4 a0_5 a0_6 a0_7 a1_0 l1_1 a2_0 l2_1 t300 t303 t306 t309 t310 t311 t312 t313 t315 t316 t320 t321 = some r) ∧ Aside0 (kq ≤ k) ∧ Aside0 (Kd.R (Kd.int .i64) 3 wc w.heap.size (fun k_ => some k_ ≠ (v326 : Value).ownBlock ∧ some k_ ≠ ((.slice Ao78 t303.length co78) : Value).ownBlock ∧ some k_ ≠ ((.slice Ao79 t306.length co79) : Value).ownBlock ∧ some k_ ≠ ((.slice Ao88 t316.length co88) : Value).ownBlock ∧ some k_ ≠ ((.slice Ao98 t321.length co98) : Value).ownBlock) v297 t296) ∧ Aside0 (Kd.R (Kd.int .i64) 3 wc w.heap.size (fun k_ => some k_ ≠ (v297 : Value).ownBlock ∧ some k_ ≠ ((.slice Ao78 t303.length co78) : Value).ownBlock ∧ some k_ ≠ ((.slice Ao79 t306.length co79) : Value).ownBlock ∧ some k_ ≠ ((.slice Ao88 t316.length co88) : Value).ownBlock ∧ some k_ ≠ ((.slice Ao98 t321.length co98) : Value).ownBlock) v326 t325) ∧ Aside0 (Kd.S (Kd.slice 3 (Kd.int .i64)) 23 wc w.heap.size (fun k_ => some k_ ≠ (v297 : Value).ownBlock ∧ some k_ ≠ (v326 : Value).ownBlock ∧ some k_ ≠ ((.slice Ao78 t303.length co78) : Value).ownBlock ∧ some k_ ≠ ((.slice Ao79 t306.length co79) : Value).ownBlock ∧ some k_ ≠ ((.slice Ao88 t316.length co88) : Value).ownBlock ∧ some k_ ≠ ((.slice Ao98 t321.length co98) : Value).ownBlock) (.slice Ao73 t300.length co73) t300) ∧ Aside0 (Kd.R (Kd.int .i64) 3 wc w.heap.size (fun k_ => some k_ ≠ (v297 : Value).ownBlock ∧ some k_ ≠ (v326 : Value).ownBlock ∧ some k_ ≠ ((.slice Ao79 t306.length co79) : Value).ownBlock ∧ some k_ ≠ ((.slice Ao88 t316.length co88) : Value).ownBlock ∧ some k_ ≠ ((.slice Ao98 t321.length co98) : Value).ownBlock) (.slice Ao78 t303.length co78) t303) ∧ Aside0 (Kd.R (Kd.int .i64) 3 wc w.heap.size (fun k_ => some k_ ≠ (v297 : Value).ownBlock ∧ some k_ ≠ (v326 : Value).ownBlock ∧ some k_ ≠ ((.slice Ao78 t303.length co78) : Value).ownBlock ∧ some k_ ≠ ((.slice Ao88 t316.length co88) : Value).ownBlock ∧ some k_ ≠ ((.slice Ao98 t321.length co98) : Value).ownBlock) (.slice Ao79 t306.length co79) t306) ∧ Aside0 (Kd.R (Kd.int .i64) 3 wc w.heap.size (fun k_ => some k_ ≠ (v297 : Value).ownBlock ∧ some k_ ≠ (v326 : Value).ownBlock ∧ some k_ ≠ ((.slice Ao78 t303.length co78) : Value).ownBlock ∧ some k_ ≠ ((.slice Ao79 t306.length co79) : Value).ownBlock ∧ some k_ ≠ ((.slice Ao98 t321.length co98) : Value).ownBlock) (.slice Ao88 t316.length co88) t316) ∧ Aside0 (Kd.R (Kd.int .i64) 3 wc w.heap.size (fun k_ => some k_ ≠ (v297 : Value).ownBlock ∧ some k_ ≠ (v326 : Value).ownBlock ∧ some k_ ≠ ((.slice Ao78 t303.length co78) : Value).ownBlock ∧ some k_ ≠ ((.slice Ao79 t306.length co79) : Value).ownBlock ∧ some k_ ≠ ((.slice Ao88 t316.length co88) : Value).ownBlock) (.slice Ao98 t321.length co98) t321) ∧ Aside0 (wc.heap[gb268]? = some (.cells #[(.slice A0_0 l0_0.length c0_0), (.slice A0_1 l0_1.length c0_1), (.slice A0_2 l0_2.length c0_2), .int .i64 a0_3, .int .i64 a0_4, .int .i64 a0_5, .int .i64 a0_6, .int .i64 a0_7] 27 (0, 0))) ∧ Aside0 (wc.heap[gb269]? = some (.cells #[.int .i64 a1_0, (.slice A1_1 l1_1.length c1_1)] 29 (0, 0))) ∧ Aside0 (wc.heap[gb270]? = some (.cells #[.int .i64 a2_0, (.slice A2_1 l2_1.length c2_1)] 29 (0, 0))) ∧ Aside0 (wc.heap[gb314]? = some (.cells #[(.slice Ao73 t300.length co73), (.slice Ao78 t303.length co78), (.slice Ao79 t306.length co79), .int .i64 t309, .int .i64 t310, .int .i64 t311, .int .i64 t312, .int .i64 t313] 36 (0, 0))) ∧ Aside0 (wc.heap[gb319]? = some (.cells #[.int .i64 t315, (.slice Ao88 t316.length co88)] 38 (0, 0))) ∧ Aside0 (wc.heap[gb324]? = some (.cells #[.int .i64 t320, (.slice Ao98 t321.length co98)] 38 (0, 0))) ∧ Aside0 (Below w.heap.size w wc))
    case first =>
     have H := HC47.out
     clear HC47
     replace H := Option.bind_eq_some_iff.mp H
     obtain ⟨t329, A1020, H⟩ := H
     replace H : (if t329 = true then (laws_FnExactWorthBetween.j0 k t296 t299 t325 t328 (t328 != t299) l0_0 l0_1 l0_2 a0_3 a0_4 a0_5 a0_6 a0_7 a1_0 l1_1 a2_0 l2_1 t300 t303 t306 t309 t310 t311 t312 t313 t315 t316 t320 t321) else (laws_FnExactWorthBetween.j0 k t296 t299 t325 t328 true l0_0 l0_1 l0_2 a0_3 a0_4 a0_5 a0_6 a0_7 a1_0 l1_1 a2_0 l2_1 t300 t303 t306 t309 t310 t311 t312 t313 t315 t316 t320 t321)) = some r := H
     have A102 := Aside0.mk A1020
     clear A1020
     by_cases c103 : t329 = true
     ·subst c103
      have H1 : (laws_FnExactWorthBetween.j0 k t296 t299 t325 t328 (t328 != t299) l0_0 l0_1 l0_2 a0_3 a0_4 a0_5 a0_6 a0_7 a1_0 l1_1 a2_0 l2_1 t300 t303 t306 t309 t310 t311 t312 t313 t315 t316 t320 t321) = some r := by rw [if_pos rfl] at H; exact H
      clear H
      have H := H1
      clear H1
      have H' := Aside0.mk H
      clear H
      obtain ⟨Ao104, co104, eo104⟩ := Kd.R_slice HO327.out
      subst eo104
      obtain ⟨Ao105, co105, eo105⟩ := Kd.R_slice HO298.out
      subst eo105
      go_wp2_with (first | ((with_reducible refine gate_callee (f := 36) rfl ?_); refine gL (some 60) Try.func36 #[.slice Ao104 t325.length co104, .slice Ao105 t296.length co105] ?_; (with_reducible refine (laws_eqIntS.calls k _ _ t325 _ _ t296 true _ ?side1 ?side2 ?side3 ?side4 A102.out).mono ?_); (case side1 => exact cS (Kd.R_reads' HO327.out).2.2); (case side2 => exact (Kd.R_reads' HO327.out).2.1); (case side3 => exact cS (Kd.R_reads' HO298.out).2.2); (case side4 => exact (Kd.R_reads' HO298.out).2.1); rintro e w' ⟨rfl, ⟨nd, rfl⟩⟩; refine ⟨_, rfl, ?_⟩))
      go_meet
      case rel => exact ⟨_, ((t328 != t299)), (by first | rfl | (simp; done) | (simp [*]; done)), H', ⟨by first | omega | exact Nat.le_refl _⟩, ⟨rS (Kd.R_mono HO298.out (fun _ hk => ⟨hk.2, ⟨hk.1.1.1.1.2, ⟨hk.1.1.1.2, ⟨hk.1.1.2, hk.1.2⟩⟩⟩⟩))⟩, ⟨rS (Kd.R_mono HO327.out (fun _ hk => ⟨hk.1.1.1.1.2, ⟨hk.1.1.1.2, ⟨hk.1.1.2, ⟨hk.1.2, hk.2⟩⟩⟩⟩))⟩, ⟨sS (Kd.S_mono HO302.out (fun _ hk => ⟨hk.1.1.1.2, ⟨hk.2, ⟨hk.1.1.1.1.1.1.1.1.1.1, ⟨hk.1.1.1.1.1.1.1.1.1.2, ⟨hk.1.1.2, hk.1.2⟩⟩⟩⟩⟩))⟩, ⟨rS (Kd.R_mono HO305.out (fun _ hk => ⟨hk.1.1.1.2, ⟨hk.2, ⟨hk.1.1.1.1.1.1.1.1, ⟨hk.1.1.2, hk.1.2⟩⟩⟩⟩))⟩, ⟨rS (Kd.R_mono HO308.out (fun _ hk => ⟨hk.1.1.1.2, ⟨hk.2, ⟨hk.1.1.1.1.1.1.1.1, ⟨hk.1.1.2, hk.1.2⟩⟩⟩⟩))⟩, ⟨rS (Kd.R_mono HO318.out (fun _ hk => ⟨hk.1.1.1.1.2, ⟨hk.2, ⟨hk.1.1.1.2, ⟨hk.1.1.2, hk.1.2⟩⟩⟩⟩))⟩, ⟨rS (Kd.R_mono HO323.out (fun _ hk => ⟨hk.1.1.1.1.2, ⟨hk.2, ⟨hk.1.1.1.2, ⟨hk.1.1.2, hk.1.2⟩⟩⟩⟩))⟩, ⟨blkS BK268.out⟩, ⟨blkS BK269.out⟩, ⟨blkS BK270.out⟩, ⟨blkS BK314.out⟩, ⟨blkS BK319.out⟩, ⟨blkS BK324.out⟩, ⟨bS HB.out⟩⟩
     ·replace c103 := Bool.eq_false_iff.mpr c103
      subst c103
      have H1 : (laws_FnExactWorthBetween.j0 k t296 t299 t325 t328 true l0_0 l0_1 l0_2 a0_3 a0_4 a0_5 a0_6 a0_7 a1_0 l1_1 a2_0 l2_1 t300 t303 t306 t309 t310 t311 t312 t313 t315 t316 t320 t321) = some r := by rw [if_neg (show ¬ (false = true) by decide)] at H; exact H
      clear H
      have H := H1
      clear H1
      have H' := Aside0.mk H
      clear H
      obtain ⟨Ao106, co106, eo106⟩ := Kd.R_slice HO327.out
      subst eo106
      obtain ⟨Ao107, co107, eo107⟩ := Kd.R_slice HO298.out
      subst eo107
      go_wp2_with (first | ((with_reducible refine gate_callee (f := 36) rfl ?_); refine gL (some 60) Try.func36 #[.slice Ao106 t325.length co106, .slice Ao107 t296.length co107] ?_; (with_reducible refine (laws_eqIntS.calls k _ _ t325 _ _ t296 false _ ?side1 ?side2 ?side3 ?side4 A102.out).mono ?_); (case side1 => exact cS (Kd.R_reads' HO327.out).2.2); (case side2 => exact (Kd.R_reads' HO327.out).2.1); (case side3 => exact cS (Kd.R_reads' HO298.out).2.2); (case side4 => exact (Kd.R_reads' HO298.out).2.1); rintro e w' ⟨rfl, ⟨nd, rfl⟩⟩; refine ⟨_, rfl, ?_⟩))
      go_meet
      case rel => exact ⟨_, (true), (by first | rfl | (simp; done) | (simp [*]; done)), H', ⟨by first | omega | exact Nat.le_refl _⟩, ⟨rS (Kd.R_mono HO298.out (fun _ hk => ⟨hk.2, ⟨hk.1.1.1.1.2, ⟨hk.1.1.1.2, ⟨hk.1.1.2, hk.1.2⟩⟩⟩⟩))⟩, ⟨rS (Kd.R_mono HO327.out (fun _ hk => ⟨hk.1.1.1.1.2, ⟨hk.1.1.1.2, ⟨hk.1.1.2, ⟨hk.1.2, hk.2⟩⟩⟩⟩))⟩, ⟨sS (Kd.S_mono HO302.out (fun _ hk => ⟨hk.1.1.1.2, ⟨hk.2, ⟨hk.1.1.1.1.1.1.1.1.1.1, ⟨hk.1.1.1.1.1.1.1.1.1.2, ⟨hk.1.1.2, hk.1.2⟩⟩⟩⟩⟩))⟩, ⟨rS (Kd.R_mono HO305.out (fun _ hk => ⟨hk.1.1.1.2, ⟨hk.2, ⟨hk.1.1.1.1.1.1.1.1, ⟨hk.1.1.2, hk.1.2⟩⟩⟩⟩))⟩, ⟨rS (Kd.R_mono HO308.out (fun _ hk => ⟨hk.1.1.1.2, ⟨hk.2, ⟨hk.1.1.1.1.1.1.1.1, ⟨hk.1.1.2, hk.1.2⟩⟩⟩⟩))⟩, ⟨rS (Kd.R_mono HO318.out (fun _ hk => ⟨hk.1.1.1.1.2, ⟨hk.2, ⟨hk.1.1.1.2, ⟨hk.1.1.2, hk.1.2⟩⟩⟩⟩))⟩, ⟨rS (Kd.R_mono HO323.out (fun _ hk => ⟨hk.1.1.1.1.2, ⟨hk.2, ⟨hk.1.1.1.2, ⟨hk.1.1.2, hk.1.2⟩⟩⟩⟩))⟩, ⟨blkS BK268.out⟩, ⟨blkS BK269.out⟩, ⟨blkS BK270.out⟩, ⟨blkS BK314.out⟩, ⟨blkS BK319.out⟩, ⟨blkS BK324.out⟩, ⟨bS HB.out⟩⟩
    case rest =>
     clear HC47
     try clear c1
     try clear c2
     try clear p2
     try clear c3
     try clear c4
     try clear c5
     try clear c5b0
     try clear c7
     try clear c8
     try clear c9
     try clear c10
     try clear c14
     try clear c14b0
     try clear c15
     try clear c17
     try clear c18
     try clear c19
     try clear c22
     try clear c26
     try clear c26b0
     try clear c30
     try clear c31
     try clear c34
     try clear c36
     try clear c48
     try clear c49
     try clear c51
     try clear c52
     try clear c55
     try clear c74
     try clear c75
     try clear c76
     try clear c83
     try clear c84
     try clear c85
     try clear c86
     try clear c92
     try clear c93
     try clear c94
     try clear c95
     try clear c96
     try clear c103
     try clear hcz100_0
     try clear hcz100_1
     try clear hcz11_0
     try clear hcz11_1
     try clear hcz11_2
     try clear hcz11_3
     try clear hcz11_4
     try clear hcz11_5
     try clear hcz11_6
     try clear hcz11_7
     try clear hcz20_0
     try clear hcz20_1
     try clear hcz20_2
     try clear hcz20_3
     try clear hcz20_4
     try clear hcz20_5
     try clear hcz20_6
     try clear hcz20_7
     try clear hcz23_0
     try clear hcz23_1
     try clear hcz32_0
     try clear hcz32_1
     try clear hcz32_2
     try clear hcz32_3
     try clear hcz32_4
     try clear hcz32_5
     try clear hcz32_6
     try clear hcz32_7
     try clear hcz35_0
     try clear hcz35_1
     try clear hcz37_0
     try clear hcz37_1
     try clear hcz53_0
     try clear hcz53_1
     try clear hcz53_2
     try clear hcz53_3
     try clear hcz53_4
     try clear hcz53_5
     try clear hcz53_6
     try clear hcz53_7
     try clear hcz56_0
     try clear hcz56_1
     try clear hcz58_0
     try clear hcz58_1
     try clear hcz70_0
     try clear hcz70_1
     try clear hcz70_2
     try clear hcz70_3
     try clear hcz70_4
     try clear hcz70_5
     try clear hcz70_6
     try clear hcz70_7
     try clear hcz77_0
     try clear hcz77_1
     try clear hcz77_2
     try clear hcz77_3
     try clear hcz77_4
     try clear hcz77_5
     try clear hcz77_6
     try clear hcz77_7
     try clear hcz80_0
     try clear hcz80_1
     try clear hcz87_0
     try clear hcz87_1
     try clear hcz89_0
     try clear hcz89_1
     try clear hcz97_0
     try clear hcz97_1
     try clear hcz99_0
     try clear hcz99_1
     try clear hcz99_2
     try clear hcz99_3
     try clear hcz99_4
     try clear hcz99_5
     try clear hcz99_6
     try clear hcz99_7
     try clear hfz100_0
     try clear hfz100_1
     try clear hfz11_0
     try clear hfz11_1
     try clear hfz11_2
     try clear hfz11_3
     try clear hfz11_4
     try clear hfz11_5
     try clear hfz11_6
     try clear hfz11_7
     try clear hfz20_0
     try clear hfz20_1
     try clear hfz20_2
     try clear hfz20_3
     try clear hfz20_4
     try clear hfz20_5
     try clear hfz20_6
     try clear hfz20_7
     try clear hfz23_0
     try clear hfz23_1
     try clear hfz32_0
     try clear hfz32_1
     try clear hfz32_2
     try clear hfz32_3
     try clear hfz32_4
     try clear hfz32_5
     try clear hfz32_6
     try clear hfz32_7
     try clear hfz35_0
     try clear hfz35_1
     try clear hfz37_0
     try clear hfz37_1
     try clear hfz53_0
     try clear hfz53_1
     try clear hfz53_2
     try clear hfz53_3
     try clear hfz53_4
     try clear hfz53_5
     try clear hfz53_6
     try clear hfz53_7
     try clear hfz56_0
     try clear hfz56_1
     try clear hfz58_0
     try clear hfz58_1
     try clear hfz70_0
     try clear hfz70_1
     try clear hfz70_2
     try clear hfz70_3
     try clear hfz70_4
     try clear hfz70_5
     try clear hfz70_6
     try clear hfz70_7
     try clear hfz77_0
     try clear hfz77_1
     try clear hfz77_2
     try clear hfz77_3
     try clear hfz77_4
     try clear hfz77_5
     try clear hfz77_6
     try clear hfz77_7
     try clear hfz80_0
     try clear hfz80_1
     try clear hfz87_0
     try clear hfz87_1
     try clear hfz89_0
     try clear hfz89_1
     try clear hfz97_0
     try clear hfz97_1
     try clear hfz99_0
     try clear hfz99_1
     try clear hfz99_2
     try clear hfz99_3
     try clear hfz99_4
     try clear hfz99_5
     try clear hfz99_6
     try clear hfz99_7
     obtain ⟨kq, x66_46, rfl, HA, HJ46, HO_8, HO_13, HO_315000, HO_315001, HO_315002, HO_320001, HO_325001, BK268, BK269, BK270, BK314, BK319, BK324, HB⟩ := hcut
     cases kq with
     | zero => exact absurd HA.out (by simp [laws_FnExactWorthBetween.j0])
     | succ kj46 =>
      have H := HA.out
      clear HA
      simp only [laws_FnExactWorthBetween.j0] at H
      by_cases c108 : x66_46 = true
      ·subst c108
       have H1 : (none) = some r := by rw [if_pos rfl] at H; exact H
       clear H
       have H := H1
       clear H1
       exact absurd H (by simp)
      ·replace c108 := Bool.eq_false_iff.mpr c108
       subst c108
       have H1 : ((laws_toJob.f kj46 l0_0 l0_1 l0_2 a0_3 a0_4 a0_5 a0_6 a0_7).bind fun bt330 => ((laws_eqJob.f kj46 t300 t303 t306 t309 t310 t311 t312 t313 bt330.1 bt330.2.1 bt330.2.2.1 bt330.2.2.2.1 bt330.2.2.2.2.1 bt330.2.2.2.2.2.1 bt330.2.2.2.2.2.2.1 bt330.2.2.2.2.2.2.2).bind fun t344 => (if t344 = true then ((laws_toPlan.f kj46 a1_0 l1_1).bind fun bt345 => ((laws_eqPlan.f kj46 t315 t316 bt345.1 bt345.2).bind fun t349 => (if t349 = true then ((laws_toPlan.f kj46 a2_0 l2_1).bind fun bt350 => ((laws_eqPlan.f kj46 t320 t321 bt350.1 bt350.2).bind fun t354 => (if t354 = true then ((laws_markJob.f kj46 t300 t303 t306 t309 t310 t311 t312 t313 1).bind fun t355 => ((laws_markPlan.f kj46 t315 t316 t355).bind fun bt356 => ((laws_markPlan.f kj46 t320 t321 bt356.1).bind fun bt358 => (if bt358.1 < 0 then (laws_FnExactWorthBetween.j1 kj46 t296 t299 t325 true l0_0 l0_1 l0_2 a0_3 a0_4 a0_5 a0_6 a0_7 a1_0 l1_1 a2_0 l2_1) else ((laws_eqIntS.f kj46 t325 t296).bind fun t360 => (if t360 = true then (laws_FnExactWorthBetween.j1 kj46 t296 t299 t325 (t328 != t299) l0_0 l0_1 l0_2 a0_3 a0_4 a0_5 a0_6 a0_7 a1_0 l1_1 a2_0 l2_1) else (laws_FnExactWorthBetween.j1 kj46 t296 t299 t325 true l0_0 l0_1 l0_2 a0_3 a0_4 a0_5 a0_6 a0_7 a1_0 l1_1 a2_0 l2_1))))))) else (none)))) else (none)))) else (none)))) = some r := by rw [if_neg (show ¬ (false = true) by decide)] at H; exact H
       clear H
       have H := H1
       clear H1
       replace H := Option.bind_eq_some_iff.mp H
       obtain ⟨⟨t330, t333, t336, t339, t340, t341, t342, t343⟩, A1090, H⟩ := H
       replace H : ((laws_eqJob.f kj46 t300 t303 t306 t309 t310 t311 t312 t313 t330 t333 t336 t339 t340 t341 t342 t343).bind fun t344 => (if t344 = true then ((laws_toPlan.f kj46 a1_0 l1_1).bind fun bt345 => ((laws_eqPlan.f kj46 t315 t316 bt345.1 bt345.2).bind fun t349 => (if t349 = true then ((laws_toPlan.f kj46 a2_0 l2_1).bind fun bt350 => ((laws_eqPlan.f kj46 t320 t321 bt350.1 bt350.2).bind fun t354 => (if t354 = true then ((laws_markJob.f kj46 t300 t303 t306 t309 t310 t311 t312 t313 1).bind fun t355 => ((laws_markPlan.f kj46 t315 t316 t355).bind fun bt356 => ((laws_markPlan.f kj46 t320 t321 bt356.1).bind fun bt358 => (if bt358.1 < 0 then (laws_FnExactWorthBetween.j1 kj46 t296 t299 t325 true l0_0 l0_1 l0_2 a0_3 a0_4 a0_5 a0_6 a0_7 a1_0 l1_1 a2_0 l2_1) else ((laws_eqIntS.f kj46 t325 t296).bind fun t360 => (if t360 = true then (laws_FnExactWorthBetween.j1 kj46 t296 t299 t325 (t328 != t299) l0_0 l0_1 l0_2 a0_3 a0_4 a0_5 a0_6 a0_7 a1_0 l1_1 a2_0 l2_1) else (laws_FnExactWorthBetween.j1 kj46 t296 t299 t325 true l0_0 l0_1 l0_2 a0_3 a0_4 a0_5 a0_6 a0_7 a1_0 l1_1 a2_0 l2_1))))))) else (none)))) else (none)))) else (none))) = some r := H
       have A109 := Aside0.mk A1090
       clear A1090
       replace H := Option.bind_eq_some_iff.mp H
       obtain ⟨t344, A1100, H⟩ := H
       replace H : (if t344 = true then ((laws_toPlan.f kj46 a1_0 l1_1).bind fun bt345 => ((laws_eqPlan.f kj46 t315 t316 bt345.1 bt345.2).bind fun t349 => (if t349 = true then ((laws_toPlan.f kj46 a2_0 l2_1).bind fun bt350 => ((laws_eqPlan.f kj46 t320 t321 bt350.1 bt350.2).bind fun t354 => (if t354 = true then ((laws_markJob.f kj46 t300 t303 t306 t309 t310 t311 t312 t313 1).bind fun t355 => ((laws_markPlan.f kj46 t315 t316 t355).bind fun bt356 => ((laws_markPlan.f kj46 t320 t321 bt356.1).bind fun bt358 => (if bt358.1 < 0 then (laws_FnExactWorthBetween.j1 kj46 t296 t299 t325 true l0_0 l0_1 l0_2 a0_3 a0_4 a0_5 a0_6 a0_7 a1_0 l1_1 a2_0 l2_1) else ((laws_eqIntS.f kj46 t325 t296).bind fun t360 => (if t360 = true then (laws_FnExactWorthBetween.j1 kj46 t296 t299 t325 (t328 != t299) l0_0 l0_1 l0_2 a0_3 a0_4 a0_5 a0_6 a0_7 a1_0 l1_1 a2_0 l2_1) else (laws_FnExactWorthBetween.j1 kj46 t296 t299 t325 true l0_0 l0_1 l0_2 a0_3 a0_4 a0_5 a0_6 a0_7 a1_0 l1_1 a2_0 l2_1))))))) else (none)))) else (none)))) else (none)) = some r := H
       have A110 := Aside0.mk A1100
       clear A1100
       by_cases c111 : t344 = true
       ·subst c111
        have H1 : ((laws_toPlan.f kj46 a1_0 l1_1).bind fun bt345 => ((laws_eqPlan.f kj46 t315 t316 bt345.1 bt345.2).bind fun t349 => (if t349 = true then ((laws_toPlan.f kj46 a2_0 l2_1).bind fun bt350 => ((laws_eqPlan.f kj46 t320 t321 bt350.1 bt350.2).bind fun t354 => (if t354 = true then ((laws_markJob.f kj46 t300 t303 t306 t309 t310 t311 t312 t313 1).bind fun t355 => ((laws_markPlan.f kj46 t315 t316 t355).bind fun bt356 => ((laws_markPlan.f kj46 t320 t321 bt356.1).bind fun bt358 => (if bt358.1 < 0 then (laws_FnExactWorthBetween.j1 kj46 t296 t299 t325 true l0_0 l0_1 l0_2 a0_3 a0_4 a0_5 a0_6 a0_7 a1_0 l1_1 a2_0 l2_1) else ((laws_eqIntS.f kj46 t325 t296).bind fun t360 => (if t360 = true then (laws_FnExactWorthBetween.j1 kj46 t296 t299 t325 (t328 != t299) l0_0 l0_1 l0_2 a0_3 a0_4 a0_5 a0_6 a0_7 a1_0 l1_1 a2_0 l2_1) else (laws_FnExactWorthBetween.j1 kj46 t296 t299 t325 true l0_0 l0_1 l0_2 a0_3 a0_4 a0_5 a0_6 a0_7 a1_0 l1_1 a2_0 l2_1))))))) else (none)))) else (none)))) = some r := by rw [if_pos rfl] at H; exact H
        clear H
        have H := H1
        clear H1
        replace H := Option.bind_eq_some_iff.mp H
        obtain ⟨⟨t345, t346⟩, A1120, H⟩ := H
        replace H : ((laws_eqPlan.f kj46 t315 t316 t345 t346).bind fun t349 => (if t349 = true then ((laws_toPlan.f kj46 a2_0 l2_1).bind fun bt350 => ((laws_eqPlan.f kj46 t320 t321 bt350.1 bt350.2).bind fun t354 => (if t354 = true then ((laws_markJob.f kj46 t300 t303 t306 t309 t310 t311 t312 t313 1).bind fun t355 => ((laws_markPlan.f kj46 t315 t316 t355).bind fun bt356 => ((laws_markPlan.f kj46 t320 t321 bt356.1).bind fun bt358 => (if bt358.1 < 0 then (laws_FnExactWorthBetween.j1 kj46 t296 t299 t325 true l0_0 l0_1 l0_2 a0_3 a0_4 a0_5 a0_6 a0_7 a1_0 l1_1 a2_0 l2_1) else ((laws_eqIntS.f kj46 t325 t296).bind fun t360 => (if t360 = true then (laws_FnExactWorthBetween.j1 kj46 t296 t299 t325 (t328 != t299) l0_0 l0_1 l0_2 a0_3 a0_4 a0_5 a0_6 a0_7 a1_0 l1_1 a2_0 l2_1) else (laws_FnExactWorthBetween.j1 kj46 t296 t299 t325 true l0_0 l0_1 l0_2 a0_3 a0_4 a0_5 a0_6 a0_7 a1_0 l1_1 a2_0 l2_1))))))) else (none)))) else (none))) = some r := H
        have A112 := Aside0.mk A1120
        clear A1120
        replace H := Option.bind_eq_some_iff.mp H
        obtain ⟨t349, A1130, H⟩ := H
        replace H : (if t349 = true then ((laws_toPlan.f kj46 a2_0 l2_1).bind fun bt350 => ((laws_eqPlan.f kj46 t320 t321 bt350.1 bt350.2).bind fun t354 => (if t354 = true then ((laws_markJob.f kj46 t300 t303 t306 t309 t310 t311 t312 t313 1).bind fun t355 => ((laws_markPlan.f kj46 t315 t316 t355).bind fun bt356 => ((laws_markPlan.f kj46 t320 t321 bt356.1).bind fun bt358 => (if bt358.1 < 0 then (laws_FnExactWorthBetween.j1 kj46 t296 t299 t325 true l0_0 l0_1 l0_2 a0_3 a0_4 a0_5 a0_6 a0_7 a1_0 l1_1 a2_0 l2_1) else ((laws_eqIntS.f kj46 t325 t296).bind fun t360 => (if t360 = true then (laws_FnExactWorthBetween.j1 kj46 t296 t299 t325 (t328 != t299) l0_0 l0_1 l0_2 a0_3 a0_4 a0_5 a0_6 a0_7 a1_0 l1_1 a2_0 l2_1) else (laws_FnExactWorthBetween.j1 kj46 t296 t299 t325 true l0_0 l0_1 l0_2 a0_3 a0_4 a0_5 a0_6 a0_7 a1_0 l1_1 a2_0 l2_1))))))) else (none)))) else (none)) = some r := H
        have A113 := Aside0.mk A1130
        clear A1130
        by_cases c114 : t349 = true
        ·subst c114
         have H1 : ((laws_toPlan.f kj46 a2_0 l2_1).bind fun bt350 => ((laws_eqPlan.f kj46 t320 t321 bt350.1 bt350.2).bind fun t354 => (if t354 = true then ((laws_markJob.f kj46 t300 t303 t306 t309 t310 t311 t312 t313 1).bind fun t355 => ((laws_markPlan.f kj46 t315 t316 t355).bind fun bt356 => ((laws_markPlan.f kj46 t320 t321 bt356.1).bind fun bt358 => (if bt358.1 < 0 then (laws_FnExactWorthBetween.j1 kj46 t296 t299 t325 true l0_0 l0_1 l0_2 a0_3 a0_4 a0_5 a0_6 a0_7 a1_0 l1_1 a2_0 l2_1) else ((laws_eqIntS.f kj46 t325 t296).bind fun t360 => (if t360 = true then (laws_FnExactWorthBetween.j1 kj46 t296 t299 t325 (t328 != t299) l0_0 l0_1 l0_2 a0_3 a0_4 a0_5 a0_6 a0_7 a1_0 l1_1 a2_0 l2_1) else (laws_FnExactWorthBetween.j1 kj46 t296 t299 t325 true l0_0 l0_1 l0_2 a0_3 a0_4 a0_5 a0_6 a0_7 a1_0 l1_1 a2_0 l2_1))))))) else (none)))) = some r := by rw [if_pos rfl] at H; exact H
         clear H
         have H := H1
         clear H1
         replace H := Option.bind_eq_some_iff.mp H
         obtain ⟨⟨t350, t351⟩, A1150, H⟩ := H
         replace H : ((laws_eqPlan.f kj46 t320 t321 t350 t351).bind fun t354 => (if t354 = true then ((laws_markJob.f kj46 t300 t303 t306 t309 t310 t311 t312 t313 1).bind fun t355 => ((laws_markPlan.f kj46 t315 t316 t355).bind fun bt356 => ((laws_markPlan.f kj46 t320 t321 bt356.1).bind fun bt358 => (if bt358.1 < 0 then (laws_FnExactWorthBetween.j1 kj46 t296 t299 t325 true l0_0 l0_1 l0_2 a0_3 a0_4 a0_5 a0_6 a0_7 a1_0 l1_1 a2_0 l2_1) else ((laws_eqIntS.f kj46 t325 t296).bind fun t360 => (if t360 = true then (laws_FnExactWorthBetween.j1 kj46 t296 t299 t325 (t328 != t299) l0_0 l0_1 l0_2 a0_3 a0_4 a0_5 a0_6 a0_7 a1_0 l1_1 a2_0 l2_1) else (laws_FnExactWorthBetween.j1 kj46 t296 t299 t325 true l0_0 l0_1 l0_2 a0_3 a0_4 a0_5 a0_6 a0_7 a1_0 l1_1 a2_0 l2_1))))))) else (none))) = some r := H
         have A115 := Aside0.mk A1150
         clear A1150
         replace H := Option.bind_eq_some_iff.mp H
         obtain ⟨t354, A1160, H⟩ := H
         replace H : (if t354 = true then ((laws_markJob.f kj46 t300 t303 t306 t309 t310 t311 t312 t313 1).bind fun t355 => ((laws_markPlan.f kj46 t315 t316 t355).bind fun bt356 => ((laws_markPlan.f kj46 t320 t321 bt356.1).bind fun bt358 => (if bt358.1 < 0 then (laws_FnExactWorthBetween.j1 kj46 t296 t299 t325 true l0_0 l0_1 l0_2 a0_3 a0_4 a0_5 a0_6 a0_7 a1_0 l1_1 a2_0 l2_1) else ((laws_eqIntS.f kj46 t325 t296).bind fun t360 => (if t360 = true then (laws_FnExactWorthBetween.j1 kj46 t296 t299 t325 (t328 != t299) l0_0 l0_1 l0_2 a0_3 a0_4 a0_5 a0_6 a0_7 a1_0 l1_1 a2_0 l2_1) else (laws_FnExactWorthBetween.j1 kj46 t296 t299 t325 true l0_0 l0_1 l0_2 a0_3 a0_4 a0_5 a0_6 a0_7 a1_0 l1_1 a2_0 l2_1))))))) else (none)) = some r := H
         have A116 := Aside0.mk A1160
         clear A1160
         by_cases c117 : t354 = true
         ·subst c117
          have H1 : ((laws_markJob.f kj46 t300 t303 t306 t309 t310 t311 t312 t313 1).bind fun t355 => ((laws_markPlan.f kj46 t315 t316 t355).bind fun bt356 => ((laws_markPlan.f kj46 t320 t321 bt356.1).bind fun bt358 => (if bt358.1 < 0 then (laws_FnExactWorthBetween.j1 kj46 t296 t299 t325 true l0_0 l0_1 l0_2 a0_3 a0_4 a0_5 a0_6 a0_7 a1_0 l1_1 a2_0 l2_1) else ((laws_eqIntS.f kj46 t325 t296).bind fun t360 => (if t360 = true then (laws_FnExactWorthBetween.j1 kj46 t296 t299 t325 (t328 != t299) l0_0 l0_1 l0_2 a0_3 a0_4 a0_5 a0_6 a0_7 a1_0 l1_1 a2_0 l2_1) else (laws_FnExactWorthBetween.j1 kj46 t296 t299 t325 true l0_0 l0_1 l0_2 a0_3 a0_4 a0_5 a0_6 a0_7 a1_0 l1_1 a2_0 l2_1))))))) = some r := by rw [if_pos rfl] at H; exact H
          clear H
          have H := H1
          clear H1
          replace H := Option.bind_eq_some_iff.mp H
          obtain ⟨t355, A1180, H⟩ := H
          replace H : ((laws_markPlan.f kj46 t315 t316 t355).bind fun bt356 => ((laws_markPlan.f kj46 t320 t321 bt356.1).bind fun bt358 => (if bt358.1 < 0 then (laws_FnExactWorthBetween.j1 kj46 t296 t299 t325 true l0_0 l0_1 l0_2 a0_3 a0_4 a0_5 a0_6 a0_7 a1_0 l1_1 a2_0 l2_1) else ((laws_eqIntS.f kj46 t325 t296).bind fun t360 => (if t360 = true then (laws_FnExactWorthBetween.j1 kj46 t296 t299 t325 (t328 != t299) l0_0 l0_1 l0_2 a0_3 a0_4 a0_5 a0_6 a0_7 a1_0 l1_1 a2_0 l2_1) else (laws_FnExactWorthBetween.j1 kj46 t296 t299 t325 true l0_0 l0_1 l0_2 a0_3 a0_4 a0_5 a0_6 a0_7 a1_0 l1_1 a2_0 l2_1)))))) = some r := H
          have A118 := Aside0.mk A1180
          clear A1180
          replace H := Option.bind_eq_some_iff.mp H
          obtain ⟨⟨t356, t357⟩, A1190, H⟩ := H
          replace H : ((laws_markPlan.f kj46 t320 t321 t356).bind fun bt358 => (if bt358.1 < 0 then (laws_FnExactWorthBetween.j1 kj46 t296 t299 t325 true l0_0 l0_1 l0_2 a0_3 a0_4 a0_5 a0_6 a0_7 a1_0 l1_1 a2_0 l2_1) else ((laws_eqIntS.f kj46 t325 t296).bind fun t360 => (if t360 = true then (laws_FnExactWorthBetween.j1 kj46 t296 t299 t325 (t328 != t299) l0_0 l0_1 l0_2 a0_3 a0_4 a0_5 a0_6 a0_7 a1_0 l1_1 a2_0 l2_1) else (laws_FnExactWorthBetween.j1 kj46 t296 t299 t325 true l0_0 l0_1 l0_2 a0_3 a0_4 a0_5 a0_6 a0_7 a1_0 l1_1 a2_0 l2_1))))) = some r := H
          have A119 := Aside0.mk A1190
          clear A1190
          replace H := Option.bind_eq_some_iff.mp H
          obtain ⟨⟨t358, t359⟩, A1200, H⟩ := H
          replace H : (if t358 < 0 then (laws_FnExactWorthBetween.j1 kj46 t296 t299 t325 true l0_0 l0_1 l0_2 a0_3 a0_4 a0_5 a0_6 a0_7 a1_0 l1_1 a2_0 l2_1) else ((laws_eqIntS.f kj46 t325 t296).bind fun t360 => (if t360 = true then (laws_FnExactWorthBetween.j1 kj46 t296 t299 t325 (t328 != t299) l0_0 l0_1 l0_2 a0_3 a0_4 a0_5 a0_6 a0_7 a1_0 l1_1 a2_0 l2_1) else (laws_FnExactWorthBetween.j1 kj46 t296 t299 t325 true l0_0 l0_1 l0_2 a0_3 a0_4 a0_5 a0_6 a0_7 a1_0 l1_1 a2_0 l2_1)))) = some r := H
          have A120 := Aside0.mk A1200
          clear A1200
          have HC121 := Aside0.mk H
          clear H
          try go_wp2
          have n0_ := AZ (Kd.R_drew HO_8.out)
          have n1_ := AZ (Kd.R_drew HO_13.out)
          have n2_ := AZ (Kd.S_drew HO_315000.out)
          have n3_ := AZ (Kd.R_drew HO_315001.out)
          have n4_ := AZ (Kd.R_drew HO_315002.out)
          have n5_ := AZ (Kd.R_drew HO_320001.out)
          have n6_ := AZ (Kd.R_drew HO_325001.out)
          have n7_ := AZ (blk_drew BK268.out)
          have n8_ := AZ (blk_drew BK269.out)
          have n9_ := AZ (blk_drew BK270.out)
          have n10_ := AZ (blk_drew BK314.out)
          have n11_ := AZ (blk_drew BK319.out)
          have n12_ := AZ (blk_drew BK324.out)
          have n13_ := AZ (below_drew1 HB.out)
          clear HO_8
          clear HO_13
          clear HO_315000
          clear HO_315001
          clear HO_315002
          clear HO_320001
          clear HO_325001
          clear BK268
          clear BK269
          clear BK270
          clear BK314
          clear BK319
          clear BK324
          clear HB
          have HO_8 := n0_
          have HO_13 := n1_
          have HO_315000 := n2_
          have HO_315001 := n3_
          have HO_315002 := n4_
          have HO_320001 := n5_
          have HO_325001 := n6_
          have BK268 := n7_
          have BK269 := n8_
          have BK270 := n9_
          have BK314 := n10_
          have BK319 := n11_
          have BK324 := n12_
          have HB := n13_
          clear n0_ n1_ n2_ n3_ n4_ n5_ n6_ n7_ n8_ n9_ n10_ n11_ n12_ n13_
          refine start_ (n := 5) (S := fun w' => w'.cell? ⟨gb314, 0, none⟩ = some (.slice Ao73 t300.length co73) ∧ w'.cell? ⟨gb314, 1, none⟩ = some (.slice Ao78 t303.length co78) ∧ w'.cell? ⟨gb314, 2, none⟩ = some (.slice Ao79 t306.length co79) ∧ w'.cell? ⟨gb314, 3, none⟩ = some (.int .i64 t309) ∧ w'.cell? ⟨gb314, 4, none⟩ = some (.int .i64 t310) ∧ w'.cell? ⟨gb314, 5, none⟩ = some (.int .i64 t311) ∧ w'.cell? ⟨gb314, 6, none⟩ = some (.int .i64 t312) ∧ w'.cell? ⟨gb314, 7, none⟩ = some (.int .i64 t313) ∧ w'.cell? ⟨gb268, 0, none⟩ = some (.slice A0_0 l0_0.length c0_0) ∧ w'.cell? ⟨gb268, 1, none⟩ = some (.slice A0_1 l0_1.length c0_1) ∧ w'.cell? ⟨gb268, 2, none⟩ = some (.slice A0_2 l0_2.length c0_2) ∧ w'.cell? ⟨gb268, 3, none⟩ = some (.int .i64 a0_3) ∧ w'.cell? ⟨gb268, 4, none⟩ = some (.int .i64 a0_4) ∧ w'.cell? ⟨gb268, 5, none⟩ = some (.int .i64 a0_5) ∧ w'.cell? ⟨gb268, 6, none⟩ = some (.int .i64 a0_6) ∧ w'.cell? ⟨gb268, 7, none⟩ = some (.int .i64 a0_7)) (ds := []) #[false, false, false, false, false] (by kernel_rfl) rfl rfl ⟨(blk_cell BK314.out 0).trans rfl, (blk_cell BK314.out 1).trans rfl, (blk_cell BK314.out 2).trans rfl, (blk_cell BK314.out 3).trans rfl, (blk_cell BK314.out 4).trans rfl, (blk_cell BK314.out 5).trans rfl, (blk_cell BK314.out 6).trans rfl, (blk_cell BK314.out 7).trans rfl, (blk_cell BK268.out 0).trans rfl, (blk_cell BK268.out 1).trans rfl, (blk_cell BK268.out 2).trans rfl, (blk_cell BK268.out 3).trans rfl, (blk_cell BK268.out 4).trans rfl, (blk_cell BK268.out 5).trans rfl, (blk_cell BK268.out 6).trans rfl, (blk_cell BK268.out 7).trans rfl⟩ (fun hHeld => ?_)
          generalize wc.drew = w122 at HO_8 HO_13 HO_315000 HO_315001 HO_315002 HO_320001 HO_325001 BK268 BK269 BK270 BK314 BK319 BK324 HB hHeld ⊢
          refine take_ (i := 0) (N := some 67) (v := ?_) (a' := ?_) #[true, false, false, false, false] rfl rfl (by kernel_rfl) (fun _ _ _ h => h) (Or.inl ⟨by rfl, ?_⟩) hHeld ?_ ?_
          rotate_left
          ·rintro w' ⟨s0, s1, s2, s3, s4, s5, s6, s7, s8, s9, s10, s11, s12, s13, s14, s15⟩
           go_simp
           with_reducible rfl
          rotate_left
          ·simp only [Act.put, List.setIfInBounds_toArray, List.set_cons_zero, List.set_cons_succ, i64_w, i32_w]
           rfl
          refine take_ (i := 1) (N := some 68) (v := ?_) (a' := ?_) #[true, true, false, false, false] rfl rfl (by kernel_rfl) (fun _ _ _ h => h) (Or.inl ⟨by rfl, ?_⟩) hHeld ?_ ?_
          rotate_left
          ·rintro w' ⟨s0, s1, s2, s3, s4, s5, s6, s7, s8, s9, s10, s11, s12, s13, s14, s15⟩
           go_simp
           with_reducible rfl
          rotate_left
          ·simp only [Act.put, List.setIfInBounds_toArray, List.set_cons_zero, List.set_cons_succ, i64_w, i32_w]
           rfl
          refine one_ (i := 2) (N := some 69) #[true, true, true, false, false] rfl rfl (by kernel_rfl) (by decide) (fun K hK => ?_)
          refine goes_ Try.func17 (by kernel_rfl) rfl #[.agg #[.slice A0_0 l0_0.length c0_0, .slice A0_1 l0_1.length c0_1, .slice A0_2 l0_2.length c0_2, .int .i64 a0_3, .int .i64 a0_4, .int .i64 a0_5, .int .i64 a0_6, .int .i64 a0_7]] (by rfl) rfl rfl (by (try simp only [List.map_toArray, List.map_cons, List.map_nil]); first | done | rfl | (simp only [List.length_drop, List.length_take]; rfl)) ?_
          with_reducible refine (laws_toJob.calls kj46 _ _ l0_0 _ _ l0_1 _ _ l0_2 a0_3 a0_4 a0_5 a0_6 a0_7 t330 t333 t336 t339 t340 t341 t342 t343 _ ?side1 ?side2 ?side3 ?side4 ?side5 ?side6 A109.out).mono ?_
          (case side1 => exact cS (Kd.C_below HR0_0.out HB.out))
          (case side2 => exact HC0_0.out)
          (case side3 => exact cS (Kd.C_below HR0_1.out HB.out))
          (case side4 => exact HC0_1.out)
          (case side5 => exact cS (Kd.C_below HR0_2.out HB.out))
          (case side6 => exact HC0_2.out)
          rintro e w123 ⟨v331, v334, v337, rfl, ho0, ho1, ho2, hb⟩
          refine ⟨_, rfl, ?_⟩
          have n0_ := AZ (Kd.R_mono (Kd.R_told (Kd.R_told (Kd.R_old (rS HO_8.out) hb) (Kd.R_base ho1)) (Kd.R_base ho2)) (fun _ h_ => h_.1))
          have n1_ := AZ (Kd.R_mono (Kd.R_told (Kd.R_told (Kd.R_old (rS HO_13.out) hb) (Kd.R_base ho1)) (Kd.R_base ho2)) (fun _ h_ => h_.1))
          have n2_ := AZ (Kd.S_mono (Kd.S_told (Kd.S_told (Kd.S_told (Kd.S_old (sS HO_315000.out) hb) (Kd.S_base ho0)) (Kd.R_base ho1)) (Kd.R_base ho2)) (fun _ h_ => h_.1))
          have n3_ := AZ (Kd.R_mono (Kd.R_told (Kd.R_told (Kd.R_old (rS HO_315001.out) hb) (Kd.R_base ho1)) (Kd.R_base ho2)) (fun _ h_ => h_.1))
          have n4_ := AZ (Kd.R_mono (Kd.R_told (Kd.R_told (Kd.R_old (rS HO_315002.out) hb) (Kd.R_base ho1)) (Kd.R_base ho2)) (fun _ h_ => h_.1))
          have n5_ := AZ (Kd.R_mono (Kd.R_told (Kd.R_told (Kd.R_old (rS HO_320001.out) hb) (Kd.R_base ho1)) (Kd.R_base ho2)) (fun _ h_ => h_.1))
          have n6_ := AZ (Kd.R_mono (Kd.R_told (Kd.R_told (Kd.R_old (rS HO_325001.out) hb) (Kd.R_base ho1)) (Kd.R_base ho2)) (fun _ h_ => h_.1))
          have n7_ := AZ (Kd.S_lower (Kd.S_new' (Kd.S_new' (Kd.S_new' (Kd.S_new' (Kd.S_new' (Kd.S_new' (Kd.S_new' ho0 (Kd.R_lt (rS HO_8.out))) (Kd.R_lt (rS HO_13.out))) (Kd.S_lt (sS HO_315000.out))) (Kd.R_lt (rS HO_315001.out))) (Kd.R_lt (rS HO_315002.out))) (Kd.R_lt (rS HO_320001.out))) (Kd.R_lt (rS HO_325001.out))) (below_size (bS HB.out)))
          have n8_ := AZ (Kd.R_lower (Kd.R_new' (Kd.R_new' (Kd.R_new' (Kd.R_new' (Kd.R_new' (Kd.R_new' ho1 (Kd.R_lt (rS HO_8.out))) (Kd.R_lt (rS HO_13.out))) (Kd.R_lt (rS HO_315001.out))) (Kd.R_lt (rS HO_315002.out))) (Kd.R_lt (rS HO_320001.out))) (Kd.R_lt (rS HO_325001.out))) (below_size (bS HB.out)))
          have n9_ := AZ (Kd.R_lower (Kd.R_new' (Kd.R_new' (Kd.R_new' (Kd.R_new' (Kd.R_new' (Kd.R_new' ho2 (Kd.R_lt (rS HO_8.out))) (Kd.R_lt (rS HO_13.out))) (Kd.R_lt (rS HO_315001.out))) (Kd.R_lt (rS HO_315002.out))) (Kd.R_lt (rS HO_320001.out))) (Kd.R_lt (rS HO_325001.out))) (below_size (bS HB.out)))
          have n10_ := blkA BK268 hb
          have n11_ := blkA BK269 hb
          have n12_ := blkA BK270 hb
          have n13_ := blkA BK314 hb
          have n14_ := blkA BK319 hb
          have n15_ := blkA BK324 hb
          have n16_ := AZ (below_step (bS HB.out) hb)
          clear HO_8
          clear HO_13
          clear HO_315000
          clear HO_315001
          clear HO_315002
          clear HO_320001
          clear HO_325001
          clear BK268
          clear BK269
          clear BK270
          clear BK314
          clear BK319
          clear BK324
          clear HB
          have HO_8 := n0_
          have HO_13 := n1_
          have HO_315000 := n2_
          have HO_315001 := n3_
          have HO_315002 := n4_
          have HO_320001 := n5_
          have HO_325001 := n6_
          have HO332 := n7_
          have HO335 := n8_
          have HO338 := n9_
          have BK268 := n10_
          have BK269 := n11_
          have BK270 := n12_
          have BK314 := n13_
          have BK319 := n14_
          have BK324 := n15_
          have HB := n16_
          clear n0_ n1_ n2_ n3_ n4_ n5_ n6_ n7_ n8_ n9_ n10_ n11_ n12_ n13_ n14_ n15_ n16_
          (try clear hb)
          (try clear hb2)
          (try clear hk)
          (try clear hi)
          (try clear ho0)
          (try clear ho1)
          (try clear ho2)
          obtain ⟨Ao124, co124, eo124⟩ := Kd.S_slice HO332.out
          (first | subst eo124 | (injection eo124 with f1_ f2_ f3_; have f4_ := f1_.symm; have f5_ := f3_.symm; clear f1_ f2_ f3_; subst f4_; subst f5_))
          obtain ⟨Ao125, co125, eo125⟩ := Kd.R_slice HO335.out
          (first | subst eo125 | (injection eo125 with f1_ f2_ f3_; have f4_ := f1_.symm; have f5_ := f3_.symm; clear f1_ f2_ f3_; subst f4_; subst f5_))
          obtain ⟨Ao126, co126, eo126⟩ := Kd.R_slice HO338.out
          (first | subst eo126 | (injection eo126 with f1_ f2_ f3_; have f4_ := f1_.symm; have f5_ := f3_.symm; clear f1_ f2_ f3_; subst f4_; subst f5_))
          refine hK.out _ _ ⟨(blk_cell BK314.out 0).trans rfl, (blk_cell BK314.out 1).trans rfl, (blk_cell BK314.out 2).trans rfl, (blk_cell BK314.out 3).trans rfl, (blk_cell BK314.out 4).trans rfl, (blk_cell BK314.out 5).trans rfl, (blk_cell BK314.out 6).trans rfl, (blk_cell BK314.out 7).trans rfl, (blk_cell BK268.out 0).trans rfl, (blk_cell BK268.out 1).trans rfl, (blk_cell BK268.out 2).trans rfl, (blk_cell BK268.out 3).trans rfl, (blk_cell BK268.out 4).trans rfl, (blk_cell BK268.out 5).trans rfl, (blk_cell BK268.out 6).trans rfl, (blk_cell BK268.out 7).trans rfl⟩ (fun hHeld => ?_)
          clear hK K
          refine norm_ (a' := ?_) ?_ ?_
          rotate_left
          ·show Act.put _ (some 69) _ = _
           simp only [Act.put, List.setIfInBounds_toArray, List.set_cons_zero, List.set_cons_succ, i64_w, i32_w]
           rfl
          refine one_ (i := 3) (N := some 70) #[true, true, true, true, false] rfl rfl (by kernel_rfl) (by decide) (fun K hK => ?_)
          refine goes_ Try.func20 (by kernel_rfl) rfl #[.agg #[.slice Ao73 t300.length co73, .slice Ao78 t303.length co78, .slice Ao79 t306.length co79, .int .i64 t309, .int .i64 t310, .int .i64 t311, .int .i64 t312, .int .i64 t313], .agg #[.slice Ao124 t330.length co124, .slice Ao125 t333.length co125, .slice Ao126 t336.length co126, .int .i64 t339, .int .i64 t340, .int .i64 t341, .int .i64 t342, .int .i64 t343]] (by rfl) rfl rfl (by (try simp only [List.map_toArray, List.map_cons, List.map_nil]); first | done | rfl | (simp only [List.length_drop, List.length_take]; rfl)) ?_
          with_reducible refine (laws_eqJob.calls kj46 _ _ t300 _ _ t303 _ _ t306 t309 t310 t311 t312 t313 _ _ t330 _ _ t333 _ _ t336 t339 t340 t341 t342 t343 true _ ?side1 ?side2 ?side3 ?side4 ?side5 ?side6 ?side7 ?side8 ?side9 ?side10 ?side11 ?side12 A110.out).mono ?_
          (case side1 => exact cS (Kd.S_reads' HO_315000.out).2.2)
          (case side2 => exact (Kd.S_reads' HO_315000.out).2.1)
          (case side3 => exact cS (Kd.R_reads' HO_315001.out).2.2)
          (case side4 => exact (Kd.R_reads' HO_315001.out).2.1)
          (case side5 => exact cS (Kd.R_reads' HO_315002.out).2.2)
          (case side6 => exact (Kd.R_reads' HO_315002.out).2.1)
          (case side7 => exact cS (Kd.S_reads' HO332.out).2.2)
          (case side8 => exact (Kd.S_reads' HO332.out).2.1)
          (case side9 => exact cS (Kd.R_reads' HO335.out).2.2)
          (case side10 => exact (Kd.R_reads' HO335.out).2.1)
          (case side11 => exact cS (Kd.R_reads' HO338.out).2.2)
          (case side12 => exact (Kd.R_reads' HO338.out).2.1)
          rintro e w127 ⟨rfl, hb⟩
          refine ⟨_, rfl, ?_⟩
          have n0_ := AZ (Kd.R_below (rS HO_8.out) hb)
          have n1_ := AZ (Kd.R_below (rS HO_13.out) hb)
          have n2_ := AZ (Kd.S_below (sS HO_315000.out) hb)
          have n3_ := AZ (Kd.R_below (rS HO_315001.out) hb)
          have n4_ := AZ (Kd.R_below (rS HO_315002.out) hb)
          have n5_ := AZ (Kd.R_below (rS HO_320001.out) hb)
          have n6_ := AZ (Kd.R_below (rS HO_325001.out) hb)
          have n7_ := AZ (Kd.S_below (sS HO332.out) hb)
          have n8_ := AZ (Kd.R_below (rS HO335.out) hb)
          have n9_ := AZ (Kd.R_below (rS HO338.out) hb)
          have n10_ := blkA BK268 hb
          have n11_ := blkA BK269 hb
          have n12_ := blkA BK270 hb
          have n13_ := blkA BK314 hb
          have n14_ := blkA BK319 hb
          have n15_ := blkA BK324 hb
          have n16_ := AZ (below_step (bS HB.out) hb)
          clear HO_8
          clear HO_13
          clear HO_315000
          clear HO_315001
          clear HO_315002
          clear HO_320001
          clear HO_325001
          clear HO332
          clear HO335
          clear HO338
          clear BK268
          clear BK269
          clear BK270
          clear BK314
          clear BK319
          clear BK324
          clear HB
          have HO_8 := n0_
          have HO_13 := n1_
          have HO_315000 := n2_
          have HO_315001 := n3_
          have HO_315002 := n4_
          have HO_320001 := n5_
          have HO_325001 := n6_
          have HO332 := n7_
          have HO335 := n8_
          have HO338 := n9_
          have BK268 := n10_
          have BK269 := n11_
          have BK270 := n12_
          have BK314 := n13_
          have BK319 := n14_
          have BK324 := n15_
          have HB := n16_
          clear n0_ n1_ n2_ n3_ n4_ n5_ n6_ n7_ n8_ n9_ n10_ n11_ n12_ n13_ n14_ n15_ n16_
          (try clear hb)
          (try clear hb2)
          (try clear hk)
          (try clear hi)
          refine hK.out _ _ ⟨(blk_cell BK314.out 0).trans rfl, (blk_cell BK314.out 1).trans rfl, (blk_cell BK314.out 2).trans rfl, (blk_cell BK314.out 3).trans rfl, (blk_cell BK314.out 4).trans rfl, (blk_cell BK314.out 5).trans rfl, (blk_cell BK314.out 6).trans rfl, (blk_cell BK314.out 7).trans rfl, (blk_cell BK268.out 0).trans rfl, (blk_cell BK268.out 1).trans rfl, (blk_cell BK268.out 2).trans rfl, (blk_cell BK268.out 3).trans rfl, (blk_cell BK268.out 4).trans rfl, (blk_cell BK268.out 5).trans rfl, (blk_cell BK268.out 6).trans rfl, (blk_cell BK268.out 7).trans rfl⟩ (fun hHeld => ?_)
          clear hK K
          refine norm_ (a' := ?_) ?_ ?_
          rotate_left
          ·show Act.put _ (some 70) _ = _
           simp only [Act.put, List.setIfInBounds_toArray, List.set_cons_zero, List.set_cons_succ, i64_w, i32_w]
           rfl
          refine pure_ (i := 4) (N := some 71) (v := ?_) (a' := ?_) #[true, true, true, true, true] rfl rfl (by kernel_rfl) (fun _ _ _ h => h) (Or.inl ⟨by rfl, ?_⟩) ?_ ?_
          rotate_left
          ·intro w'
           go_simp
           with_reducible rfl
          rotate_left
          ·simp only [Act.put, List.setIfInBounds_toArray, List.set_cons_zero, List.set_cons_succ, i64_w, i32_w]
           rfl
          refine done_ (by kernel_rfl) ?_
          try go_wp2
          have n0_ := AZ (Kd.R_drew HO_8.out)
          have n1_ := AZ (Kd.R_drew HO_13.out)
          have n2_ := AZ (Kd.S_drew HO_315000.out)
          have n3_ := AZ (Kd.R_drew HO_315001.out)
          have n4_ := AZ (Kd.R_drew HO_315002.out)
          have n5_ := AZ (Kd.R_drew HO_320001.out)
          have n6_ := AZ (Kd.R_drew HO_325001.out)
          have n7_ := AZ (Kd.S_drew HO332.out)
          have n8_ := AZ (Kd.R_drew HO335.out)
          have n9_ := AZ (Kd.R_drew HO338.out)
          have n10_ := AZ (blk_drew BK268.out)
          have n11_ := AZ (blk_drew BK269.out)
          have n12_ := AZ (blk_drew BK270.out)
          have n13_ := AZ (blk_drew BK314.out)
          have n14_ := AZ (blk_drew BK319.out)
          have n15_ := AZ (blk_drew BK324.out)
          have n16_ := AZ (below_drew1 HB.out)
          clear HO_8
          clear HO_13
          clear HO_315000
          clear HO_315001
          clear HO_315002
          clear HO_320001
          clear HO_325001
          clear HO332
          clear HO335
          clear HO338
          clear BK268
          clear BK269
          clear BK270
          clear BK314
          clear BK319
          clear BK324
          clear HB
          have HO_8 := n0_
          have HO_13 := n1_
          have HO_315000 := n2_
          have HO_315001 := n3_
          have HO_315002 := n4_
          have HO_320001 := n5_
          have HO_325001 := n6_
          have HO332 := n7_
          have HO335 := n8_
          have HO338 := n9_
          have BK268 := n10_
          have BK269 := n11_
          have BK270 := n12_
          have BK314 := n13_
          have BK319 := n14_
          have BK324 := n15_
          have HB := n16_
          clear n0_ n1_ n2_ n3_ n4_ n5_ n6_ n7_ n8_ n9_ n10_ n11_ n12_ n13_ n14_ n15_ n16_
          refine start_ (n := 5) (S := fun w' => w'.cell? ⟨gb319, 0, none⟩ = some (.int .i64 t315) ∧ w'.cell? ⟨gb319, 1, none⟩ = some (.slice Ao88 t316.length co88) ∧ w'.cell? ⟨gb269, 0, none⟩ = some (.int .i64 a1_0) ∧ w'.cell? ⟨gb269, 1, none⟩ = some (.slice A1_1 l1_1.length c1_1)) (ds := []) #[false, false, false, false, false] (by kernel_rfl) rfl rfl ⟨(blk_cell BK319.out 0).trans rfl, (blk_cell BK319.out 1).trans rfl, (blk_cell BK269.out 0).trans rfl, (blk_cell BK269.out 1).trans rfl⟩ (fun hHeld => ?_)
          generalize w127.drew = w128 at HO_8 HO_13 HO_315000 HO_315001 HO_315002 HO_320001 HO_325001 HO332 HO335 HO338 BK268 BK269 BK270 BK314 BK319 BK324 HB hHeld ⊢
          refine take_ (i := 0) (N := some 72) (v := ?_) (a' := ?_) #[true, false, false, false, false] rfl rfl (by kernel_rfl) (fun _ _ _ h => h) (Or.inl ⟨by rfl, ?_⟩) hHeld ?_ ?_
          rotate_left
          ·rintro w' ⟨s0, s1, s2, s3⟩
           go_simp
           with_reducible rfl
          rotate_left
          ·simp only [Act.put, List.setIfInBounds_toArray, List.set_cons_zero, List.set_cons_succ, i64_w, i32_w]
           rfl
          refine take_ (i := 1) (N := some 73) (v := ?_) (a' := ?_) #[true, true, false, false, false] rfl rfl (by kernel_rfl) (fun _ _ _ h => h) (Or.inl ⟨by rfl, ?_⟩) hHeld ?_ ?_
          rotate_left
          ·rintro w' ⟨s0, s1, s2, s3⟩
           go_simp
           with_reducible rfl
          rotate_left
          ·simp only [Act.put, List.setIfInBounds_toArray, List.set_cons_zero, List.set_cons_succ, i64_w, i32_w]
           rfl
          refine one_ (i := 2) (N := some 74) #[true, true, true, false, false] rfl rfl (by kernel_rfl) (by decide) (fun K hK => ?_)
          refine goes_ Try.func18 (by kernel_rfl) rfl #[.agg #[.int .i64 a1_0, .slice A1_1 l1_1.length c1_1]] (by rfl) rfl rfl (by (try simp only [List.map_toArray, List.map_cons, List.map_nil]); first | done | rfl | (simp only [List.length_drop, List.length_take]; rfl)) ?_
          with_reducible refine (laws_toPlan.calls kj46 a1_0 _ _ l1_1 t345 t346 _ ?side1 ?side2 A112.out).mono ?_
          (case side1 => exact cS (Kd.C_below HR1_1.out HB.out))
          (case side2 => exact HC1_1.out)
          rintro e w129 ⟨v347, rfl, ho0, hb⟩
          refine ⟨_, rfl, ?_⟩
          have n0_ := AZ (Kd.R_elder' (rS HO_8.out) (Kd.R_base ho0) hb)
          have n1_ := AZ (Kd.R_elder' (rS HO_13.out) (Kd.R_base ho0) hb)
          have n2_ := AZ (Kd.S_elder' (sS HO_315000.out) (Kd.R_base ho0) hb)
          have n3_ := AZ (Kd.R_elder' (rS HO_315001.out) (Kd.R_base ho0) hb)
          have n4_ := AZ (Kd.R_elder' (rS HO_315002.out) (Kd.R_base ho0) hb)
          have n5_ := AZ (Kd.R_elder' (rS HO_320001.out) (Kd.R_base ho0) hb)
          have n6_ := AZ (Kd.R_elder' (rS HO_325001.out) (Kd.R_base ho0) hb)
          have n7_ := AZ (Kd.S_elder' (sS HO332.out) (Kd.R_base ho0) hb)
          have n8_ := AZ (Kd.R_elder' (rS HO335.out) (Kd.R_base ho0) hb)
          have n9_ := AZ (Kd.R_elder' (rS HO338.out) (Kd.R_base ho0) hb)
          have n10_ := AZ (Kd.R_lower (Kd.R_new' (Kd.R_new' (Kd.R_new' (Kd.R_new' (Kd.R_new' (Kd.R_new' (Kd.R_new' (Kd.R_new' ho0 (Kd.R_lt (rS HO_8.out))) (Kd.R_lt (rS HO_13.out))) (Kd.R_lt (rS HO_315001.out))) (Kd.R_lt (rS HO_315002.out))) (Kd.R_lt (rS HO_320001.out))) (Kd.R_lt (rS HO_325001.out))) (Kd.R_lt (rS HO335.out))) (Kd.R_lt (rS HO338.out))) (below_size (bS HB.out)))
          have n11_ := blkA BK268 hb
          have n12_ := blkA BK269 hb
          have n13_ := blkA BK270 hb
          have n14_ := blkA BK314 hb
          have n15_ := blkA BK319 hb
          have n16_ := blkA BK324 hb
          have n17_ := AZ (below_step (bS HB.out) hb)
          clear HO_8
          clear HO_13
          clear HO_315000
          clear HO_315001
          clear HO_315002
          clear HO_320001
          clear HO_325001
          clear HO332
          clear HO335
          clear HO338
          clear BK268
          clear BK269
          clear BK270
          clear BK314
          clear BK319
          clear BK324
          clear HB
          have HO_8 := n0_
          have HO_13 := n1_
          have HO_315000 := n2_
          have HO_315001 := n3_
          have HO_315002 := n4_
          have HO_320001 := n5_
          have HO_325001 := n6_
          have HO332 := n7_
          have HO335 := n8_
          have HO338 := n9_
          have HO348 := n10_
          have BK268 := n11_
          have BK269 := n12_
          have BK270 := n13_
          have BK314 := n14_
          have BK319 := n15_
          have BK324 := n16_
          have HB := n17_
          clear n0_ n1_ n2_ n3_ n4_ n5_ n6_ n7_ n8_ n9_ n10_ n11_ n12_ n13_ n14_ n15_ n16_ n17_
          (try clear hb)
          (try clear hb2)
          (try clear hk)
          (try clear hi)
          (try clear ho0)
          obtain ⟨Ao130, co130, eo130⟩ := Kd.R_slice HO348.out
          (first | subst eo130 | (injection eo130 with f1_ f2_ f3_; have f4_ := f1_.symm; have f5_ := f3_.symm; clear f1_ f2_ f3_; subst f4_; subst f5_))
          refine hK.out _ _ ⟨(blk_cell BK319.out 0).trans rfl, (blk_cell BK319.out 1).trans rfl, (blk_cell BK269.out 0).trans rfl, (blk_cell BK269.out 1).trans rfl⟩ (fun hHeld => ?_)
          clear hK K
          refine norm_ (a' := ?_) ?_ ?_
          rotate_left
          ·show Act.put _ (some 74) _ = _
           simp only [Act.put, List.setIfInBounds_toArray, List.set_cons_zero, List.set_cons_succ, i64_w, i32_w]
           rfl
          refine one_ (i := 3) (N := some 75) #[true, true, true, true, false] rfl rfl (by kernel_rfl) (by decide) (fun K hK => ?_)
          refine goes_ Try.func21 (by kernel_rfl) rfl #[.agg #[.int .i64 t315, .slice Ao88 t316.length co88], .agg #[.int .i64 t345, .slice Ao130 t346.length co130]] (by rfl) rfl rfl (by (try simp only [List.map_toArray, List.map_cons, List.map_nil]); first | done | rfl | (simp only [List.length_drop, List.length_take]; rfl)) ?_
          with_reducible refine (laws_eqPlan.calls kj46 t315 _ _ t316 t345 _ _ t346 true _ ?side1 ?side2 ?side3 ?side4 A113.out).mono ?_
          (case side1 => exact cS (Kd.R_reads' HO_320001.out).2.2)
          (case side2 => exact (Kd.R_reads' HO_320001.out).2.1)
          (case side3 => exact cS (Kd.R_reads' HO348.out).2.2)
          (case side4 => exact (Kd.R_reads' HO348.out).2.1)
          rintro e w131 ⟨rfl, hb⟩
          refine ⟨_, rfl, ?_⟩
          have n0_ := AZ (Kd.R_below (rS HO_8.out) hb)
          have n1_ := AZ (Kd.R_below (rS HO_13.out) hb)
          have n2_ := AZ (Kd.S_below (sS HO_315000.out) hb)
          have n3_ := AZ (Kd.R_below (rS HO_315001.out) hb)
          have n4_ := AZ (Kd.R_below (rS HO_315002.out) hb)
          have n5_ := AZ (Kd.R_below (rS HO_320001.out) hb)
          have n6_ := AZ (Kd.R_below (rS HO_325001.out) hb)
          have n7_ := AZ (Kd.S_below (sS HO332.out) hb)
          have n8_ := AZ (Kd.R_below (rS HO335.out) hb)
          have n9_ := AZ (Kd.R_below (rS HO338.out) hb)
          have n10_ := AZ (Kd.R_below (rS HO348.out) hb)
          have n11_ := blkA BK268 hb
          have n12_ := blkA BK269 hb
          have n13_ := blkA BK270 hb
          have n14_ := blkA BK314 hb
          have n15_ := blkA BK319 hb
          have n16_ := blkA BK324 hb
          have n17_ := AZ (below_step (bS HB.out) hb)
          clear HO_8
          clear HO_13
          clear HO_315000
          clear HO_315001
          clear HO_315002
          clear HO_320001
          clear HO_325001
          clear HO332
          clear HO335
          clear HO338
          clear HO348
          clear BK268
          clear BK269
          clear BK270
          clear BK314
          clear BK319
          clear BK324
          clear HB
          have HO_8 := n0_
          have HO_13 := n1_
          have HO_315000 := n2_
          have HO_315001 := n3_
          have HO_315002 := n4_
          have HO_320001 := n5_
          have HO_325001 := n6_
          have HO332 := n7_
          have HO335 := n8_
          have HO338 := n9_
          have HO348 := n10_
          have BK268 := n11_
          have BK269 := n12_
          have BK270 := n13_
          have BK314 := n14_
          have BK319 := n15_
          have BK324 := n16_
          have HB := n17_
          clear n0_ n1_ n2_ n3_ n4_ n5_ n6_ n7_ n8_ n9_ n10_ n11_ n12_ n13_ n14_ n15_ n16_ n17_
          (try clear hb)
          (try clear hb2)
          (try clear hk)
          (try clear hi)
          refine hK.out _ _ ⟨(blk_cell BK319.out 0).trans rfl, (blk_cell BK319.out 1).trans rfl, (blk_cell BK269.out 0).trans rfl, (blk_cell BK269.out 1).trans rfl⟩ (fun hHeld => ?_)
          clear hK K
          refine norm_ (a' := ?_) ?_ ?_
          rotate_left
          ·show Act.put _ (some 75) _ = _
           simp only [Act.put, List.setIfInBounds_toArray, List.set_cons_zero, List.set_cons_succ, i64_w, i32_w]
           rfl
          refine pure_ (i := 4) (N := some 76) (v := ?_) (a' := ?_) #[true, true, true, true, true] rfl rfl (by kernel_rfl) (fun _ _ _ h => h) (Or.inl ⟨by rfl, ?_⟩) ?_ ?_
          rotate_left
          ·intro w'
           go_simp
           with_reducible rfl
          rotate_left
          ·simp only [Act.put, List.setIfInBounds_toArray, List.set_cons_zero, List.set_cons_succ, i64_w, i32_w]
           rfl
          refine done_ (by kernel_rfl) ?_
          try go_wp2
          have n0_ := AZ (Kd.R_drew HO_8.out)
          have n1_ := AZ (Kd.R_drew HO_13.out)
          have n2_ := AZ (Kd.S_drew HO_315000.out)
          have n3_ := AZ (Kd.R_drew HO_315001.out)
          have n4_ := AZ (Kd.R_drew HO_315002.out)
          have n5_ := AZ (Kd.R_drew HO_320001.out)
          have n6_ := AZ (Kd.R_drew HO_325001.out)
          have n7_ := AZ (Kd.S_drew HO332.out)
          have n8_ := AZ (Kd.R_drew HO335.out)
          have n9_ := AZ (Kd.R_drew HO338.out)
          have n10_ := AZ (Kd.R_drew HO348.out)
          have n11_ := AZ (blk_drew BK268.out)
          have n12_ := AZ (blk_drew BK269.out)
          have n13_ := AZ (blk_drew BK270.out)
          have n14_ := AZ (blk_drew BK314.out)
          have n15_ := AZ (blk_drew BK319.out)
          have n16_ := AZ (blk_drew BK324.out)
          have n17_ := AZ (below_drew1 HB.out)
          clear HO_8
          clear HO_13
          clear HO_315000
          clear HO_315001
          clear HO_315002
          clear HO_320001
          clear HO_325001
          clear HO332
          clear HO335
          clear HO338
          clear HO348
          clear BK268
          clear BK269
          clear BK270
          clear BK314
          clear BK319
          clear BK324
          clear HB
          have HO_8 := n0_
          have HO_13 := n1_
          have HO_315000 := n2_
          have HO_315001 := n3_
          have HO_315002 := n4_
          have HO_320001 := n5_
          have HO_325001 := n6_
          have HO332 := n7_
          have HO335 := n8_
          have HO338 := n9_
          have HO348 := n10_
          have BK268 := n11_
          have BK269 := n12_
          have BK270 := n13_
          have BK314 := n14_
          have BK319 := n15_
          have BK324 := n16_
          have HB := n17_
          clear n0_ n1_ n2_ n3_ n4_ n5_ n6_ n7_ n8_ n9_ n10_ n11_ n12_ n13_ n14_ n15_ n16_ n17_
          refine start_ (n := 5) (S := fun w' => w'.cell? ⟨gb324, 0, none⟩ = some (.int .i64 t320) ∧ w'.cell? ⟨gb324, 1, none⟩ = some (.slice Ao98 t321.length co98) ∧ w'.cell? ⟨gb270, 0, none⟩ = some (.int .i64 a2_0) ∧ w'.cell? ⟨gb270, 1, none⟩ = some (.slice A2_1 l2_1.length c2_1)) (ds := []) #[false, false, false, false, false] (by kernel_rfl) rfl rfl ⟨(blk_cell BK324.out 0).trans rfl, (blk_cell BK324.out 1).trans rfl, (blk_cell BK270.out 0).trans rfl, (blk_cell BK270.out 1).trans rfl⟩ (fun hHeld => ?_)
          generalize w131.drew = w132 at HO_8 HO_13 HO_315000 HO_315001 HO_315002 HO_320001 HO_325001 HO332 HO335 HO338 HO348 BK268 BK269 BK270 BK314 BK319 BK324 HB hHeld ⊢
          refine take_ (i := 0) (N := some 77) (v := ?_) (a' := ?_) #[true, false, false, false, false] rfl rfl (by kernel_rfl) (fun _ _ _ h => h) (Or.inl ⟨by rfl, ?_⟩) hHeld ?_ ?_
          rotate_left
          ·rintro w' ⟨s0, s1, s2, s3⟩
           go_simp
           with_reducible rfl
          rotate_left
          ·simp only [Act.put, List.setIfInBounds_toArray, List.set_cons_zero, List.set_cons_succ, i64_w, i32_w]
           rfl
          refine take_ (i := 1) (N := some 78) (v := ?_) (a' := ?_) #[true, true, false, false, false] rfl rfl (by kernel_rfl) (fun _ _ _ h => h) (Or.inl ⟨by rfl, ?_⟩) hHeld ?_ ?_
          rotate_left
          ·rintro w' ⟨s0, s1, s2, s3⟩
           go_simp
           with_reducible rfl
          rotate_left
          ·simp only [Act.put, List.setIfInBounds_toArray, List.set_cons_zero, List.set_cons_succ, i64_w, i32_w]
           rfl
          refine one_ (i := 2) (N := some 79) #[true, true, true, false, false] rfl rfl (by kernel_rfl) (by decide) (fun K hK => ?_)
          refine goes_ Try.func18 (by kernel_rfl) rfl #[.agg #[.int .i64 a2_0, .slice A2_1 l2_1.length c2_1]] (by rfl) rfl rfl (by (try simp only [List.map_toArray, List.map_cons, List.map_nil]); first | done | rfl | (simp only [List.length_drop, List.length_take]; rfl)) ?_
          with_reducible refine (laws_toPlan.calls kj46 a2_0 _ _ l2_1 t350 t351 _ ?side1 ?side2 A115.out).mono ?_
          (case side1 => exact cS (Kd.C_below HR2_1.out HB.out))
          (case side2 => exact HC2_1.out)
          rintro e w133 ⟨v352, rfl, ho0, hb⟩
          refine ⟨_, rfl, ?_⟩
          have n0_ := AZ (Kd.R_elder' (rS HO_8.out) (Kd.R_base ho0) hb)
          have n1_ := AZ (Kd.R_elder' (rS HO_13.out) (Kd.R_base ho0) hb)
          have n2_ := AZ (Kd.S_elder' (sS HO_315000.out) (Kd.R_base ho0) hb)
          have n3_ := AZ (Kd.R_elder' (rS HO_315001.out) (Kd.R_base ho0) hb)
          have n4_ := AZ (Kd.R_elder' (rS HO_315002.out) (Kd.R_base ho0) hb)
          have n5_ := AZ (Kd.R_elder' (rS HO_320001.out) (Kd.R_base ho0) hb)
          have n6_ := AZ (Kd.R_elder' (rS HO_325001.out) (Kd.R_base ho0) hb)
          have n7_ := AZ (Kd.S_elder' (sS HO332.out) (Kd.R_base ho0) hb)
          have n8_ := AZ (Kd.R_elder' (rS HO335.out) (Kd.R_base ho0) hb)
          have n9_ := AZ (Kd.R_elder' (rS HO338.out) (Kd.R_base ho0) hb)
          have n10_ := AZ (Kd.R_elder' (rS HO348.out) (Kd.R_base ho0) hb)
          have n11_ := AZ (Kd.R_lower (Kd.R_new' (Kd.R_new' (Kd.R_new' (Kd.R_new' (Kd.R_new' (Kd.R_new' (Kd.R_new' (Kd.R_new' (Kd.R_new' ho0 (Kd.R_lt (rS HO_8.out))) (Kd.R_lt (rS HO_13.out))) (Kd.R_lt (rS HO_315001.out))) (Kd.R_lt (rS HO_315002.out))) (Kd.R_lt (rS HO_320001.out))) (Kd.R_lt (rS HO_325001.out))) (Kd.R_lt (rS HO335.out))) (Kd.R_lt (rS HO338.out))) (Kd.R_lt (rS HO348.out))) (below_size (bS HB.out)))
          have n12_ := blkA BK268 hb
          have n13_ := blkA BK269 hb
          have n14_ := blkA BK270 hb
          have n15_ := blkA BK314 hb
          have n16_ := blkA BK319 hb
          have n17_ := blkA BK324 hb
          have n18_ := AZ (below_step (bS HB.out) hb)
          clear HO_8
          clear HO_13
          clear HO_315000
          clear HO_315001
          clear HO_315002
          clear HO_320001
          clear HO_325001
          clear HO332
          clear HO335
          clear HO338
          clear HO348
          clear BK268
          clear BK269
          clear BK270
          clear BK314
          clear BK319
          clear BK324
          clear HB
          have HO_8 := n0_
          have HO_13 := n1_
          have HO_315000 := n2_
          have HO_315001 := n3_
          have HO_315002 := n4_
          have HO_320001 := n5_
          have HO_325001 := n6_
          have HO332 := n7_
          have HO335 := n8_
          have HO338 := n9_
          have HO348 := n10_
          have HO353 := n11_
          have BK268 := n12_
          have BK269 := n13_
          have BK270 := n14_
          have BK314 := n15_
          have BK319 := n16_
          have BK324 := n17_
          have HB := n18_
          clear n0_ n1_ n2_ n3_ n4_ n5_ n6_ n7_ n8_ n9_ n10_ n11_ n12_ n13_ n14_ n15_ n16_ n17_ n18_
          (try clear hb)
          (try clear hb2)
          (try clear hk)
          (try clear hi)
          (try clear ho0)
          obtain ⟨Ao134, co134, eo134⟩ := Kd.R_slice HO353.out
          (first | subst eo134 | (injection eo134 with f1_ f2_ f3_; have f4_ := f1_.symm; have f5_ := f3_.symm; clear f1_ f2_ f3_; subst f4_; subst f5_))
          refine hK.out _ _ ⟨(blk_cell BK324.out 0).trans rfl, (blk_cell BK324.out 1).trans rfl, (blk_cell BK270.out 0).trans rfl, (blk_cell BK270.out 1).trans rfl⟩ (fun hHeld => ?_)
          clear hK K
          refine norm_ (a' := ?_) ?_ ?_
          rotate_left
          ·show Act.put _ (some 79) _ = _
           simp only [Act.put, List.setIfInBounds_toArray, List.set_cons_zero, List.set_cons_succ, i64_w, i32_w]
           rfl
          refine one_ (i := 3) (N := some 80) #[true, true, true, true, false] rfl rfl (by kernel_rfl) (by decide) (fun K hK => ?_)
          refine goes_ Try.func21 (by kernel_rfl) rfl #[.agg #[.int .i64 t320, .slice Ao98 t321.length co98], .agg #[.int .i64 t350, .slice Ao134 t351.length co134]] (by rfl) rfl rfl (by (try simp only [List.map_toArray, List.map_cons, List.map_nil]); first | done | rfl | (simp only [List.length_drop, List.length_take]; rfl)) ?_
          with_reducible refine (laws_eqPlan.calls kj46 t320 _ _ t321 t350 _ _ t351 true _ ?side1 ?side2 ?side3 ?side4 A116.out).mono ?_
          (case side1 => exact cS (Kd.R_reads' HO_325001.out).2.2)
          (case side2 => exact (Kd.R_reads' HO_325001.out).2.1)
          (case side3 => exact cS (Kd.R_reads' HO353.out).2.2)
          (case side4 => exact (Kd.R_reads' HO353.out).2.1)
          rintro e w135 ⟨rfl, hb⟩
          refine ⟨_, rfl, ?_⟩
          have n0_ := AZ (Kd.R_below (rS HO_8.out) hb)
          have n1_ := AZ (Kd.R_below (rS HO_13.out) hb)
          have n2_ := AZ (Kd.S_below (sS HO_315000.out) hb)
          have n3_ := AZ (Kd.R_below (rS HO_315001.out) hb)
          have n4_ := AZ (Kd.R_below (rS HO_315002.out) hb)
          have n5_ := AZ (Kd.R_below (rS HO_320001.out) hb)
          have n6_ := AZ (Kd.R_below (rS HO_325001.out) hb)
          have n7_ := AZ (Kd.S_below (sS HO332.out) hb)
          have n8_ := AZ (Kd.R_below (rS HO335.out) hb)
          have n9_ := AZ (Kd.R_below (rS HO338.out) hb)
          have n10_ := AZ (Kd.R_below (rS HO348.out) hb)
          have n11_ := AZ (Kd.R_below (rS HO353.out) hb)
          have n12_ := blkA BK268 hb
          have n13_ := blkA BK269 hb
          have n14_ := blkA BK270 hb
          have n15_ := blkA BK314 hb
          have n16_ := blkA BK319 hb
          have n17_ := blkA BK324 hb
          have n18_ := AZ (below_step (bS HB.out) hb)
          clear HO_8
          clear HO_13
          clear HO_315000
          clear HO_315001
          clear HO_315002
          clear HO_320001
          clear HO_325001
          clear HO332
          clear HO335
          clear HO338
          clear HO348
          clear HO353
          clear BK268
          clear BK269
          clear BK270
          clear BK314
          clear BK319
          clear BK324
          clear HB
          have HO_8 := n0_
          have HO_13 := n1_
          have HO_315000 := n2_
          have HO_315001 := n3_
          have HO_315002 := n4_
          have HO_320001 := n5_
          have HO_325001 := n6_
          have HO332 := n7_
          have HO335 := n8_
          have HO338 := n9_
          have HO348 := n10_
          have HO353 := n11_
          have BK268 := n12_
          have BK269 := n13_
          have BK270 := n14_
          have BK314 := n15_
          have BK319 := n16_
          have BK324 := n17_
          have HB := n18_
          clear n0_ n1_ n2_ n3_ n4_ n5_ n6_ n7_ n8_ n9_ n10_ n11_ n12_ n13_ n14_ n15_ n16_ n17_ n18_
          (try clear hb)
          (try clear hb2)
          (try clear hk)
          (try clear hi)
          refine hK.out _ _ ⟨(blk_cell BK324.out 0).trans rfl, (blk_cell BK324.out 1).trans rfl, (blk_cell BK270.out 0).trans rfl, (blk_cell BK270.out 1).trans rfl⟩ (fun hHeld => ?_)
          clear hK K
          refine norm_ (a' := ?_) ?_ ?_
          rotate_left
          ·show Act.put _ (some 80) _ = _
           simp only [Act.put, List.setIfInBounds_toArray, List.set_cons_zero, List.set_cons_succ, i64_w, i32_w]
           rfl
          refine pure_ (i := 4) (N := some 81) (v := ?_) (a' := ?_) #[true, true, true, true, true] rfl rfl (by kernel_rfl) (fun _ _ _ h => h) (Or.inl ⟨by rfl, ?_⟩) ?_ ?_
          rotate_left
          ·intro w'
           go_simp
           with_reducible rfl
          rotate_left
          ·simp only [Act.put, List.setIfInBounds_toArray, List.set_cons_zero, List.set_cons_succ, i64_w, i32_w]
           rfl
          refine done_ (by kernel_rfl) ?_
          have hnb136 := NB314_268.out
          have hnc136 := NB268_314.out
          have hnb137 := NB314_269.out
          have hnc137 := NB269_314.out
          have hnb138 := NB314_270.out
          have hnc138 := NB270_314.out
          have hnb139 := NB314_319.out
          have hnc139 := NB319_314.out
          have hnb140 := NB314_324.out
          have hnc140 := NB324_314.out
          have hcz141_0 : w135.cell? ⟨gb314, 0, none⟩ = some (.slice Ao73 t300.length co73) := (blk_cell BK314.out 0).trans rfl
          have hcz141_1 : w135.cell? ⟨gb314, 1, none⟩ = some (.slice Ao78 t303.length co78) := (blk_cell BK314.out 1).trans rfl
          have hcz141_2 : w135.cell? ⟨gb314, 2, none⟩ = some (.slice Ao79 t306.length co79) := (blk_cell BK314.out 2).trans rfl
          have hcz141_3 : w135.cell? ⟨gb314, 3, none⟩ = some (.int .i64 t309) := (blk_cell BK314.out 3).trans rfl
          have hcz141_4 : w135.cell? ⟨gb314, 4, none⟩ = some (.int .i64 t310) := (blk_cell BK314.out 4).trans rfl
          have hcz141_5 : w135.cell? ⟨gb314, 5, none⟩ = some (.int .i64 t311) := (blk_cell BK314.out 5).trans rfl
          have hcz141_6 : w135.cell? ⟨gb314, 6, none⟩ = some (.int .i64 t312) := (blk_cell BK314.out 6).trans rfl
          have hcz141_7 : w135.cell? ⟨gb314, 7, none⟩ = some (.int .i64 t313) := (blk_cell BK314.out 7).trans rfl
          have hfz141_0 := blk_frozen BK314.out 0
          have hfz141_1 := blk_frozen BK314.out 1
          have hfz141_2 := blk_frozen BK314.out 2
          have hfz141_3 := blk_frozen BK314.out 3
          have hfz141_4 := blk_frozen BK314.out 4
          have hfz141_5 := blk_frozen BK314.out 5
          have hfz141_6 := blk_frozen BK314.out 6
          have hfz141_7 := blk_frozen BK314.out 7
          go_upto_region 28 with (first | ((with_reducible refine gate_callee (f := 37) rfl ?_); refine gL (some 84) Try.func37 #[.agg #[.slice Ao73 t300.length co73, .slice Ao78 t303.length co78, .slice Ao79 t306.length co79, .int .i64 t309, .int .i64 t310, .int .i64 t311, .int .i64 t312, .int .i64 t313], .int .i64 1] ?_; (with_reducible refine (laws_markJob.calls kj46 ?P1 (.slice Ao73 t300.length co73) t300 ?P2 (.slice Ao78 t303.length co78) t303 ?P3 (.slice Ao79 t306.length co79) t306 t309 t310 t311 t312 t313 1 t355 w _ ?side1 ?side2 ?side3 ?side4 ?side5 ?side6 ?side7 ?side8 ?side9 ?side10 A118.out).mono ?_); (case side1 => repeat (first | (with_reducible first | exact HB.out | apply below_alloc | apply pw_below_drewN | apply below_drew1 | refine below_set ?_ GE268.out | refine below_set ?_ GE269.out | refine below_set ?_ GE270.out | refine below_set ?_ GE314.out | refine below_set ?_ GE319.out | refine below_set ?_ GE324.out) | exact HB.out)); (case side2 => exact Kd.S_bound (HO_315000.out)); (case side3 => exact fun k_ hk_ => hk_.2.2.1); (case side4 => exact Kd.R_tight rfl (HO_315001.out)); (case side5 => exact fun k_ hk_ => Kd.R_lt (HO_315001.out) k_ hk_.symm); (case side6 => exact Kd.R_tight rfl (HO_315002.out)); (case side7 => exact fun k_ hk_ => Kd.R_lt (HO_315002.out) k_ hk_.symm); (case side8 => exact fun k_ hj_ hi_ => ((hi_).1.1.1.1.1.1.2.2.1) hj_); (case side9 => exact fun k_ hj_ hi_ => ((hi_).1.1.1.1.1.1.2.2.2.1) hj_); (case side10 => exact fun k_ hj_ hi_ => (((HO_315001.out).1 k_ (hi_).symm).1.1.1.1.2.2.1) hj_); rintro e w142 ⟨rfl, hb, hkp⟩; refine ⟨_, rfl, ?_⟩; have n0_ := AZ (Kd.R_mono (Kd.R_kept (Kd.R_tight rfl (HO_8.out)) hkp (fun k_ e_ hs_ => Or.elim hs_ (fun z_ => ((z_).1.1.1.1.1.1.1) e_) (fun z_ => Or.elim z_ (fun z_ => (((HO_315001.out).1 k_ (z_).symm).1.1.1.1.1) e_) (fun z_ => ((((HO_315002.out).1 k_ (z_).symm).1.1.1.1.1) e_))))) (fun k_ e_ => (HO_8.out).1 k_ e_.symm)); have n1_ := AZ (Kd.R_mono (Kd.R_kept (Kd.R_tight rfl (HO_13.out)) hkp (fun k_ e_ hs_ => Or.elim hs_ (fun z_ => ((z_).1.1.1.1.1.1.2.1) e_) (fun z_ => Or.elim z_ (fun z_ => (((HO_315001.out).1 k_ (z_).symm).1.1.1.1.2.1) e_) (fun z_ => ((((HO_315002.out).1 k_ (z_).symm).1.1.1.1.2.1) e_))))) (fun k_ e_ => (HO_13.out).1 k_ e_.symm)); have n2_ := AZ (Kd.R_mono (Kd.R_kept (Kd.R_tight rfl (HO_320001.out)) hkp (fun k_ e_ hs_ => Or.elim hs_ (fun z_ => ((z_).1.1.1.1.1.1.2.2.2.2.1) e_) (fun z_ => Or.elim z_ (fun z_ => (((HO_315001.out).1 k_ (z_).symm).1.1.1.1.2.2.2.1) e_) (fun z_ => ((((HO_315002.out).1 k_ (z_).symm).1.1.1.1.2.2.2.1) e_))))) (fun k_ e_ => (HO_320001.out).1 k_ e_.symm)); have n3_ := AZ (Kd.R_mono (Kd.R_kept (Kd.R_tight rfl (HO_325001.out)) hkp (fun k_ e_ hs_ => Or.elim hs_ (fun z_ => ((z_).1.1.1.1.1.1.2.2.2.2.2) e_) (fun z_ => Or.elim z_ (fun z_ => (((HO_315001.out).1 k_ (z_).symm).1.1.1.1.2.2.2.2) e_) (fun z_ => ((((HO_315002.out).1 k_ (z_).symm).1.1.1.1.2.2.2.2) e_))))) (fun k_ e_ => (HO_325001.out).1 k_ e_.symm)); have n4_ := AZ (blk_kept (g := gb268) (o := .cells #[.slice A0_0 l0_0.length c0_0, .slice A0_1 l0_1.length c0_1, .slice A0_2 l0_2.length c0_2, .int .i64 a0_3, .int .i64 a0_4, .int .i64 a0_5, .int .i64 a0_6, .int .i64 a0_7] 27 (0, 0)) (blkS BK268.out) hkp (fun hs_ => Or.elim hs_ (fun z_ => typed_absurd ((z_).2.2.2) ⟨_, blkS BK268.out⟩ (by decide)) (fun z_ => Or.elim z_ (fun z_ => typed_absurd (typed_one (Kd.R_typed (HO_315001.out) _ (z_).symm)) ⟨_, blkS BK268.out⟩ (by decide)) (fun z_ => (typed_absurd (typed_one (Kd.R_typed (HO_315002.out) _ (z_).symm)) ⟨_, blkS BK268.out⟩ (by decide)))))); have n5_ := AZ (blk_kept (g := gb269) (o := .cells #[.int .i64 a1_0, .slice A1_1 l1_1.length c1_1] 29 (0, 0)) (blkS BK269.out) hkp (fun hs_ => Or.elim hs_ (fun z_ => typed_absurd ((z_).2.2.2) ⟨_, blkS BK269.out⟩ (by decide)) (fun z_ => Or.elim z_ (fun z_ => typed_absurd (typed_one (Kd.R_typed (HO_315001.out) _ (z_).symm)) ⟨_, blkS BK269.out⟩ (by decide)) (fun z_ => (typed_absurd (typed_one (Kd.R_typed (HO_315002.out) _ (z_).symm)) ⟨_, blkS BK269.out⟩ (by decide)))))); have n6_ := AZ (blk_kept (g := gb270) (o := .cells #[.int .i64 a2_0, .slice A2_1 l2_1.length c2_1] 29 (0, 0)) (blkS BK270.out) hkp (fun hs_ => Or.elim hs_ (fun z_ => typed_absurd ((z_).2.2.2) ⟨_, blkS BK270.out⟩ (by decide)) (fun z_ => Or.elim z_ (fun z_ => typed_absurd (typed_one (Kd.R_typed (HO_315001.out) _ (z_).symm)) ⟨_, blkS BK270.out⟩ (by decide)) (fun z_ => (typed_absurd (typed_one (Kd.R_typed (HO_315002.out) _ (z_).symm)) ⟨_, blkS BK270.out⟩ (by decide)))))); have n7_ := AZ (blk_kept (g := gb314) (o := .cells #[.slice Ao73 t300.length co73, .slice Ao78 t303.length co78, .slice Ao79 t306.length co79, .int .i64 t309, .int .i64 t310, .int .i64 t311, .int .i64 t312, .int .i64 t313] 36 (0, 0)) (blkS BK314.out) hkp (fun hs_ => Or.elim hs_ (fun z_ => typed_absurd ((z_).2.2.2) ⟨_, blkS BK314.out⟩ (by decide)) (fun z_ => Or.elim z_ (fun z_ => typed_absurd (typed_one (Kd.R_typed (HO_315001.out) _ (z_).symm)) ⟨_, blkS BK314.out⟩ (by decide)) (fun z_ => (typed_absurd (typed_one (Kd.R_typed (HO_315002.out) _ (z_).symm)) ⟨_, blkS BK314.out⟩ (by decide)))))); have n8_ := AZ (blk_kept (g := gb319) (o := .cells #[.int .i64 t315, .slice Ao88 t316.length co88] 38 (0, 0)) (blkS BK319.out) hkp (fun hs_ => Or.elim hs_ (fun z_ => typed_absurd ((z_).2.2.2) ⟨_, blkS BK319.out⟩ (by decide)) (fun z_ => Or.elim z_ (fun z_ => typed_absurd (typed_one (Kd.R_typed (HO_315001.out) _ (z_).symm)) ⟨_, blkS BK319.out⟩ (by decide)) (fun z_ => (typed_absurd (typed_one (Kd.R_typed (HO_315002.out) _ (z_).symm)) ⟨_, blkS BK319.out⟩ (by decide)))))); have n9_ := AZ (blk_kept (g := gb324) (o := .cells #[.int .i64 t320, .slice Ao98 t321.length co98] 38 (0, 0)) (blkS BK324.out) hkp (fun hs_ => Or.elim hs_ (fun z_ => typed_absurd ((z_).2.2.2) ⟨_, blkS BK324.out⟩ (by decide)) (fun z_ => Or.elim z_ (fun z_ => typed_absurd (typed_one (Kd.R_typed (HO_315001.out) _ (z_).symm)) ⟨_, blkS BK324.out⟩ (by decide)) (fun z_ => (typed_absurd (typed_one (Kd.R_typed (HO_315002.out) _ (z_).symm)) ⟨_, blkS BK324.out⟩ (by decide)))))); have n10_ := AZ (Kd.R_mono (Kd.R_kept (Kd.R_tight rfl (HO335.out)) hkp (fun k_ e_ hs_ => Or.elim hs_ (fun z_ => ((z_).1.1.1.1.2) e_) (fun z_ => Or.elim z_ (fun z_ => (((HO_315001.out).1 k_ (z_).symm).1.1.1.2) e_) (fun z_ => ((((HO_315002.out).1 k_ (z_).symm).1.1.1.2) e_))))) (fun k_ e_ => (HO335.out).1 k_ e_.symm)); have n11_ := AZ (Kd.R_mono (Kd.R_kept (Kd.R_tight rfl (HO338.out)) hkp (fun k_ e_ hs_ => Or.elim hs_ (fun z_ => ((z_).1.1.1.2) e_) (fun z_ => Or.elim z_ (fun z_ => (((HO_315001.out).1 k_ (z_).symm).1.1.2) e_) (fun z_ => ((((HO_315002.out).1 k_ (z_).symm).1.1.2) e_))))) (fun k_ e_ => (HO338.out).1 k_ e_.symm)); have n12_ := AZ (Kd.R_mono (Kd.R_kept (Kd.R_tight rfl (HO348.out)) hkp (fun k_ e_ hs_ => Or.elim hs_ (fun z_ => ((z_).1.1.2) e_) (fun z_ => Or.elim z_ (fun z_ => (((HO_315001.out).1 k_ (z_).symm).1.2) e_) (fun z_ => ((((HO_315002.out).1 k_ (z_).symm).1.2) e_))))) (fun k_ e_ => (HO348.out).1 k_ e_.symm)); have n13_ := AZ (Kd.R_mono (Kd.R_kept (Kd.R_tight rfl (HO353.out)) hkp (fun k_ e_ hs_ => Or.elim hs_ (fun z_ => ((z_).1.2) e_) (fun z_ => Or.elim z_ (fun z_ => (((HO_315001.out).1 k_ (z_).symm).2) e_) (fun z_ => ((((HO_315002.out).1 k_ (z_).symm).2) e_))))) (fun k_ e_ => (HO353.out).1 k_ e_.symm)); have n14_ := AZ (hb); clear HO_8; clear HO_13; clear HO_320001; clear HO_325001; clear BK268; clear BK269; clear BK270; clear BK314; clear BK319; clear BK324; clear HO335; clear HO338; clear HO348; clear HO353; clear HB; clear HO_315000; clear HO_315001; clear HO_315002; clear HO332; have HO_8 := n0_; have HO_13 := n1_; have HO_320001 := n2_; have HO_325001 := n3_; have BK268 := n4_; have BK269 := n5_; have BK270 := n6_; have BK314 := n7_; have BK319 := n8_; have BK324 := n9_; have HO335 := n10_; have HO338 := n11_; have HO348 := n12_; have HO353 := n13_; have HB := n14_; clear n0_ n1_ n2_ n3_ n4_ n5_ n6_ n7_ n8_ n9_ n10_ n11_ n12_ n13_ n14_; (try clear hb hkp); have hnb143 := NB319_268.out; have hnc143 := NB268_319.out; have hnb144 := NB319_269.out; have hnc144 := NB269_319.out; have hnb145 := NB319_270.out; have hnc145 := NB270_319.out; have hnb146 := NB319_324.out; have hnc146 := NB324_319.out; have hcz147_0 : w142.cell? ⟨gb319, 0, none⟩ = some (.int .i64 t315) := (blk_cell BK319.out 0).trans rfl; have hcz147_1 : w142.cell? ⟨gb319, 1, none⟩ = some (.slice Ao88 t316.length co88) := (blk_cell BK319.out 1).trans rfl; have hfz147_0 := blk_frozen BK319.out 0; have hfz147_1 := blk_frozen BK319.out 1) | ((with_reducible refine gate_callee (f := 38) rfl ?_); refine gL (some 87) Try.func38 #[.agg #[.int .i64 t315, .slice Ao88 t316.length co88], .int .i64 t355] ?_; (with_reducible refine (laws_markPlan.calls kj46 t315 (fun k_ => some k_ = (.slice Ao88 t316.length co88 : Value).ownBlock) (.slice Ao88 t316.length co88) t316 t355 t356 t357 w _ ?side1 ?side2 A119.out).mono ?_); (case side1 => repeat (first | (with_reducible first | exact HB.out | apply below_alloc | apply pw_below_drewN | apply below_drew1 | refine below_set ?_ GE268.out | refine below_set ?_ GE269.out | refine below_set ?_ GE270.out | refine below_set ?_ GE314.out | refine below_set ?_ GE319.out | refine below_set ?_ GE324.out) | exact HB.out)); (case side2 => exact Kd.R_tight rfl HO_320001.out); rintro e w148 ⟨rfl, hy0, hb, hkp⟩; refine ⟨_, rfl, ?_⟩; have n0_ := AZ (Kd.R_mono (ok' := fun k_ => some k_ ≠ (v326 : Value).ownBlock ∧ some k_ ≠ (.slice Ao88 t316.length co88 : Value).ownBlock ∧ some k_ ≠ (.slice Ao98 t321.length co98 : Value).ownBlock ∧ some k_ ≠ (.slice Ao125 t333.length co125 : Value).ownBlock ∧ some k_ ≠ (.slice Ao126 t336.length co126 : Value).ownBlock ∧ some k_ ≠ (.slice Ao130 t346.length co130 : Value).ownBlock ∧ some k_ ≠ (.slice Ao134 t351.length co134 : Value).ownBlock) (Kd.R_keptB (HO_8.out) hkp (fun k_ hk_ hs_ => (hk_.1.1.1.1.2.2.2.1) hs_)) (fun k_ hk_ => ⟨hk_.1.1.1.1.1.1, hk_.1.1.1.1.1.2.2.2.1, hk_.1.1.1.1.1.2.2.2.2, hk_.1.1.1.1.2, hk_.1.1.1.2, hk_.1.1.2, hk_.1.2⟩)); have n1_ := AZ (Kd.R_mono (ok' := fun k_ => some k_ ≠ (v297 : Value).ownBlock ∧ some k_ ≠ (.slice Ao88 t316.length co88 : Value).ownBlock ∧ some k_ ≠ (.slice Ao98 t321.length co98 : Value).ownBlock ∧ some k_ ≠ (.slice Ao125 t333.length co125 : Value).ownBlock ∧ some k_ ≠ (.slice Ao126 t336.length co126 : Value).ownBlock ∧ some k_ ≠ (.slice Ao130 t346.length co130 : Value).ownBlock ∧ some k_ ≠ (.slice Ao134 t351.length co134 : Value).ownBlock) (Kd.R_keptB (HO_13.out) hkp (fun k_ hk_ hs_ => (hk_.1.1.1.1.2.2.2.1) hs_)) (fun k_ hk_ => ⟨hk_.1.1.1.1.1.1, hk_.1.1.1.1.1.2.2.2.1, hk_.1.1.1.1.1.2.2.2.2, hk_.1.1.1.1.2, hk_.1.1.1.2, hk_.1.1.2, hk_.1.2⟩)); have n2_ := AZ (Kd.R_reok rfl hy0 (fun k_ e_ => HO_320001.out.1 k_ e_)); have n3_ := AZ (Kd.R_mono (ok' := fun k_ => some k_ ≠ (v297 : Value).ownBlock ∧ some k_ ≠ (v326 : Value).ownBlock ∧ some k_ ≠ (.slice Ao88 t316.length co88 : Value).ownBlock ∧ some k_ ≠ (.slice Ao125 t333.length co125 : Value).ownBlock ∧ some k_ ≠ (.slice Ao126 t336.length co126 : Value).ownBlock ∧ some k_ ≠ (.slice Ao130 t346.length co130 : Value).ownBlock ∧ some k_ ≠ (.slice Ao134 t351.length co134 : Value).ownBlock) (Kd.R_keptB (HO_325001.out) hkp (fun k_ hk_ hs_ => (hk_.1.1.1.1.2.2.2.2) hs_)) (fun k_ hk_ => ⟨hk_.1.1.1.1.1.1, hk_.1.1.1.1.1.2.1, hk_.1.1.1.1.1.2.2.2.2, hk_.1.1.1.1.2, hk_.1.1.1.2, hk_.1.1.2, hk_.1.2⟩)); have n4_ := AZ (blk_kept (blkS BK268.out) hkp (fun hs_ => (fun e_ => (Kd.R_ne HO_320001.out BK268.out (by decide)) e_) hs_)); have n5_ := AZ (blk_kept (blkS BK269.out) hkp (fun hs_ => (fun e_ => (Kd.R_ne HO_320001.out BK269.out (by decide)) e_) hs_)); have n6_ := AZ (blk_kept (blkS BK270.out) hkp (fun hs_ => (fun e_ => (Kd.R_ne HO_320001.out BK270.out (by decide)) e_) hs_)); have n7_ := AZ (blk_kept (blkS BK314.out) hkp (fun hs_ => (fun e_ => (Kd.R_ne HO_320001.out BK314.out (by decide)) e_) hs_)); have n8_ := AZ (blk_kept (blkS BK319.out) hkp (fun hs_ => (fun e_ => (Kd.R_ne HO_320001.out BK319.out (by decide)) e_) hs_)); have n9_ := AZ (blk_kept (blkS BK324.out) hkp (fun hs_ => (fun e_ => (Kd.R_ne HO_320001.out BK324.out (by decide)) e_) hs_)); have n10_ := AZ (Kd.R_mono (ok' := fun k_ => some k_ ≠ (v297 : Value).ownBlock ∧ some k_ ≠ (v326 : Value).ownBlock ∧ some k_ ≠ (.slice Ao88 t316.length co88 : Value).ownBlock ∧ some k_ ≠ (.slice Ao98 t321.length co98 : Value).ownBlock ∧ some k_ ≠ (.slice Ao126 t336.length co126 : Value).ownBlock ∧ some k_ ≠ (.slice Ao130 t346.length co130 : Value).ownBlock ∧ some k_ ≠ (.slice Ao134 t351.length co134 : Value).ownBlock) (Kd.R_keptB (HO335.out) hkp (fun k_ hk_ hs_ => (hk_.1.1.1.2) hs_)) (fun k_ hk_ => ⟨hk_.1.1.1.1.1.1.1.1.2, hk_.1.1.1.1.1.1.1.2, hk_.1.1.1.1.2, hk_.1.1.1.2, hk_.1.1.1.1.1.1.1.1.1, hk_.1.1.2, hk_.1.2⟩)); have n11_ := AZ (Kd.R_mono (ok' := fun k_ => some k_ ≠ (v297 : Value).ownBlock ∧ some k_ ≠ (v326 : Value).ownBlock ∧ some k_ ≠ (.slice Ao88 t316.length co88 : Value).ownBlock ∧ some k_ ≠ (.slice Ao98 t321.length co98 : Value).ownBlock ∧ some k_ ≠ (.slice Ao125 t333.length co125 : Value).ownBlock ∧ some k_ ≠ (.slice Ao130 t346.length co130 : Value).ownBlock ∧ some k_ ≠ (.slice Ao134 t351.length co134 : Value).ownBlock) (Kd.R_keptB (HO338.out) hkp (fun k_ hk_ hs_ => (hk_.1.1.1.2) hs_)) (fun k_ hk_ => ⟨hk_.1.1.1.1.1.1.1.1.2, hk_.1.1.1.1.1.1.1.2, hk_.1.1.1.1.2, hk_.1.1.1.2, hk_.1.1.1.1.1.1.1.1.1, hk_.1.1.2, hk_.1.2⟩)); have n12_ := AZ (Kd.R_mono (ok' := fun k_ => some k_ ≠ (v297 : Value).ownBlock ∧ some k_ ≠ (v326 : Value).ownBlock ∧ some k_ ≠ (.slice Ao88 t316.length co88 : Value).ownBlock ∧ some k_ ≠ (.slice Ao98 t321.length co98 : Value).ownBlock ∧ some k_ ≠ (.slice Ao125 t333.length co125 : Value).ownBlock ∧ some k_ ≠ (.slice Ao126 t336.length co126 : Value).ownBlock ∧ some k_ ≠ (.slice Ao134 t351.length co134 : Value).ownBlock) (Kd.R_keptB (HO348.out) hkp (fun k_ hk_ hs_ => (hk_.1.1.1.1.2) hs_)) (fun k_ hk_ => ⟨hk_.1.1.1.1.1.1.1.1.1.2, hk_.1.1.1.1.1.1.1.1.2, hk_.1.1.1.1.1.2, hk_.1.1.1.1.2, hk_.1.1.1.2, hk_.1.1.2, hk_.1.2⟩)); have n13_ := AZ (Kd.R_mono (ok' := fun k_ => some k_ ≠ (v297 : Value).ownBlock ∧ some k_ ≠ (v326 : Value).ownBlock ∧ some k_ ≠ (.slice Ao88 t316.length co88 : Value).ownBlock ∧ some k_ ≠ (.slice Ao98 t321.length co98 : Value).ownBlock ∧ some k_ ≠ (.slice Ao125 t333.length co125 : Value).ownBlock ∧ some k_ ≠ (.slice Ao126 t336.length co126 : Value).ownBlock ∧ some k_ ≠ (.slice Ao130 t346.length co130 : Value).ownBlock) (Kd.R_keptB (HO353.out) hkp (fun k_ hk_ hs_ => (hk_.1.1.1.1.2) hs_)) (fun k_ hk_ => ⟨hk_.1.1.1.1.1.1.1.1.1.2, hk_.1.1.1.1.1.1.1.1.2, hk_.1.1.1.1.1.2, hk_.1.1.1.1.2, hk_.1.1.1.2, hk_.1.1.2, hk_.1.2⟩)); have n14_ := AZ (hb); clear HO_8; clear HO_13; clear HO_320001; clear HO_325001; clear BK268; clear BK269; clear BK270; clear BK314; clear BK319; clear BK324; clear HO335; clear HO338; clear HO348; clear HO353; clear HB; have HO_8 := n0_; have HO_13 := n1_; have HO_320001 := n2_; have HO_325001 := n3_; have BK268 := n4_; have BK269 := n5_; have BK270 := n6_; have BK314 := n7_; have BK319 := n8_; have BK324 := n9_; have HO335 := n10_; have HO338 := n11_; have HO348 := n12_; have HO353 := n13_; have HB := n14_; clear n0_ n1_ n2_ n3_ n4_ n5_ n6_ n7_ n8_ n9_ n10_ n11_ n12_ n13_ n14_; (try clear hb); (try clear hkp); (try clear hy0); have hnb149 := NB324_268.out; have hnc149 := NB268_324.out; have hnb150 := NB324_269.out; have hnc150 := NB269_324.out; have hnb151 := NB324_270.out; have hnc151 := NB270_324.out; have hcz152_0 : w148.cell? ⟨gb324, 0, none⟩ = some (.int .i64 t320) := (blk_cell BK324.out 0).trans rfl; have hcz152_1 : w148.cell? ⟨gb324, 1, none⟩ = some (.slice Ao98 t321.length co98) := (blk_cell BK324.out 1).trans rfl; have hfz152_0 := blk_frozen BK324.out 0; have hfz152_1 := blk_frozen BK324.out 1) | ((with_reducible refine gate_callee (f := 38) rfl ?_); refine gL (some 90) Try.func38 #[.agg #[.int .i64 t320, .slice Ao98 t321.length co98], .int .i64 t356] ?_; (with_reducible refine (laws_markPlan.calls kj46 t320 (fun k_ => some k_ = (.slice Ao98 t321.length co98 : Value).ownBlock) (.slice Ao98 t321.length co98) t321 t356 t358 t359 w _ ?side1 ?side2 A120.out).mono ?_); (case side1 => repeat (first | (with_reducible first | exact HB.out | apply below_alloc | apply pw_below_drewN | apply below_drew1 | refine below_set ?_ GE268.out | refine below_set ?_ GE269.out | refine below_set ?_ GE270.out | refine below_set ?_ GE314.out | refine below_set ?_ GE319.out | refine below_set ?_ GE324.out) | exact HB.out)); (case side2 => exact Kd.R_tight rfl HO_325001.out); rintro e w153 ⟨rfl, hy0, hb, hkp⟩; refine ⟨_, rfl, ?_⟩; have n0_ := AZ (Kd.R_mono (ok' := fun k_ => some k_ ≠ (v326 : Value).ownBlock ∧ some k_ ≠ (.slice Ao88 t316.length co88 : Value).ownBlock ∧ some k_ ≠ (.slice Ao98 t321.length co98 : Value).ownBlock ∧ some k_ ≠ (.slice Ao125 t333.length co125 : Value).ownBlock ∧ some k_ ≠ (.slice Ao126 t336.length co126 : Value).ownBlock ∧ some k_ ≠ (.slice Ao130 t346.length co130 : Value).ownBlock ∧ some k_ ≠ (.slice Ao134 t351.length co134 : Value).ownBlock) (Kd.R_keptB (HO_8.out) hkp (fun k_ hk_ hs_ => (hk_.2.2.1) hs_)) (fun k_ hk_ => ⟨hk_.1.1, hk_.1.2.1, hk_.1.2.2.1, hk_.1.2.2.2.1, hk_.1.2.2.2.2.1, hk_.1.2.2.2.2.2.1, hk_.1.2.2.2.2.2.2⟩)); have n1_ := AZ (Kd.R_mono (ok' := fun k_ => some k_ ≠ (v297 : Value).ownBlock ∧ some k_ ≠ (.slice Ao88 t316.length co88 : Value).ownBlock ∧ some k_ ≠ (.slice Ao98 t321.length co98 : Value).ownBlock ∧ some k_ ≠ (.slice Ao125 t333.length co125 : Value).ownBlock ∧ some k_ ≠ (.slice Ao126 t336.length co126 : Value).ownBlock ∧ some k_ ≠ (.slice Ao130 t346.length co130 : Value).ownBlock ∧ some k_ ≠ (.slice Ao134 t351.length co134 : Value).ownBlock) (Kd.R_keptB (HO_13.out) hkp (fun k_ hk_ hs_ => (hk_.2.2.1) hs_)) (fun k_ hk_ => ⟨hk_.1.1, hk_.1.2.1, hk_.1.2.2.1, hk_.1.2.2.2.1, hk_.1.2.2.2.2.1, hk_.1.2.2.2.2.2.1, hk_.1.2.2.2.2.2.2⟩)); have n2_ := AZ (Kd.R_mono (ok' := fun k_ => some k_ ≠ (v297 : Value).ownBlock ∧ some k_ ≠ (v326 : Value).ownBlock ∧ some k_ ≠ (.slice Ao98 t321.length co98 : Value).ownBlock ∧ some k_ ≠ (.slice Ao125 t333.length co125 : Value).ownBlock ∧ some k_ ≠ (.slice Ao126 t336.length co126 : Value).ownBlock ∧ some k_ ≠ (.slice Ao130 t346.length co130 : Value).ownBlock ∧ some k_ ≠ (.slice Ao134 t351.length co134 : Value).ownBlock) (Kd.R_keptB (HO_320001.out) hkp (fun k_ hk_ hs_ => (hk_.1.1.1.1.2.2.2.2) hs_)) (fun k_ hk_ => ⟨hk_.1.1.1.1.1.1, hk_.1.1.1.1.1.2.1, hk_.1.1.1.1.1.2.2.2.2, hk_.1.1.1.1.2, hk_.1.1.1.2, hk_.1.1.2, hk_.1.2⟩)); have n3_ := AZ (Kd.R_reok rfl hy0 (fun k_ e_ => HO_325001.out.1 k_ e_)); have n4_ := AZ (blk_kept (blkS BK268.out) hkp (fun hs_ => (fun e_ => (Kd.R_ne HO_325001.out BK268.out (by decide)) e_) hs_)); have n5_ := AZ (blk_kept (blkS BK269.out) hkp (fun hs_ => (fun e_ => (Kd.R_ne HO_325001.out BK269.out (by decide)) e_) hs_)); have n6_ := AZ (blk_kept (blkS BK270.out) hkp (fun hs_ => (fun e_ => (Kd.R_ne HO_325001.out BK270.out (by decide)) e_) hs_)); have n7_ := AZ (blk_kept (blkS BK314.out) hkp (fun hs_ => (fun e_ => (Kd.R_ne HO_325001.out BK314.out (by decide)) e_) hs_)); have n8_ := AZ (blk_kept (blkS BK319.out) hkp (fun hs_ => (fun e_ => (Kd.R_ne HO_325001.out BK319.out (by decide)) e_) hs_)); have n9_ := AZ (blk_kept (blkS BK324.out) hkp (fun hs_ => (fun e_ => (Kd.R_ne HO_325001.out BK324.out (by decide)) e_) hs_)); have n10_ := AZ (Kd.R_mono (ok' := fun k_ => some k_ ≠ (v297 : Value).ownBlock ∧ some k_ ≠ (v326 : Value).ownBlock ∧ some k_ ≠ (.slice Ao88 t316.length co88 : Value).ownBlock ∧ some k_ ≠ (.slice Ao98 t321.length co98 : Value).ownBlock ∧ some k_ ≠ (.slice Ao126 t336.length co126 : Value).ownBlock ∧ some k_ ≠ (.slice Ao130 t346.length co130 : Value).ownBlock ∧ some k_ ≠ (.slice Ao134 t351.length co134 : Value).ownBlock) (Kd.R_keptB (HO335.out) hkp (fun k_ hk_ hs_ => (hk_.2.2.2.1) hs_)) (fun k_ hk_ => ⟨hk_.1.1, hk_.1.2.1, hk_.1.2.2.1, hk_.1.2.2.2.1, hk_.1.2.2.2.2.1, hk_.1.2.2.2.2.2.1, hk_.1.2.2.2.2.2.2⟩)); have n11_ := AZ (Kd.R_mono (ok' := fun k_ => some k_ ≠ (v297 : Value).ownBlock ∧ some k_ ≠ (v326 : Value).ownBlock ∧ some k_ ≠ (.slice Ao88 t316.length co88 : Value).ownBlock ∧ some k_ ≠ (.slice Ao98 t321.length co98 : Value).ownBlock ∧ some k_ ≠ (.slice Ao125 t333.length co125 : Value).ownBlock ∧ some k_ ≠ (.slice Ao130 t346.length co130 : Value).ownBlock ∧ some k_ ≠ (.slice Ao134 t351.length co134 : Value).ownBlock) (Kd.R_keptB (HO338.out) hkp (fun k_ hk_ hs_ => (hk_.2.2.2.1) hs_)) (fun k_ hk_ => ⟨hk_.1.1, hk_.1.2.1, hk_.1.2.2.1, hk_.1.2.2.2.1, hk_.1.2.2.2.2.1, hk_.1.2.2.2.2.2.1, hk_.1.2.2.2.2.2.2⟩)); have n12_ := AZ (Kd.R_mono (ok' := fun k_ => some k_ ≠ (v297 : Value).ownBlock ∧ some k_ ≠ (v326 : Value).ownBlock ∧ some k_ ≠ (.slice Ao88 t316.length co88 : Value).ownBlock ∧ some k_ ≠ (.slice Ao98 t321.length co98 : Value).ownBlock ∧ some k_ ≠ (.slice Ao125 t333.length co125 : Value).ownBlock ∧ some k_ ≠ (.slice Ao126 t336.length co126 : Value).ownBlock ∧ some k_ ≠ (.slice Ao134 t351.length co134 : Value).ownBlock) (Kd.R_keptB (HO348.out) hkp (fun k_ hk_ hs_ => (hk_.2.2.2.1) hs_)) (fun k_ hk_ => ⟨hk_.1.1, hk_.1.2.1, hk_.1.2.2.1, hk_.1.2.2.2.1, hk_.1.2.2.2.2.1, hk_.1.2.2.2.2.2.1, hk_.1.2.2.2.2.2.2⟩)); have n13_ := AZ (Kd.R_mono (ok' := fun k_ => some k_ ≠ (v297 : Value).ownBlock ∧ some k_ ≠ (v326 : Value).ownBlock ∧ some k_ ≠ (.slice Ao88 t316.length co88 : Value).ownBlock ∧ some k_ ≠ (.slice Ao98 t321.length co98 : Value).ownBlock ∧ some k_ ≠ (.slice Ao125 t333.length co125 : Value).ownBlock ∧ some k_ ≠ (.slice Ao126 t336.length co126 : Value).ownBlock ∧ some k_ ≠ (.slice Ao130 t346.length co130 : Value).ownBlock) (Kd.R_keptB (HO353.out) hkp (fun k_ hk_ hs_ => (hk_.2.2.2.1) hs_)) (fun k_ hk_ => ⟨hk_.1.1, hk_.1.2.1, hk_.1.2.2.1, hk_.1.2.2.2.1, hk_.1.2.2.2.2.1, hk_.1.2.2.2.2.2.1, hk_.1.2.2.2.2.2.2⟩)); have n14_ := AZ (hb); clear HO_8; clear HO_13; clear HO_320001; clear HO_325001; clear BK268; clear BK269; clear BK270; clear BK314; clear BK319; clear BK324; clear HO335; clear HO338; clear HO348; clear HO353; clear HB; have HO_8 := n0_; have HO_13 := n1_; have HO_320001 := n2_; have HO_325001 := n3_; have BK268 := n4_; have BK269 := n5_; have BK270 := n6_; have BK314 := n7_; have BK319 := n8_; have BK324 := n9_; have HO335 := n10_; have HO338 := n11_; have HO348 := n12_; have HO353 := n13_; have HB := n14_; clear n0_ n1_ n2_ n3_ n4_ n5_ n6_ n7_ n8_ n9_ n10_ n11_ n12_ n13_ n14_; (try clear hb); (try clear hkp); (try clear hy0)))
          (try simp only [Act.put, List.setIfInBounds_toArray, List.set_cons_zero, List.set_cons_succ])
          go_cut [103] (fun v103 wc => ∃ (kq : Nat) (x103_120 : Bool), v103 = .bool x103_120 ∧ Aside0 (laws_FnExactWorthBetween.j1 kq t296 t299 t325 x103_120 l0_0 l0_1 l0_2 a0_3 a0_4 a0_5 a0_6 a0_7 a1_0 l1_1 a2_0 l2_1 = some r) ∧ Aside0 (kq ≤ kj46) ∧ Aside0 (Kd.R (Kd.int .i64) 3 wc w.heap.size (fun k_ => some k_ ≠ (v326 : Value).ownBlock ∧ some k_ ≠ ((.slice Ao88 t316.length co88) : Value).ownBlock ∧ some k_ ≠ ((.slice Ao98 t321.length co98) : Value).ownBlock) v297 t296) ∧ Aside0 (Kd.R (Kd.int .i64) 3 wc w.heap.size (fun k_ => some k_ ≠ (v297 : Value).ownBlock ∧ some k_ ≠ ((.slice Ao88 t316.length co88) : Value).ownBlock ∧ some k_ ≠ ((.slice Ao98 t321.length co98) : Value).ownBlock) v326 t325) ∧ Aside0 (Kd.R (Kd.int .i64) 3 wc w.heap.size (fun k_ => some k_ ≠ (v297 : Value).ownBlock ∧ some k_ ≠ (v326 : Value).ownBlock ∧ some k_ ≠ ((.slice Ao98 t321.length co98) : Value).ownBlock) (.slice Ao88 t316.length co88) t357) ∧ Aside0 (Kd.R (Kd.int .i64) 3 wc w.heap.size (fun k_ => some k_ ≠ (v297 : Value).ownBlock ∧ some k_ ≠ (v326 : Value).ownBlock ∧ some k_ ≠ ((.slice Ao88 t316.length co88) : Value).ownBlock) (.slice Ao98 t321.length co98) t359) ∧ Aside0 (wc.heap[gb268]? = some (.cells #[(.slice A0_0 l0_0.length c0_0), (.slice A0_1 l0_1.length c0_1), (.slice A0_2 l0_2.length c0_2), .int .i64 a0_3, .int .i64 a0_4, .int .i64 a0_5, .int .i64 a0_6, .int .i64 a0_7] 27 (0, 0))) ∧ Aside0 (wc.heap[gb269]? = some (.cells #[.int .i64 a1_0, (.slice A1_1 l1_1.length c1_1)] 29 (0, 0))) ∧ Aside0 (wc.heap[gb270]? = some (.cells #[.int .i64 a2_0, (.slice A2_1 l2_1.length c2_1)] 29 (0, 0))) ∧ Aside0 (wc.heap[gb319]? = some (.cells #[.int .i64 t315, (.slice Ao88 t316.length co88)] 38 (0, 0))) ∧ Aside0 (wc.heap[gb324]? = some (.cells #[.int .i64 t320, (.slice Ao98 t321.length co98)] 38 (0, 0))) ∧ Aside0 (Below w.heap.size w wc))
          case first =>
           have H := HC121.out
           clear HC121
           by_cases c154 : t358 < 0
           ·rw [if_pos c154] at H
            have c154b0 : decide (t358 < 0) = true := decide_eq_true c154
            clear c154
            (first | rw [c154b0] | (simp only [i64_w, i32_w]; rw [c154b0]) | skip)
            have H' := Aside0.mk H
            clear H
            go_wp2
            go_meet
            case rel => exact ⟨_, (true), (by first | rfl | (simp; done) | (simp [*]; done)), H', ⟨by have := HJ46.out; first | omega | exact Nat.le_refl _⟩, ⟨rS (Kd.R_mono HO_8.out (fun _ hk => ⟨hk.1, ⟨hk.2.1, hk.2.2.1⟩⟩))⟩, ⟨rS (Kd.R_mono HO_13.out (fun _ hk => ⟨hk.1, ⟨hk.2.1, hk.2.2.1⟩⟩))⟩, ⟨rS (Kd.R_mono HO_320001.out (fun _ hk => ⟨hk.1, ⟨hk.2.1, hk.2.2.1⟩⟩))⟩, ⟨rS (Kd.R_mono HO_325001.out (fun _ hk => ⟨hk.1, ⟨hk.2.1, hk.2.2.1⟩⟩))⟩, ⟨blkS BK268.out⟩, ⟨blkS BK269.out⟩, ⟨blkS BK270.out⟩, ⟨blkS BK319.out⟩, ⟨blkS BK324.out⟩, ⟨bS HB.out⟩⟩
           ·rw [if_neg c154] at H
            have c154b0 : decide (t358 < 0) = false := decide_eq_false c154
            clear c154
            (first | rw [c154b0] | (simp only [i64_w, i32_w]; rw [c154b0]) | skip)
            replace H := Option.bind_eq_some_iff.mp H
            obtain ⟨t360, A1550, H⟩ := H
            replace H : (if t360 = true then (laws_FnExactWorthBetween.j1 kj46 t296 t299 t325 (t328 != t299) l0_0 l0_1 l0_2 a0_3 a0_4 a0_5 a0_6 a0_7 a1_0 l1_1 a2_0 l2_1) else (laws_FnExactWorthBetween.j1 kj46 t296 t299 t325 true l0_0 l0_1 l0_2 a0_3 a0_4 a0_5 a0_6 a0_7 a1_0 l1_1 a2_0 l2_1)) = some r := H
            have A155 := Aside0.mk A1550
            clear A1550
            by_cases c156 : t360 = true
            ·subst c156
             have H1 : (laws_FnExactWorthBetween.j1 kj46 t296 t299 t325 (t328 != t299) l0_0 l0_1 l0_2 a0_3 a0_4 a0_5 a0_6 a0_7 a1_0 l1_1 a2_0 l2_1) = some r := by rw [if_pos rfl] at H; exact H
             clear H
             have H := H1
             clear H1
             have H' := Aside0.mk H
             clear H
             obtain ⟨Ao157, co157, eo157⟩ := Kd.R_slice HO_13.out
             subst eo157
             obtain ⟨Ao158, co158, eo158⟩ := Kd.R_slice HO_8.out
             subst eo158
             go_wp2_with (first | (go_at_call 36; (with_reducible refine (laws_eqIntS.calls kj46 _ _ t325 _ _ t296 true _ ?side1 ?side2 ?side3 ?side4 A155.out).mono ?_); (case side1 => exact cS (Kd.R_reads' HO_13.out).2.2); (case side2 => exact (Kd.R_reads' HO_13.out).2.1); (case side3 => exact cS (Kd.R_reads' HO_8.out).2.2); (case side4 => exact (Kd.R_reads' HO_8.out).2.1); rintro e w' ⟨rfl, ⟨nd, rfl⟩⟩))
             go_meet
             case rel => exact ⟨_, ((t328 != t299)), (by first | rfl | (simp; done) | (simp [*]; done)), H', ⟨by have := HJ46.out; first | omega | exact Nat.le_refl _⟩, ⟨rS (Kd.R_mono HO_8.out (fun _ hk => ⟨hk.1, ⟨hk.2.1, hk.2.2.1⟩⟩))⟩, ⟨rS (Kd.R_mono HO_13.out (fun _ hk => ⟨hk.1, ⟨hk.2.1, hk.2.2.1⟩⟩))⟩, ⟨rS (Kd.R_mono HO_320001.out (fun _ hk => ⟨hk.1, ⟨hk.2.1, hk.2.2.1⟩⟩))⟩, ⟨rS (Kd.R_mono HO_325001.out (fun _ hk => ⟨hk.1, ⟨hk.2.1, hk.2.2.1⟩⟩))⟩, ⟨blkS BK268.out⟩, ⟨blkS BK269.out⟩, ⟨blkS BK270.out⟩, ⟨blkS BK319.out⟩, ⟨blkS BK324.out⟩, ⟨bS HB.out⟩⟩
            ·replace c156 := Bool.eq_false_iff.mpr c156
             subst c156
             have H1 : (laws_FnExactWorthBetween.j1 kj46 t296 t299 t325 true l0_0 l0_1 l0_2 a0_3 a0_4 a0_5 a0_6 a0_7 a1_0 l1_1 a2_0 l2_1) = some r := by rw [if_neg (show ¬ (false = true) by decide)] at H; exact H
             clear H
             have H := H1
             clear H1
             have H' := Aside0.mk H
             clear H
             obtain ⟨Ao159, co159, eo159⟩ := Kd.R_slice HO_13.out
             subst eo159
             obtain ⟨Ao160, co160, eo160⟩ := Kd.R_slice HO_8.out
             subst eo160
             go_wp2_with (first | (go_at_call 36; (with_reducible refine (laws_eqIntS.calls kj46 _ _ t325 _ _ t296 false _ ?side1 ?side2 ?side3 ?side4 A155.out).mono ?_); (case side1 => exact cS (Kd.R_reads' HO_13.out).2.2); (case side2 => exact (Kd.R_reads' HO_13.out).2.1); (case side3 => exact cS (Kd.R_reads' HO_8.out).2.2); (case side4 => exact (Kd.R_reads' HO_8.out).2.1); rintro e w' ⟨rfl, ⟨nd, rfl⟩⟩))
             go_meet
             case rel => exact ⟨_, (true), (by first | rfl | (simp; done) | (simp [*]; done)), H', ⟨by have := HJ46.out; first | omega | exact Nat.le_refl _⟩, ⟨rS (Kd.R_mono HO_8.out (fun _ hk => ⟨hk.1, ⟨hk.2.1, hk.2.2.1⟩⟩))⟩, ⟨rS (Kd.R_mono HO_13.out (fun _ hk => ⟨hk.1, ⟨hk.2.1, hk.2.2.1⟩⟩))⟩, ⟨rS (Kd.R_mono HO_320001.out (fun _ hk => ⟨hk.1, ⟨hk.2.1, hk.2.2.1⟩⟩))⟩, ⟨rS (Kd.R_mono HO_325001.out (fun _ hk => ⟨hk.1, ⟨hk.2.1, hk.2.2.1⟩⟩))⟩, ⟨blkS BK268.out⟩, ⟨blkS BK269.out⟩, ⟨blkS BK270.out⟩, ⟨blkS BK319.out⟩, ⟨blkS BK324.out⟩, ⟨bS HB.out⟩⟩
          case rest =>
           clear HC121
           try clear c1
           try clear c2
           try clear p2
           try clear c3
           try clear c13
           try clear c14
           try clear c15
           try clear c18
           try clear c21
           try clear c37
           try clear c38
           try clear c136
           try clear c137
           try clear c138
           try clear c139
           try clear c140
           try clear c143
           try clear c144
           try clear c145
           try clear c146
           try clear c149
           try clear c150
           try clear c151
           try clear c154
           try clear c154b0
           try clear c156
           try clear hcz141_0
           try clear hcz141_1
           try clear hcz141_2
           try clear hcz141_3
           try clear hcz141_4
           try clear hcz141_5
           try clear hcz141_6
           try clear hcz141_7
           try clear hcz147_0
           try clear hcz147_1
           try clear hcz152_0
           try clear hcz152_1
           try clear hfz141_0
           try clear hfz141_1
           try clear hfz141_2
           try clear hfz141_3
           try clear hfz141_4
           try clear hfz141_5
           try clear hfz141_6
           try clear hfz141_7
           try clear hfz147_0
           try clear hfz147_1
           try clear hfz152_0
           try clear hfz152_1
           obtain ⟨kq, x103_120, rfl, HA, HJ120, HO_8, HO_13, HO_320001, HO_325001, BK268, BK269, BK270, BK319, BK324, HB⟩ := hcut
           have hl320001_120 := (Kd.R_reads' HO_320001.out).1
           rw [hl320001_120] at HO_320001
           (try simp only [hl320001_120])
           (try simp only [hl320001_120] at BK268)
           (try simp only [hl320001_120] at BK269)
           (try simp only [hl320001_120] at BK270)
           (try simp only [hl320001_120] at BK319)
           (try simp only [hl320001_120] at BK324)
           (try simp only [hl320001_120] at HO_8)
           (try simp only [hl320001_120] at HO_13)
           (try simp only [hl320001_120] at HO_325001)
           have hl325001_120 := (Kd.R_reads' HO_325001.out).1
           rw [hl325001_120] at HO_325001
           (try simp only [hl325001_120])
           (try simp only [hl325001_120] at BK268)
           (try simp only [hl325001_120] at BK269)
           (try simp only [hl325001_120] at BK270)
           (try simp only [hl325001_120] at BK319)
           (try simp only [hl325001_120] at BK324)
           (try simp only [hl325001_120] at HO_8)
           (try simp only [hl325001_120] at HO_13)
           (try simp only [hl325001_120] at HO_320001)
           cases kq with
           | zero => exact absurd HA.out (by simp [laws_FnExactWorthBetween.j1])
           | succ kj120 =>
            have H := HA.out
            clear HA
            simp only [laws_FnExactWorthBetween.j1] at H
            by_cases c161 : x103_120 = true
            ·subst c161
             have H1 : (none) = some r := by rw [if_pos rfl] at H; exact H
             clear H
             have H := H1
             clear H1
             exact absurd H (by simp)
            ·replace c161 := Bool.eq_false_iff.mpr c161
             subst c161
             have H1 : ((laws_markIntS.f kj120 t325 1).bind fun bt361 => ((laws_heldIntS.f kj120 bt361.2 1).bind fun t363 => (if t363 < 0 then (none) else (if t363 = bt361.1 then ((laws_toJob.f kj120 l0_0 l0_1 l0_2 a0_3 a0_4 a0_5 a0_6 a0_7).bind fun bt364 => ((laws_toPlan.f kj120 a1_0 l1_1).bind fun bt378 => ((laws_toPlan.f kj120 a2_0 l2_1).bind fun bt382 => ((impl_WorthBetween.f kj120 bt364.1 bt364.2.1 bt364.2.2.1 bt364.2.2.2.1 bt364.2.2.2.2.1 bt364.2.2.2.2.2.1 bt364.2.2.2.2.2.2.1 bt364.2.2.2.2.2.2.2 bt378.1 bt378.2 bt382.1 bt382.2).bind fun bt386 => ((laws_eqIntS.f kj120 bt386.1 t296).bind fun t390 => (if t390 = true then (laws_FnExactWorthBetween.j2 kj120 bt361.2 bt361.1 (bt386.2 != t299)) else (laws_FnExactWorthBetween.j2 kj120 bt361.2 bt361.1 true))))))) else (none))))) = some r := by rw [if_neg (show ¬ (false = true) by decide)] at H; exact H
             clear H
             have H := H1
             clear H1
             replace H := Option.bind_eq_some_iff.mp H
             obtain ⟨⟨t361, t362⟩, A1620, H⟩ := H
             replace H : ((laws_heldIntS.f kj120 t362 1).bind fun t363 => (if t363 < 0 then (none) else (if t363 = t361 then ((laws_toJob.f kj120 l0_0 l0_1 l0_2 a0_3 a0_4 a0_5 a0_6 a0_7).bind fun bt364 => ((laws_toPlan.f kj120 a1_0 l1_1).bind fun bt378 => ((laws_toPlan.f kj120 a2_0 l2_1).bind fun bt382 => ((impl_WorthBetween.f kj120 bt364.1 bt364.2.1 bt364.2.2.1 bt364.2.2.2.1 bt364.2.2.2.2.1 bt364.2.2.2.2.2.1 bt364.2.2.2.2.2.2.1 bt364.2.2.2.2.2.2.2 bt378.1 bt378.2 bt382.1 bt382.2).bind fun bt386 => ((laws_eqIntS.f kj120 bt386.1 t296).bind fun t390 => (if t390 = true then (laws_FnExactWorthBetween.j2 kj120 t362 t361 (bt386.2 != t299)) else (laws_FnExactWorthBetween.j2 kj120 t362 t361 true))))))) else (none)))) = some r := H
             have A162 := Aside0.mk A1620
             clear A1620
             replace H := Option.bind_eq_some_iff.mp H
             obtain ⟨t363, A1630, H⟩ := H
             replace H : (if t363 < 0 then (none) else (if t363 = t361 then ((laws_toJob.f kj120 l0_0 l0_1 l0_2 a0_3 a0_4 a0_5 a0_6 a0_7).bind fun bt364 => ((laws_toPlan.f kj120 a1_0 l1_1).bind fun bt378 => ((laws_toPlan.f kj120 a2_0 l2_1).bind fun bt382 => ((impl_WorthBetween.f kj120 bt364.1 bt364.2.1 bt364.2.2.1 bt364.2.2.2.1 bt364.2.2.2.2.1 bt364.2.2.2.2.2.1 bt364.2.2.2.2.2.2.1 bt364.2.2.2.2.2.2.2 bt378.1 bt378.2 bt382.1 bt382.2).bind fun bt386 => ((laws_eqIntS.f kj120 bt386.1 t296).bind fun t390 => (if t390 = true then (laws_FnExactWorthBetween.j2 kj120 t362 t361 (bt386.2 != t299)) else (laws_FnExactWorthBetween.j2 kj120 t362 t361 true))))))) else (none))) = some r := H
             have A163 := Aside0.mk A1630
             clear A1630
             by_cases c164 : t363 < 0
             ·rw [if_pos c164] at H
              exact absurd H (by simp)
             ·rw [if_neg c164] at H
              have c164b0 : decide (t363 < 0) = false := decide_eq_false c164
              clear c164
              by_cases c165 : t363 = t361
              ·rw [if_pos c165] at H
               have c165b0 : (t363 == t361) = true := beq_iff_eq.mpr c165
               have c165b1 : (t363 != t361) = false := bne_eq_false_iff_eq.mpr c165
               clear c165
               replace H := Option.bind_eq_some_iff.mp H
               obtain ⟨⟨t364, t367, t370, t373, t374, t375, t376, t377⟩, A1660, H⟩ := H
               replace H : ((laws_toPlan.f kj120 a1_0 l1_1).bind fun bt378 => ((laws_toPlan.f kj120 a2_0 l2_1).bind fun bt382 => ((impl_WorthBetween.f kj120 t364 t367 t370 t373 t374 t375 t376 t377 bt378.1 bt378.2 bt382.1 bt382.2).bind fun bt386 => ((laws_eqIntS.f kj120 bt386.1 t296).bind fun t390 => (if t390 = true then (laws_FnExactWorthBetween.j2 kj120 t362 t361 (bt386.2 != t299)) else (laws_FnExactWorthBetween.j2 kj120 t362 t361 true)))))) = some r := H
               have A166 := Aside0.mk A1660
               clear A1660
               replace H := Option.bind_eq_some_iff.mp H
               obtain ⟨⟨t378, t379⟩, A1670, H⟩ := H
               replace H : ((laws_toPlan.f kj120 a2_0 l2_1).bind fun bt382 => ((impl_WorthBetween.f kj120 t364 t367 t370 t373 t374 t375 t376 t377 t378 t379 bt382.1 bt382.2).bind fun bt386 => ((laws_eqIntS.f kj120 bt386.1 t296).bind fun t390 => (if t390 = true then (laws_FnExactWorthBetween.j2 kj120 t362 t361 (bt386.2 != t299)) else (laws_FnExactWorthBetween.j2 kj120 t362 t361 true))))) = some r := H
               have A167 := Aside0.mk A1670
               clear A1670
               replace H := Option.bind_eq_some_iff.mp H
               obtain ⟨⟨t382, t383⟩, A1680, H⟩ := H
               replace H : ((impl_WorthBetween.f kj120 t364 t367 t370 t373 t374 t375 t376 t377 t378 t379 t382 t383).bind fun bt386 => ((laws_eqIntS.f kj120 bt386.1 t296).bind fun t390 => (if t390 = true then (laws_FnExactWorthBetween.j2 kj120 t362 t361 (bt386.2 != t299)) else (laws_FnExactWorthBetween.j2 kj120 t362 t361 true)))) = some r := H
               have A168 := Aside0.mk A1680
               clear A1680
               replace H := Option.bind_eq_some_iff.mp H
               obtain ⟨⟨t386, t389⟩, A1690, H⟩ := H
               replace H : ((laws_eqIntS.f kj120 t386 t296).bind fun t390 => (if t390 = true then (laws_FnExactWorthBetween.j2 kj120 t362 t361 (t389 != t299)) else (laws_FnExactWorthBetween.j2 kj120 t362 t361 true))) = some r := H
               have A169 := Aside0.mk A1690
               clear A1690
               have HC170 := Aside0.mk H
               clear H
               obtain ⟨Ao171, co171, eo171⟩ := Kd.R_slice HO_13.out
               subst eo171
               try go_wp2_with (first | ((with_reducible refine gate_callee (f := 39) rfl ?_); refine gL (some 106) Try.func39 #[.slice Ao171 t325.length co171, .int .i64 1] ?_; (with_reducible refine (laws_markIntS.calls kj120 (fun k_ => some k_ = (.slice Ao171 t325.length co171 : Value).ownBlock) (.slice Ao171 t325.length co171) t325 1 t361 t362 w _ ?side1 ?side2 A162.out).mono ?_); (case side1 => repeat (first | (with_reducible first | exact HB.out | apply below_alloc | apply pw_below_drewN | apply below_drew1 | refine below_set ?_ GE268.out | refine below_set ?_ GE269.out | refine below_set ?_ GE270.out | refine below_set ?_ GE319.out | refine below_set ?_ GE324.out) | exact HB.out)); (case side2 => exact Kd.R_tight rfl HO_13.out); rintro e w172 ⟨rfl, hy0, hb, hkp⟩; refine ⟨_, rfl, ?_⟩; have n0_ := AZ (Kd.R_mono (ok' := fun k_ => some k_ ≠ (.slice Ao171 t325.length co171 : Value).ownBlock ∧ some k_ ≠ (.slice Ao88 t357.length co88 : Value).ownBlock ∧ some k_ ≠ (.slice Ao98 t359.length co98 : Value).ownBlock) (Kd.R_keptB (HO_8.out) hkp (fun k_ hk_ hs_ => (hk_.1) hs_)) (fun k_ hk_ => ⟨hk_.1.1, hk_.1.2.1, hk_.1.2.2⟩)); have n1_ := AZ (Kd.R_reok rfl hy0 (fun k_ e_ => HO_13.out.1 k_ e_)); have n2_ := AZ (Kd.R_mono (ok' := fun k_ => some k_ ≠ (v297 : Value).ownBlock ∧ some k_ ≠ (.slice Ao171 t325.length co171 : Value).ownBlock ∧ some k_ ≠ (.slice Ao98 t359.length co98 : Value).ownBlock) (Kd.R_keptB (HO_320001.out) hkp (fun k_ hk_ hs_ => (hk_.2.1) hs_)) (fun k_ hk_ => ⟨hk_.1.1, hk_.1.2.1, hk_.1.2.2⟩)); have n3_ := AZ (Kd.R_mono (ok' := fun k_ => some k_ ≠ (v297 : Value).ownBlock ∧ some k_ ≠ (.slice Ao171 t325.length co171 : Value).ownBlock ∧ some k_ ≠ (.slice Ao88 t357.length co88 : Value).ownBlock) (Kd.R_keptB (HO_325001.out) hkp (fun k_ hk_ hs_ => (hk_.2.1) hs_)) (fun k_ hk_ => ⟨hk_.1.1, hk_.1.2.1, hk_.1.2.2⟩)); have n4_ := AZ (blk_kept (blkS BK268.out) hkp (fun hs_ => (fun e_ => (Kd.R_ne HO_13.out BK268.out (by decide)) e_) hs_)); have n5_ := AZ (blk_kept (blkS BK269.out) hkp (fun hs_ => (fun e_ => (Kd.R_ne HO_13.out BK269.out (by decide)) e_) hs_)); have n6_ := AZ (blk_kept (blkS BK270.out) hkp (fun hs_ => (fun e_ => (Kd.R_ne HO_13.out BK270.out (by decide)) e_) hs_)); have n7_ := AZ (blk_kept (blkS BK319.out) hkp (fun hs_ => (fun e_ => (Kd.R_ne HO_13.out BK319.out (by decide)) e_) hs_)); have n8_ := AZ (blk_kept (blkS BK324.out) hkp (fun hs_ => (fun e_ => (Kd.R_ne HO_13.out BK324.out (by decide)) e_) hs_)); have n9_ := AZ (hb); clear HO_8; clear HO_13; clear HO_320001; clear HO_325001; clear BK268; clear BK269; clear BK270; clear BK319; clear BK324; clear HB; have HO_8 := n0_; have HO_13 := n1_; have HO_320001 := n2_; have HO_325001 := n3_; have BK268 := n4_; have BK269 := n5_; have BK270 := n6_; have BK319 := n7_; have BK324 := n8_; have HB := n9_; clear n0_ n1_ n2_ n3_ n4_ n5_ n6_ n7_ n8_ n9_; (try clear hb); (try clear hkp); (try clear hy0)) | ((with_reducible refine gate_callee (f := 40) rfl ?_); refine goesL_ (some 109) rfl rfl Try.func40 (by kernel_rfl) rfl #[.slice Ao171 t362.length co171, .int .i64 1] rfl (by (try simp only [List.map_toArray, List.map_cons, List.map_nil]); first | done | (rw [show t362.length = t325.length from (Kd.R_reads' HO_13.out).1.symm] <;> rfl) | rfl | (simp only [List.length_drop, List.length_take]; rfl)) ?_; (with_reducible refine (laws_heldIntS.calls kj120 _ _ t362 1 t363 _ ?side1 ?side2 A163.out).mono ?_); (case side1 => exact cS (Kd.R_reads' HO_13.out).2.2); (case side2 => rw [show t362.length = t325.length from (Kd.R_reads' HO_13.out).1.symm]; exact (Kd.R_reads' HO_13.out).2.1); rintro e w' ⟨rfl, ⟨nd, rfl⟩⟩; refine ⟨_, rfl, ?_⟩))
               (try (rw [drewN_self w172]; generalize hq_ : World.drewN w172 _ = w172; have n0_ : Aside0 (Kd.R (Kd.int .i64) 3 w172 w.heap.size (fun k_ => (some k_ ≠ (v297 : Value).ownBlock ∧ (some k_ ≠ (.slice Ao88 t357.length co88 : Value).ownBlock ∧ some k_ ≠ (.slice Ao98 t359.length co98 : Value).ownBlock))) (.slice Ao171 t325.length co171) t362) := ⟨by rw [← hq_]; exact (rS HO_13.out)⟩; have n1_ : Aside0 (Kd.R (Kd.int .i64) 3 w172 w.heap.size (fun k_ => (some k_ ≠ (v297 : Value).ownBlock ∧ (some k_ ≠ (.slice Ao171 t325.length co171 : Value).ownBlock ∧ some k_ ≠ (.slice Ao98 t359.length co98 : Value).ownBlock))) (.slice Ao88 t357.length co88) t357) := ⟨by rw [← hq_]; exact (rS HO_320001.out)⟩; have n2_ : Aside0 (Kd.R (Kd.int .i64) 3 w172 w.heap.size (fun k_ => (some k_ ≠ (v297 : Value).ownBlock ∧ (some k_ ≠ (.slice Ao171 t325.length co171 : Value).ownBlock ∧ some k_ ≠ (.slice Ao88 t357.length co88 : Value).ownBlock))) (.slice Ao98 t359.length co98) t359) := ⟨by rw [← hq_]; exact (rS HO_325001.out)⟩; have n3_ : Aside0 (Kd.R (Kd.int .i64) 3 w172 w.heap.size (fun k_ => some k_ ≠ (.slice Ao171 t325.length co171 : Value).ownBlock ∧ some k_ ≠ (.slice Ao88 t357.length co88 : Value).ownBlock ∧ some k_ ≠ (.slice Ao98 t359.length co98 : Value).ownBlock) v297 t296) := ⟨by rw [← hq_]; exact (rS HO_8.out)⟩; have n4_ : Aside0 (w172.heap[gb268]? = some (.cells #[.slice A0_0 l0_0.length c0_0, .slice A0_1 l0_1.length c0_1, .slice A0_2 l0_2.length c0_2, .int .i64 a0_3, .int .i64 a0_4, .int .i64 a0_5, .int .i64 a0_6, .int .i64 a0_7] 27 (0, 0))) := ⟨by rw [← hq_]; exact (blkS BK268.out)⟩; have n5_ : Aside0 (w172.heap[gb269]? = some (.cells #[.int .i64 a1_0, .slice A1_1 l1_1.length c1_1] 29 (0, 0))) := ⟨by rw [← hq_]; exact (blkS BK269.out)⟩; have n6_ : Aside0 (w172.heap[gb270]? = some (.cells #[.int .i64 a2_0, .slice A2_1 l2_1.length c2_1] 29 (0, 0))) := ⟨by rw [← hq_]; exact (blkS BK270.out)⟩; have n7_ : Aside0 (w172.heap[gb319]? = some (.cells #[.int .i64 t315, .slice Ao88 t357.length co88] 38 (0, 0))) := ⟨by rw [← hq_]; exact (blkS BK319.out)⟩; have n8_ : Aside0 (w172.heap[gb324]? = some (.cells #[.int .i64 t320, .slice Ao98 t359.length co98] 38 (0, 0))) := ⟨by rw [← hq_]; exact (blkS BK324.out)⟩; have n9_ : Aside0 (Below w.heap.size w w172) := ⟨by rw [← hq_]; exact (bS HB.out)⟩; clear HO_13 HO_320001 HO_325001 HO_8 BK268 BK269 BK270 BK319 BK324 HB hq_; have HO_13 := n0_; have HO_320001 := n1_; have HO_325001 := n2_; have HO_8 := n3_; have BK268 := n4_; have BK269 := n5_; have BK270 := n6_; have BK319 := n7_; have BK324 := n8_; have HB := n9_; clear n0_ n1_ n2_ n3_ n4_ n5_ n6_ n7_ n8_ n9_))
               have n0_ := AZ (Kd.R_drew HO_8.out)
               have n1_ := AZ (Kd.R_drew HO_13.out)
               have n2_ := AZ (Kd.R_drew HO_320001.out)
               have n3_ := AZ (Kd.R_drew HO_325001.out)
               have n4_ := AZ (blk_drew BK268.out)
               have n5_ := AZ (blk_drew BK269.out)
               have n6_ := AZ (blk_drew BK270.out)
               have n7_ := AZ (blk_drew BK319.out)
               have n8_ := AZ (blk_drew BK324.out)
               have n9_ := AZ (below_drew1 HB.out)
               clear HO_8
               clear HO_13
               clear HO_320001
               clear HO_325001
               clear BK268
               clear BK269
               clear BK270
               clear BK319
               clear BK324
               clear HB
               have HO_8 := n0_
               have HO_13 := n1_
               have HO_320001 := n2_
               have HO_325001 := n3_
               have BK268 := n4_
               have BK269 := n5_
               have BK270 := n6_
               have BK319 := n7_
               have BK324 := n8_
               have HB := n9_
               clear n0_ n1_ n2_ n3_ n4_ n5_ n6_ n7_ n8_ n9_
               refine start_ (n := 12) (S := fun w' => w'.cell? ⟨gb268, 0, none⟩ = some (.slice A0_0 l0_0.length c0_0) ∧ w'.cell? ⟨gb268, 1, none⟩ = some (.slice A0_1 l0_1.length c0_1) ∧ w'.cell? ⟨gb268, 2, none⟩ = some (.slice A0_2 l0_2.length c0_2) ∧ w'.cell? ⟨gb268, 3, none⟩ = some (.int .i64 a0_3) ∧ w'.cell? ⟨gb268, 4, none⟩ = some (.int .i64 a0_4) ∧ w'.cell? ⟨gb268, 5, none⟩ = some (.int .i64 a0_5) ∧ w'.cell? ⟨gb268, 6, none⟩ = some (.int .i64 a0_6) ∧ w'.cell? ⟨gb268, 7, none⟩ = some (.int .i64 a0_7) ∧ w'.cell? ⟨gb269, 0, none⟩ = some (.int .i64 a1_0) ∧ w'.cell? ⟨gb269, 1, none⟩ = some (.slice A1_1 l1_1.length c1_1) ∧ w'.cell? ⟨gb270, 0, none⟩ = some (.int .i64 a2_0) ∧ w'.cell? ⟨gb270, 1, none⟩ = some (.slice A2_1 l2_1.length c2_1)) (ds := []) #[false, false, false, false, false, false, false, false, false, false, false, false] (by kernel_rfl) rfl rfl ⟨(blk_cell BK268.out 0).trans rfl, (blk_cell BK268.out 1).trans rfl, (blk_cell BK268.out 2).trans rfl, (blk_cell BK268.out 3).trans rfl, (blk_cell BK268.out 4).trans rfl, (blk_cell BK268.out 5).trans rfl, (blk_cell BK268.out 6).trans rfl, (blk_cell BK268.out 7).trans rfl, (blk_cell BK269.out 0).trans rfl, (blk_cell BK269.out 1).trans rfl, (blk_cell BK270.out 0).trans rfl, (blk_cell BK270.out 1).trans rfl⟩ (fun hHeld => ?_); refine with_tabW laws_FnExactWorthBetween.tab38 laws_FnExactWorthBetween.bits38 (fun HT_ HW_ => ?_)
               generalize w172.drew = w173 at HO_8 HO_13 HO_320001 HO_325001 BK268 BK269 BK270 BK319 BK324 HB hHeld ⊢
               refine take_ (i := 0) (N := some 116) (v := ?_) (a' := ?_) #[true, false, false, false, false, false, false, false, false, false, false, false] rfl rfl (take_ofW HT_.out HW_.out (by kernel_rfl)) (fun _ _ _ h => h) (Or.inl ⟨by rfl, ?_⟩) hHeld ?_ ?_
               rotate_left
               ·rintro w' ⟨s0, s1, s2, s3, s4, s5, s6, s7, s8, s9, s10, s11⟩
                go_simp
                with_reducible rfl
               rotate_left
               ·simp only [Act.put, List.setIfInBounds_toArray, List.set_cons_zero, List.set_cons_succ, i64_w, i32_w]
                rfl
               refine take_ (i := 2) (N := some 118) (v := ?_) (a' := ?_) #[true, false, true, false, false, false, false, false, false, false, false, false] rfl rfl (take_ofW HT_.out HW_.out (by kernel_rfl)) (fun _ _ _ h => h) (Or.inl ⟨by rfl, ?_⟩) hHeld ?_ ?_
               rotate_left
               ·rintro w' ⟨s0, s1, s2, s3, s4, s5, s6, s7, s8, s9, s10, s11⟩
                go_simp
                with_reducible rfl
               rotate_left
               ·simp only [Act.put, List.setIfInBounds_toArray, List.set_cons_zero, List.set_cons_succ, i64_w, i32_w]
                rfl
               refine take_ (i := 4) (N := some 120) (v := ?_) (a' := ?_) #[true, false, true, false, true, false, false, false, false, false, false, false] rfl rfl (take_ofW HT_.out HW_.out (by kernel_rfl)) (fun _ _ _ h => h) (Or.inl ⟨by rfl, ?_⟩) hHeld ?_ ?_
               rotate_left
               ·rintro w' ⟨s0, s1, s2, s3, s4, s5, s6, s7, s8, s9, s10, s11⟩
                go_simp
                with_reducible rfl
               rotate_left
               ·simp only [Act.put, List.setIfInBounds_toArray, List.set_cons_zero, List.set_cons_succ, i64_w, i32_w]
                rfl
               refine one_ (i := 1) (N := some 117) #[true, true, true, false, true, false, false, false, false, false, false, false] rfl rfl (one_of HT_.out (by kernel_rfl)) (by decide) (fun K hK => ?_)
               refine goes_ Try.func17 (by kernel_rfl) rfl #[.agg #[.slice A0_0 l0_0.length c0_0, .slice A0_1 l0_1.length c0_1, .slice A0_2 l0_2.length c0_2, .int .i64 a0_3, .int .i64 a0_4, .int .i64 a0_5, .int .i64 a0_6, .int .i64 a0_7]] (by rfl) rfl rfl (by (try simp only [List.map_toArray, List.map_cons, List.map_nil]); first | done | rfl | (simp only [List.length_drop, List.length_take]; rfl)) ?_
               with_reducible refine (laws_toJob.calls kj120 _ _ l0_0 _ _ l0_1 _ _ l0_2 a0_3 a0_4 a0_5 a0_6 a0_7 t364 t367 t370 t373 t374 t375 t376 t377 _ ?side1 ?side2 ?side3 ?side4 ?side5 ?side6 A166.out).mono ?_
               (case side1 => exact cS (Kd.C_below HR0_0.out HB.out))
               (case side2 => exact HC0_0.out)
               (case side3 => exact cS (Kd.C_below HR0_1.out HB.out))
               (case side4 => exact HC0_1.out)
               (case side5 => exact cS (Kd.C_below HR0_2.out HB.out))
               (case side6 => exact HC0_2.out)
               rintro e w174 ⟨v365, v368, v371, rfl, ho0, ho1, ho2, hb⟩
               refine ⟨_, rfl, ?_⟩
               have n0_ := AZ (Kd.R_mono (Kd.R_told (Kd.R_told (Kd.R_old (rS HO_8.out) hb) (Kd.R_base ho1)) (Kd.R_base ho2)) (fun _ h_ => h_.1))
               have n1_ := AZ (Kd.R_mono (Kd.R_told (Kd.R_told (Kd.R_old (rS HO_13.out) hb) (Kd.R_base ho1)) (Kd.R_base ho2)) (fun _ h_ => h_.1))
               have n2_ := AZ (Kd.R_mono (Kd.R_told (Kd.R_told (Kd.R_old (rS HO_320001.out) hb) (Kd.R_base ho1)) (Kd.R_base ho2)) (fun _ h_ => h_.1))
               have n3_ := AZ (Kd.R_mono (Kd.R_told (Kd.R_told (Kd.R_old (rS HO_325001.out) hb) (Kd.R_base ho1)) (Kd.R_base ho2)) (fun _ h_ => h_.1))
               have n4_ := AZ (Kd.S_lower (Kd.S_new' (Kd.S_new' (Kd.S_new' (Kd.S_new' ho0 (Kd.R_lt (rS HO_8.out))) (Kd.R_lt (rS HO_13.out))) (Kd.R_lt (rS HO_320001.out))) (Kd.R_lt (rS HO_325001.out))) (below_size (bS HB.out)))
               have n5_ := AZ (Kd.R_lower (Kd.R_new' (Kd.R_new' (Kd.R_new' (Kd.R_new' ho1 (Kd.R_lt (rS HO_8.out))) (Kd.R_lt (rS HO_13.out))) (Kd.R_lt (rS HO_320001.out))) (Kd.R_lt (rS HO_325001.out))) (below_size (bS HB.out)))
               have n6_ := AZ (Kd.R_lower (Kd.R_new' (Kd.R_new' (Kd.R_new' (Kd.R_new' ho2 (Kd.R_lt (rS HO_8.out))) (Kd.R_lt (rS HO_13.out))) (Kd.R_lt (rS HO_320001.out))) (Kd.R_lt (rS HO_325001.out))) (below_size (bS HB.out)))
               have n7_ := blkA BK268 hb
               have n8_ := blkA BK269 hb
               have n9_ := blkA BK270 hb
               have n10_ := blkA BK319 hb
               have n11_ := blkA BK324 hb
               have n12_ := AZ (below_step (bS HB.out) hb)
               clear HO_8
               clear HO_13
               clear HO_320001
               clear HO_325001
               clear BK268
               clear BK269
               clear BK270
               clear BK319
               clear BK324
               clear HB
               have HO_8 := n0_
               have HO_13 := n1_
               have HO_320001 := n2_
               have HO_325001 := n3_
               have HO366 := n4_
               have HO369 := n5_
               have HO372 := n6_
               have BK268 := n7_
               have BK269 := n8_
               have BK270 := n9_
               have BK319 := n10_
               have BK324 := n11_
               have HB := n12_
               clear n0_ n1_ n2_ n3_ n4_ n5_ n6_ n7_ n8_ n9_ n10_ n11_ n12_
               (try clear hb)
               (try clear hb2)
               (try clear hk)
               (try clear hi)
               (try clear ho0)
               (try clear ho1)
               (try clear ho2)
               refine hK.out _ _ ⟨(blk_cell BK268.out 0).trans rfl, (blk_cell BK268.out 1).trans rfl, (blk_cell BK268.out 2).trans rfl, (blk_cell BK268.out 3).trans rfl, (blk_cell BK268.out 4).trans rfl, (blk_cell BK268.out 5).trans rfl, (blk_cell BK268.out 6).trans rfl, (blk_cell BK268.out 7).trans rfl, (blk_cell BK269.out 0).trans rfl, (blk_cell BK269.out 1).trans rfl, (blk_cell BK270.out 0).trans rfl, (blk_cell BK270.out 1).trans rfl⟩ (fun hHeld => ?_)
               clear hK K
               refine norm_ (a' := ?_) ?_ ?_
               rotate_left
               ·show Act.put _ (some 117) _ = _
                simp only [Act.put, List.setIfInBounds_toArray, List.set_cons_zero, List.set_cons_succ, i64_w, i32_w]
                rfl
               refine one_ (i := 3) (N := some 119) #[true, true, true, true, true, false, false, false, false, false, false, false] rfl rfl (one_of HT_.out (by kernel_rfl)) (by decide) (fun K hK => ?_)
               refine goes_ Try.func18 (by kernel_rfl) rfl #[.agg #[.int .i64 a1_0, .slice A1_1 l1_1.length c1_1]] (by rfl) rfl rfl (by (try simp only [List.map_toArray, List.map_cons, List.map_nil]); first | done | rfl | (simp only [List.length_drop, List.length_take]; rfl)) ?_
               with_reducible refine (laws_toPlan.calls kj120 a1_0 _ _ l1_1 t378 t379 _ ?side1 ?side2 A167.out).mono ?_
               (case side1 => exact cS (Kd.C_below HR1_1.out HB.out))
               (case side2 => exact HC1_1.out)
               rintro e w175 ⟨v380, rfl, ho0, hb⟩
               refine ⟨_, rfl, ?_⟩
               have n0_ := AZ (Kd.R_elder' (rS HO_8.out) (Kd.R_base ho0) hb)
               have n1_ := AZ (Kd.R_elder' (rS HO_13.out) (Kd.R_base ho0) hb)
               have n2_ := AZ (Kd.R_elder' (rS HO_320001.out) (Kd.R_base ho0) hb)
               have n3_ := AZ (Kd.R_elder' (rS HO_325001.out) (Kd.R_base ho0) hb)
               have n4_ := AZ (Kd.S_elder' (sS HO366.out) (Kd.R_base ho0) hb)
               have n5_ := AZ (Kd.R_elder' (rS HO369.out) (Kd.R_base ho0) hb)
               have n6_ := AZ (Kd.R_elder' (rS HO372.out) (Kd.R_base ho0) hb)
               have n7_ := AZ (Kd.R_lower (Kd.R_new' (Kd.R_new' (Kd.R_new' (Kd.R_new' (Kd.R_new' (Kd.R_new' ho0 (Kd.R_lt (rS HO_8.out))) (Kd.R_lt (rS HO_13.out))) (Kd.R_lt (rS HO_320001.out))) (Kd.R_lt (rS HO_325001.out))) (Kd.R_lt (rS HO369.out))) (Kd.R_lt (rS HO372.out))) (below_size (bS HB.out)))
               have n8_ := blkA BK268 hb
               have n9_ := blkA BK269 hb
               have n10_ := blkA BK270 hb
               have n11_ := blkA BK319 hb
               have n12_ := blkA BK324 hb
               have n13_ := AZ (below_step (bS HB.out) hb)
               clear HO_8
               clear HO_13
               clear HO_320001
               clear HO_325001
               clear HO366
               clear HO369
               clear HO372
               clear BK268
               clear BK269
               clear BK270
               clear BK319
               clear BK324
               clear HB
               have HO_8 := n0_
               have HO_13 := n1_
               have HO_320001 := n2_
               have HO_325001 := n3_
               have HO366 := n4_
               have HO369 := n5_
               have HO372 := n6_
               have HO381 := n7_
               have BK268 := n8_
               have BK269 := n9_
               have BK270 := n10_
               have BK319 := n11_
               have BK324 := n12_
               have HB := n13_
               clear n0_ n1_ n2_ n3_ n4_ n5_ n6_ n7_ n8_ n9_ n10_ n11_ n12_ n13_
               (try clear hb)
               (try clear hb2)
               (try clear hk)
               (try clear hi)
               (try clear ho0)
               refine hK.out _ _ ⟨(blk_cell BK268.out 0).trans rfl, (blk_cell BK268.out 1).trans rfl, (blk_cell BK268.out 2).trans rfl, (blk_cell BK268.out 3).trans rfl, (blk_cell BK268.out 4).trans rfl, (blk_cell BK268.out 5).trans rfl, (blk_cell BK268.out 6).trans rfl, (blk_cell BK268.out 7).trans rfl, (blk_cell BK269.out 0).trans rfl, (blk_cell BK269.out 1).trans rfl, (blk_cell BK270.out 0).trans rfl, (blk_cell BK270.out 1).trans rfl⟩ (fun hHeld => ?_)
               clear hK K
               refine norm_ (a' := ?_) ?_ ?_
               rotate_left
               ·show Act.put _ (some 119) _ = _
                simp only [Act.put, List.setIfInBounds_toArray, List.set_cons_zero, List.set_cons_succ, i64_w, i32_w]
                rfl
               refine one_ (i := 5) (N := some 121) #[true, true, true, true, true, true, false, false, false, false, false, false] rfl rfl (one_of HT_.out (by kernel_rfl)) (by decide) (fun K hK => ?_)
               refine goes_ Try.func18 (by kernel_rfl) rfl #[.agg #[.int .i64 a2_0, .slice A2_1 l2_1.length c2_1]] (by rfl) rfl rfl (by (try simp only [List.map_toArray, List.map_cons, List.map_nil]); first | done | rfl | (simp only [List.length_drop, List.length_take]; rfl)) ?_
               with_reducible refine (laws_toPlan.calls kj120 a2_0 _ _ l2_1 t382 t383 _ ?side1 ?side2 A168.out).mono ?_
               (case side1 => exact cS (Kd.C_below HR2_1.out HB.out))
               (case side2 => exact HC2_1.out)
               rintro e w176 ⟨v384, rfl, ho0, hb⟩
               refine ⟨_, rfl, ?_⟩
               have n0_ := AZ (Kd.R_elder' (rS HO_8.out) (Kd.R_base ho0) hb)
               have n1_ := AZ (Kd.R_elder' (rS HO_13.out) (Kd.R_base ho0) hb)
               have n2_ := AZ (Kd.R_elder' (rS HO_320001.out) (Kd.R_base ho0) hb)
               have n3_ := AZ (Kd.R_elder' (rS HO_325001.out) (Kd.R_base ho0) hb)
               have n4_ := AZ (Kd.S_elder' (sS HO366.out) (Kd.R_base ho0) hb)
               have n5_ := AZ (Kd.R_elder' (rS HO369.out) (Kd.R_base ho0) hb)
               have n6_ := AZ (Kd.R_elder' (rS HO372.out) (Kd.R_base ho0) hb)
               have n7_ := AZ (Kd.R_elder' (rS HO381.out) (Kd.R_base ho0) hb)
               have n8_ := AZ (Kd.R_lower (Kd.R_new' (Kd.R_new' (Kd.R_new' (Kd.R_new' (Kd.R_new' (Kd.R_new' (Kd.R_new' ho0 (Kd.R_lt (rS HO_8.out))) (Kd.R_lt (rS HO_13.out))) (Kd.R_lt (rS HO_320001.out))) (Kd.R_lt (rS HO_325001.out))) (Kd.R_lt (rS HO369.out))) (Kd.R_lt (rS HO372.out))) (Kd.R_lt (rS HO381.out))) (below_size (bS HB.out)))
               have n9_ := blkA BK268 hb
               have n10_ := blkA BK269 hb
               have n11_ := blkA BK270 hb
               have n12_ := blkA BK319 hb
               have n13_ := blkA BK324 hb
               have n14_ := AZ (below_step (bS HB.out) hb)
               clear HO_8
               clear HO_13
               clear HO_320001
               clear HO_325001
               clear HO366
               clear HO369
               clear HO372
               clear HO381
               clear BK268
               clear BK269
               clear BK270
               clear BK319
               clear BK324
               clear HB
               have HO_8 := n0_
               have HO_13 := n1_
               have HO_320001 := n2_
               have HO_325001 := n3_
               have HO366 := n4_
               have HO369 := n5_
               have HO372 := n6_
               have HO381 := n7_
               have HO385 := n8_
               have BK268 := n9_
               have BK269 := n10_
               have BK270 := n11_
               have BK319 := n12_
               have BK324 := n13_
               have HB := n14_
               clear n0_ n1_ n2_ n3_ n4_ n5_ n6_ n7_ n8_ n9_ n10_ n11_ n12_ n13_ n14_
               (try clear hb)
               (try clear hb2)
               (try clear hk)
               (try clear hi)
               (try clear ho0)
               obtain ⟨Ao177, co177, eo177⟩ := Kd.S_slice HO366.out
               (first | subst eo177 | (injection eo177 with f1_ f2_ f3_; have f4_ := f1_.symm; have f5_ := f3_.symm; clear f1_ f2_ f3_; subst f4_; subst f5_))
               obtain ⟨Ao178, co178, eo178⟩ := Kd.R_slice HO369.out
               (first | subst eo178 | (injection eo178 with f1_ f2_ f3_; have f4_ := f1_.symm; have f5_ := f3_.symm; clear f1_ f2_ f3_; subst f4_; subst f5_))
               obtain ⟨Ao179, co179, eo179⟩ := Kd.R_slice HO372.out
               (first | subst eo179 | (injection eo179 with f1_ f2_ f3_; have f4_ := f1_.symm; have f5_ := f3_.symm; clear f1_ f2_ f3_; subst f4_; subst f5_))
               obtain ⟨Ao180, co180, eo180⟩ := Kd.R_slice HO381.out
               (first | subst eo180 | (injection eo180 with f1_ f2_ f3_; have f4_ := f1_.symm; have f5_ := f3_.symm; clear f1_ f2_ f3_; subst f4_; subst f5_))
               obtain ⟨Ao181, co181, eo181⟩ := Kd.R_slice HO385.out
               (first | subst eo181 | (injection eo181 with f1_ f2_ f3_; have f4_ := f1_.symm; have f5_ := f3_.symm; clear f1_ f2_ f3_; subst f4_; subst f5_))
               refine hK.out _ _ ⟨(blk_cell BK268.out 0).trans rfl, (blk_cell BK268.out 1).trans rfl, (blk_cell BK268.out 2).trans rfl, (blk_cell BK268.out 3).trans rfl, (blk_cell BK268.out 4).trans rfl, (blk_cell BK268.out 5).trans rfl, (blk_cell BK268.out 6).trans rfl, (blk_cell BK268.out 7).trans rfl, (blk_cell BK269.out 0).trans rfl, (blk_cell BK269.out 1).trans rfl, (blk_cell BK270.out 0).trans rfl, (blk_cell BK270.out 1).trans rfl⟩ (fun hHeld => ?_)
               clear hK K
               refine norm_ (a' := ?_) ?_ ?_
               rotate_left
               ·show Act.put _ (some 121) _ = _
                simp only [Act.put, List.setIfInBounds_toArray, List.set_cons_zero, List.set_cons_succ, i64_w, i32_w]
                rfl
               refine one_ (i := 6) (N := some 122) #[true, true, true, true, true, true, true, false, false, false, false, false] rfl rfl (one_of HT_.out (by kernel_rfl)) (by decide) (fun K hK => ?_)
               refine goes_ Try.func49 (by kernel_rfl) rfl #[.agg #[.slice Ao177 t364.length co177, .slice Ao178 t367.length co178, .slice Ao179 t370.length co179, .int .i64 t373, .int .i64 t374, .int .i64 t375, .int .i64 t376, .int .i64 t377], .agg #[.int .i64 t378, .slice Ao180 t379.length co180], .agg #[.int .i64 t382, .slice Ao181 t383.length co181]] (by rfl) rfl rfl (by (try simp only [List.map_toArray, List.map_cons, List.map_nil]); first | done | rfl | (simp only [List.length_drop, List.length_take]; rfl)) ?_
               with_reducible refine (impl_WorthBetween.calls kj120 _ _ t364 _ _ t367 _ _ t370 t373 t374 t375 t376 t377 t378 _ _ t379 t382 _ _ t383 t386 t389 _ ?side1 ?side2 ?side3 ?side4 ?side5 ?side6 ?side7 ?side8 ?side9 ?side10 A169.out).mono ?_
               (case side1 => exact cS (Kd.S_reads' HO366.out).2.2)
               (case side2 => exact (Kd.S_reads' HO366.out).2.1)
               (case side3 => exact cS (Kd.R_reads' HO369.out).2.2)
               (case side4 => exact (Kd.R_reads' HO369.out).2.1)
               (case side5 => exact cS (Kd.R_reads' HO372.out).2.2)
               (case side6 => exact (Kd.R_reads' HO372.out).2.1)
               (case side7 => exact cS (Kd.R_reads' HO381.out).2.2)
               (case side8 => exact (Kd.R_reads' HO381.out).2.1)
               (case side9 => exact cS (Kd.R_reads' HO385.out).2.2)
               (case side10 => exact (Kd.R_reads' HO385.out).2.1)
               rintro e w182 ⟨v387, rfl, ho0, hb⟩
               refine ⟨_, rfl, ?_⟩
               have n0_ := AZ (Kd.R_elder' (rS HO_8.out) (Kd.R_base ho0) hb)
               have n1_ := AZ (Kd.R_elder' (rS HO_13.out) (Kd.R_base ho0) hb)
               have n2_ := AZ (Kd.R_elder' (rS HO_320001.out) (Kd.R_base ho0) hb)
               have n3_ := AZ (Kd.R_elder' (rS HO_325001.out) (Kd.R_base ho0) hb)
               have n4_ := AZ (Kd.S_elder' (sS HO366.out) (Kd.R_base ho0) hb)
               have n5_ := AZ (Kd.R_elder' (rS HO369.out) (Kd.R_base ho0) hb)
               have n6_ := AZ (Kd.R_elder' (rS HO372.out) (Kd.R_base ho0) hb)
               have n7_ := AZ (Kd.R_elder' (rS HO381.out) (Kd.R_base ho0) hb)
               have n8_ := AZ (Kd.R_elder' (rS HO385.out) (Kd.R_base ho0) hb)
               have n9_ := AZ (Kd.R_lower (Kd.R_new' (Kd.R_new' (Kd.R_new' (Kd.R_new' (Kd.R_new' (Kd.R_new' (Kd.R_new' (Kd.R_new' ho0 (Kd.R_lt (rS HO_8.out))) (Kd.R_lt (rS HO_13.out))) (Kd.R_lt (rS HO_320001.out))) (Kd.R_lt (rS HO_325001.out))) (Kd.R_lt (rS HO369.out))) (Kd.R_lt (rS HO372.out))) (Kd.R_lt (rS HO381.out))) (Kd.R_lt (rS HO385.out))) (below_size (bS HB.out)))
               have n10_ := blkA BK268 hb
               have n11_ := blkA BK269 hb
               have n12_ := blkA BK270 hb
               have n13_ := blkA BK319 hb
               have n14_ := blkA BK324 hb
               have n15_ := AZ (below_step (bS HB.out) hb)
               clear HO_8
               clear HO_13
               clear HO_320001
               clear HO_325001
               clear HO366
               clear HO369
               clear HO372
               clear HO381
               clear HO385
               clear BK268
               clear BK269
               clear BK270
               clear BK319
               clear BK324
               clear HB
               have HO_8 := n0_
               have HO_13 := n1_
               have HO_320001 := n2_
               have HO_325001 := n3_
               have HO366 := n4_
               have HO369 := n5_
               have HO372 := n6_
               have HO381 := n7_
               have HO385 := n8_
               have HO388 := n9_
               have BK268 := n10_
               have BK269 := n11_
               have BK270 := n12_
               have BK319 := n13_
               have BK324 := n14_
               have HB := n15_
               clear n0_ n1_ n2_ n3_ n4_ n5_ n6_ n7_ n8_ n9_ n10_ n11_ n12_ n13_ n14_ n15_
               (try clear hb)
               (try clear hb2)
               (try clear hk)
               (try clear hi)
               (try clear ho0)
               refine hK.out _ _ ⟨(blk_cell BK268.out 0).trans rfl, (blk_cell BK268.out 1).trans rfl, (blk_cell BK268.out 2).trans rfl, (blk_cell BK268.out 3).trans rfl, (blk_cell BK268.out 4).trans rfl, (blk_cell BK268.out 5).trans rfl, (blk_cell BK268.out 6).trans rfl, (blk_cell BK268.out 7).trans rfl, (blk_cell BK269.out 0).trans rfl, (blk_cell BK269.out 1).trans rfl, (blk_cell BK270.out 0).trans rfl, (blk_cell BK270.out 1).trans rfl⟩ (fun hHeld => ?_)
               clear hK K
               refine norm_ (a' := ?_) ?_ ?_
               rotate_left
               ·show Act.put _ (some 122) _ = _
                simp only [Act.put, List.setIfInBounds_toArray, List.set_cons_zero, List.set_cons_succ, i64_w, i32_w]
                rfl
               refine pure_ (i := 7) (N := some 115) (v := ?_) (a' := ?_) #[true, true, true, true, true, true, true, true, false, false, false, false] rfl rfl (any_of HT_.out (by kernel_rfl)) (fun _ _ _ h => h) (Or.inl ⟨by rfl, ?_⟩) ?_ ?_
               rotate_left
               ·intro w'
                go_simp
                with_reducible rfl
               rotate_left
               ·simp only [Act.put, List.setIfInBounds_toArray, List.set_cons_zero, List.set_cons_succ, i64_w, i32_w]
                rfl
               refine pure_ (i := 8) (N := some 123) (v := ?_) (a' := ?_) #[true, true, true, true, true, true, true, true, true, false, false, false] rfl rfl (any_of HT_.out (by kernel_rfl)) (fun _ _ _ h => h) (Or.inl ⟨by rfl, ?_⟩) ?_ ?_
               rotate_left
               ·intro w'
                go_simp
                with_reducible rfl
               rotate_left
               ·simp only [Act.put, List.setIfInBounds_toArray, List.set_cons_zero, List.set_cons_succ, i64_w, i32_w]
                rfl
               refine pure_ (i := 9) (N := some 124) (v := ?_) (a' := ?_) #[true, true, true, true, true, true, true, true, true, true, false, false] rfl rfl (any_of HT_.out (by kernel_rfl)) (fun _ _ _ h => h) (Or.inl ⟨by rfl, ?_⟩) ?_ ?_
               rotate_left
               ·intro w'
                go_simp
                with_reducible rfl
               rotate_left
               ·simp only [Act.put, List.setIfInBounds_toArray, List.set_cons_zero, List.set_cons_succ, i64_w, i32_w]
                rfl
               refine pure_ (i := 10) (N := some 18) (v := ?_) (a' := ?_) #[true, true, true, true, true, true, true, true, true, true, true, false] rfl rfl (any_of HT_.out (by kernel_rfl)) (fun _ _ _ h => h) (Or.inl ⟨by rfl, ?_⟩) ?_ ?_
               rotate_left
               ·intro w'
                go_simp
                with_reducible rfl
               rotate_left
               ·simp only [Act.put, List.setIfInBounds_toArray, List.set_cons_zero, List.set_cons_succ, i64_w, i32_w]
                rfl
               refine pure_ (i := 11) (N := some 19) (v := ?_) (a' := ?_) #[true, true, true, true, true, true, true, true, true, true, true, true] rfl rfl (any_of HT_.out (by kernel_rfl)) (fun _ _ _ h => h) (Or.inl ⟨by rfl, ?_⟩) ?_ ?_
               rotate_left
               ·intro w'
                go_simp
                with_reducible rfl
               rotate_left
               ·simp only [Act.put, List.setIfInBounds_toArray, List.set_cons_zero, List.set_cons_succ, i64_w, i32_w]
                rfl
               refine done_ (done_of HT_.out (by kernel_rfl)) ?_
               go_upto_region 39 with (fail)
               go_cut [133] (fun v133 wc => ∃ (kq : Nat) (x133_169 : Bool), v133 = .bool x133_169 ∧ Aside0 (laws_FnExactWorthBetween.j2 kq t362 t361 x133_169 = some r) ∧ Aside0 (kq ≤ kj120) ∧ Aside0 (Kd.R (Kd.int .i64) 3 wc w.heap.size (fun k_ => some k_ ≠ ((.slice Ao88 t357.length co88) : Value).ownBlock ∧ some k_ ≠ ((.slice Ao98 t359.length co98) : Value).ownBlock) (.slice Ao171 t325.length co171) t362) ∧ Aside0 (Kd.R (Kd.int .i64) 3 wc w.heap.size (fun k_ => some k_ ≠ ((.slice Ao171 t325.length co171) : Value).ownBlock ∧ some k_ ≠ ((.slice Ao98 t359.length co98) : Value).ownBlock) (.slice Ao88 t357.length co88) t357) ∧ Aside0 (Kd.R (Kd.int .i64) 3 wc w.heap.size (fun k_ => some k_ ≠ ((.slice Ao171 t325.length co171) : Value).ownBlock ∧ some k_ ≠ ((.slice Ao88 t357.length co88) : Value).ownBlock) (.slice Ao98 t359.length co98) t359) ∧ Aside0 (wc.heap[gb268]? = some (.cells #[(.slice A0_0 l0_0.length c0_0), (.slice A0_1 l0_1.length c0_1), (.slice A0_2 l0_2.length c0_2), .int .i64 a0_3, .int .i64 a0_4, .int .i64 a0_5, .int .i64 a0_6, .int .i64 a0_7] 27 (0, 0))) ∧ Aside0 (wc.heap[gb269]? = some (.cells #[.int .i64 a1_0, (.slice A1_1 l1_1.length c1_1)] 29 (0, 0))) ∧ Aside0 (wc.heap[gb270]? = some (.cells #[.int .i64 a2_0, (.slice A2_1 l2_1.length c2_1)] 29 (0, 0))) ∧ Aside0 (wc.heap[gb319]? = some (.cells #[.int .i64 t315, (.slice Ao88 t357.length co88)] 38 (0, 0))) ∧ Aside0 (wc.heap[gb324]? = some (.cells #[.int .i64 t320, (.slice Ao98 t359.length co98)] 38 (0, 0))) ∧ Aside0 (Below w.heap.size w wc))
               case first =>
                have H := HC170.out
                clear HC170
                replace H := Option.bind_eq_some_iff.mp H
                obtain ⟨t390, A1830, H⟩ := H
                replace H : (if t390 = true then (laws_FnExactWorthBetween.j2 kj120 t362 t361 (t389 != t299)) else (laws_FnExactWorthBetween.j2 kj120 t362 t361 true)) = some r := H
                have A183 := Aside0.mk A1830
                clear A1830
                by_cases c184 : t390 = true
                ·subst c184
                 have H1 : (laws_FnExactWorthBetween.j2 kj120 t362 t361 (t389 != t299)) = some r := by rw [if_pos rfl] at H; exact H
                 clear H
                 have H := H1
                 clear H1
                 have H' := Aside0.mk H
                 clear H
                 obtain ⟨Ao185, co185, eo185⟩ := Kd.R_slice HO388.out
                 subst eo185
                 obtain ⟨Ao186, co186, eo186⟩ := Kd.R_slice HO_8.out
                 subst eo186
                 go_wp2_with (first | ((with_reducible refine gate_callee (f := 36) rfl ?_); refine gL (some 127) Try.func36 #[.slice Ao185 t386.length co185, .slice Ao186 t296.length co186] ?_; (with_reducible refine (laws_eqIntS.calls kj120 _ _ t386 _ _ t296 true _ ?side1 ?side2 ?side3 ?side4 A183.out).mono ?_); (case side1 => exact cS (Kd.R_reads' HO388.out).2.2); (case side2 => exact (Kd.R_reads' HO388.out).2.1); (case side3 => exact cS (Kd.R_reads' HO_8.out).2.2); (case side4 => exact (Kd.R_reads' HO_8.out).2.1); rintro e w' ⟨rfl, ⟨nd, rfl⟩⟩; refine ⟨_, rfl, ?_⟩))
                 go_meet
                 case rel => exact ⟨_, ((t389 != t299)), (by first | rfl | (simp; done) | (simp [*]; done)), H', ⟨by have := HJ46.out; have := HJ120.out; first | omega | exact Nat.le_refl _⟩, ⟨by (try simp only [hl320001_120]); (try simp only [hl325001_120]); (with_reducible repeat (first | apply Kd.R_alloc | apply Kd.R_drewN | apply Kd.R_drew)); exact Kd.R_mono HO_13.out (fun _ hk => ⟨hk.1.1.1.1.1.2.1, hk.1.1.1.1.1.2.2⟩)⟩, ⟨by (try simp only [hl320001_120]); (try simp only [hl325001_120]); (with_reducible repeat (first | apply Kd.R_alloc | apply Kd.R_drewN | apply Kd.R_drew)); exact Kd.R_mono HO_320001.out (fun _ hk => ⟨hk.1.1.1.1.1.2.1, hk.1.1.1.1.1.2.2⟩)⟩, ⟨by (try simp only [hl320001_120]); (try simp only [hl325001_120]); (with_reducible repeat (first | apply Kd.R_alloc | apply Kd.R_drewN | apply Kd.R_drew)); exact Kd.R_mono HO_325001.out (fun _ hk => ⟨hk.1.1.1.1.1.2.1, hk.1.1.1.1.1.2.2⟩)⟩, ⟨by (try simp only [hl320001_120]); (try simp only [hl325001_120]); (with_reducible repeat (first | refine blk_drewN ?_ _ | refine blk_drew ?_ | refine blk_alloc ?_ _)); exact BK268.out⟩, ⟨by (try simp only [hl320001_120]); (try simp only [hl325001_120]); (with_reducible repeat (first | refine blk_drewN ?_ _ | refine blk_drew ?_ | refine blk_alloc ?_ _)); exact BK269.out⟩, ⟨by (try simp only [hl320001_120]); (try simp only [hl325001_120]); (with_reducible repeat (first | refine blk_drewN ?_ _ | refine blk_drew ?_ | refine blk_alloc ?_ _)); exact BK270.out⟩, ⟨by (try simp only [hl320001_120]); (try simp only [hl325001_120]); (with_reducible repeat (first | refine blk_drewN ?_ _ | refine blk_drew ?_ | refine blk_alloc ?_ _)); exact BK319.out⟩, ⟨by (try simp only [hl320001_120]); (try simp only [hl325001_120]); (with_reducible repeat (first | refine blk_drewN ?_ _ | refine blk_drew ?_ | refine blk_alloc ?_ _)); exact BK324.out⟩, ⟨bS HB.out⟩⟩
                ·replace c184 := Bool.eq_false_iff.mpr c184
                 subst c184
                 have H1 : (laws_FnExactWorthBetween.j2 kj120 t362 t361 true) = some r := by rw [if_neg (show ¬ (false = true) by decide)] at H; exact H
                 clear H
                 have H := H1
                 clear H1
                 have H' := Aside0.mk H
                 clear H
                 obtain ⟨Ao187, co187, eo187⟩ := Kd.R_slice HO388.out
                 subst eo187
                 obtain ⟨Ao188, co188, eo188⟩ := Kd.R_slice HO_8.out
                 subst eo188
                 go_wp2_with (first | ((with_reducible refine gate_callee (f := 36) rfl ?_); refine gL (some 127) Try.func36 #[.slice Ao187 t386.length co187, .slice Ao188 t296.length co188] ?_; (with_reducible refine (laws_eqIntS.calls kj120 _ _ t386 _ _ t296 false _ ?side1 ?side2 ?side3 ?side4 A183.out).mono ?_); (case side1 => exact cS (Kd.R_reads' HO388.out).2.2); (case side2 => exact (Kd.R_reads' HO388.out).2.1); (case side3 => exact cS (Kd.R_reads' HO_8.out).2.2); (case side4 => exact (Kd.R_reads' HO_8.out).2.1); rintro e w' ⟨rfl, ⟨nd, rfl⟩⟩; refine ⟨_, rfl, ?_⟩))
                 go_meet
                 case rel => exact ⟨_, (true), (by first | rfl | (simp; done) | (simp [*]; done)), H', ⟨by have := HJ46.out; have := HJ120.out; first | omega | exact Nat.le_refl _⟩, ⟨by (try simp only [hl320001_120]); (try simp only [hl325001_120]); (with_reducible repeat (first | apply Kd.R_alloc | apply Kd.R_drewN | apply Kd.R_drew)); exact Kd.R_mono HO_13.out (fun _ hk => ⟨hk.1.1.1.1.1.2.1, hk.1.1.1.1.1.2.2⟩)⟩, ⟨by (try simp only [hl320001_120]); (try simp only [hl325001_120]); (with_reducible repeat (first | apply Kd.R_alloc | apply Kd.R_drewN | apply Kd.R_drew)); exact Kd.R_mono HO_320001.out (fun _ hk => ⟨hk.1.1.1.1.1.2.1, hk.1.1.1.1.1.2.2⟩)⟩, ⟨by (try simp only [hl320001_120]); (try simp only [hl325001_120]); (with_reducible repeat (first | apply Kd.R_alloc | apply Kd.R_drewN | apply Kd.R_drew)); exact Kd.R_mono HO_325001.out (fun _ hk => ⟨hk.1.1.1.1.1.2.1, hk.1.1.1.1.1.2.2⟩)⟩, ⟨by (try simp only [hl320001_120]); (try simp only [hl325001_120]); (with_reducible repeat (first | refine blk_drewN ?_ _ | refine blk_drew ?_ | refine blk_alloc ?_ _)); exact BK268.out⟩, ⟨by (try simp only [hl320001_120]); (try simp only [hl325001_120]); (with_reducible repeat (first | refine blk_drewN ?_ _ | refine blk_drew ?_ | refine blk_alloc ?_ _)); exact BK269.out⟩, ⟨by (try simp only [hl320001_120]); (try simp only [hl325001_120]); (with_reducible repeat (first | refine blk_drewN ?_ _ | refine blk_drew ?_ | refine blk_alloc ?_ _)); exact BK270.out⟩, ⟨by (try simp only [hl320001_120]); (try simp only [hl325001_120]); (with_reducible repeat (first | refine blk_drewN ?_ _ | refine blk_drew ?_ | refine blk_alloc ?_ _)); exact BK319.out⟩, ⟨by (try simp only [hl320001_120]); (try simp only [hl325001_120]); (with_reducible repeat (first | refine blk_drewN ?_ _ | refine blk_drew ?_ | refine blk_alloc ?_ _)); exact BK324.out⟩, ⟨bS HB.out⟩⟩
               case rest =>
                clear HC170
                try clear c1
                try clear c2
                try clear p2
                try clear c3
                try clear c4
                try clear c13
                try clear c14
                try clear c15
                try clear c16
                try clear c17
                try clear c18
                try clear c21
                try clear c36
                try clear c37
                try clear c38
                try clear c39
                try clear c40
                try clear c49
                try clear c136
                try clear c137
                try clear c138
                try clear c139
                try clear c140
                try clear c143
                try clear c144
                try clear c145
                try clear c146
                try clear c149
                try clear c150
                try clear c151
                try clear c154
                try clear c154b0
                try clear c156
                try clear c161
                try clear c164
                try clear c164b0
                try clear c165
                try clear c165b0
                try clear c165b1
                try clear c184
                try clear hcz141_0
                try clear hcz141_1
                try clear hcz141_2
                try clear hcz141_3
                try clear hcz141_4
                try clear hcz141_5
                try clear hcz141_6
                try clear hcz141_7
                try clear hcz147_0
                try clear hcz147_1
                try clear hcz152_0
                try clear hcz152_1
                try clear hfz141_0
                try clear hfz141_1
                try clear hfz141_2
                try clear hfz141_3
                try clear hfz141_4
                try clear hfz141_5
                try clear hfz141_6
                try clear hfz141_7
                try clear hfz147_0
                try clear hfz147_1
                try clear hfz152_0
                try clear hfz152_1
                try clear p2
                obtain ⟨kq, x133_169, rfl, HA, HJ169, HO_13, HO_320001, HO_325001, BK268, BK269, BK270, BK319, BK324, HB⟩ := hcut
                have hl13_169 := (Kd.R_reads' HO_13.out).1
                rw [hl13_169] at HO_13
                (try simp only [hl13_169])
                (try simp only [hl13_169] at BK268)
                (try simp only [hl13_169] at BK269)
                (try simp only [hl13_169] at BK270)
                (try simp only [hl13_169] at BK319)
                (try simp only [hl13_169] at BK324)
                (try simp only [hl13_169] at HO_320001)
                (try simp only [hl13_169] at HO_325001)
                cases kq with
                | zero => exact absurd HA.out (by simp [laws_FnExactWorthBetween.j2])
                | succ kj169 =>
                 have H := HA.out
                 clear HA
                 simp only [laws_FnExactWorthBetween.j2] at H
                 by_cases c189 : x133_169 = true
                 ·subst c189
                  have H1 : (none) = some r := by rw [if_pos rfl] at H; exact H
                  clear H
                  have H := H1
                  clear H1
                  exact absurd H (by simp)
                 ·replace c189 := Bool.eq_false_iff.mpr c189
                  subst c189
                  have H1 : ((laws_heldIntS.f kj169 t362 1).bind fun t391 => (if t391 < 0 then (none) else (if t391 = t361 then (some true) else (none)))) = some r := by rw [if_neg (show ¬ (false = true) by decide)] at H; exact H
                  clear H
                  have H := H1
                  clear H1
                  replace H := Option.bind_eq_some_iff.mp H
                  obtain ⟨t391, A1900, H⟩ := H
                  replace H : (if t391 < 0 then (none) else (if t391 = t361 then (some true) else (none))) = some r := H
                  have A190 := Aside0.mk A1900
                  clear A1900
                  by_cases c191 : t391 < 0
                  ·rw [if_pos c191] at H
                   exact absurd H (by simp)
                  ·rw [if_neg c191] at H
                   have c191b0 : decide (t391 < 0) = false := decide_eq_false c191
                   clear c191
                   by_cases c192 : t391 = t361
                   ·rw [if_pos c192] at H
                    have c192b0 : (t391 == t361) = true := beq_iff_eq.mpr c192
                    have c192b1 : (t391 != t361) = false := bne_eq_false_iff_eq.mpr c192
                    clear c192
                    obtain rfl := Option.some.inj H
                    go_wp2_with (first | ((with_reducible refine gate_callee (f := 40) rfl ?_); refine gL (some 136) Try.func40 #[.slice Ao171 t362.length co171, .int .i64 1] ?_; (with_reducible refine (laws_heldIntS.calls kj169 _ _ t362 1 t391 _ ?side1 ?side2 A190.out).mono ?_); (case side1 => exact cS (Kd.R_reads' HO_13.out).2.2); (case side2 => exact (Kd.R_reads' HO_13.out).2.1); rintro e w' ⟨rfl, ⟨nd, rfl⟩⟩; refine ⟨_, rfl, ?_⟩))
                    go_ret
                    exact ⟨by first | rfl | (simp; done) | (simp [*]; done), bS HB.out⟩
                   ·rw [if_neg c192] at H
                    exact absurd H (by simp)
              ·rw [if_neg c165] at H
               exact absurd H (by simp)
         ·replace c117 := Bool.eq_false_iff.mpr c117
          subst c117
          have H1 : (none) = some r := by rw [if_neg (show ¬ (false = true) by decide)] at H; exact H
          clear H
          have H := H1
          clear H1
          exact absurd H (by simp)
        ·replace c114 := Bool.eq_false_iff.mpr c114
         subst c114
         have H1 : (none) = some r := by rw [if_neg (show ¬ (false = true) by decide)] at H; exact H
         clear H
         have H := H1
         clear H1
         exact absurd H (by simp)
       ·replace c111 := Bool.eq_false_iff.mpr c111
        subst c111
        have H1 : (none) = some r := by rw [if_neg (show ¬ (false = true) by decide)] at H; exact H
        clear H
        have H := H1
        clear H1
        exact absurd H (by simp)

end Go.Proofs.Ytpfjjheognelhaa.PFnExactWorthBetween
