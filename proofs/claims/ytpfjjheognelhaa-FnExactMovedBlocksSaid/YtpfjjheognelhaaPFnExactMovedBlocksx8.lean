-- Written by a program of this claim (patch_print.py over the print): no hand has typed it.
import Derived.Test.YtpfjjheognelhaaPFnExactMovedBlocksx0
import Derived.Test.YtpfjjheognelhaaPFnExactMovedBlocksx1
import Derived.Test.YtpfjjheognelhaaPFnExactMovedBlocksx2
import Derived.Test.YtpfjjheognelhaaPFnExactMovedBlocksx4
import Derived.Test.YtpfjjheognelhaaPFnExactMovedBlocksx6
import Derived.Test.YtpfjjheognelhaaPFnExactMovedBlocksx7
namespace Go.Proofs.Ytpfjjheognelhaa.PFnExactMovedBlocks
open Go.RowKit Go.Proofs.YtpfjjheognelhaaW.PrintWords Go.Proofs.YtpfjjheognelhaaW.PrintLast Go.Proofs.YtpfjjheognelhaaW.PrintMore
attribute [local go_sem] max2_int min2_int max_two min_two max_three min_three max_four min_four   -- for this text's walks alone
set_option linter.unusedVariables false
set_option linter.unusedSimpArgs false

/-! ### laws_FnExactMovedBlocks: function 6 -/
mutual
def laws_FnExactMovedBlocks.j0 : Nat → List Int → Bool → List Int → Bool → Bool → List (List Int) → List Int → List Int → Int → Int → Int → Int → Int → Int → List Int → Int → List Int → List (List Int) → List Int → List Int → Int → Int → Int → Int → Int → Int → List Int → Int → List Int → Option (Bool)
  | 0, _, _, _, _, _, _, _, _, _, _, _, _, _, _, _, _, _, _, _, _, _, _, _, _, _, _, _, _, _ => none
  | k + 1, x8, x9, x13, x14, x66, x246000, x246001, x246002, x246003, x246004, x246005, x246006, x246007, x247000, x247001, x248000, x248001, x292000, x292001, x292002, x292003, x292004, x292005, x292006, x292007, x297000, x297001, x302000, x302001 => if x66 = true then (none) else ((laws_toJob.f k x246000 x246001 x246002 x246003 x246004 x246005 x246006 x246007).bind fun bt307 => ((laws_eqJob.f k x292000 x292001 x292002 x292003 x292004 x292005 x292006 x292007 bt307.1 bt307.2.1 bt307.2.2.1 bt307.2.2.2.1 bt307.2.2.2.2.1 bt307.2.2.2.2.2.1 bt307.2.2.2.2.2.2.1 bt307.2.2.2.2.2.2.2).bind fun t321 => (if t321 = true then ((laws_toPlan.f k x247000 x247001).bind fun bt322 => ((laws_eqPlan.f k x297000 x297001 bt322.1 bt322.2).bind fun t326 => (if t326 = true then ((laws_toPlan.f k x248000 x248001).bind fun bt327 => ((laws_eqPlan.f k x302000 x302001 bt327.1 bt327.2).bind fun t331 => (if t331 = true then ((laws_markJob.f k x292000 x292001 x292002 x292003 x292004 x292005 x292006 x292007 1).bind fun t332 => ((laws_markPlan.f k x297000 x297001 t332).bind fun bt333 => ((laws_markPlan.f k x302000 x302001 bt333.1).bind fun bt335 => (if bt335.1 < 0 then (laws_FnExactMovedBlocks.j1 k x8 x9 x13 true x246000 x246001 x246002 x246003 x246004 x246005 x246006 x246007 x247000 x247001 x248000 x248001) else ((laws_eqIntS.f k x13 x8).bind fun t337 => (if t337 = true then (laws_FnExactMovedBlocks.j1 k x8 x9 x13 (x14 != x9) x246000 x246001 x246002 x246003 x246004 x246005 x246006 x246007 x247000 x247001 x248000 x248001) else (laws_FnExactMovedBlocks.j1 k x8 x9 x13 true x246000 x246001 x246002 x246003 x246004 x246005 x246006 x246007 x247000 x247001 x248000 x248001))))))) else (none)))) else (none)))) else (none))))
def laws_FnExactMovedBlocks.j1 : Nat → List Int → Bool → List Int → Bool → List (List Int) → List Int → List Int → Int → Int → Int → Int → Int → Int → List Int → Int → List Int → Option (Bool)
  | 0, _, _, _, _, _, _, _, _, _, _, _, _, _, _, _, _ => none
  | k + 1, x8, x9, x13, x103, x246000, x246001, x246002, x246003, x246004, x246005, x246006, x246007, x247000, x247001, x248000, x248001 => if x103 = true then (none) else ((laws_markIntS.f k x13 1).bind fun bt338 => ((laws_heldIntS.f k bt338.2 1).bind fun t340 => (if t340 < 0 then (none) else (if t340 = bt338.1 then ((laws_toJob.f k x246000 x246001 x246002 x246003 x246004 x246005 x246006 x246007).bind fun bt341 => ((laws_toPlan.f k x247000 x247001).bind fun bt355 => ((laws_toPlan.f k x248000 x248001).bind fun bt359 => ((impl_MovedBlocks.f k bt341.1 bt341.2.1 bt341.2.2.1 bt341.2.2.2.1 bt341.2.2.2.2.1 bt341.2.2.2.2.2.1 bt341.2.2.2.2.2.2.1 bt341.2.2.2.2.2.2.2 bt355.1 bt355.2 bt359.1 bt359.2).bind fun bt363 => ((laws_eqIntS.f k bt363.1 x8).bind fun t367 => (if t367 = true then (laws_FnExactMovedBlocks.j2 k bt338.2 bt338.1 (bt363.2 != x9)) else (laws_FnExactMovedBlocks.j2 k bt338.2 bt338.1 true))))))) else (none)))))
def laws_FnExactMovedBlocks.j2 : Nat → List Int → Int → Bool → Option (Bool)
  | 0, _, _, _ => none
  | k + 1, x13, x16, x133 => if x133 = true then (none) else ((laws_heldIntS.f k x13 1).bind fun t368 => (if t368 < 0 then (none) else (if t368 = x16 then (some true) else (none))))
end
def laws_FnExactMovedBlocks.f (k : Nat) (l0_0 : List (List Int)) (l0_1 : List Int) (l0_2 : List Int) (a0_3 : Int) (a0_4 : Int) (a0_5 : Int) (a0_6 : Int) (a0_7 : Int) (a1_0 : Int) (l1_1 : List Int) (a2_0 : Int) (l2_1 : List Int) : Option (Bool) := (laws_szJob.f k l0_0 l0_1 l0_2 a0_3 a0_4 a0_5 a0_6 a0_7 1048576).bind fun t248 => (if t248 < 0 then (some true) else ((laws_szPlan.f a1_0 l1_1 t248).bind fun t249 => (if t249 < 0 then (some true) else ((laws_szPlan.f a2_0 l2_1 t249).bind fun t250 => (if t250 < 0 then (some true) else ((laws_toJob.f k l0_0 l0_1 l0_2 a0_3 a0_4 a0_5 a0_6 a0_7).bind fun bt251 => ((laws_toPlan.f k a1_0 l1_1).bind fun bt265 => ((laws_toPlan.f k a2_0 l2_1).bind fun bt269 => ((spec_MovedBlocks.f k bt251.1 bt251.2.1 bt251.2.2.1 bt251.2.2.2.1 bt251.2.2.2.2.1 bt251.2.2.2.2.2.1 bt251.2.2.2.2.2.2.1 bt251.2.2.2.2.2.2.2 bt265.1 bt265.2 bt269.1 bt269.2).bind fun bt273 => ((laws_toJob.f k l0_0 l0_1 l0_2 a0_3 a0_4 a0_5 a0_6 a0_7).bind fun bt277 => ((laws_toPlan.f k a1_0 l1_1).bind fun bt292 => ((laws_toPlan.f k a2_0 l2_1).bind fun bt297 => ((impl_MovedBlocks.f k bt277.1 bt277.2.1 bt277.2.2.1 bt277.2.2.2.1 bt277.2.2.2.2.1 bt277.2.2.2.2.2.1 bt277.2.2.2.2.2.2.1 bt277.2.2.2.2.2.2.2 bt292.1 bt292.2 bt297.1 bt297.2).bind fun bt302 => ((laws_eqIntS.f k bt302.1 bt273.1).bind fun t306 => (if t306 = true then (laws_FnExactMovedBlocks.j0 k bt273.1 bt273.2 bt302.1 bt302.2 (bt302.2 != bt273.2) l0_0 l0_1 l0_2 a0_3 a0_4 a0_5 a0_6 a0_7 a1_0 l1_1 a2_0 l2_1 bt277.1 bt277.2.1 bt277.2.2.1 bt277.2.2.2.1 bt277.2.2.2.2.1 bt277.2.2.2.2.2.1 bt277.2.2.2.2.2.2.1 bt277.2.2.2.2.2.2.2 bt292.1 bt292.2 bt297.1 bt297.2) else (laws_FnExactMovedBlocks.j0 k bt273.1 bt273.2 bt302.1 bt302.2 true l0_0 l0_1 l0_2 a0_3 a0_4 a0_5 a0_6 a0_7 a1_0 l1_1 a2_0 l2_1 bt277.1 bt277.2.1 bt277.2.2.1 bt277.2.2.2.1 bt277.2.2.2.2.1 bt277.2.2.2.2.2.1 bt277.2.2.2.2.2.2.1 bt277.2.2.2.2.2.2.2 bt292.1 bt292.2 bt297.1 bt297.2))))))))))))))))
def laws_FnExactMovedBlocks.T11 : Bool × List (List Nat × List Nat) := (true, [([], []), ([0], [0]), ([], []), ([2, 1], [2]), ([], []), ([4, 3], [4]), ([1, 3, 5, 5], [1, 3, 5]), ([6], [6]), ([7], [7]), ([7], [7]), ([8, 6, 0, 1, 2, 3, 4, 5, 6, 7, 8], [8]), ([9, 10, 0, 1, 2, 3, 4, 5, 6, 7, 8, 9, 10], [9])])
def laws_FnExactMovedBlocks.B11 : List Nat := [0, 1, 0, 7, 0, 31, 63, 127, 255, 255, 511, 2047]
theorem laws_FnExactMovedBlocks.tab11 : rtab .any (opsOf Try.f6 11) = laws_FnExactMovedBlocks.T11 := by kernel_rfl
theorem laws_FnExactMovedBlocks.bits11 : waitsOk laws_FnExactMovedBlocks.T11.2 laws_FnExactMovedBlocks.B11 = true := by kernel_rfl
def laws_FnExactMovedBlocks.T38 : Bool × List (List Nat × List Nat) := (true, [([], []), ([0], [0]), ([], []), ([2, 1], [2]), ([], []), ([4, 3], [4]), ([1, 3, 5, 5], [1, 3, 5]), ([6], [6]), ([7], [7]), ([7], [7]), ([8, 6, 0, 1, 2, 3, 4, 5, 6, 7, 8], [8]), ([9, 10, 0, 1, 2, 3, 4, 5, 6, 7, 8, 9, 10], [9])])
def laws_FnExactMovedBlocks.B38 : List Nat := [0, 1, 0, 7, 0, 31, 63, 127, 255, 255, 511, 2047]
theorem laws_FnExactMovedBlocks.tab38 : rtab .any (opsOf Try.f6 38) = laws_FnExactMovedBlocks.T38 := by kernel_rfl
theorem laws_FnExactMovedBlocks.bits38 : waitsOk laws_FnExactMovedBlocks.T38.2 laws_FnExactMovedBlocks.B38 = true := by kernel_rfl
set_option maxHeartbeats 8000000 in
set_option maxRecDepth 100000 in
theorem laws_FnExactMovedBlocks.calls (k : Nat) (A0_0 : Option Addr) (c0_0 : Nat) (l0_0 : List (List Int)) (A0_1 : Option Addr) (c0_1 : Nat) (l0_1 : List Int) (A0_2 : Option Addr) (c0_2 : Nat) (l0_2 : List Int) (a0_3 : Int) (a0_4 : Int) (a0_5 : Int) (a0_6 : Int) (a0_7 : Int) (a1_0 : Int) (A1_1 : Option Addr) (c1_1 : Nat) (l1_1 : List Int) (a2_0 : Int) (A2_1 : Option Addr) (c2_1 : Nat) (l2_1 : List Int) (r : Bool) (w : World) (hr0_0 : Kd.C (Kd.slice 3 (Kd.int .i64)) w A0_0 l0_0.length l0_0) (hc0_0 : l0_0.length ≤ c0_0) (hr0_1 : Kd.C (Kd.int .i64) w A0_1 l0_1.length l0_1) (hc0_1 : l0_1.length ≤ c0_1) (hr0_2 : Kd.C (Kd.int .i64) w A0_2 l0_2.length l0_2) (hc0_2 : l0_2.length ≤ c0_2) (hr1_1 : Kd.C (Kd.int .i64) w A1_1 l1_1.length l1_1) (hc1_1 : l1_1.length ≤ c1_1) (hr2_1 : Kd.C (Kd.int .i64) w A2_1 l2_1.length l2_1) (hc2_1 : l2_1.length ≤ c2_1) (h : laws_FnExactMovedBlocks.f k l0_0 l0_1 l0_2 a0_3 a0_4 a0_5 a0_6 a0_7 a1_0 l1_1 a2_0 l2_1 = some r) :
    Calls Try.prog 6 #[.agg #[.slice A0_0 l0_0.length c0_0, .slice A0_1 l0_1.length c0_1, .slice A0_2 l0_2.length c0_2, .int .i64 a0_3, .int .i64 a0_4, .int .i64 a0_5, .int .i64 a0_6, .int .i64 a0_7], .agg #[.int .i64 a1_0, .slice A1_1 l1_1.length c1_1], .agg #[.int .i64 a2_0, .slice A2_1 l2_1.length c2_1]] w fun e w' => e = .returned (.bool r) ∧ Below w.heap.size w w' := by
  have hu27 := Try.underlying27
  have hu29 := Try.underlying29
  have hu36 := Try.underlying36
  have hu38 := Try.underlying38
  have HR0_0 := Aside0.mk hr0_0
  have HC0_0 := Aside0.mk hc0_0
  clear hr0_0 hc0_0
  have HR0_1 := Aside0.mk hr0_1
  have HC0_1 := Aside0.mk hc0_1
  clear hr0_1 hc0_1
  have HR0_2 := Aside0.mk hr0_2
  have HC0_2 := Aside0.mk hc0_2
  clear hr0_2 hc0_2
  have HR1_1 := Aside0.mk hr1_1
  have HC1_1 := Aside0.mk hc1_1
  clear hr1_1 hc1_1
  have HR2_1 := Aside0.mk hr2_1
  have HC2_1 := Aside0.mk hc2_1
  clear hr2_1 hc2_1
  have HB := AZ (Below.refl w.heap.size w)
  have H : ((laws_szJob.f k l0_0 l0_1 l0_2 a0_3 a0_4 a0_5 a0_6 a0_7 1048576).bind fun t248 => (if t248 < 0 then (some true) else ((laws_szPlan.f a1_0 l1_1 t248).bind fun t249 => (if t249 < 0 then (some true) else ((laws_szPlan.f a2_0 l2_1 t249).bind fun t250 => (if t250 < 0 then (some true) else ((laws_toJob.f k l0_0 l0_1 l0_2 a0_3 a0_4 a0_5 a0_6 a0_7).bind fun bt251 => ((laws_toPlan.f k a1_0 l1_1).bind fun bt265 => ((laws_toPlan.f k a2_0 l2_1).bind fun bt269 => ((spec_MovedBlocks.f k bt251.1 bt251.2.1 bt251.2.2.1 bt251.2.2.2.1 bt251.2.2.2.2.1 bt251.2.2.2.2.2.1 bt251.2.2.2.2.2.2.1 bt251.2.2.2.2.2.2.2 bt265.1 bt265.2 bt269.1 bt269.2).bind fun bt273 => ((laws_toJob.f k l0_0 l0_1 l0_2 a0_3 a0_4 a0_5 a0_6 a0_7).bind fun bt277 => ((laws_toPlan.f k a1_0 l1_1).bind fun bt292 => ((laws_toPlan.f k a2_0 l2_1).bind fun bt297 => ((impl_MovedBlocks.f k bt277.1 bt277.2.1 bt277.2.2.1 bt277.2.2.2.1 bt277.2.2.2.2.1 bt277.2.2.2.2.2.1 bt277.2.2.2.2.2.2.1 bt277.2.2.2.2.2.2.2 bt292.1 bt292.2 bt297.1 bt297.2).bind fun bt302 => ((laws_eqIntS.f k bt302.1 bt273.1).bind fun t306 => (if t306 = true then (laws_FnExactMovedBlocks.j0 k bt273.1 bt273.2 bt302.1 bt302.2 (bt302.2 != bt273.2) l0_0 l0_1 l0_2 a0_3 a0_4 a0_5 a0_6 a0_7 a1_0 l1_1 a2_0 l2_1 bt277.1 bt277.2.1 bt277.2.2.1 bt277.2.2.2.1 bt277.2.2.2.2.1 bt277.2.2.2.2.2.1 bt277.2.2.2.2.2.2.1 bt277.2.2.2.2.2.2.2 bt292.1 bt292.2 bt297.1 bt297.2) else (laws_FnExactMovedBlocks.j0 k bt273.1 bt273.2 bt302.1 bt302.2 true l0_0 l0_1 l0_2 a0_3 a0_4 a0_5 a0_6 a0_7 a1_0 l1_1 a2_0 l2_1 bt277.1 bt277.2.1 bt277.2.2.1 bt277.2.2.2.1 bt277.2.2.2.2.1 bt277.2.2.2.2.2.1 bt277.2.2.2.2.2.2.1 bt277.2.2.2.2.2.2.2 bt292.1 bt292.2 bt297.1 bt297.2))))))))))))))))) = some r := h
  clear h
  replace H := Option.bind_eq_some_iff.mp H
  obtain ⟨t248, A40, H⟩ := H
  replace H : (if t248 < 0 then (some true) else ((laws_szPlan.f a1_0 l1_1 t248).bind fun t249 => (if t249 < 0 then (some true) else ((laws_szPlan.f a2_0 l2_1 t249).bind fun t250 => (if t250 < 0 then (some true) else ((laws_toJob.f k l0_0 l0_1 l0_2 a0_3 a0_4 a0_5 a0_6 a0_7).bind fun bt251 => ((laws_toPlan.f k a1_0 l1_1).bind fun bt265 => ((laws_toPlan.f k a2_0 l2_1).bind fun bt269 => ((spec_MovedBlocks.f k bt251.1 bt251.2.1 bt251.2.2.1 bt251.2.2.2.1 bt251.2.2.2.2.1 bt251.2.2.2.2.2.1 bt251.2.2.2.2.2.2.1 bt251.2.2.2.2.2.2.2 bt265.1 bt265.2 bt269.1 bt269.2).bind fun bt273 => ((laws_toJob.f k l0_0 l0_1 l0_2 a0_3 a0_4 a0_5 a0_6 a0_7).bind fun bt277 => ((laws_toPlan.f k a1_0 l1_1).bind fun bt292 => ((laws_toPlan.f k a2_0 l2_1).bind fun bt297 => ((impl_MovedBlocks.f k bt277.1 bt277.2.1 bt277.2.2.1 bt277.2.2.2.1 bt277.2.2.2.2.1 bt277.2.2.2.2.2.1 bt277.2.2.2.2.2.2.1 bt277.2.2.2.2.2.2.2 bt292.1 bt292.2 bt297.1 bt297.2).bind fun bt302 => ((laws_eqIntS.f k bt302.1 bt273.1).bind fun t306 => (if t306 = true then (laws_FnExactMovedBlocks.j0 k bt273.1 bt273.2 bt302.1 bt302.2 (bt302.2 != bt273.2) l0_0 l0_1 l0_2 a0_3 a0_4 a0_5 a0_6 a0_7 a1_0 l1_1 a2_0 l2_1 bt277.1 bt277.2.1 bt277.2.2.1 bt277.2.2.2.1 bt277.2.2.2.2.1 bt277.2.2.2.2.2.1 bt277.2.2.2.2.2.2.1 bt277.2.2.2.2.2.2.2 bt292.1 bt292.2 bt297.1 bt297.2) else (laws_FnExactMovedBlocks.j0 k bt273.1 bt273.2 bt302.1 bt302.2 true l0_0 l0_1 l0_2 a0_3 a0_4 a0_5 a0_6 a0_7 a1_0 l1_1 a2_0 l2_1 bt277.1 bt277.2.1 bt277.2.2.1 bt277.2.2.2.1 bt277.2.2.2.2.1 bt277.2.2.2.2.2.1 bt277.2.2.2.2.2.2.1 bt277.2.2.2.2.2.2.2 bt292.1 bt292.2 bt297.1 bt297.2)))))))))))))))) = some r := H
  have A4 := Aside0.mk A40
  clear A40
  by_cases c5 : t248 < 0
  · rw [if_pos c5] at H
    have c5b0 : decide (t248 < 0) = true := decide_eq_true c5
    clear c5
    obtain rfl := Option.some.inj H
    go_enter Try.func6, Try.ntmps6
    go_wp2_with (first | ((with_reducible refine gate_dst (N := 3) rfl ?_); refine box_event ?hg (N := 3) ?hd (cs := #[.slice A0_0 l0_0.length c0_0, .slice A0_1 l0_1.length c0_1, .slice A0_2 l0_2.length c0_2, .int .i64 a0_3, .int .i64 a0_4, .int .i64 a0_5, .int .i64 a0_6, .int .i64 a0_7]) (t := 27) ?hr ?_; (case hd => rfl); (case hg => rfl); (case hr => first | (go_simp; done) | (go_simp; rfl)); intro gb245 hg w6 hbox hb; have n0_ := AZ (below_step (bS HB.out) hb); have n1_ := AZ (hbox); have n2_ := AZ (geS hg HB.out); have n3_ := AZ (geS hg HB.out); clear HB; have HB := n0_; have BK245 := n1_; have GW245 := n2_; have GE245 := n3_; clear n0_ n1_ n2_ n3_; clear hb hbox hg) | ((with_reducible refine gate_dst (N := 4) rfl ?_); refine box_event ?hg (N := 4) ?hd (cs := #[.int .i64 a1_0, .slice A1_1 l1_1.length c1_1]) (t := 29) ?hr ?_; (case hd => rfl); (case hg => rfl); (case hr => first | (go_simp; done) | (go_simp; rfl)); intro gb246 hg w7 hbox hb; have n0_ := blkA BK245 hb; have n1_ := AZ (below_step (bS HB.out) hb); have n2_ := AZ (hbox); have n3_ := AZ (geS hg HB.out); have n4_ := AZ (geS hg HB.out); have n5_ := AZ ((by rw [hg]; exact Nat.ne_of_lt (blkL BK245.out) : gb245 ≠ gb246)); have n6_ := AZ ((by rw [hg]; exact Nat.ne_of_gt (blkL BK245.out) : gb246 ≠ gb245)); clear BK245; clear HB; have BK245 := n0_; have HB := n1_; have BK246 := n2_; have GW246 := n3_; have GE246 := n4_; have NB245_246 := n5_; have NB246_245 := n6_; clear n0_ n1_ n2_ n3_ n4_ n5_ n6_; clear hb hbox hg) | ((with_reducible refine gate_dst (N := 5) rfl ?_); refine box_event ?hg (N := 5) ?hd (cs := #[.int .i64 a2_0, .slice A2_1 l2_1.length c2_1]) (t := 29) ?hr ?_; (case hd => rfl); (case hg => rfl); (case hr => first | (go_simp; done) | (go_simp; rfl)); intro gb247 hg w8 hbox hb; have n0_ := blkA BK245 hb; have n1_ := blkA BK246 hb; have n2_ := AZ (below_step (bS HB.out) hb); have n3_ := AZ (hbox); have n4_ := AZ (geS hg HB.out); have n5_ := AZ (geS hg HB.out); have n6_ := AZ ((by rw [hg]; exact Nat.ne_of_lt (blkL BK245.out) : gb245 ≠ gb247)); have n7_ := AZ ((by rw [hg]; exact Nat.ne_of_gt (blkL BK245.out) : gb247 ≠ gb245)); have n8_ := AZ ((by rw [hg]; exact Nat.ne_of_lt (blkL BK246.out) : gb246 ≠ gb247)); have n9_ := AZ ((by rw [hg]; exact Nat.ne_of_gt (blkL BK246.out) : gb247 ≠ gb246)); clear BK245; clear BK246; clear HB; have BK245 := n0_; have BK246 := n1_; have HB := n2_; have BK247 := n3_; have GW247 := n4_; have GE247 := n5_; have NB245_247 := n6_; have NB247_245 := n7_; have NB246_247 := n8_; have NB247_246 := n9_; clear n0_ n1_ n2_ n3_ n4_ n5_ n6_ n7_ n8_ n9_; clear hb hbox hg; have hnb9 := NB245_246.out; have hnc9 := NB246_245.out; have hnb10 := NB245_247.out; have hnc10 := NB247_245.out; have hcz11_0 : w8.cell? ⟨gb245, 0, none⟩ = some (.slice A0_0 l0_0.length c0_0) := (blk_cell BK245.out 0).trans rfl; have hcz11_1 : w8.cell? ⟨gb245, 1, none⟩ = some (.slice A0_1 l0_1.length c0_1) := (blk_cell BK245.out 1).trans rfl; have hcz11_2 : w8.cell? ⟨gb245, 2, none⟩ = some (.slice A0_2 l0_2.length c0_2) := (blk_cell BK245.out 2).trans rfl; have hcz11_3 : w8.cell? ⟨gb245, 3, none⟩ = some (.int .i64 a0_3) := (blk_cell BK245.out 3).trans rfl; have hcz11_4 : w8.cell? ⟨gb245, 4, none⟩ = some (.int .i64 a0_4) := (blk_cell BK245.out 4).trans rfl; have hcz11_5 : w8.cell? ⟨gb245, 5, none⟩ = some (.int .i64 a0_5) := (blk_cell BK245.out 5).trans rfl; have hcz11_6 : w8.cell? ⟨gb245, 6, none⟩ = some (.int .i64 a0_6) := (blk_cell BK245.out 6).trans rfl; have hcz11_7 : w8.cell? ⟨gb245, 7, none⟩ = some (.int .i64 a0_7) := (blk_cell BK245.out 7).trans rfl; have hfz11_0 := blk_frozen BK245.out 0; have hfz11_1 := blk_frozen BK245.out 1; have hfz11_2 := blk_frozen BK245.out 2; have hfz11_3 := blk_frozen BK245.out 3; have hfz11_4 := blk_frozen BK245.out 4; have hfz11_5 := blk_frozen BK245.out 5; have hfz11_6 := blk_frozen BK245.out 6; have hfz11_7 := blk_frozen BK245.out 7) | ((with_reducible refine gate_callee (f := 14) rfl ?_); refine gL (some 22) Try.func14 #[.agg #[.slice A0_0 l0_0.length c0_0, .slice A0_1 l0_1.length c0_1, .slice A0_2 l0_2.length c0_2, .int .i64 a0_3, .int .i64 a0_4, .int .i64 a0_5, .int .i64 a0_6, .int .i64 a0_7], .int .i64 1048576] ?_; (with_reducible refine (laws_szJob.calls k _ _ l0_0 _ _ l0_1 _ _ l0_2 a0_3 a0_4 a0_5 a0_6 a0_7 1048576 t248 _ ?side1 ?side2 ?side3 ?side4 ?side5 ?side6 A4.out).mono ?_); (case side1 => exact cS (Kd.C_below HR0_0.out HB.out)); (case side2 => exact HC0_0.out); (case side3 => exact cS (Kd.C_below HR0_1.out HB.out)); (case side4 => exact HC0_1.out); (case side5 => exact cS (Kd.C_below HR0_2.out HB.out)); (case side6 => exact HC0_2.out); rintro e w12 ⟨rfl, hb⟩; refine ⟨_, rfl, ?_⟩; have n0_ := blkA BK245 hb; have n1_ := blkA BK246 hb; have n2_ := blkA BK247 hb; have n3_ := AZ (below_step (bS HB.out) hb); clear BK245; clear BK246; clear BK247; clear HB; have BK245 := n0_; have BK246 := n1_; have BK247 := n2_; have HB := n3_; clear n0_ n1_ n2_ n3_; (try clear hb)))
    go_ret
    exact ⟨by first | rfl | (simp; done) | (simp [*]; done), bS HB.out⟩
  · rw [if_neg c5] at H
    have c5b0 : decide (t248 < 0) = false := decide_eq_false c5
    clear c5
    replace H := Option.bind_eq_some_iff.mp H
    obtain ⟨t249, A130, H⟩ := H
    replace H : (if t249 < 0 then (some true) else ((laws_szPlan.f a2_0 l2_1 t249).bind fun t250 => (if t250 < 0 then (some true) else ((laws_toJob.f k l0_0 l0_1 l0_2 a0_3 a0_4 a0_5 a0_6 a0_7).bind fun bt251 => ((laws_toPlan.f k a1_0 l1_1).bind fun bt265 => ((laws_toPlan.f k a2_0 l2_1).bind fun bt269 => ((spec_MovedBlocks.f k bt251.1 bt251.2.1 bt251.2.2.1 bt251.2.2.2.1 bt251.2.2.2.2.1 bt251.2.2.2.2.2.1 bt251.2.2.2.2.2.2.1 bt251.2.2.2.2.2.2.2 bt265.1 bt265.2 bt269.1 bt269.2).bind fun bt273 => ((laws_toJob.f k l0_0 l0_1 l0_2 a0_3 a0_4 a0_5 a0_6 a0_7).bind fun bt277 => ((laws_toPlan.f k a1_0 l1_1).bind fun bt292 => ((laws_toPlan.f k a2_0 l2_1).bind fun bt297 => ((impl_MovedBlocks.f k bt277.1 bt277.2.1 bt277.2.2.1 bt277.2.2.2.1 bt277.2.2.2.2.1 bt277.2.2.2.2.2.1 bt277.2.2.2.2.2.2.1 bt277.2.2.2.2.2.2.2 bt292.1 bt292.2 bt297.1 bt297.2).bind fun bt302 => ((laws_eqIntS.f k bt302.1 bt273.1).bind fun t306 => (if t306 = true then (laws_FnExactMovedBlocks.j0 k bt273.1 bt273.2 bt302.1 bt302.2 (bt302.2 != bt273.2) l0_0 l0_1 l0_2 a0_3 a0_4 a0_5 a0_6 a0_7 a1_0 l1_1 a2_0 l2_1 bt277.1 bt277.2.1 bt277.2.2.1 bt277.2.2.2.1 bt277.2.2.2.2.1 bt277.2.2.2.2.2.1 bt277.2.2.2.2.2.2.1 bt277.2.2.2.2.2.2.2 bt292.1 bt292.2 bt297.1 bt297.2) else (laws_FnExactMovedBlocks.j0 k bt273.1 bt273.2 bt302.1 bt302.2 true l0_0 l0_1 l0_2 a0_3 a0_4 a0_5 a0_6 a0_7 a1_0 l1_1 a2_0 l2_1 bt277.1 bt277.2.1 bt277.2.2.1 bt277.2.2.2.1 bt277.2.2.2.2.1 bt277.2.2.2.2.2.1 bt277.2.2.2.2.2.2.1 bt277.2.2.2.2.2.2.2 bt292.1 bt292.2 bt297.1 bt297.2)))))))))))))) = some r := H
    have A13 := Aside0.mk A130
    clear A130
    by_cases c14 : t249 < 0
    · rw [if_pos c14] at H
      have c14b0 : decide (t249 < 0) = true := decide_eq_true c14
      clear c14
      obtain rfl := Option.some.inj H
      go_enter Try.func6, Try.ntmps6
      go_wp2_with (first | ((with_reducible refine gate_dst (N := 3) rfl ?_); refine box_event ?hg (N := 3) ?hd (cs := #[.slice A0_0 l0_0.length c0_0, .slice A0_1 l0_1.length c0_1, .slice A0_2 l0_2.length c0_2, .int .i64 a0_3, .int .i64 a0_4, .int .i64 a0_5, .int .i64 a0_6, .int .i64 a0_7]) (t := 27) ?hr ?_; (case hd => rfl); (case hg => rfl); (case hr => first | (go_simp; done) | (go_simp; rfl)); intro gb245 hg w15 hbox hb; have n0_ := AZ (below_step (bS HB.out) hb); have n1_ := AZ (hbox); have n2_ := AZ (geS hg HB.out); have n3_ := AZ (geS hg HB.out); clear HB; have HB := n0_; have BK245 := n1_; have GW245 := n2_; have GE245 := n3_; clear n0_ n1_ n2_ n3_; clear hb hbox hg) | ((with_reducible refine gate_dst (N := 4) rfl ?_); refine box_event ?hg (N := 4) ?hd (cs := #[.int .i64 a1_0, .slice A1_1 l1_1.length c1_1]) (t := 29) ?hr ?_; (case hd => rfl); (case hg => rfl); (case hr => first | (go_simp; done) | (go_simp; rfl)); intro gb246 hg w16 hbox hb; have n0_ := blkA BK245 hb; have n1_ := AZ (below_step (bS HB.out) hb); have n2_ := AZ (hbox); have n3_ := AZ (geS hg HB.out); have n4_ := AZ (geS hg HB.out); have n5_ := AZ ((by rw [hg]; exact Nat.ne_of_lt (blkL BK245.out) : gb245 ≠ gb246)); have n6_ := AZ ((by rw [hg]; exact Nat.ne_of_gt (blkL BK245.out) : gb246 ≠ gb245)); clear BK245; clear HB; have BK245 := n0_; have HB := n1_; have BK246 := n2_; have GW246 := n3_; have GE246 := n4_; have NB245_246 := n5_; have NB246_245 := n6_; clear n0_ n1_ n2_ n3_ n4_ n5_ n6_; clear hb hbox hg) | ((with_reducible refine gate_dst (N := 5) rfl ?_); refine box_event ?hg (N := 5) ?hd (cs := #[.int .i64 a2_0, .slice A2_1 l2_1.length c2_1]) (t := 29) ?hr ?_; (case hd => rfl); (case hg => rfl); (case hr => first | (go_simp; done) | (go_simp; rfl)); intro gb247 hg w17 hbox hb; have n0_ := blkA BK245 hb; have n1_ := blkA BK246 hb; have n2_ := AZ (below_step (bS HB.out) hb); have n3_ := AZ (hbox); have n4_ := AZ (geS hg HB.out); have n5_ := AZ (geS hg HB.out); have n6_ := AZ ((by rw [hg]; exact Nat.ne_of_lt (blkL BK245.out) : gb245 ≠ gb247)); have n7_ := AZ ((by rw [hg]; exact Nat.ne_of_gt (blkL BK245.out) : gb247 ≠ gb245)); have n8_ := AZ ((by rw [hg]; exact Nat.ne_of_lt (blkL BK246.out) : gb246 ≠ gb247)); have n9_ := AZ ((by rw [hg]; exact Nat.ne_of_gt (blkL BK246.out) : gb247 ≠ gb246)); clear BK245; clear BK246; clear HB; have BK245 := n0_; have BK246 := n1_; have HB := n2_; have BK247 := n3_; have GW247 := n4_; have GE247 := n5_; have NB245_247 := n6_; have NB247_245 := n7_; have NB246_247 := n8_; have NB247_246 := n9_; clear n0_ n1_ n2_ n3_ n4_ n5_ n6_ n7_ n8_ n9_; clear hb hbox hg; have hnb18 := NB245_246.out; have hnc18 := NB246_245.out; have hnb19 := NB245_247.out; have hnc19 := NB247_245.out; have hcz20_0 : w17.cell? ⟨gb245, 0, none⟩ = some (.slice A0_0 l0_0.length c0_0) := (blk_cell BK245.out 0).trans rfl; have hcz20_1 : w17.cell? ⟨gb245, 1, none⟩ = some (.slice A0_1 l0_1.length c0_1) := (blk_cell BK245.out 1).trans rfl; have hcz20_2 : w17.cell? ⟨gb245, 2, none⟩ = some (.slice A0_2 l0_2.length c0_2) := (blk_cell BK245.out 2).trans rfl; have hcz20_3 : w17.cell? ⟨gb245, 3, none⟩ = some (.int .i64 a0_3) := (blk_cell BK245.out 3).trans rfl; have hcz20_4 : w17.cell? ⟨gb245, 4, none⟩ = some (.int .i64 a0_4) := (blk_cell BK245.out 4).trans rfl; have hcz20_5 : w17.cell? ⟨gb245, 5, none⟩ = some (.int .i64 a0_5) := (blk_cell BK245.out 5).trans rfl; have hcz20_6 : w17.cell? ⟨gb245, 6, none⟩ = some (.int .i64 a0_6) := (blk_cell BK245.out 6).trans rfl; have hcz20_7 : w17.cell? ⟨gb245, 7, none⟩ = some (.int .i64 a0_7) := (blk_cell BK245.out 7).trans rfl; have hfz20_0 := blk_frozen BK245.out 0; have hfz20_1 := blk_frozen BK245.out 1; have hfz20_2 := blk_frozen BK245.out 2; have hfz20_3 := blk_frozen BK245.out 3; have hfz20_4 := blk_frozen BK245.out 4; have hfz20_5 := blk_frozen BK245.out 5; have hfz20_6 := blk_frozen BK245.out 6; have hfz20_7 := blk_frozen BK245.out 7) | ((with_reducible refine gate_callee (f := 14) rfl ?_); refine gL (some 22) Try.func14 #[.agg #[.slice A0_0 l0_0.length c0_0, .slice A0_1 l0_1.length c0_1, .slice A0_2 l0_2.length c0_2, .int .i64 a0_3, .int .i64 a0_4, .int .i64 a0_5, .int .i64 a0_6, .int .i64 a0_7], .int .i64 1048576] ?_; (with_reducible refine (laws_szJob.calls k _ _ l0_0 _ _ l0_1 _ _ l0_2 a0_3 a0_4 a0_5 a0_6 a0_7 1048576 t248 _ ?side1 ?side2 ?side3 ?side4 ?side5 ?side6 A4.out).mono ?_); (case side1 => exact cS (Kd.C_below HR0_0.out HB.out)); (case side2 => exact HC0_0.out); (case side3 => exact cS (Kd.C_below HR0_1.out HB.out)); (case side4 => exact HC0_1.out); (case side5 => exact cS (Kd.C_below HR0_2.out HB.out)); (case side6 => exact HC0_2.out); rintro e w21 ⟨rfl, hb⟩; refine ⟨_, rfl, ?_⟩; have n0_ := blkA BK245 hb; have n1_ := blkA BK246 hb; have n2_ := blkA BK247 hb; have n3_ := AZ (below_step (bS HB.out) hb); clear BK245; clear BK246; clear BK247; clear HB; have BK245 := n0_; have BK246 := n1_; have BK247 := n2_; have HB := n3_; clear n0_ n1_ n2_ n3_; (try clear hb); have hnb22 := NB246_247.out; have hnc22 := NB247_246.out; have hcz23_0 : w21.cell? ⟨gb246, 0, none⟩ = some (.int .i64 a1_0) := (blk_cell BK246.out 0).trans rfl; have hcz23_1 : w21.cell? ⟨gb246, 1, none⟩ = some (.slice A1_1 l1_1.length c1_1) := (blk_cell BK246.out 1).trans rfl; have hfz23_0 := blk_frozen BK246.out 0; have hfz23_1 := blk_frozen BK246.out 1) | ((with_reducible refine gate_callee (f := 15) rfl ?_); refine gL (some 27) Try.func15 #[.agg #[.int .i64 a1_0, .slice A1_1 l1_1.length c1_1], .int .i64 t248] ?_; (with_reducible refine (laws_szPlan.calls a1_0 _ _ l1_1 t248 t249 _ ?side1 ?side2 A13.out).mono ?_); (case side1 => exact cS (Kd.C_below HR1_1.out HB.out)); (case side2 => exact HC1_1.out); rintro e w24 ⟨rfl, hb⟩; refine ⟨_, rfl, ?_⟩; have n0_ := blkA BK245 hb; have n1_ := blkA BK246 hb; have n2_ := blkA BK247 hb; have n3_ := AZ (below_step (bS HB.out) hb); clear BK245; clear BK246; clear BK247; clear HB; have BK245 := n0_; have BK246 := n1_; have BK247 := n2_; have HB := n3_; clear n0_ n1_ n2_ n3_; (try clear hb)))
      go_ret
      exact ⟨by first | rfl | (simp; done) | (simp [*]; done), bS HB.out⟩
    · rw [if_neg c14] at H
      have c14b0 : decide (t249 < 0) = false := decide_eq_false c14
      clear c14
      replace H := Option.bind_eq_some_iff.mp H
      obtain ⟨t250, A250, H⟩ := H
      replace H : (if t250 < 0 then (some true) else ((laws_toJob.f k l0_0 l0_1 l0_2 a0_3 a0_4 a0_5 a0_6 a0_7).bind fun bt251 => ((laws_toPlan.f k a1_0 l1_1).bind fun bt265 => ((laws_toPlan.f k a2_0 l2_1).bind fun bt269 => ((spec_MovedBlocks.f k bt251.1 bt251.2.1 bt251.2.2.1 bt251.2.2.2.1 bt251.2.2.2.2.1 bt251.2.2.2.2.2.1 bt251.2.2.2.2.2.2.1 bt251.2.2.2.2.2.2.2 bt265.1 bt265.2 bt269.1 bt269.2).bind fun bt273 => ((laws_toJob.f k l0_0 l0_1 l0_2 a0_3 a0_4 a0_5 a0_6 a0_7).bind fun bt277 => ((laws_toPlan.f k a1_0 l1_1).bind fun bt292 => ((laws_toPlan.f k a2_0 l2_1).bind fun bt297 => ((impl_MovedBlocks.f k bt277.1 bt277.2.1 bt277.2.2.1 bt277.2.2.2.1 bt277.2.2.2.2.1 bt277.2.2.2.2.2.1 bt277.2.2.2.2.2.2.1 bt277.2.2.2.2.2.2.2 bt292.1 bt292.2 bt297.1 bt297.2).bind fun bt302 => ((laws_eqIntS.f k bt302.1 bt273.1).bind fun t306 => (if t306 = true then (laws_FnExactMovedBlocks.j0 k bt273.1 bt273.2 bt302.1 bt302.2 (bt302.2 != bt273.2) l0_0 l0_1 l0_2 a0_3 a0_4 a0_5 a0_6 a0_7 a1_0 l1_1 a2_0 l2_1 bt277.1 bt277.2.1 bt277.2.2.1 bt277.2.2.2.1 bt277.2.2.2.2.1 bt277.2.2.2.2.2.1 bt277.2.2.2.2.2.2.1 bt277.2.2.2.2.2.2.2 bt292.1 bt292.2 bt297.1 bt297.2) else (laws_FnExactMovedBlocks.j0 k bt273.1 bt273.2 bt302.1 bt302.2 true l0_0 l0_1 l0_2 a0_3 a0_4 a0_5 a0_6 a0_7 a1_0 l1_1 a2_0 l2_1 bt277.1 bt277.2.1 bt277.2.2.1 bt277.2.2.2.1 bt277.2.2.2.2.1 bt277.2.2.2.2.2.1 bt277.2.2.2.2.2.2.1 bt277.2.2.2.2.2.2.2 bt292.1 bt292.2 bt297.1 bt297.2)))))))))))) = some r := H
      have A25 := Aside0.mk A250
      clear A250
      by_cases c26 : t250 < 0
      · rw [if_pos c26] at H
        have c26b0 : decide (t250 < 0) = true := decide_eq_true c26
        clear c26
        obtain rfl := Option.some.inj H
        go_enter Try.func6, Try.ntmps6
        go_wp2_with (first | ((with_reducible refine gate_dst (N := 3) rfl ?_); refine box_event ?hg (N := 3) ?hd (cs := #[.slice A0_0 l0_0.length c0_0, .slice A0_1 l0_1.length c0_1, .slice A0_2 l0_2.length c0_2, .int .i64 a0_3, .int .i64 a0_4, .int .i64 a0_5, .int .i64 a0_6, .int .i64 a0_7]) (t := 27) ?hr ?_; (case hd => rfl); (case hg => rfl); (case hr => first | (go_simp; done) | (go_simp; rfl)); intro gb245 hg w27 hbox hb; have n0_ := AZ (below_step (bS HB.out) hb); have n1_ := AZ (hbox); have n2_ := AZ (geS hg HB.out); have n3_ := AZ (geS hg HB.out); clear HB; have HB := n0_; have BK245 := n1_; have GW245 := n2_; have GE245 := n3_; clear n0_ n1_ n2_ n3_; clear hb hbox hg) | ((with_reducible refine gate_dst (N := 4) rfl ?_); refine box_event ?hg (N := 4) ?hd (cs := #[.int .i64 a1_0, .slice A1_1 l1_1.length c1_1]) (t := 29) ?hr ?_; (case hd => rfl); (case hg => rfl); (case hr => first | (go_simp; done) | (go_simp; rfl)); intro gb246 hg w28 hbox hb; have n0_ := blkA BK245 hb; have n1_ := AZ (below_step (bS HB.out) hb); have n2_ := AZ (hbox); have n3_ := AZ (geS hg HB.out); have n4_ := AZ (geS hg HB.out); have n5_ := AZ ((by rw [hg]; exact Nat.ne_of_lt (blkL BK245.out) : gb245 ≠ gb246)); have n6_ := AZ ((by rw [hg]; exact Nat.ne_of_gt (blkL BK245.out) : gb246 ≠ gb245)); clear BK245; clear HB; have BK245 := n0_; have HB := n1_; have BK246 := n2_; have GW246 := n3_; have GE246 := n4_; have NB245_246 := n5_; have NB246_245 := n6_; clear n0_ n1_ n2_ n3_ n4_ n5_ n6_; clear hb hbox hg) | ((with_reducible refine gate_dst (N := 5) rfl ?_); refine box_event ?hg (N := 5) ?hd (cs := #[.int .i64 a2_0, .slice A2_1 l2_1.length c2_1]) (t := 29) ?hr ?_; (case hd => rfl); (case hg => rfl); (case hr => first | (go_simp; done) | (go_simp; rfl)); intro gb247 hg w29 hbox hb; have n0_ := blkA BK245 hb; have n1_ := blkA BK246 hb; have n2_ := AZ (below_step (bS HB.out) hb); have n3_ := AZ (hbox); have n4_ := AZ (geS hg HB.out); have n5_ := AZ (geS hg HB.out); have n6_ := AZ ((by rw [hg]; exact Nat.ne_of_lt (blkL BK245.out) : gb245 ≠ gb247)); have n7_ := AZ ((by rw [hg]; exact Nat.ne_of_gt (blkL BK245.out) : gb247 ≠ gb245)); have n8_ := AZ ((by rw [hg]; exact Nat.ne_of_lt (blkL BK246.out) : gb246 ≠ gb247)); have n9_ := AZ ((by rw [hg]; exact Nat.ne_of_gt (blkL BK246.out) : gb247 ≠ gb246)); clear BK245; clear BK246; clear HB; have BK245 := n0_; have BK246 := n1_; have HB := n2_; have BK247 := n3_; have GW247 := n4_; have GE247 := n5_; have NB245_247 := n6_; have NB247_245 := n7_; have NB246_247 := n8_; have NB247_246 := n9_; clear n0_ n1_ n2_ n3_ n4_ n5_ n6_ n7_ n8_ n9_; clear hb hbox hg; have hnb30 := NB245_246.out; have hnc30 := NB246_245.out; have hnb31 := NB245_247.out; have hnc31 := NB247_245.out; have hcz32_0 : w29.cell? ⟨gb245, 0, none⟩ = some (.slice A0_0 l0_0.length c0_0) := (blk_cell BK245.out 0).trans rfl; have hcz32_1 : w29.cell? ⟨gb245, 1, none⟩ = some (.slice A0_1 l0_1.length c0_1) := (blk_cell BK245.out 1).trans rfl; have hcz32_2 : w29.cell? ⟨gb245, 2, none⟩ = some (.slice A0_2 l0_2.length c0_2) := (blk_cell BK245.out 2).trans rfl; have hcz32_3 : w29.cell? ⟨gb245, 3, none⟩ = some (.int .i64 a0_3) := (blk_cell BK245.out 3).trans rfl; have hcz32_4 : w29.cell? ⟨gb245, 4, none⟩ = some (.int .i64 a0_4) := (blk_cell BK245.out 4).trans rfl; have hcz32_5 : w29.cell? ⟨gb245, 5, none⟩ = some (.int .i64 a0_5) := (blk_cell BK245.out 5).trans rfl; have hcz32_6 : w29.cell? ⟨gb245, 6, none⟩ = some (.int .i64 a0_6) := (blk_cell BK245.out 6).trans rfl; have hcz32_7 : w29.cell? ⟨gb245, 7, none⟩ = some (.int .i64 a0_7) := (blk_cell BK245.out 7).trans rfl; have hfz32_0 := blk_frozen BK245.out 0; have hfz32_1 := blk_frozen BK245.out 1; have hfz32_2 := blk_frozen BK245.out 2; have hfz32_3 := blk_frozen BK245.out 3; have hfz32_4 := blk_frozen BK245.out 4; have hfz32_5 := blk_frozen BK245.out 5; have hfz32_6 := blk_frozen BK245.out 6; have hfz32_7 := blk_frozen BK245.out 7) | ((with_reducible refine gate_callee (f := 14) rfl ?_); refine gL (some 22) Try.func14 #[.agg #[.slice A0_0 l0_0.length c0_0, .slice A0_1 l0_1.length c0_1, .slice A0_2 l0_2.length c0_2, .int .i64 a0_3, .int .i64 a0_4, .int .i64 a0_5, .int .i64 a0_6, .int .i64 a0_7], .int .i64 1048576] ?_; (with_reducible refine (laws_szJob.calls k _ _ l0_0 _ _ l0_1 _ _ l0_2 a0_3 a0_4 a0_5 a0_6 a0_7 1048576 t248 _ ?side1 ?side2 ?side3 ?side4 ?side5 ?side6 A4.out).mono ?_); (case side1 => exact cS (Kd.C_below HR0_0.out HB.out)); (case side2 => exact HC0_0.out); (case side3 => exact cS (Kd.C_below HR0_1.out HB.out)); (case side4 => exact HC0_1.out); (case side5 => exact cS (Kd.C_below HR0_2.out HB.out)); (case side6 => exact HC0_2.out); rintro e w33 ⟨rfl, hb⟩; refine ⟨_, rfl, ?_⟩; have n0_ := blkA BK245 hb; have n1_ := blkA BK246 hb; have n2_ := blkA BK247 hb; have n3_ := AZ (below_step (bS HB.out) hb); clear BK245; clear BK246; clear BK247; clear HB; have BK245 := n0_; have BK246 := n1_; have BK247 := n2_; have HB := n3_; clear n0_ n1_ n2_ n3_; (try clear hb); have hnb34 := NB246_247.out; have hnc34 := NB247_246.out; have hcz35_0 : w33.cell? ⟨gb246, 0, none⟩ = some (.int .i64 a1_0) := (blk_cell BK246.out 0).trans rfl; have hcz35_1 : w33.cell? ⟨gb246, 1, none⟩ = some (.slice A1_1 l1_1.length c1_1) := (blk_cell BK246.out 1).trans rfl; have hfz35_0 := blk_frozen BK246.out 0; have hfz35_1 := blk_frozen BK246.out 1) | ((with_reducible refine gate_callee (f := 15) rfl ?_); refine gL (some 27) Try.func15 #[.agg #[.int .i64 a1_0, .slice A1_1 l1_1.length c1_1], .int .i64 t248] ?_; (with_reducible refine (laws_szPlan.calls a1_0 _ _ l1_1 t248 t249 _ ?side1 ?side2 A13.out).mono ?_); (case side1 => exact cS (Kd.C_below HR1_1.out HB.out)); (case side2 => exact HC1_1.out); rintro e w36 ⟨rfl, hb⟩; refine ⟨_, rfl, ?_⟩; have n0_ := blkA BK245 hb; have n1_ := blkA BK246 hb; have n2_ := blkA BK247 hb; have n3_ := AZ (below_step (bS HB.out) hb); clear BK245; clear BK246; clear BK247; clear HB; have BK245 := n0_; have BK246 := n1_; have BK247 := n2_; have HB := n3_; clear n0_ n1_ n2_ n3_; (try clear hb); have hcz37_0 : w36.cell? ⟨gb247, 0, none⟩ = some (.int .i64 a2_0) := (blk_cell BK247.out 0).trans rfl; have hcz37_1 : w36.cell? ⟨gb247, 1, none⟩ = some (.slice A2_1 l2_1.length c2_1) := (blk_cell BK247.out 1).trans rfl; have hfz37_0 := blk_frozen BK247.out 0; have hfz37_1 := blk_frozen BK247.out 1) | ((with_reducible refine gate_callee (f := 15) rfl ?_); refine gL (some 32) Try.func15 #[.agg #[.int .i64 a2_0, .slice A2_1 l2_1.length c2_1], .int .i64 t249] ?_; (with_reducible refine (laws_szPlan.calls a2_0 _ _ l2_1 t249 t250 _ ?side1 ?side2 A25.out).mono ?_); (case side1 => exact cS (Kd.C_below HR2_1.out HB.out)); (case side2 => exact HC2_1.out); rintro e w38 ⟨rfl, hb⟩; refine ⟨_, rfl, ?_⟩; have n0_ := blkA BK245 hb; have n1_ := blkA BK246 hb; have n2_ := blkA BK247 hb; have n3_ := AZ (below_step (bS HB.out) hb); clear BK245; clear BK246; clear BK247; clear HB; have BK245 := n0_; have BK246 := n1_; have BK247 := n2_; have HB := n3_; clear n0_ n1_ n2_ n3_; (try clear hb)))
        go_ret
        exact ⟨by first | rfl | (simp; done) | (simp [*]; done), bS HB.out⟩
      · rw [if_neg c26] at H
        have c26b0 : decide (t250 < 0) = false := decide_eq_false c26
        clear c26
        replace H := Option.bind_eq_some_iff.mp H
        obtain ⟨⟨t251, t254, t257, t260, t261, t262, t263, t264⟩, A390, H⟩ := H
        replace H : ((laws_toPlan.f k a1_0 l1_1).bind fun bt265 => ((laws_toPlan.f k a2_0 l2_1).bind fun bt269 => ((spec_MovedBlocks.f k t251 t254 t257 t260 t261 t262 t263 t264 bt265.1 bt265.2 bt269.1 bt269.2).bind fun bt273 => ((laws_toJob.f k l0_0 l0_1 l0_2 a0_3 a0_4 a0_5 a0_6 a0_7).bind fun bt277 => ((laws_toPlan.f k a1_0 l1_1).bind fun bt292 => ((laws_toPlan.f k a2_0 l2_1).bind fun bt297 => ((impl_MovedBlocks.f k bt277.1 bt277.2.1 bt277.2.2.1 bt277.2.2.2.1 bt277.2.2.2.2.1 bt277.2.2.2.2.2.1 bt277.2.2.2.2.2.2.1 bt277.2.2.2.2.2.2.2 bt292.1 bt292.2 bt297.1 bt297.2).bind fun bt302 => ((laws_eqIntS.f k bt302.1 bt273.1).bind fun t306 => (if t306 = true then (laws_FnExactMovedBlocks.j0 k bt273.1 bt273.2 bt302.1 bt302.2 (bt302.2 != bt273.2) l0_0 l0_1 l0_2 a0_3 a0_4 a0_5 a0_6 a0_7 a1_0 l1_1 a2_0 l2_1 bt277.1 bt277.2.1 bt277.2.2.1 bt277.2.2.2.1 bt277.2.2.2.2.1 bt277.2.2.2.2.2.1 bt277.2.2.2.2.2.2.1 bt277.2.2.2.2.2.2.2 bt292.1 bt292.2 bt297.1 bt297.2) else (laws_FnExactMovedBlocks.j0 k bt273.1 bt273.2 bt302.1 bt302.2 true l0_0 l0_1 l0_2 a0_3 a0_4 a0_5 a0_6 a0_7 a1_0 l1_1 a2_0 l2_1 bt277.1 bt277.2.1 bt277.2.2.1 bt277.2.2.2.1 bt277.2.2.2.2.1 bt277.2.2.2.2.2.1 bt277.2.2.2.2.2.2.1 bt277.2.2.2.2.2.2.2 bt292.1 bt292.2 bt297.1 bt297.2)))))))))) = some r := H
        have A39 := Aside0.mk A390
        clear A390
        replace H := Option.bind_eq_some_iff.mp H
        obtain ⟨⟨t265, t266⟩, A400, H⟩ := H
        replace H : ((laws_toPlan.f k a2_0 l2_1).bind fun bt269 => ((spec_MovedBlocks.f k t251 t254 t257 t260 t261 t262 t263 t264 t265 t266 bt269.1 bt269.2).bind fun bt273 => ((laws_toJob.f k l0_0 l0_1 l0_2 a0_3 a0_4 a0_5 a0_6 a0_7).bind fun bt277 => ((laws_toPlan.f k a1_0 l1_1).bind fun bt292 => ((laws_toPlan.f k a2_0 l2_1).bind fun bt297 => ((impl_MovedBlocks.f k bt277.1 bt277.2.1 bt277.2.2.1 bt277.2.2.2.1 bt277.2.2.2.2.1 bt277.2.2.2.2.2.1 bt277.2.2.2.2.2.2.1 bt277.2.2.2.2.2.2.2 bt292.1 bt292.2 bt297.1 bt297.2).bind fun bt302 => ((laws_eqIntS.f k bt302.1 bt273.1).bind fun t306 => (if t306 = true then (laws_FnExactMovedBlocks.j0 k bt273.1 bt273.2 bt302.1 bt302.2 (bt302.2 != bt273.2) l0_0 l0_1 l0_2 a0_3 a0_4 a0_5 a0_6 a0_7 a1_0 l1_1 a2_0 l2_1 bt277.1 bt277.2.1 bt277.2.2.1 bt277.2.2.2.1 bt277.2.2.2.2.1 bt277.2.2.2.2.2.1 bt277.2.2.2.2.2.2.1 bt277.2.2.2.2.2.2.2 bt292.1 bt292.2 bt297.1 bt297.2) else (laws_FnExactMovedBlocks.j0 k bt273.1 bt273.2 bt302.1 bt302.2 true l0_0 l0_1 l0_2 a0_3 a0_4 a0_5 a0_6 a0_7 a1_0 l1_1 a2_0 l2_1 bt277.1 bt277.2.1 bt277.2.2.1 bt277.2.2.2.1 bt277.2.2.2.2.1 bt277.2.2.2.2.2.1 bt277.2.2.2.2.2.2.1 bt277.2.2.2.2.2.2.2 bt292.1 bt292.2 bt297.1 bt297.2))))))))) = some r := H
        have A40 := Aside0.mk A400
        clear A400
        replace H := Option.bind_eq_some_iff.mp H
        obtain ⟨⟨t269, t270⟩, A410, H⟩ := H
        replace H : ((spec_MovedBlocks.f k t251 t254 t257 t260 t261 t262 t263 t264 t265 t266 t269 t270).bind fun bt273 => ((laws_toJob.f k l0_0 l0_1 l0_2 a0_3 a0_4 a0_5 a0_6 a0_7).bind fun bt277 => ((laws_toPlan.f k a1_0 l1_1).bind fun bt292 => ((laws_toPlan.f k a2_0 l2_1).bind fun bt297 => ((impl_MovedBlocks.f k bt277.1 bt277.2.1 bt277.2.2.1 bt277.2.2.2.1 bt277.2.2.2.2.1 bt277.2.2.2.2.2.1 bt277.2.2.2.2.2.2.1 bt277.2.2.2.2.2.2.2 bt292.1 bt292.2 bt297.1 bt297.2).bind fun bt302 => ((laws_eqIntS.f k bt302.1 bt273.1).bind fun t306 => (if t306 = true then (laws_FnExactMovedBlocks.j0 k bt273.1 bt273.2 bt302.1 bt302.2 (bt302.2 != bt273.2) l0_0 l0_1 l0_2 a0_3 a0_4 a0_5 a0_6 a0_7 a1_0 l1_1 a2_0 l2_1 bt277.1 bt277.2.1 bt277.2.2.1 bt277.2.2.2.1 bt277.2.2.2.2.1 bt277.2.2.2.2.2.1 bt277.2.2.2.2.2.2.1 bt277.2.2.2.2.2.2.2 bt292.1 bt292.2 bt297.1 bt297.2) else (laws_FnExactMovedBlocks.j0 k bt273.1 bt273.2 bt302.1 bt302.2 true l0_0 l0_1 l0_2 a0_3 a0_4 a0_5 a0_6 a0_7 a1_0 l1_1 a2_0 l2_1 bt277.1 bt277.2.1 bt277.2.2.1 bt277.2.2.2.1 bt277.2.2.2.2.1 bt277.2.2.2.2.2.1 bt277.2.2.2.2.2.2.1 bt277.2.2.2.2.2.2.2 bt292.1 bt292.2 bt297.1 bt297.2)))))))) = some r := H
        have A41 := Aside0.mk A410
        clear A410
        replace H := Option.bind_eq_some_iff.mp H
        obtain ⟨⟨t273, t276⟩, A420, H⟩ := H
        replace H : ((laws_toJob.f k l0_0 l0_1 l0_2 a0_3 a0_4 a0_5 a0_6 a0_7).bind fun bt277 => ((laws_toPlan.f k a1_0 l1_1).bind fun bt292 => ((laws_toPlan.f k a2_0 l2_1).bind fun bt297 => ((impl_MovedBlocks.f k bt277.1 bt277.2.1 bt277.2.2.1 bt277.2.2.2.1 bt277.2.2.2.2.1 bt277.2.2.2.2.2.1 bt277.2.2.2.2.2.2.1 bt277.2.2.2.2.2.2.2 bt292.1 bt292.2 bt297.1 bt297.2).bind fun bt302 => ((laws_eqIntS.f k bt302.1 t273).bind fun t306 => (if t306 = true then (laws_FnExactMovedBlocks.j0 k t273 t276 bt302.1 bt302.2 (bt302.2 != t276) l0_0 l0_1 l0_2 a0_3 a0_4 a0_5 a0_6 a0_7 a1_0 l1_1 a2_0 l2_1 bt277.1 bt277.2.1 bt277.2.2.1 bt277.2.2.2.1 bt277.2.2.2.2.1 bt277.2.2.2.2.2.1 bt277.2.2.2.2.2.2.1 bt277.2.2.2.2.2.2.2 bt292.1 bt292.2 bt297.1 bt297.2) else (laws_FnExactMovedBlocks.j0 k t273 t276 bt302.1 bt302.2 true l0_0 l0_1 l0_2 a0_3 a0_4 a0_5 a0_6 a0_7 a1_0 l1_1 a2_0 l2_1 bt277.1 bt277.2.1 bt277.2.2.1 bt277.2.2.2.1 bt277.2.2.2.2.1 bt277.2.2.2.2.2.1 bt277.2.2.2.2.2.2.1 bt277.2.2.2.2.2.2.2 bt292.1 bt292.2 bt297.1 bt297.2))))))) = some r := H
        have A42 := Aside0.mk A420
        clear A420
        replace H := Option.bind_eq_some_iff.mp H
        obtain ⟨⟨t277, t280, t283, t286, t287, t288, t289, t290⟩, A430, H⟩ := H
        replace H : ((laws_toPlan.f k a1_0 l1_1).bind fun bt292 => ((laws_toPlan.f k a2_0 l2_1).bind fun bt297 => ((impl_MovedBlocks.f k t277 t280 t283 t286 t287 t288 t289 t290 bt292.1 bt292.2 bt297.1 bt297.2).bind fun bt302 => ((laws_eqIntS.f k bt302.1 t273).bind fun t306 => (if t306 = true then (laws_FnExactMovedBlocks.j0 k t273 t276 bt302.1 bt302.2 (bt302.2 != t276) l0_0 l0_1 l0_2 a0_3 a0_4 a0_5 a0_6 a0_7 a1_0 l1_1 a2_0 l2_1 t277 t280 t283 t286 t287 t288 t289 t290 bt292.1 bt292.2 bt297.1 bt297.2) else (laws_FnExactMovedBlocks.j0 k t273 t276 bt302.1 bt302.2 true l0_0 l0_1 l0_2 a0_3 a0_4 a0_5 a0_6 a0_7 a1_0 l1_1 a2_0 l2_1 t277 t280 t283 t286 t287 t288 t289 t290 bt292.1 bt292.2 bt297.1 bt297.2)))))) = some r := H
        have A43 := Aside0.mk A430
        clear A430
        replace H := Option.bind_eq_some_iff.mp H
        obtain ⟨⟨t292, t293⟩, A440, H⟩ := H
        replace H : ((laws_toPlan.f k a2_0 l2_1).bind fun bt297 => ((impl_MovedBlocks.f k t277 t280 t283 t286 t287 t288 t289 t290 t292 t293 bt297.1 bt297.2).bind fun bt302 => ((laws_eqIntS.f k bt302.1 t273).bind fun t306 => (if t306 = true then (laws_FnExactMovedBlocks.j0 k t273 t276 bt302.1 bt302.2 (bt302.2 != t276) l0_0 l0_1 l0_2 a0_3 a0_4 a0_5 a0_6 a0_7 a1_0 l1_1 a2_0 l2_1 t277 t280 t283 t286 t287 t288 t289 t290 t292 t293 bt297.1 bt297.2) else (laws_FnExactMovedBlocks.j0 k t273 t276 bt302.1 bt302.2 true l0_0 l0_1 l0_2 a0_3 a0_4 a0_5 a0_6 a0_7 a1_0 l1_1 a2_0 l2_1 t277 t280 t283 t286 t287 t288 t289 t290 t292 t293 bt297.1 bt297.2))))) = some r := H
        have A44 := Aside0.mk A440
        clear A440
        replace H := Option.bind_eq_some_iff.mp H
        obtain ⟨⟨t297, t298⟩, A450, H⟩ := H
        replace H : ((impl_MovedBlocks.f k t277 t280 t283 t286 t287 t288 t289 t290 t292 t293 t297 t298).bind fun bt302 => ((laws_eqIntS.f k bt302.1 t273).bind fun t306 => (if t306 = true then (laws_FnExactMovedBlocks.j0 k t273 t276 bt302.1 bt302.2 (bt302.2 != t276) l0_0 l0_1 l0_2 a0_3 a0_4 a0_5 a0_6 a0_7 a1_0 l1_1 a2_0 l2_1 t277 t280 t283 t286 t287 t288 t289 t290 t292 t293 t297 t298) else (laws_FnExactMovedBlocks.j0 k t273 t276 bt302.1 bt302.2 true l0_0 l0_1 l0_2 a0_3 a0_4 a0_5 a0_6 a0_7 a1_0 l1_1 a2_0 l2_1 t277 t280 t283 t286 t287 t288 t289 t290 t292 t293 t297 t298)))) = some r := H
        have A45 := Aside0.mk A450
        clear A450
        replace H := Option.bind_eq_some_iff.mp H
        obtain ⟨⟨t302, t305⟩, A460, H⟩ := H
        replace H : ((laws_eqIntS.f k t302 t273).bind fun t306 => (if t306 = true then (laws_FnExactMovedBlocks.j0 k t273 t276 t302 t305 (t305 != t276) l0_0 l0_1 l0_2 a0_3 a0_4 a0_5 a0_6 a0_7 a1_0 l1_1 a2_0 l2_1 t277 t280 t283 t286 t287 t288 t289 t290 t292 t293 t297 t298) else (laws_FnExactMovedBlocks.j0 k t273 t276 t302 t305 true l0_0 l0_1 l0_2 a0_3 a0_4 a0_5 a0_6 a0_7 a1_0 l1_1 a2_0 l2_1 t277 t280 t283 t286 t287 t288 t289 t290 t292 t293 t297 t298))) = some r := H
        have A46 := Aside0.mk A460
        clear A460
        have HC47 := Aside0.mk H
        clear H
        go_enter Try.func6, Try.ntmps6
        try go_wp2_with (first | ((with_reducible refine gate_dst (N := 3) rfl ?_); refine box_event ?hg (N := 3) ?hd (cs := #[.slice A0_0 l0_0.length c0_0, .slice A0_1 l0_1.length c0_1, .slice A0_2 l0_2.length c0_2, .int .i64 a0_3, .int .i64 a0_4, .int .i64 a0_5, .int .i64 a0_6, .int .i64 a0_7]) (t := 27) ?hr ?_; (case hd => rfl); (case hg => rfl); (case hr => first | (go_simp; done) | (go_simp; rfl)); intro gb245 hg w48 hbox hb; have n0_ := AZ (below_step (bS HB.out) hb); have n1_ := AZ (hbox); have n2_ := AZ (geS hg HB.out); have n3_ := AZ (geS hg HB.out); clear HB; have HB := n0_; have BK245 := n1_; have GW245 := n2_; have GE245 := n3_; clear n0_ n1_ n2_ n3_; clear hb hbox hg) | ((with_reducible refine gate_dst (N := 4) rfl ?_); refine box_event ?hg (N := 4) ?hd (cs := #[.int .i64 a1_0, .slice A1_1 l1_1.length c1_1]) (t := 29) ?hr ?_; (case hd => rfl); (case hg => rfl); (case hr => first | (go_simp; done) | (go_simp; rfl)); intro gb246 hg w49 hbox hb; have n0_ := blkA BK245 hb; have n1_ := AZ (below_step (bS HB.out) hb); have n2_ := AZ (hbox); have n3_ := AZ (geS hg HB.out); have n4_ := AZ (geS hg HB.out); have n5_ := AZ ((by rw [hg]; exact Nat.ne_of_lt (blkL BK245.out) : gb245 ≠ gb246)); have n6_ := AZ ((by rw [hg]; exact Nat.ne_of_gt (blkL BK245.out) : gb246 ≠ gb245)); clear BK245; clear HB; have BK245 := n0_; have HB := n1_; have BK246 := n2_; have GW246 := n3_; have GE246 := n4_; have NB245_246 := n5_; have NB246_245 := n6_; clear n0_ n1_ n2_ n3_ n4_ n5_ n6_; clear hb hbox hg) | ((with_reducible refine gate_dst (N := 5) rfl ?_); refine box_event ?hg (N := 5) ?hd (cs := #[.int .i64 a2_0, .slice A2_1 l2_1.length c2_1]) (t := 29) ?hr ?_; (case hd => rfl); (case hg => rfl); (case hr => first | (go_simp; done) | (go_simp; rfl)); intro gb247 hg w50 hbox hb; have n0_ := blkA BK245 hb; have n1_ := blkA BK246 hb; have n2_ := AZ (below_step (bS HB.out) hb); have n3_ := AZ (hbox); have n4_ := AZ (geS hg HB.out); have n5_ := AZ (geS hg HB.out); have n6_ := AZ ((by rw [hg]; exact Nat.ne_of_lt (blkL BK245.out) : gb245 ≠ gb247)); have n7_ := AZ ((by rw [hg]; exact Nat.ne_of_gt (blkL BK245.out) : gb247 ≠ gb245)); have n8_ := AZ ((by rw [hg]; exact Nat.ne_of_lt (blkL BK246.out) : gb246 ≠ gb247)); have n9_ := AZ ((by rw [hg]; exact Nat.ne_of_gt (blkL BK246.out) : gb247 ≠ gb246)); clear BK245; clear BK246; clear HB; have BK245 := n0_; have BK246 := n1_; have HB := n2_; have BK247 := n3_; have GW247 := n4_; have GE247 := n5_; have NB245_247 := n6_; have NB247_245 := n7_; have NB246_247 := n8_; have NB247_246 := n9_; clear n0_ n1_ n2_ n3_ n4_ n5_ n6_ n7_ n8_ n9_; clear hb hbox hg; have hnb51 := NB245_246.out; have hnc51 := NB246_245.out; have hnb52 := NB245_247.out; have hnc52 := NB247_245.out; have hcz53_0 : w50.cell? ⟨gb245, 0, none⟩ = some (.slice A0_0 l0_0.length c0_0) := (blk_cell BK245.out 0).trans rfl; have hcz53_1 : w50.cell? ⟨gb245, 1, none⟩ = some (.slice A0_1 l0_1.length c0_1) := (blk_cell BK245.out 1).trans rfl; have hcz53_2 : w50.cell? ⟨gb245, 2, none⟩ = some (.slice A0_2 l0_2.length c0_2) := (blk_cell BK245.out 2).trans rfl; have hcz53_3 : w50.cell? ⟨gb245, 3, none⟩ = some (.int .i64 a0_3) := (blk_cell BK245.out 3).trans rfl; have hcz53_4 : w50.cell? ⟨gb245, 4, none⟩ = some (.int .i64 a0_4) := (blk_cell BK245.out 4).trans rfl; have hcz53_5 : w50.cell? ⟨gb245, 5, none⟩ = some (.int .i64 a0_5) := (blk_cell BK245.out 5).trans rfl; have hcz53_6 : w50.cell? ⟨gb245, 6, none⟩ = some (.int .i64 a0_6) := (blk_cell BK245.out 6).trans rfl; have hcz53_7 : w50.cell? ⟨gb245, 7, none⟩ = some (.int .i64 a0_7) := (blk_cell BK245.out 7).trans rfl; have hfz53_0 := blk_frozen BK245.out 0; have hfz53_1 := blk_frozen BK245.out 1; have hfz53_2 := blk_frozen BK245.out 2; have hfz53_3 := blk_frozen BK245.out 3; have hfz53_4 := blk_frozen BK245.out 4; have hfz53_5 := blk_frozen BK245.out 5; have hfz53_6 := blk_frozen BK245.out 6; have hfz53_7 := blk_frozen BK245.out 7) | ((with_reducible refine gate_callee (f := 14) rfl ?_); refine gL (some 22) Try.func14 #[.agg #[.slice A0_0 l0_0.length c0_0, .slice A0_1 l0_1.length c0_1, .slice A0_2 l0_2.length c0_2, .int .i64 a0_3, .int .i64 a0_4, .int .i64 a0_5, .int .i64 a0_6, .int .i64 a0_7], .int .i64 1048576] ?_; (with_reducible refine (laws_szJob.calls k _ _ l0_0 _ _ l0_1 _ _ l0_2 a0_3 a0_4 a0_5 a0_6 a0_7 1048576 t248 _ ?side1 ?side2 ?side3 ?side4 ?side5 ?side6 A4.out).mono ?_); (case side1 => exact cS (Kd.C_below HR0_0.out HB.out)); (case side2 => exact HC0_0.out); (case side3 => exact cS (Kd.C_below HR0_1.out HB.out)); (case side4 => exact HC0_1.out); (case side5 => exact cS (Kd.C_below HR0_2.out HB.out)); (case side6 => exact HC0_2.out); rintro e w54 ⟨rfl, hb⟩; refine ⟨_, rfl, ?_⟩; have n0_ := blkA BK245 hb; have n1_ := blkA BK246 hb; have n2_ := blkA BK247 hb; have n3_ := AZ (below_step (bS HB.out) hb); clear BK245; clear BK246; clear BK247; clear HB; have BK245 := n0_; have BK246 := n1_; have BK247 := n2_; have HB := n3_; clear n0_ n1_ n2_ n3_; (try clear hb); have hnb55 := NB246_247.out; have hnc55 := NB247_246.out; have hcz56_0 : w54.cell? ⟨gb246, 0, none⟩ = some (.int .i64 a1_0) := (blk_cell BK246.out 0).trans rfl; have hcz56_1 : w54.cell? ⟨gb246, 1, none⟩ = some (.slice A1_1 l1_1.length c1_1) := (blk_cell BK246.out 1).trans rfl; have hfz56_0 := blk_frozen BK246.out 0; have hfz56_1 := blk_frozen BK246.out 1) | ((with_reducible refine gate_callee (f := 15) rfl ?_); refine gL (some 27) Try.func15 #[.agg #[.int .i64 a1_0, .slice A1_1 l1_1.length c1_1], .int .i64 t248] ?_; (with_reducible refine (laws_szPlan.calls a1_0 _ _ l1_1 t248 t249 _ ?side1 ?side2 A13.out).mono ?_); (case side1 => exact cS (Kd.C_below HR1_1.out HB.out)); (case side2 => exact HC1_1.out); rintro e w57 ⟨rfl, hb⟩; refine ⟨_, rfl, ?_⟩; have n0_ := blkA BK245 hb; have n1_ := blkA BK246 hb; have n2_ := blkA BK247 hb; have n3_ := AZ (below_step (bS HB.out) hb); clear BK245; clear BK246; clear BK247; clear HB; have BK245 := n0_; have BK246 := n1_; have BK247 := n2_; have HB := n3_; clear n0_ n1_ n2_ n3_; (try clear hb); have hcz58_0 : w57.cell? ⟨gb247, 0, none⟩ = some (.int .i64 a2_0) := (blk_cell BK247.out 0).trans rfl; have hcz58_1 : w57.cell? ⟨gb247, 1, none⟩ = some (.slice A2_1 l2_1.length c2_1) := (blk_cell BK247.out 1).trans rfl; have hfz58_0 := blk_frozen BK247.out 0; have hfz58_1 := blk_frozen BK247.out 1) | ((with_reducible refine gate_callee (f := 15) rfl ?_); refine gL (some 32) Try.func15 #[.agg #[.int .i64 a2_0, .slice A2_1 l2_1.length c2_1], .int .i64 t249] ?_; (with_reducible refine (laws_szPlan.calls a2_0 _ _ l2_1 t249 t250 _ ?side1 ?side2 A25.out).mono ?_); (case side1 => exact cS (Kd.C_below HR2_1.out HB.out)); (case side2 => exact HC2_1.out); rintro e w59 ⟨rfl, hb⟩; refine ⟨_, rfl, ?_⟩; have n0_ := blkA BK245 hb; have n1_ := blkA BK246 hb; have n2_ := blkA BK247 hb; have n3_ := AZ (below_step (bS HB.out) hb); clear BK245; clear BK246; clear BK247; clear HB; have BK245 := n0_; have BK246 := n1_; have BK247 := n2_; have HB := n3_; clear n0_ n1_ n2_ n3_; (try clear hb)))
        have n0_ := AZ (blk_drew BK245.out)
        have n1_ := AZ (blk_drew BK246.out)
        have n2_ := AZ (blk_drew BK247.out)
        have n3_ := AZ (below_drew1 HB.out)
        clear BK245
        clear BK246
        clear BK247
        clear HB
        have BK245 := n0_
        have BK246 := n1_
        have BK247 := n2_
        have HB := n3_
        clear n0_ n1_ n2_ n3_
        refine start_ (n := 12) (S := fun w' => w'.cell? ⟨gb245, 0, none⟩ = some (.slice A0_0 l0_0.length c0_0) ∧ w'.cell? ⟨gb245, 1, none⟩ = some (.slice A0_1 l0_1.length c0_1) ∧ w'.cell? ⟨gb245, 2, none⟩ = some (.slice A0_2 l0_2.length c0_2) ∧ w'.cell? ⟨gb245, 3, none⟩ = some (.int .i64 a0_3) ∧ w'.cell? ⟨gb245, 4, none⟩ = some (.int .i64 a0_4) ∧ w'.cell? ⟨gb245, 5, none⟩ = some (.int .i64 a0_5) ∧ w'.cell? ⟨gb245, 6, none⟩ = some (.int .i64 a0_6) ∧ w'.cell? ⟨gb245, 7, none⟩ = some (.int .i64 a0_7) ∧ w'.cell? ⟨gb246, 0, none⟩ = some (.int .i64 a1_0) ∧ w'.cell? ⟨gb246, 1, none⟩ = some (.slice A1_1 l1_1.length c1_1) ∧ w'.cell? ⟨gb247, 0, none⟩ = some (.int .i64 a2_0) ∧ w'.cell? ⟨gb247, 1, none⟩ = some (.slice A2_1 l2_1.length c2_1)) (ds := []) #[false, false, false, false, false, false, false, false, false, false, false, false] (by kernel_rfl) rfl rfl ⟨(blk_cell BK245.out 0).trans rfl, (blk_cell BK245.out 1).trans rfl, (blk_cell BK245.out 2).trans rfl, (blk_cell BK245.out 3).trans rfl, (blk_cell BK245.out 4).trans rfl, (blk_cell BK245.out 5).trans rfl, (blk_cell BK245.out 6).trans rfl, (blk_cell BK245.out 7).trans rfl, (blk_cell BK246.out 0).trans rfl, (blk_cell BK246.out 1).trans rfl, (blk_cell BK247.out 0).trans rfl, (blk_cell BK247.out 1).trans rfl⟩ (fun hHeld => ?_); refine with_tabW laws_FnExactMovedBlocks.tab11 laws_FnExactMovedBlocks.bits11 (fun HT_ HW_ => ?_)
        generalize w59.drew = w60 at BK245 BK246 BK247 HB hHeld ⊢
        refine take_ (i := 0) (N := some 36) (v := ?_) (a' := ?_) #[true, false, false, false, false, false, false, false, false, false, false, false] rfl rfl (take_ofW HT_.out HW_.out (by kernel_rfl)) (fun _ _ _ h => h) (Or.inl ⟨by rfl, ?_⟩) hHeld ?_ ?_
        rotate_left
        · rintro w' ⟨s0, s1, s2, s3, s4, s5, s6, s7, s8, s9, s10, s11⟩
          go_simp
          with_reducible rfl
        rotate_left
        · simp only [Act.put, List.setIfInBounds_toArray, List.set_cons_zero, List.set_cons_succ, i64_w, i32_w]
          rfl
        refine take_ (i := 2) (N := some 38) (v := ?_) (a' := ?_) #[true, false, true, false, false, false, false, false, false, false, false, false] rfl rfl (take_ofW HT_.out HW_.out (by kernel_rfl)) (fun _ _ _ h => h) (Or.inl ⟨by rfl, ?_⟩) hHeld ?_ ?_
        rotate_left
        · rintro w' ⟨s0, s1, s2, s3, s4, s5, s6, s7, s8, s9, s10, s11⟩
          go_simp
          with_reducible rfl
        rotate_left
        · simp only [Act.put, List.setIfInBounds_toArray, List.set_cons_zero, List.set_cons_succ, i64_w, i32_w]
          rfl
        refine take_ (i := 4) (N := some 40) (v := ?_) (a' := ?_) #[true, false, true, false, true, false, false, false, false, false, false, false] rfl rfl (take_ofW HT_.out HW_.out (by kernel_rfl)) (fun _ _ _ h => h) (Or.inl ⟨by rfl, ?_⟩) hHeld ?_ ?_
        rotate_left
        · rintro w' ⟨s0, s1, s2, s3, s4, s5, s6, s7, s8, s9, s10, s11⟩
          go_simp
          with_reducible rfl
        rotate_left
        · simp only [Act.put, List.setIfInBounds_toArray, List.set_cons_zero, List.set_cons_succ, i64_w, i32_w]
          rfl
        refine one_ (i := 1) (N := some 37) #[true, true, true, false, true, false, false, false, false, false, false, false] rfl rfl (one_of HT_.out (by kernel_rfl)) (by decide) (fun K hK => ?_)
        refine goes_ Try.func17 (by kernel_rfl) rfl #[.agg #[.slice A0_0 l0_0.length c0_0, .slice A0_1 l0_1.length c0_1, .slice A0_2 l0_2.length c0_2, .int .i64 a0_3, .int .i64 a0_4, .int .i64 a0_5, .int .i64 a0_6, .int .i64 a0_7]] (by rfl) rfl rfl (by (try simp only [List.map_toArray, List.map_cons, List.map_nil]); first | done | rfl | (simp only [List.length_drop, List.length_take]; rfl)) ?_
        with_reducible refine (laws_toJob.calls k _ _ l0_0 _ _ l0_1 _ _ l0_2 a0_3 a0_4 a0_5 a0_6 a0_7 t251 t254 t257 t260 t261 t262 t263 t264 _ ?side1 ?side2 ?side3 ?side4 ?side5 ?side6 A39.out).mono ?_
        (case side1 => exact cS (Kd.C_below HR0_0.out HB.out))
        (case side2 => exact HC0_0.out)
        (case side3 => exact cS (Kd.C_below HR0_1.out HB.out))
        (case side4 => exact HC0_1.out)
        (case side5 => exact cS (Kd.C_below HR0_2.out HB.out))
        (case side6 => exact HC0_2.out)
        rintro e w61 ⟨v252, v255, v258, rfl, ho0, ho1, ho2, hb⟩
        refine ⟨_, rfl, ?_⟩
        have n0_ := AZ (Kd.S_lower ho0 (below_size (bS HB.out)))
        have n1_ := AZ (Kd.R_lower ho1 (below_size (bS HB.out)))
        have n2_ := AZ (Kd.R_lower ho2 (below_size (bS HB.out)))
        have n3_ := blkA BK245 hb
        have n4_ := blkA BK246 hb
        have n5_ := blkA BK247 hb
        have n6_ := AZ (below_step (bS HB.out) hb)
        clear BK245
        clear BK246
        clear BK247
        clear HB
        have HO253 := n0_
        have HO256 := n1_
        have HO259 := n2_
        have BK245 := n3_
        have BK246 := n4_
        have BK247 := n5_
        have HB := n6_
        clear n0_ n1_ n2_ n3_ n4_ n5_ n6_
        (try clear hb)
        (try clear hb2)
        (try clear hk)
        (try clear hi)
        (try clear ho0)
        (try clear ho1)
        (try clear ho2)
        refine hK.out _ _ ⟨(blk_cell BK245.out 0).trans rfl, (blk_cell BK245.out 1).trans rfl, (blk_cell BK245.out 2).trans rfl, (blk_cell BK245.out 3).trans rfl, (blk_cell BK245.out 4).trans rfl, (blk_cell BK245.out 5).trans rfl, (blk_cell BK245.out 6).trans rfl, (blk_cell BK245.out 7).trans rfl, (blk_cell BK246.out 0).trans rfl, (blk_cell BK246.out 1).trans rfl, (blk_cell BK247.out 0).trans rfl, (blk_cell BK247.out 1).trans rfl⟩ (fun hHeld => ?_)
        clear hK K
        refine norm_ (a' := ?_) ?_ ?_
        rotate_left
        · show Act.put _ (some 37) _ = _
          simp only [Act.put, List.setIfInBounds_toArray, List.set_cons_zero, List.set_cons_succ, i64_w, i32_w]
          rfl
        refine one_ (i := 3) (N := some 39) #[true, true, true, true, true, false, false, false, false, false, false, false] rfl rfl (one_of HT_.out (by kernel_rfl)) (by decide) (fun K hK => ?_)
        refine goes_ Try.func18 (by kernel_rfl) rfl #[.agg #[.int .i64 a1_0, .slice A1_1 l1_1.length c1_1]] (by rfl) rfl rfl (by (try simp only [List.map_toArray, List.map_cons, List.map_nil]); first | done | rfl | (simp only [List.length_drop, List.length_take]; rfl)) ?_
        with_reducible refine (laws_toPlan.calls k a1_0 _ _ l1_1 t265 t266 _ ?side1 ?side2 A40.out).mono ?_
        (case side1 => exact cS (Kd.C_below HR1_1.out HB.out))
        (case side2 => exact HC1_1.out)
        rintro e w62 ⟨v267, rfl, ho0, hb⟩
        refine ⟨_, rfl, ?_⟩
        have n0_ := AZ (Kd.S_elder' (sS HO253.out) (Kd.R_base ho0) hb)
        have n1_ := AZ (Kd.R_elder' (rS HO256.out) (Kd.R_base ho0) hb)
        have n2_ := AZ (Kd.R_elder' (rS HO259.out) (Kd.R_base ho0) hb)
        have n3_ := AZ (Kd.R_lower (Kd.R_new' (Kd.R_new' ho0 (Kd.R_lt (rS HO256.out))) (Kd.R_lt (rS HO259.out))) (below_size (bS HB.out)))
        have n4_ := blkA BK245 hb
        have n5_ := blkA BK246 hb
        have n6_ := blkA BK247 hb
        have n7_ := AZ (below_step (bS HB.out) hb)
        clear HO253
        clear HO256
        clear HO259
        clear BK245
        clear BK246
        clear BK247
        clear HB
        have HO253 := n0_
        have HO256 := n1_
        have HO259 := n2_
        have HO268 := n3_
        have BK245 := n4_
        have BK246 := n5_
        have BK247 := n6_
        have HB := n7_
        clear n0_ n1_ n2_ n3_ n4_ n5_ n6_ n7_
        (try clear hb)
        (try clear hb2)
        (try clear hk)
        (try clear hi)
        (try clear ho0)
        refine hK.out _ _ ⟨(blk_cell BK245.out 0).trans rfl, (blk_cell BK245.out 1).trans rfl, (blk_cell BK245.out 2).trans rfl, (blk_cell BK245.out 3).trans rfl, (blk_cell BK245.out 4).trans rfl, (blk_cell BK245.out 5).trans rfl, (blk_cell BK245.out 6).trans rfl, (blk_cell BK245.out 7).trans rfl, (blk_cell BK246.out 0).trans rfl, (blk_cell BK246.out 1).trans rfl, (blk_cell BK247.out 0).trans rfl, (blk_cell BK247.out 1).trans rfl⟩ (fun hHeld => ?_)
        clear hK K
        refine norm_ (a' := ?_) ?_ ?_
        rotate_left
        · show Act.put _ (some 39) _ = _
          simp only [Act.put, List.setIfInBounds_toArray, List.set_cons_zero, List.set_cons_succ, i64_w, i32_w]
          rfl
        refine one_ (i := 5) (N := some 41) #[true, true, true, true, true, true, false, false, false, false, false, false] rfl rfl (one_of HT_.out (by kernel_rfl)) (by decide) (fun K hK => ?_)
        refine goes_ Try.func18 (by kernel_rfl) rfl #[.agg #[.int .i64 a2_0, .slice A2_1 l2_1.length c2_1]] (by rfl) rfl rfl (by (try simp only [List.map_toArray, List.map_cons, List.map_nil]); first | done | rfl | (simp only [List.length_drop, List.length_take]; rfl)) ?_
        with_reducible refine (laws_toPlan.calls k a2_0 _ _ l2_1 t269 t270 _ ?side1 ?side2 A41.out).mono ?_
        (case side1 => exact cS (Kd.C_below HR2_1.out HB.out))
        (case side2 => exact HC2_1.out)
        rintro e w63 ⟨v271, rfl, ho0, hb⟩
        refine ⟨_, rfl, ?_⟩
        have n0_ := AZ (Kd.S_elder' (sS HO253.out) (Kd.R_base ho0) hb)
        have n1_ := AZ (Kd.R_elder' (rS HO256.out) (Kd.R_base ho0) hb)
        have n2_ := AZ (Kd.R_elder' (rS HO259.out) (Kd.R_base ho0) hb)
        have n3_ := AZ (Kd.R_elder' (rS HO268.out) (Kd.R_base ho0) hb)
        have n4_ := AZ (Kd.R_lower (Kd.R_new' (Kd.R_new' (Kd.R_new' ho0 (Kd.R_lt (rS HO256.out))) (Kd.R_lt (rS HO259.out))) (Kd.R_lt (rS HO268.out))) (below_size (bS HB.out)))
        have n5_ := blkA BK245 hb
        have n6_ := blkA BK246 hb
        have n7_ := blkA BK247 hb
        have n8_ := AZ (below_step (bS HB.out) hb)
        clear HO253
        clear HO256
        clear HO259
        clear HO268
        clear BK245
        clear BK246
        clear BK247
        clear HB
        have HO253 := n0_
        have HO256 := n1_
        have HO259 := n2_
        have HO268 := n3_
        have HO272 := n4_
        have BK245 := n5_
        have BK246 := n6_
        have BK247 := n7_
        have HB := n8_
        clear n0_ n1_ n2_ n3_ n4_ n5_ n6_ n7_ n8_
        (try clear hb)
        (try clear hb2)
        (try clear hk)
        (try clear hi)
        (try clear ho0)
        obtain ⟨Ao64, co64, eo64⟩ := Kd.S_slice HO253.out
        (first | subst eo64 | (injection eo64 with f1_ f2_ f3_; have f4_ := f1_.symm; have f5_ := f3_.symm; clear f1_ f2_ f3_; subst f4_; subst f5_))
        obtain ⟨Ao65, co65, eo65⟩ := Kd.R_slice HO256.out
        (first | subst eo65 | (injection eo65 with f1_ f2_ f3_; have f4_ := f1_.symm; have f5_ := f3_.symm; clear f1_ f2_ f3_; subst f4_; subst f5_))
        obtain ⟨Ao66, co66, eo66⟩ := Kd.R_slice HO259.out
        (first | subst eo66 | (injection eo66 with f1_ f2_ f3_; have f4_ := f1_.symm; have f5_ := f3_.symm; clear f1_ f2_ f3_; subst f4_; subst f5_))
        obtain ⟨Ao67, co67, eo67⟩ := Kd.R_slice HO268.out
        (first | subst eo67 | (injection eo67 with f1_ f2_ f3_; have f4_ := f1_.symm; have f5_ := f3_.symm; clear f1_ f2_ f3_; subst f4_; subst f5_))
        obtain ⟨Ao68, co68, eo68⟩ := Kd.R_slice HO272.out
        (first | subst eo68 | (injection eo68 with f1_ f2_ f3_; have f4_ := f1_.symm; have f5_ := f3_.symm; clear f1_ f2_ f3_; subst f4_; subst f5_))
        refine hK.out _ _ ⟨(blk_cell BK245.out 0).trans rfl, (blk_cell BK245.out 1).trans rfl, (blk_cell BK245.out 2).trans rfl, (blk_cell BK245.out 3).trans rfl, (blk_cell BK245.out 4).trans rfl, (blk_cell BK245.out 5).trans rfl, (blk_cell BK245.out 6).trans rfl, (blk_cell BK245.out 7).trans rfl, (blk_cell BK246.out 0).trans rfl, (blk_cell BK246.out 1).trans rfl, (blk_cell BK247.out 0).trans rfl, (blk_cell BK247.out 1).trans rfl⟩ (fun hHeld => ?_)
        clear hK K
        refine norm_ (a' := ?_) ?_ ?_
        rotate_left
        · show Act.put _ (some 41) _ = _
          simp only [Act.put, List.setIfInBounds_toArray, List.set_cons_zero, List.set_cons_succ, i64_w, i32_w]
          rfl
        refine one_ (i := 6) (N := some 42) #[true, true, true, true, true, true, true, false, false, false, false, false] rfl rfl (one_of HT_.out (by kernel_rfl)) (by decide) (fun K hK => ?_)
        refine goes_ Try.func34 (by kernel_rfl) rfl #[.agg #[.slice Ao64 t251.length co64, .slice Ao65 t254.length co65, .slice Ao66 t257.length co66, .int .i64 t260, .int .i64 t261, .int .i64 t262, .int .i64 t263, .int .i64 t264], .agg #[.int .i64 t265, .slice Ao67 t266.length co67], .agg #[.int .i64 t269, .slice Ao68 t270.length co68]] (by rfl) rfl rfl (by (try simp only [List.map_toArray, List.map_cons, List.map_nil]); first | done | rfl | (simp only [List.length_drop, List.length_take]; rfl)) ?_
        with_reducible refine (spec_MovedBlocks.calls k _ _ t251 _ _ t254 _ _ t257 t260 t261 t262 t263 t264 t265 _ _ t266 t269 _ _ t270 t273 t276 _ ?side1 ?side2 ?side3 ?side4 ?side5 ?side6 ?side7 ?side8 ?side9 ?side10 A42.out).mono ?_
        (case side1 => exact cS (Kd.S_reads' HO253.out).2.2)
        (case side2 => exact (Kd.S_reads' HO253.out).2.1)
        (case side3 => exact cS (Kd.R_reads' HO256.out).2.2)
        (case side4 => exact (Kd.R_reads' HO256.out).2.1)
        (case side5 => exact cS (Kd.R_reads' HO259.out).2.2)
        (case side6 => exact (Kd.R_reads' HO259.out).2.1)
        (case side7 => exact cS (Kd.R_reads' HO268.out).2.2)
        (case side8 => exact (Kd.R_reads' HO268.out).2.1)
        (case side9 => exact cS (Kd.R_reads' HO272.out).2.2)
        (case side10 => exact (Kd.R_reads' HO272.out).2.1)
        rintro e w69 ⟨v274, rfl, ho0, hb⟩
        refine ⟨_, rfl, ?_⟩
        have n0_ := AZ (Kd.S_elder' (sS HO253.out) (Kd.R_base ho0) hb)
        have n1_ := AZ (Kd.R_elder' (rS HO256.out) (Kd.R_base ho0) hb)
        have n2_ := AZ (Kd.R_elder' (rS HO259.out) (Kd.R_base ho0) hb)
        have n3_ := AZ (Kd.R_elder' (rS HO268.out) (Kd.R_base ho0) hb)
        have n4_ := AZ (Kd.R_elder' (rS HO272.out) (Kd.R_base ho0) hb)
        have n5_ := AZ (Kd.R_lower (Kd.R_new' (Kd.R_new' (Kd.R_new' (Kd.R_new' ho0 (Kd.R_lt (rS HO256.out))) (Kd.R_lt (rS HO259.out))) (Kd.R_lt (rS HO268.out))) (Kd.R_lt (rS HO272.out))) (below_size (bS HB.out)))
        have n6_ := blkA BK245 hb
        have n7_ := blkA BK246 hb
        have n8_ := blkA BK247 hb
        have n9_ := AZ (below_step (bS HB.out) hb)
        clear HO253
        clear HO256
        clear HO259
        clear HO268
        clear HO272
        clear BK245
        clear BK246
        clear BK247
        clear HB
        have HO253 := n0_
        have HO256 := n1_
        have HO259 := n2_
        have HO268 := n3_
        have HO272 := n4_
        have HO275 := n5_
        have BK245 := n6_
        have BK246 := n7_
        have BK247 := n8_
        have HB := n9_
        clear n0_ n1_ n2_ n3_ n4_ n5_ n6_ n7_ n8_ n9_
        (try clear hb)
        (try clear hb2)
        (try clear hk)
        (try clear hi)
        (try clear ho0)
        refine hK.out _ _ ⟨(blk_cell BK245.out 0).trans rfl, (blk_cell BK245.out 1).trans rfl, (blk_cell BK245.out 2).trans rfl, (blk_cell BK245.out 3).trans rfl, (blk_cell BK245.out 4).trans rfl, (blk_cell BK245.out 5).trans rfl, (blk_cell BK245.out 6).trans rfl, (blk_cell BK245.out 7).trans rfl, (blk_cell BK246.out 0).trans rfl, (blk_cell BK246.out 1).trans rfl, (blk_cell BK247.out 0).trans rfl, (blk_cell BK247.out 1).trans rfl⟩ (fun hHeld => ?_)
        clear hK K
        refine norm_ (a' := ?_) ?_ ?_
        rotate_left
        · show Act.put _ (some 42) _ = _
          simp only [Act.put, List.setIfInBounds_toArray, List.set_cons_zero, List.set_cons_succ, i64_w, i32_w]
          rfl
        refine pure_ (i := 7) (N := some 35) (v := ?_) (a' := ?_) #[true, true, true, true, true, true, true, true, false, false, false, false] rfl rfl (any_of HT_.out (by kernel_rfl)) (fun _ _ _ h => h) (Or.inl ⟨by rfl, ?_⟩) ?_ ?_
        rotate_left
        · intro w'
          go_simp
          with_reducible rfl
        rotate_left
        · simp only [Act.put, List.setIfInBounds_toArray, List.set_cons_zero, List.set_cons_succ, i64_w, i32_w]
          rfl
        refine pure_ (i := 8) (N := some 43) (v := ?_) (a' := ?_) #[true, true, true, true, true, true, true, true, true, false, false, false] rfl rfl (any_of HT_.out (by kernel_rfl)) (fun _ _ _ h => h) (Or.inl ⟨by rfl, ?_⟩) ?_ ?_
        rotate_left
        · intro w'
          go_simp
          with_reducible rfl
        rotate_left
        · simp only [Act.put, List.setIfInBounds_toArray, List.set_cons_zero, List.set_cons_succ, i64_w, i32_w]
          rfl
        refine pure_ (i := 9) (N := some 44) (v := ?_) (a' := ?_) #[true, true, true, true, true, true, true, true, true, true, false, false] rfl rfl (any_of HT_.out (by kernel_rfl)) (fun _ _ _ h => h) (Or.inl ⟨by rfl, ?_⟩) ?_ ?_
        rotate_left
        · intro w'
          go_simp
          with_reducible rfl
        rotate_left
        · simp only [Act.put, List.setIfInBounds_toArray, List.set_cons_zero, List.set_cons_succ, i64_w, i32_w]
          rfl
        refine pure_ (i := 10) (N := some 8) (v := ?_) (a' := ?_) #[true, true, true, true, true, true, true, true, true, true, true, false] rfl rfl (any_of HT_.out (by kernel_rfl)) (fun _ _ _ h => h) (Or.inl ⟨by rfl, ?_⟩) ?_ ?_
        rotate_left
        · intro w'
          go_simp
          with_reducible rfl
        rotate_left
        · simp only [Act.put, List.setIfInBounds_toArray, List.set_cons_zero, List.set_cons_succ, i64_w, i32_w]
          rfl
        refine pure_ (i := 11) (N := some 9) (v := ?_) (a' := ?_) #[true, true, true, true, true, true, true, true, true, true, true, true] rfl rfl (any_of HT_.out (by kernel_rfl)) (fun _ _ _ h => h) (Or.inl ⟨by rfl, ?_⟩) ?_ ?_
        rotate_left
        · intro w'
          go_simp
          with_reducible rfl
        rotate_left
        · simp only [Act.put, List.setIfInBounds_toArray, List.set_cons_zero, List.set_cons_succ, i64_w, i32_w]
          rfl
        refine done_ (done_of HT_.out (by kernel_rfl)) ?_
        have hcz70_0 : w69.cell? ⟨gb245, 0, none⟩ = some (.slice A0_0 l0_0.length c0_0) := (blk_cell BK245.out 0).trans rfl
        have hcz70_1 : w69.cell? ⟨gb245, 1, none⟩ = some (.slice A0_1 l0_1.length c0_1) := (blk_cell BK245.out 1).trans rfl
        have hcz70_2 : w69.cell? ⟨gb245, 2, none⟩ = some (.slice A0_2 l0_2.length c0_2) := (blk_cell BK245.out 2).trans rfl
        have hcz70_3 : w69.cell? ⟨gb245, 3, none⟩ = some (.int .i64 a0_3) := (blk_cell BK245.out 3).trans rfl
        have hcz70_4 : w69.cell? ⟨gb245, 4, none⟩ = some (.int .i64 a0_4) := (blk_cell BK245.out 4).trans rfl
        have hcz70_5 : w69.cell? ⟨gb245, 5, none⟩ = some (.int .i64 a0_5) := (blk_cell BK245.out 5).trans rfl
        have hcz70_6 : w69.cell? ⟨gb245, 6, none⟩ = some (.int .i64 a0_6) := (blk_cell BK245.out 6).trans rfl
        have hcz70_7 : w69.cell? ⟨gb245, 7, none⟩ = some (.int .i64 a0_7) := (blk_cell BK245.out 7).trans rfl
        have hfz70_0 := blk_frozen BK245.out 0
        have hfz70_1 := blk_frozen BK245.out 1
        have hfz70_2 := blk_frozen BK245.out 2
        have hfz70_3 := blk_frozen BK245.out 3
        have hfz70_4 := blk_frozen BK245.out 4
        have hfz70_5 := blk_frozen BK245.out 5
        have hfz70_6 := blk_frozen BK245.out 6
        have hfz70_7 := blk_frozen BK245.out 7
        go_upto_region 16 with (first | ((with_reducible refine gate_callee (f := 17) rfl ?_); refine gL (some 46) Try.func17 #[.agg #[.slice A0_0 l0_0.length c0_0, .slice A0_1 l0_1.length c0_1, .slice A0_2 l0_2.length c0_2, .int .i64 a0_3, .int .i64 a0_4, .int .i64 a0_5, .int .i64 a0_6, .int .i64 a0_7]] ?_; (with_reducible refine (laws_toJob.calls k _ _ l0_0 _ _ l0_1 _ _ l0_2 a0_3 a0_4 a0_5 a0_6 a0_7 t277 t280 t283 t286 t287 t288 t289 t290 _ ?side1 ?side2 ?side3 ?side4 ?side5 ?side6 A43.out).mono ?_); (case side1 => exact cS (Kd.C_below HR0_0.out HB.out)); (case side2 => exact HC0_0.out); (case side3 => exact cS (Kd.C_below HR0_1.out HB.out)); (case side4 => exact HC0_1.out); (case side5 => exact cS (Kd.C_below HR0_2.out HB.out)); (case side6 => exact HC0_2.out); rintro e w71 ⟨v278, v281, v284, rfl, ho0, ho1, ho2, hb⟩; refine ⟨_, rfl, ?_⟩; have n0_ := AZ (Kd.S_mono (Kd.S_told (Kd.S_told (Kd.S_told (Kd.S_old (sS HO253.out) hb) (Kd.S_base ho0)) (Kd.R_base ho1)) (Kd.R_base ho2)) (fun _ h_ => h_.1)); have n1_ := AZ (Kd.R_mono (Kd.R_told (Kd.R_told (Kd.R_old (rS HO256.out) hb) (Kd.R_base ho1)) (Kd.R_base ho2)) (fun _ h_ => h_.1)); have n2_ := AZ (Kd.R_mono (Kd.R_told (Kd.R_told (Kd.R_old (rS HO259.out) hb) (Kd.R_base ho1)) (Kd.R_base ho2)) (fun _ h_ => h_.1)); have n3_ := AZ (Kd.R_mono (Kd.R_told (Kd.R_told (Kd.R_old (rS HO268.out) hb) (Kd.R_base ho1)) (Kd.R_base ho2)) (fun _ h_ => h_.1)); have n4_ := AZ (Kd.R_mono (Kd.R_told (Kd.R_told (Kd.R_old (rS HO272.out) hb) (Kd.R_base ho1)) (Kd.R_base ho2)) (fun _ h_ => h_.1)); have n5_ := AZ (Kd.R_mono (Kd.R_told (Kd.R_told (Kd.R_old (rS HO275.out) hb) (Kd.R_base ho1)) (Kd.R_base ho2)) (fun _ h_ => h_.1)); have n6_ := AZ (Kd.S_lower (Kd.S_new' (Kd.S_new' (Kd.S_new' (Kd.S_new' (Kd.S_new' (Kd.S_new' ho0 (Kd.S_lt (sS HO253.out))) (Kd.R_lt (rS HO256.out))) (Kd.R_lt (rS HO259.out))) (Kd.R_lt (rS HO268.out))) (Kd.R_lt (rS HO272.out))) (Kd.R_lt (rS HO275.out))) (below_size (bS HB.out))); have n7_ := AZ (Kd.R_lower (Kd.R_new' (Kd.R_new' (Kd.R_new' (Kd.R_new' (Kd.R_new' ho1 (Kd.R_lt (rS HO256.out))) (Kd.R_lt (rS HO259.out))) (Kd.R_lt (rS HO268.out))) (Kd.R_lt (rS HO272.out))) (Kd.R_lt (rS HO275.out))) (below_size (bS HB.out))); have n8_ := AZ (Kd.R_lower (Kd.R_new' (Kd.R_new' (Kd.R_new' (Kd.R_new' (Kd.R_new' ho2 (Kd.R_lt (rS HO256.out))) (Kd.R_lt (rS HO259.out))) (Kd.R_lt (rS HO268.out))) (Kd.R_lt (rS HO272.out))) (Kd.R_lt (rS HO275.out))) (below_size (bS HB.out))); have n9_ := blkA BK245 hb; have n10_ := blkA BK246 hb; have n11_ := blkA BK247 hb; have n12_ := AZ (below_step (bS HB.out) hb); clear HO253; clear HO256; clear HO259; clear HO268; clear HO272; clear HO275; clear BK245; clear BK246; clear BK247; clear HB; have HO253 := n0_; have HO256 := n1_; have HO259 := n2_; have HO268 := n3_; have HO272 := n4_; have HO275 := n5_; have HO279 := n6_; have HO282 := n7_; have HO285 := n8_; have BK245 := n9_; have BK246 := n10_; have BK247 := n11_; have HB := n12_; clear n0_ n1_ n2_ n3_ n4_ n5_ n6_ n7_ n8_ n9_ n10_ n11_ n12_; (try clear hb ho0 ho1 ho2)) | ((with_reducible refine gate_dst (N := 10) rfl ?_); refine box_event ?hg (N := 10) ?hd (cs := #[.slice none 0 0, .slice none 0 0, .slice none 0 0, .int .i64 0, .int .i64 0, .int .i64 0, .int .i64 0, .int .i64 0]) (t := 36) ?hr ?_; (case hd => rfl); (case hg => rfl); (case hr => first | (go_simp; done) | (go_simp; rfl)); intro gb291 hg w72 hbox hb; have n0_ := AZ (Kd.S_below (sS HO253.out) hb); have n1_ := AZ (Kd.R_below (rS HO256.out) hb); have n2_ := AZ (Kd.R_below (rS HO259.out) hb); have n3_ := AZ (Kd.R_below (rS HO268.out) hb); have n4_ := AZ (Kd.R_below (rS HO272.out) hb); have n5_ := AZ (Kd.R_below (rS HO275.out) hb); have n6_ := AZ (Kd.S_below (sS HO279.out) hb); have n7_ := AZ (Kd.R_below (rS HO282.out) hb); have n8_ := AZ (Kd.R_below (rS HO285.out) hb); have n9_ := blkA BK245 hb; have n10_ := blkA BK246 hb; have n11_ := blkA BK247 hb; have n12_ := AZ (below_step (bS HB.out) hb); have n13_ := AZ (hbox); have n14_ := AZ (geS hg HB.out); have n15_ := AZ (geS hg HB.out); have n16_ := AZ ((by rw [hg]; exact Nat.ne_of_lt (blkL BK245.out) : gb245 ≠ gb291)); have n17_ := AZ ((by rw [hg]; exact Nat.ne_of_gt (blkL BK245.out) : gb291 ≠ gb245)); have n18_ := AZ ((by rw [hg]; exact Nat.ne_of_lt (blkL BK246.out) : gb246 ≠ gb291)); have n19_ := AZ ((by rw [hg]; exact Nat.ne_of_gt (blkL BK246.out) : gb291 ≠ gb246)); have n20_ := AZ ((by rw [hg]; exact Nat.ne_of_lt (blkL BK247.out) : gb247 ≠ gb291)); have n21_ := AZ ((by rw [hg]; exact Nat.ne_of_gt (blkL BK247.out) : gb291 ≠ gb247)); clear HO253; clear HO256; clear HO259; clear HO268; clear HO272; clear HO275; clear HO279; clear HO282; clear HO285; clear BK245; clear BK246; clear BK247; clear HB; have HO253 := n0_; have HO256 := n1_; have HO259 := n2_; have HO268 := n3_; have HO272 := n4_; have HO275 := n5_; have HO279 := n6_; have HO282 := n7_; have HO285 := n8_; have BK245 := n9_; have BK246 := n10_; have BK247 := n11_; have HB := n12_; have BK291 := n13_; have GW291 := n14_; have GE291 := n15_; have NB245_291 := n16_; have NB291_245 := n17_; have NB246_291 := n18_; have NB291_246 := n19_; have NB247_291 := n20_; have NB291_247 := n21_; clear n0_ n1_ n2_ n3_ n4_ n5_ n6_ n7_ n8_ n9_ n10_ n11_ n12_ n13_ n14_ n15_ n16_ n17_ n18_ n19_ n20_ n21_; clear hb hbox hg; obtain ⟨Ao73, co73, eo73⟩ := Kd.S_slice HO279.out; subst eo73; have hnb74 := NB291_245.out; have hnc74 := NB245_291.out; have hnb75 := NB291_246.out; have hnc75 := NB246_291.out; have hnb76 := NB291_247.out; have hnc76 := NB247_291.out; have hcz77_0 : w72.cell? ⟨gb291, 0, none⟩ = some (.slice none 0 0) := (blk_cell BK291.out 0).trans rfl; have hcz77_1 : w72.cell? ⟨gb291, 1, none⟩ = some (.slice none 0 0) := (blk_cell BK291.out 1).trans rfl; have hcz77_2 : w72.cell? ⟨gb291, 2, none⟩ = some (.slice none 0 0) := (blk_cell BK291.out 2).trans rfl; have hcz77_3 : w72.cell? ⟨gb291, 3, none⟩ = some (.int .i64 0) := (blk_cell BK291.out 3).trans rfl; have hcz77_4 : w72.cell? ⟨gb291, 4, none⟩ = some (.int .i64 0) := (blk_cell BK291.out 4).trans rfl; have hcz77_5 : w72.cell? ⟨gb291, 5, none⟩ = some (.int .i64 0) := (blk_cell BK291.out 5).trans rfl; have hcz77_6 : w72.cell? ⟨gb291, 6, none⟩ = some (.int .i64 0) := (blk_cell BK291.out 6).trans rfl; have hcz77_7 : w72.cell? ⟨gb291, 7, none⟩ = some (.int .i64 0) := (blk_cell BK291.out 7).trans rfl; have hfz77_0 := blk_frozen BK291.out 0; have hfz77_1 := blk_frozen BK291.out 1; have hfz77_2 := blk_frozen BK291.out 2; have hfz77_3 := blk_frozen BK291.out 3; have hfz77_4 := blk_frozen BK291.out 4; have hfz77_5 := blk_frozen BK291.out 5; have hfz77_6 := blk_frozen BK291.out 6; have hfz77_7 := blk_frozen BK291.out 7; obtain ⟨Ao78, co78, eo78⟩ := Kd.R_slice HO282.out; subst eo78; obtain ⟨Ao79, co79, eo79⟩ := Kd.R_slice HO285.out; subst eo79; have hcz80_0 : w72.cell? ⟨gb246, 0, none⟩ = some (.int .i64 a1_0) := (blk_cell BK246.out 0).trans rfl; have hcz80_1 : w72.cell? ⟨gb246, 1, none⟩ = some (.slice A1_1 l1_1.length c1_1) := (blk_cell BK246.out 1).trans rfl; have hfz80_0 := blk_frozen BK246.out 0; have hfz80_1 := blk_frozen BK246.out 1) | ((with_reducible refine gate_callee (f := 18) rfl ?_); refine gL (some 48) Try.func18 #[.agg #[.int .i64 a1_0, .slice A1_1 l1_1.length c1_1]] ?_; (with_reducible refine (laws_toPlan.calls k a1_0 _ _ l1_1 t292 t293 _ ?side1 ?side2 A44.out).mono ?_); (case side1 => exact Kd.C_below HR1_1.out (bS HB.out)); (case side2 => exact HC1_1.out); rintro e w81 ⟨v294, rfl, ho0, hb⟩; refine ⟨_, rfl, ?_⟩; have n0_ := AZ (Kd.S_elder' (by (with_reducible repeat (first | apply Kd.S_alloc | apply Kd.S_drewN | apply Kd.S_drew)); exact (Kd.S_mono (Kd.S_far (Kd.S_far (Kd.S_far (Kd.S_far (Kd.S_far (Kd.S_far (Kd.S_far (Kd.S_far (Kd.S_types HO253.out BK291.out (by decide)) (fun _ hk => hk.2) _) (fun _ hk => hk.2) _) (fun _ hk => hk.2) _) (fun _ hk => hk.2) _) (fun _ hk => hk.2) _) (fun _ hk => hk.2) _) (fun _ hk => hk.2) _) (fun _ hk => hk.2) _) (fun _ h_ => h_.1))) (Kd.R_base ho0) hb); have n1_ := AZ (Kd.R_elder' (by (with_reducible repeat (first | apply Kd.R_alloc | apply Kd.R_drewN | apply Kd.R_drew)); exact (Kd.R_mono (Kd.R_far (Kd.R_far (Kd.R_far (Kd.R_far (Kd.R_far (Kd.R_far (Kd.R_far (Kd.R_far (Kd.R_types HO256.out BK291.out (by decide)) (fun _ hk => hk.2) _) (fun _ hk => hk.2) _) (fun _ hk => hk.2) _) (fun _ hk => hk.2) _) (fun _ hk => hk.2) _) (fun _ hk => hk.2) _) (fun _ hk => hk.2) _) (fun _ hk => hk.2) _) (fun _ h_ => h_.1))) (Kd.R_base ho0) hb); have n2_ := AZ (Kd.R_elder' (by (with_reducible repeat (first | apply Kd.R_alloc | apply Kd.R_drewN | apply Kd.R_drew)); exact (Kd.R_mono (Kd.R_far (Kd.R_far (Kd.R_far (Kd.R_far (Kd.R_far (Kd.R_far (Kd.R_far (Kd.R_far (Kd.R_types HO259.out BK291.out (by decide)) (fun _ hk => hk.2) _) (fun _ hk => hk.2) _) (fun _ hk => hk.2) _) (fun _ hk => hk.2) _) (fun _ hk => hk.2) _) (fun _ hk => hk.2) _) (fun _ hk => hk.2) _) (fun _ hk => hk.2) _) (fun _ h_ => h_.1))) (Kd.R_base ho0) hb); have n3_ := AZ (Kd.R_elder' (by (with_reducible repeat (first | apply Kd.R_alloc | apply Kd.R_drewN | apply Kd.R_drew)); exact (Kd.R_mono (Kd.R_far (Kd.R_far (Kd.R_far (Kd.R_far (Kd.R_far (Kd.R_far (Kd.R_far (Kd.R_far (Kd.R_types HO268.out BK291.out (by decide)) (fun _ hk => hk.2) _) (fun _ hk => hk.2) _) (fun _ hk => hk.2) _) (fun _ hk => hk.2) _) (fun _ hk => hk.2) _) (fun _ hk => hk.2) _) (fun _ hk => hk.2) _) (fun _ hk => hk.2) _) (fun _ h_ => h_.1))) (Kd.R_base ho0) hb); have n4_ := AZ (Kd.R_elder' (by (with_reducible repeat (first | apply Kd.R_alloc | apply Kd.R_drewN | apply Kd.R_drew)); exact (Kd.R_mono (Kd.R_far (Kd.R_far (Kd.R_far (Kd.R_far (Kd.R_far (Kd.R_far (Kd.R_far (Kd.R_far (Kd.R_types HO272.out BK291.out (by decide)) (fun _ hk => hk.2) _) (fun _ hk => hk.2) _) (fun _ hk => hk.2) _) (fun _ hk => hk.2) _) (fun _ hk => hk.2) _) (fun _ hk => hk.2) _) (fun _ hk => hk.2) _) (fun _ hk => hk.2) _) (fun _ h_ => h_.1))) (Kd.R_base ho0) hb); have n5_ := AZ (Kd.R_elder' (by (with_reducible repeat (first | apply Kd.R_alloc | apply Kd.R_drewN | apply Kd.R_drew)); exact (Kd.R_mono (Kd.R_far (Kd.R_far (Kd.R_far (Kd.R_far (Kd.R_far (Kd.R_far (Kd.R_far (Kd.R_far (Kd.R_types HO275.out BK291.out (by decide)) (fun _ hk => hk.2) _) (fun _ hk => hk.2) _) (fun _ hk => hk.2) _) (fun _ hk => hk.2) _) (fun _ hk => hk.2) _) (fun _ hk => hk.2) _) (fun _ hk => hk.2) _) (fun _ hk => hk.2) _) (fun _ h_ => h_.1))) (Kd.R_base ho0) hb); have n6_ := AZ (Kd.S_elder' (by (with_reducible repeat (first | apply Kd.S_alloc | apply Kd.S_drewN | apply Kd.S_drew)); exact (Kd.S_mono (Kd.S_far (Kd.S_far (Kd.S_far (Kd.S_far (Kd.S_far (Kd.S_far (Kd.S_far (Kd.S_far (Kd.S_types HO279.out BK291.out (by decide)) (fun _ hk => hk.2) _) (fun _ hk => hk.2) _) (fun _ hk => hk.2) _) (fun _ hk => hk.2) _) (fun _ hk => hk.2) _) (fun _ hk => hk.2) _) (fun _ hk => hk.2) _) (fun _ hk => hk.2) _) (fun _ h_ => h_.1))) (Kd.R_base ho0) hb); have n7_ := AZ (Kd.R_elder' (by (with_reducible repeat (first | apply Kd.R_alloc | apply Kd.R_drewN | apply Kd.R_drew)); exact (Kd.R_mono (Kd.R_far (Kd.R_far (Kd.R_far (Kd.R_far (Kd.R_far (Kd.R_far (Kd.R_far (Kd.R_far (Kd.R_types HO282.out BK291.out (by decide)) (fun _ hk => hk.2) _) (fun _ hk => hk.2) _) (fun _ hk => hk.2) _) (fun _ hk => hk.2) _) (fun _ hk => hk.2) _) (fun _ hk => hk.2) _) (fun _ hk => hk.2) _) (fun _ hk => hk.2) _) (fun _ h_ => h_.1))) (Kd.R_base ho0) hb); have n8_ := AZ (Kd.R_elder' (by (with_reducible repeat (first | apply Kd.R_alloc | apply Kd.R_drewN | apply Kd.R_drew)); exact (Kd.R_mono (Kd.R_far (Kd.R_far (Kd.R_far (Kd.R_far (Kd.R_far (Kd.R_far (Kd.R_far (Kd.R_far (Kd.R_types HO285.out BK291.out (by decide)) (fun _ hk => hk.2) _) (fun _ hk => hk.2) _) (fun _ hk => hk.2) _) (fun _ hk => hk.2) _) (fun _ hk => hk.2) _) (fun _ hk => hk.2) _) (fun _ hk => hk.2) _) (fun _ hk => hk.2) _) (fun _ h_ => h_.1))) (Kd.R_base ho0) hb); have n9_ := AZ (Kd.R_lower (Kd.R_new' (Kd.R_new' (Kd.R_new' (Kd.R_new' (Kd.R_new' (Kd.R_new' (Kd.R_new' ho0 (Kd.R_lt (by (with_reducible repeat (first | apply Kd.R_alloc | apply Kd.R_drewN | apply Kd.R_drew)); exact (Kd.R_mono (Kd.R_far (Kd.R_far (Kd.R_far (Kd.R_far (Kd.R_far (Kd.R_far (Kd.R_far (Kd.R_far (Kd.R_types HO256.out BK291.out (by decide)) (fun _ hk => hk.2) _) (fun _ hk => hk.2) _) (fun _ hk => hk.2) _) (fun _ hk => hk.2) _) (fun _ hk => hk.2) _) (fun _ hk => hk.2) _) (fun _ hk => hk.2) _) (fun _ hk => hk.2) _) (fun _ h_ => h_.1))))) (Kd.R_lt (by (with_reducible repeat (first | apply Kd.R_alloc | apply Kd.R_drewN | apply Kd.R_drew)); exact (Kd.R_mono (Kd.R_far (Kd.R_far (Kd.R_far (Kd.R_far (Kd.R_far (Kd.R_far (Kd.R_far (Kd.R_far (Kd.R_types HO259.out BK291.out (by decide)) (fun _ hk => hk.2) _) (fun _ hk => hk.2) _) (fun _ hk => hk.2) _) (fun _ hk => hk.2) _) (fun _ hk => hk.2) _) (fun _ hk => hk.2) _) (fun _ hk => hk.2) _) (fun _ hk => hk.2) _) (fun _ h_ => h_.1))))) (Kd.R_lt (by (with_reducible repeat (first | apply Kd.R_alloc | apply Kd.R_drewN | apply Kd.R_drew)); exact (Kd.R_mono (Kd.R_far (Kd.R_far (Kd.R_far (Kd.R_far (Kd.R_far (Kd.R_far (Kd.R_far (Kd.R_far (Kd.R_types HO268.out BK291.out (by decide)) (fun _ hk => hk.2) _) (fun _ hk => hk.2) _) (fun _ hk => hk.2) _) (fun _ hk => hk.2) _) (fun _ hk => hk.2) _) (fun _ hk => hk.2) _) (fun _ hk => hk.2) _) (fun _ hk => hk.2) _) (fun _ h_ => h_.1))))) (Kd.R_lt (by (with_reducible repeat (first | apply Kd.R_alloc | apply Kd.R_drewN | apply Kd.R_drew)); exact (Kd.R_mono (Kd.R_far (Kd.R_far (Kd.R_far (Kd.R_far (Kd.R_far (Kd.R_far (Kd.R_far (Kd.R_far (Kd.R_types HO272.out BK291.out (by decide)) (fun _ hk => hk.2) _) (fun _ hk => hk.2) _) (fun _ hk => hk.2) _) (fun _ hk => hk.2) _) (fun _ hk => hk.2) _) (fun _ hk => hk.2) _) (fun _ hk => hk.2) _) (fun _ hk => hk.2) _) (fun _ h_ => h_.1))))) (Kd.R_lt (by (with_reducible repeat (first | apply Kd.R_alloc | apply Kd.R_drewN | apply Kd.R_drew)); exact (Kd.R_mono (Kd.R_far (Kd.R_far (Kd.R_far (Kd.R_far (Kd.R_far (Kd.R_far (Kd.R_far (Kd.R_far (Kd.R_types HO275.out BK291.out (by decide)) (fun _ hk => hk.2) _) (fun _ hk => hk.2) _) (fun _ hk => hk.2) _) (fun _ hk => hk.2) _) (fun _ hk => hk.2) _) (fun _ hk => hk.2) _) (fun _ hk => hk.2) _) (fun _ hk => hk.2) _) (fun _ h_ => h_.1))))) (Kd.R_lt (by (with_reducible repeat (first | apply Kd.R_alloc | apply Kd.R_drewN | apply Kd.R_drew)); exact (Kd.R_mono (Kd.R_far (Kd.R_far (Kd.R_far (Kd.R_far (Kd.R_far (Kd.R_far (Kd.R_far (Kd.R_far (Kd.R_types HO282.out BK291.out (by decide)) (fun _ hk => hk.2) _) (fun _ hk => hk.2) _) (fun _ hk => hk.2) _) (fun _ hk => hk.2) _) (fun _ hk => hk.2) _) (fun _ hk => hk.2) _) (fun _ hk => hk.2) _) (fun _ hk => hk.2) _) (fun _ h_ => h_.1))))) (Kd.R_lt (by (with_reducible repeat (first | apply Kd.R_alloc | apply Kd.R_drewN | apply Kd.R_drew)); exact (Kd.R_mono (Kd.R_far (Kd.R_far (Kd.R_far (Kd.R_far (Kd.R_far (Kd.R_far (Kd.R_far (Kd.R_far (Kd.R_types HO285.out BK291.out (by decide)) (fun _ hk => hk.2) _) (fun _ hk => hk.2) _) (fun _ hk => hk.2) _) (fun _ hk => hk.2) _) (fun _ hk => hk.2) _) (fun _ hk => hk.2) _) (fun _ hk => hk.2) _) (fun _ hk => hk.2) _) (fun _ h_ => h_.1))))) (below_size (bS HB.out))); have n10_ := AZ (blk_below (g := gb245) (o := .cells #[.slice A0_0 l0_0.length c0_0, .slice A0_1 l0_1.length c0_1, .slice A0_2 l0_2.length c0_2, .int .i64 a0_3, .int .i64 a0_4, .int .i64 a0_5, .int .i64 a0_6, .int .i64 a0_7] 27 (0, 0)) (by (with_reducible repeat (first | refine blk_drewN ?_ _ | refine blk_drew ?_ | refine blk_alloc ?_ _)); refine blk_far ?_ NB245_291.out _; (with_reducible repeat (first | refine blk_drewN ?_ _ | refine blk_drew ?_ | refine blk_alloc ?_ _)); refine blk_far ?_ NB245_291.out _; (with_reducible repeat (first | refine blk_drewN ?_ _ | refine blk_drew ?_ | refine blk_alloc ?_ _)); refine blk_far ?_ NB245_291.out _; (with_reducible repeat (first | refine blk_drewN ?_ _ | refine blk_drew ?_ | refine blk_alloc ?_ _)); refine blk_far ?_ NB245_291.out _; (with_reducible repeat (first | refine blk_drewN ?_ _ | refine blk_drew ?_ | refine blk_alloc ?_ _)); refine blk_far ?_ NB245_291.out _; (with_reducible repeat (first | refine blk_drewN ?_ _ | refine blk_drew ?_ | refine blk_alloc ?_ _)); refine blk_far ?_ NB245_291.out _; (with_reducible repeat (first | refine blk_drewN ?_ _ | refine blk_drew ?_ | refine blk_alloc ?_ _)); refine blk_far ?_ NB245_291.out _; (with_reducible repeat (first | refine blk_drewN ?_ _ | refine blk_drew ?_ | refine blk_alloc ?_ _)); refine blk_far ?_ NB245_291.out _; (with_reducible repeat (first | refine blk_drewN ?_ _ | refine blk_drew ?_ | refine blk_alloc ?_ _)); exact BK245.out) hb); have n11_ := AZ (blk_below (g := gb246) (o := .cells #[.int .i64 a1_0, .slice A1_1 l1_1.length c1_1] 29 (0, 0)) (by (with_reducible repeat (first | refine blk_drewN ?_ _ | refine blk_drew ?_ | refine blk_alloc ?_ _)); refine blk_far ?_ NB246_291.out _; (with_reducible repeat (first | refine blk_drewN ?_ _ | refine blk_drew ?_ | refine blk_alloc ?_ _)); refine blk_far ?_ NB246_291.out _; (with_reducible repeat (first | refine blk_drewN ?_ _ | refine blk_drew ?_ | refine blk_alloc ?_ _)); refine blk_far ?_ NB246_291.out _; (with_reducible repeat (first | refine blk_drewN ?_ _ | refine blk_drew ?_ | refine blk_alloc ?_ _)); refine blk_far ?_ NB246_291.out _; (with_reducible repeat (first | refine blk_drewN ?_ _ | refine blk_drew ?_ | refine blk_alloc ?_ _)); refine blk_far ?_ NB246_291.out _; (with_reducible repeat (first | refine blk_drewN ?_ _ | refine blk_drew ?_ | refine blk_alloc ?_ _)); refine blk_far ?_ NB246_291.out _; (with_reducible repeat (first | refine blk_drewN ?_ _ | refine blk_drew ?_ | refine blk_alloc ?_ _)); refine blk_far ?_ NB246_291.out _; (with_reducible repeat (first | refine blk_drewN ?_ _ | refine blk_drew ?_ | refine blk_alloc ?_ _)); refine blk_far ?_ NB246_291.out _; (with_reducible repeat (first | refine blk_drewN ?_ _ | refine blk_drew ?_ | refine blk_alloc ?_ _)); exact BK246.out) hb); have n12_ := AZ (blk_below (g := gb247) (o := .cells #[.int .i64 a2_0, .slice A2_1 l2_1.length c2_1] 29 (0, 0)) (by (with_reducible repeat (first | refine blk_drewN ?_ _ | refine blk_drew ?_ | refine blk_alloc ?_ _)); refine blk_far ?_ NB247_291.out _; (with_reducible repeat (first | refine blk_drewN ?_ _ | refine blk_drew ?_ | refine blk_alloc ?_ _)); refine blk_far ?_ NB247_291.out _; (with_reducible repeat (first | refine blk_drewN ?_ _ | refine blk_drew ?_ | refine blk_alloc ?_ _)); refine blk_far ?_ NB247_291.out _; (with_reducible repeat (first | refine blk_drewN ?_ _ | refine blk_drew ?_ | refine blk_alloc ?_ _)); refine blk_far ?_ NB247_291.out _; (with_reducible repeat (first | refine blk_drewN ?_ _ | refine blk_drew ?_ | refine blk_alloc ?_ _)); refine blk_far ?_ NB247_291.out _; (with_reducible repeat (first | refine blk_drewN ?_ _ | refine blk_drew ?_ | refine blk_alloc ?_ _)); refine blk_far ?_ NB247_291.out _; (with_reducible repeat (first | refine blk_drewN ?_ _ | refine blk_drew ?_ | refine blk_alloc ?_ _)); refine blk_far ?_ NB247_291.out _; (with_reducible repeat (first | refine blk_drewN ?_ _ | refine blk_drew ?_ | refine blk_alloc ?_ _)); refine blk_far ?_ NB247_291.out _; (with_reducible repeat (first | refine blk_drewN ?_ _ | refine blk_drew ?_ | refine blk_alloc ?_ _)); exact BK247.out) hb); have n13_ := AZ (blk_below (g := gb291) (o := .cells #[.slice Ao73 t277.length co73, .slice Ao78 t280.length co78, .slice Ao79 t283.length co79, .int .i64 t286, .int .i64 t287, .int .i64 t288, .int .i64 t289, .int .i64 t290] 36 (0, 0)) (by (with_reducible repeat (first | refine blk_drewN ?_ _ | refine blk_drew ?_ | refine blk_alloc ?_ _)); refine blk_put (cs := #[.slice Ao73 t277.length co73, .slice Ao78 t280.length co78, .slice Ao79 t283.length co79, .int .i64 t286, .int .i64 t287, .int .i64 t288, .int .i64 t289, .int .i64 0]) ?_ 7 _ rfl; (with_reducible repeat (first | refine blk_drewN ?_ _ | refine blk_drew ?_ | refine blk_alloc ?_ _)); refine blk_put (cs := #[.slice Ao73 t277.length co73, .slice Ao78 t280.length co78, .slice Ao79 t283.length co79, .int .i64 t286, .int .i64 t287, .int .i64 t288, .int .i64 0, .int .i64 0]) ?_ 6 _ rfl; (with_reducible repeat (first | refine blk_drewN ?_ _ | refine blk_drew ?_ | refine blk_alloc ?_ _)); refine blk_put (cs := #[.slice Ao73 t277.length co73, .slice Ao78 t280.length co78, .slice Ao79 t283.length co79, .int .i64 t286, .int .i64 t287, .int .i64 0, .int .i64 0, .int .i64 0]) ?_ 5 _ rfl; (with_reducible repeat (first | refine blk_drewN ?_ _ | refine blk_drew ?_ | refine blk_alloc ?_ _)); refine blk_put (cs := #[.slice Ao73 t277.length co73, .slice Ao78 t280.length co78, .slice Ao79 t283.length co79, .int .i64 t286, .int .i64 0, .int .i64 0, .int .i64 0, .int .i64 0]) ?_ 4 _ rfl; (with_reducible repeat (first | refine blk_drewN ?_ _ | refine blk_drew ?_ | refine blk_alloc ?_ _)); refine blk_put (cs := #[.slice Ao73 t277.length co73, .slice Ao78 t280.length co78, .slice Ao79 t283.length co79, .int .i64 0, .int .i64 0, .int .i64 0, .int .i64 0, .int .i64 0]) ?_ 3 _ rfl; (with_reducible repeat (first | refine blk_drewN ?_ _ | refine blk_drew ?_ | refine blk_alloc ?_ _)); refine blk_put (cs := #[.slice Ao73 t277.length co73, .slice Ao78 t280.length co78, .slice none 0 0, .int .i64 0, .int .i64 0, .int .i64 0, .int .i64 0, .int .i64 0]) ?_ 2 _ rfl; (with_reducible repeat (first | refine blk_drewN ?_ _ | refine blk_drew ?_ | refine blk_alloc ?_ _)); refine blk_put (cs := #[.slice Ao73 t277.length co73, .slice none 0 0, .slice none 0 0, .int .i64 0, .int .i64 0, .int .i64 0, .int .i64 0, .int .i64 0]) ?_ 1 _ rfl; (with_reducible repeat (first | refine blk_drewN ?_ _ | refine blk_drew ?_ | refine blk_alloc ?_ _)); refine blk_put (cs := #[.slice none 0 0, .slice none 0 0, .slice none 0 0, .int .i64 0, .int .i64 0, .int .i64 0, .int .i64 0, .int .i64 0]) ?_ 0 _ rfl; (with_reducible repeat (first | refine blk_drewN ?_ _ | refine blk_drew ?_ | refine blk_alloc ?_ _)); exact BK291.out) hb); have n14_ := AZ (below_step (bS HB.out) hb); clear HO253; clear HO256; clear HO259; clear HO268; clear HO272; clear HO275; clear HO279; clear HO282; clear HO285; clear BK245; clear BK246; clear BK247; clear BK291; clear HB; have HO253 := n0_; have HO256 := n1_; have HO259 := n2_; have HO268 := n3_; have HO272 := n4_; have HO275 := n5_; have HO279 := n6_; have HO282 := n7_; have HO285 := n8_; have HO295 := n9_; have BK245 := n10_; have BK246 := n11_; have BK247 := n12_; have BK291 := n13_; have HB := n14_; clear n0_ n1_ n2_ n3_ n4_ n5_ n6_ n7_ n8_ n9_ n10_ n11_ n12_ n13_ n14_; (try clear hb ho0)) | ((with_reducible refine gate_dst (N := 11) rfl ?_); refine box_event ?hg (N := 11) ?hd (cs := #[.int .i64 0, .slice none 0 0]) (t := 38) ?hr ?_; (case hd => rfl); (case hg => rfl); (case hr => first | (go_simp; done) | (go_simp; rfl)); intro gb296 hg w82 hbox hb; have n0_ := AZ (Kd.S_below (sS HO253.out) hb); have n1_ := AZ (Kd.R_below (rS HO256.out) hb); have n2_ := AZ (Kd.R_below (rS HO259.out) hb); have n3_ := AZ (Kd.R_below (rS HO268.out) hb); have n4_ := AZ (Kd.R_below (rS HO272.out) hb); have n5_ := AZ (Kd.R_below (rS HO275.out) hb); have n6_ := AZ (Kd.S_below (sS HO279.out) hb); have n7_ := AZ (Kd.R_below (rS HO282.out) hb); have n8_ := AZ (Kd.R_below (rS HO285.out) hb); have n9_ := AZ (Kd.R_below (rS HO295.out) hb); have n10_ := blkA BK245 hb; have n11_ := blkA BK246 hb; have n12_ := blkA BK247 hb; have n13_ := blkA BK291 hb; have n14_ := AZ (below_step (bS HB.out) hb); have n15_ := AZ (hbox); have n16_ := AZ (geS hg HB.out); have n17_ := AZ (geS hg HB.out); have n18_ := AZ ((by rw [hg]; exact Nat.ne_of_lt (blkL BK245.out) : gb245 ≠ gb296)); have n19_ := AZ ((by rw [hg]; exact Nat.ne_of_gt (blkL BK245.out) : gb296 ≠ gb245)); have n20_ := AZ ((by rw [hg]; exact Nat.ne_of_lt (blkL BK246.out) : gb246 ≠ gb296)); have n21_ := AZ ((by rw [hg]; exact Nat.ne_of_gt (blkL BK246.out) : gb296 ≠ gb246)); have n22_ := AZ ((by rw [hg]; exact Nat.ne_of_lt (blkL BK247.out) : gb247 ≠ gb296)); have n23_ := AZ ((by rw [hg]; exact Nat.ne_of_gt (blkL BK247.out) : gb296 ≠ gb247)); have n24_ := AZ ((by rw [hg]; exact Nat.ne_of_lt (blkL BK291.out) : gb291 ≠ gb296)); have n25_ := AZ ((by rw [hg]; exact Nat.ne_of_gt (blkL BK291.out) : gb296 ≠ gb291)); clear HO253; clear HO256; clear HO259; clear HO268; clear HO272; clear HO275; clear HO279; clear HO282; clear HO285; clear HO295; clear BK245; clear BK246; clear BK247; clear BK291; clear HB; have HO253 := n0_; have HO256 := n1_; have HO259 := n2_; have HO268 := n3_; have HO272 := n4_; have HO275 := n5_; have HO279 := n6_; have HO282 := n7_; have HO285 := n8_; have HO295 := n9_; have BK245 := n10_; have BK246 := n11_; have BK247 := n12_; have BK291 := n13_; have HB := n14_; have BK296 := n15_; have GW296 := n16_; have GE296 := n17_; have NB245_296 := n18_; have NB296_245 := n19_; have NB246_296 := n20_; have NB296_246 := n21_; have NB247_296 := n22_; have NB296_247 := n23_; have NB291_296 := n24_; have NB296_291 := n25_; clear n0_ n1_ n2_ n3_ n4_ n5_ n6_ n7_ n8_ n9_ n10_ n11_ n12_ n13_ n14_ n15_ n16_ n17_ n18_ n19_ n20_ n21_ n22_ n23_ n24_ n25_; clear hb hbox hg; have hnb83 := NB296_245.out; have hnc83 := NB245_296.out; have hnb84 := NB296_246.out; have hnc84 := NB246_296.out; have hnb85 := NB296_247.out; have hnc85 := NB247_296.out; have hnb86 := NB296_291.out; have hnc86 := NB291_296.out; have hcz87_0 : w82.cell? ⟨gb296, 0, none⟩ = some (.int .i64 0) := (blk_cell BK296.out 0).trans rfl; have hcz87_1 : w82.cell? ⟨gb296, 1, none⟩ = some (.slice none 0 0) := (blk_cell BK296.out 1).trans rfl; have hfz87_0 := blk_frozen BK296.out 0; have hfz87_1 := blk_frozen BK296.out 1; obtain ⟨Ao88, co88, eo88⟩ := Kd.R_slice HO295.out; subst eo88; have hcz89_0 : w82.cell? ⟨gb247, 0, none⟩ = some (.int .i64 a2_0) := (blk_cell BK247.out 0).trans rfl; have hcz89_1 : w82.cell? ⟨gb247, 1, none⟩ = some (.slice A2_1 l2_1.length c2_1) := (blk_cell BK247.out 1).trans rfl; have hfz89_0 := blk_frozen BK247.out 0; have hfz89_1 := blk_frozen BK247.out 1) | ((with_reducible refine gate_callee (f := 18) rfl ?_); refine gL (some 50) Try.func18 #[.agg #[.int .i64 a2_0, .slice A2_1 l2_1.length c2_1]] ?_; (with_reducible refine (laws_toPlan.calls k a2_0 _ _ l2_1 t297 t298 _ ?side1 ?side2 A45.out).mono ?_); (case side1 => exact Kd.C_below HR2_1.out (bS HB.out)); (case side2 => exact HC2_1.out); rintro e w90 ⟨v299, rfl, ho0, hb⟩; refine ⟨_, rfl, ?_⟩; have n0_ := AZ (Kd.S_elder' (by (with_reducible repeat (first | apply Kd.S_alloc | apply Kd.S_drewN | apply Kd.S_drew)); exact (Kd.S_mono (Kd.S_far (Kd.S_far (Kd.S_types HO253.out BK296.out (by decide)) (fun _ hk => hk.2) _) (fun _ hk => hk.2) _) (fun _ h_ => h_.1))) (Kd.R_base ho0) hb); have n1_ := AZ (Kd.R_elder' (by (with_reducible repeat (first | apply Kd.R_alloc | apply Kd.R_drewN | apply Kd.R_drew)); exact (Kd.R_mono (Kd.R_far (Kd.R_far (Kd.R_types HO256.out BK296.out (by decide)) (fun _ hk => hk.2) _) (fun _ hk => hk.2) _) (fun _ h_ => h_.1))) (Kd.R_base ho0) hb); have n2_ := AZ (Kd.R_elder' (by (with_reducible repeat (first | apply Kd.R_alloc | apply Kd.R_drewN | apply Kd.R_drew)); exact (Kd.R_mono (Kd.R_far (Kd.R_far (Kd.R_types HO259.out BK296.out (by decide)) (fun _ hk => hk.2) _) (fun _ hk => hk.2) _) (fun _ h_ => h_.1))) (Kd.R_base ho0) hb); have n3_ := AZ (Kd.R_elder' (by (with_reducible repeat (first | apply Kd.R_alloc | apply Kd.R_drewN | apply Kd.R_drew)); exact (Kd.R_mono (Kd.R_far (Kd.R_far (Kd.R_types HO268.out BK296.out (by decide)) (fun _ hk => hk.2) _) (fun _ hk => hk.2) _) (fun _ h_ => h_.1))) (Kd.R_base ho0) hb); have n4_ := AZ (Kd.R_elder' (by (with_reducible repeat (first | apply Kd.R_alloc | apply Kd.R_drewN | apply Kd.R_drew)); exact (Kd.R_mono (Kd.R_far (Kd.R_far (Kd.R_types HO272.out BK296.out (by decide)) (fun _ hk => hk.2) _) (fun _ hk => hk.2) _) (fun _ h_ => h_.1))) (Kd.R_base ho0) hb); have n5_ := AZ (Kd.R_elder' (by (with_reducible repeat (first | apply Kd.R_alloc | apply Kd.R_drewN | apply Kd.R_drew)); exact (Kd.R_mono (Kd.R_far (Kd.R_far (Kd.R_types HO275.out BK296.out (by decide)) (fun _ hk => hk.2) _) (fun _ hk => hk.2) _) (fun _ h_ => h_.1))) (Kd.R_base ho0) hb); have n6_ := AZ (Kd.S_elder' (by (with_reducible repeat (first | apply Kd.S_alloc | apply Kd.S_drewN | apply Kd.S_drew)); exact (Kd.S_mono (Kd.S_far (Kd.S_far (Kd.S_types HO279.out BK296.out (by decide)) (fun _ hk => hk.2) _) (fun _ hk => hk.2) _) (fun _ h_ => h_.1))) (Kd.R_base ho0) hb); have n7_ := AZ (Kd.R_elder' (by (with_reducible repeat (first | apply Kd.R_alloc | apply Kd.R_drewN | apply Kd.R_drew)); exact (Kd.R_mono (Kd.R_far (Kd.R_far (Kd.R_types HO282.out BK296.out (by decide)) (fun _ hk => hk.2) _) (fun _ hk => hk.2) _) (fun _ h_ => h_.1))) (Kd.R_base ho0) hb); have n8_ := AZ (Kd.R_elder' (by (with_reducible repeat (first | apply Kd.R_alloc | apply Kd.R_drewN | apply Kd.R_drew)); exact (Kd.R_mono (Kd.R_far (Kd.R_far (Kd.R_types HO285.out BK296.out (by decide)) (fun _ hk => hk.2) _) (fun _ hk => hk.2) _) (fun _ h_ => h_.1))) (Kd.R_base ho0) hb); have n9_ := AZ (Kd.R_elder' (by (with_reducible repeat (first | apply Kd.R_alloc | apply Kd.R_drewN | apply Kd.R_drew)); exact (Kd.R_mono (Kd.R_far (Kd.R_far (Kd.R_types HO295.out BK296.out (by decide)) (fun _ hk => hk.2) _) (fun _ hk => hk.2) _) (fun _ h_ => h_.1))) (Kd.R_base ho0) hb); have n10_ := AZ (Kd.R_lower (Kd.R_new' (Kd.R_new' (Kd.R_new' (Kd.R_new' (Kd.R_new' (Kd.R_new' (Kd.R_new' (Kd.R_new' ho0 (Kd.R_lt (by (with_reducible repeat (first | apply Kd.R_alloc | apply Kd.R_drewN | apply Kd.R_drew)); exact (Kd.R_mono (Kd.R_far (Kd.R_far (Kd.R_types HO256.out BK296.out (by decide)) (fun _ hk => hk.2) _) (fun _ hk => hk.2) _) (fun _ h_ => h_.1))))) (Kd.R_lt (by (with_reducible repeat (first | apply Kd.R_alloc | apply Kd.R_drewN | apply Kd.R_drew)); exact (Kd.R_mono (Kd.R_far (Kd.R_far (Kd.R_types HO259.out BK296.out (by decide)) (fun _ hk => hk.2) _) (fun _ hk => hk.2) _) (fun _ h_ => h_.1))))) (Kd.R_lt (by (with_reducible repeat (first | apply Kd.R_alloc | apply Kd.R_drewN | apply Kd.R_drew)); exact (Kd.R_mono (Kd.R_far (Kd.R_far (Kd.R_types HO268.out BK296.out (by decide)) (fun _ hk => hk.2) _) (fun _ hk => hk.2) _) (fun _ h_ => h_.1))))) (Kd.R_lt (by (with_reducible repeat (first | apply Kd.R_alloc | apply Kd.R_drewN | apply Kd.R_drew)); exact (Kd.R_mono (Kd.R_far (Kd.R_far (Kd.R_types HO272.out BK296.out (by decide)) (fun _ hk => hk.2) _) (fun _ hk => hk.2) _) (fun _ h_ => h_.1))))) (Kd.R_lt (by (with_reducible repeat (first | apply Kd.R_alloc | apply Kd.R_drewN | apply Kd.R_drew)); exact (Kd.R_mono (Kd.R_far (Kd.R_far (Kd.R_types HO275.out BK296.out (by decide)) (fun _ hk => hk.2) _) (fun _ hk => hk.2) _) (fun _ h_ => h_.1))))) (Kd.R_lt (by (with_reducible repeat (first | apply Kd.R_alloc | apply Kd.R_drewN | apply Kd.R_drew)); exact (Kd.R_mono (Kd.R_far (Kd.R_far (Kd.R_types HO282.out BK296.out (by decide)) (fun _ hk => hk.2) _) (fun _ hk => hk.2) _) (fun _ h_ => h_.1))))) (Kd.R_lt (by (with_reducible repeat (first | apply Kd.R_alloc | apply Kd.R_drewN | apply Kd.R_drew)); exact (Kd.R_mono (Kd.R_far (Kd.R_far (Kd.R_types HO285.out BK296.out (by decide)) (fun _ hk => hk.2) _) (fun _ hk => hk.2) _) (fun _ h_ => h_.1))))) (Kd.R_lt (by (with_reducible repeat (first | apply Kd.R_alloc | apply Kd.R_drewN | apply Kd.R_drew)); exact (Kd.R_mono (Kd.R_far (Kd.R_far (Kd.R_types HO295.out BK296.out (by decide)) (fun _ hk => hk.2) _) (fun _ hk => hk.2) _) (fun _ h_ => h_.1))))) (below_size (bS HB.out))); have n11_ := AZ (blk_below (g := gb245) (o := .cells #[.slice A0_0 l0_0.length c0_0, .slice A0_1 l0_1.length c0_1, .slice A0_2 l0_2.length c0_2, .int .i64 a0_3, .int .i64 a0_4, .int .i64 a0_5, .int .i64 a0_6, .int .i64 a0_7] 27 (0, 0)) (by (with_reducible repeat (first | refine blk_drewN ?_ _ | refine blk_drew ?_ | refine blk_alloc ?_ _)); refine blk_far ?_ NB245_296.out _; (with_reducible repeat (first | refine blk_drewN ?_ _ | refine blk_drew ?_ | refine blk_alloc ?_ _)); refine blk_far ?_ NB245_296.out _; (with_reducible repeat (first | refine blk_drewN ?_ _ | refine blk_drew ?_ | refine blk_alloc ?_ _)); exact BK245.out) hb); have n12_ := AZ (blk_below (g := gb246) (o := .cells #[.int .i64 a1_0, .slice A1_1 l1_1.length c1_1] 29 (0, 0)) (by (with_reducible repeat (first | refine blk_drewN ?_ _ | refine blk_drew ?_ | refine blk_alloc ?_ _)); refine blk_far ?_ NB246_296.out _; (with_reducible repeat (first | refine blk_drewN ?_ _ | refine blk_drew ?_ | refine blk_alloc ?_ _)); refine blk_far ?_ NB246_296.out _; (with_reducible repeat (first | refine blk_drewN ?_ _ | refine blk_drew ?_ | refine blk_alloc ?_ _)); exact BK246.out) hb); have n13_ := AZ (blk_below (g := gb247) (o := .cells #[.int .i64 a2_0, .slice A2_1 l2_1.length c2_1] 29 (0, 0)) (by (with_reducible repeat (first | refine blk_drewN ?_ _ | refine blk_drew ?_ | refine blk_alloc ?_ _)); refine blk_far ?_ NB247_296.out _; (with_reducible repeat (first | refine blk_drewN ?_ _ | refine blk_drew ?_ | refine blk_alloc ?_ _)); refine blk_far ?_ NB247_296.out _; (with_reducible repeat (first | refine blk_drewN ?_ _ | refine blk_drew ?_ | refine blk_alloc ?_ _)); exact BK247.out) hb); have n14_ := AZ (blk_below (g := gb291) (o := .cells #[.slice Ao73 t277.length co73, .slice Ao78 t280.length co78, .slice Ao79 t283.length co79, .int .i64 t286, .int .i64 t287, .int .i64 t288, .int .i64 t289, .int .i64 t290] 36 (0, 0)) (by (with_reducible repeat (first | refine blk_drewN ?_ _ | refine blk_drew ?_ | refine blk_alloc ?_ _)); refine blk_far ?_ NB291_296.out _; (with_reducible repeat (first | refine blk_drewN ?_ _ | refine blk_drew ?_ | refine blk_alloc ?_ _)); refine blk_far ?_ NB291_296.out _; (with_reducible repeat (first | refine blk_drewN ?_ _ | refine blk_drew ?_ | refine blk_alloc ?_ _)); exact BK291.out) hb); have n15_ := AZ (blk_below (g := gb296) (o := .cells #[.int .i64 t292, .slice Ao88 t293.length co88] 38 (0, 0)) (by (with_reducible repeat (first | refine blk_drewN ?_ _ | refine blk_drew ?_ | refine blk_alloc ?_ _)); refine blk_put (cs := #[.int .i64 t292, .slice none 0 0]) ?_ 1 _ rfl; (with_reducible repeat (first | refine blk_drewN ?_ _ | refine blk_drew ?_ | refine blk_alloc ?_ _)); refine blk_put (cs := #[.int .i64 0, .slice none 0 0]) ?_ 0 _ rfl; (with_reducible repeat (first | refine blk_drewN ?_ _ | refine blk_drew ?_ | refine blk_alloc ?_ _)); exact BK296.out) hb); have n16_ := AZ (below_step (bS HB.out) hb); clear HO253; clear HO256; clear HO259; clear HO268; clear HO272; clear HO275; clear HO279; clear HO282; clear HO285; clear HO295; clear BK245; clear BK246; clear BK247; clear BK291; clear BK296; clear HB; have HO253 := n0_; have HO256 := n1_; have HO259 := n2_; have HO268 := n3_; have HO272 := n4_; have HO275 := n5_; have HO279 := n6_; have HO282 := n7_; have HO285 := n8_; have HO295 := n9_; have HO300 := n10_; have BK245 := n11_; have BK246 := n12_; have BK247 := n13_; have BK291 := n14_; have BK296 := n15_; have HB := n16_; clear n0_ n1_ n2_ n3_ n4_ n5_ n6_ n7_ n8_ n9_ n10_ n11_ n12_ n13_ n14_ n15_ n16_; (try clear hb ho0)) | ((with_reducible refine gate_dst (N := 12) rfl ?_); refine box_event ?hg (N := 12) ?hd (cs := #[.int .i64 0, .slice none 0 0]) (t := 38) ?hr ?_; (case hd => rfl); (case hg => rfl); (case hr => first | (go_simp; done) | (go_simp; rfl)); intro gb301 hg w91 hbox hb; have n0_ := AZ (Kd.S_below (sS HO253.out) hb); have n1_ := AZ (Kd.R_below (rS HO256.out) hb); have n2_ := AZ (Kd.R_below (rS HO259.out) hb); have n3_ := AZ (Kd.R_below (rS HO268.out) hb); have n4_ := AZ (Kd.R_below (rS HO272.out) hb); have n5_ := AZ (Kd.R_below (rS HO275.out) hb); have n6_ := AZ (Kd.S_below (sS HO279.out) hb); have n7_ := AZ (Kd.R_below (rS HO282.out) hb); have n8_ := AZ (Kd.R_below (rS HO285.out) hb); have n9_ := AZ (Kd.R_below (rS HO295.out) hb); have n10_ := AZ (Kd.R_below (rS HO300.out) hb); have n11_ := blkA BK245 hb; have n12_ := blkA BK246 hb; have n13_ := blkA BK247 hb; have n14_ := blkA BK291 hb; have n15_ := blkA BK296 hb; have n16_ := AZ (below_step (bS HB.out) hb); have n17_ := AZ (hbox); have n18_ := AZ (geS hg HB.out); have n19_ := AZ (geS hg HB.out); have n20_ := AZ ((by rw [hg]; exact Nat.ne_of_lt (blkL BK245.out) : gb245 ≠ gb301)); have n21_ := AZ ((by rw [hg]; exact Nat.ne_of_gt (blkL BK245.out) : gb301 ≠ gb245)); have n22_ := AZ ((by rw [hg]; exact Nat.ne_of_lt (blkL BK246.out) : gb246 ≠ gb301)); have n23_ := AZ ((by rw [hg]; exact Nat.ne_of_gt (blkL BK246.out) : gb301 ≠ gb246)); have n24_ := AZ ((by rw [hg]; exact Nat.ne_of_lt (blkL BK247.out) : gb247 ≠ gb301)); have n25_ := AZ ((by rw [hg]; exact Nat.ne_of_gt (blkL BK247.out) : gb301 ≠ gb247)); have n26_ := AZ ((by rw [hg]; exact Nat.ne_of_lt (blkL BK291.out) : gb291 ≠ gb301)); have n27_ := AZ ((by rw [hg]; exact Nat.ne_of_gt (blkL BK291.out) : gb301 ≠ gb291)); have n28_ := AZ ((by rw [hg]; exact Nat.ne_of_lt (blkL BK296.out) : gb296 ≠ gb301)); have n29_ := AZ ((by rw [hg]; exact Nat.ne_of_gt (blkL BK296.out) : gb301 ≠ gb296)); clear HO253; clear HO256; clear HO259; clear HO268; clear HO272; clear HO275; clear HO279; clear HO282; clear HO285; clear HO295; clear HO300; clear BK245; clear BK246; clear BK247; clear BK291; clear BK296; clear HB; have HO253 := n0_; have HO256 := n1_; have HO259 := n2_; have HO268 := n3_; have HO272 := n4_; have HO275 := n5_; have HO279 := n6_; have HO282 := n7_; have HO285 := n8_; have HO295 := n9_; have HO300 := n10_; have BK245 := n11_; have BK246 := n12_; have BK247 := n13_; have BK291 := n14_; have BK296 := n15_; have HB := n16_; have BK301 := n17_; have GW301 := n18_; have GE301 := n19_; have NB245_301 := n20_; have NB301_245 := n21_; have NB246_301 := n22_; have NB301_246 := n23_; have NB247_301 := n24_; have NB301_247 := n25_; have NB291_301 := n26_; have NB301_291 := n27_; have NB296_301 := n28_; have NB301_296 := n29_; clear n0_ n1_ n2_ n3_ n4_ n5_ n6_ n7_ n8_ n9_ n10_ n11_ n12_ n13_ n14_ n15_ n16_ n17_ n18_ n19_ n20_ n21_ n22_ n23_ n24_ n25_ n26_ n27_ n28_ n29_; clear hb hbox hg; have hnb92 := NB301_245.out; have hnc92 := NB245_301.out; have hnb93 := NB301_246.out; have hnc93 := NB246_301.out; have hnb94 := NB301_247.out; have hnc94 := NB247_301.out; have hnb95 := NB301_291.out; have hnc95 := NB291_301.out; have hnb96 := NB301_296.out; have hnc96 := NB296_301.out; have hcz97_0 : w91.cell? ⟨gb301, 0, none⟩ = some (.int .i64 0) := (blk_cell BK301.out 0).trans rfl; have hcz97_1 : w91.cell? ⟨gb301, 1, none⟩ = some (.slice none 0 0) := (blk_cell BK301.out 1).trans rfl; have hfz97_0 := blk_frozen BK301.out 0; have hfz97_1 := blk_frozen BK301.out 1; obtain ⟨Ao98, co98, eo98⟩ := Kd.R_slice HO300.out; subst eo98; have hcz99_0 : w91.cell? ⟨gb291, 0, none⟩ = some (.slice Ao73 t277.length co73) := (blk_cell BK291.out 0).trans rfl; have hcz99_1 : w91.cell? ⟨gb291, 1, none⟩ = some (.slice Ao78 t280.length co78) := (blk_cell BK291.out 1).trans rfl; have hcz99_2 : w91.cell? ⟨gb291, 2, none⟩ = some (.slice Ao79 t283.length co79) := (blk_cell BK291.out 2).trans rfl; have hcz99_3 : w91.cell? ⟨gb291, 3, none⟩ = some (.int .i64 t286) := (blk_cell BK291.out 3).trans rfl; have hcz99_4 : w91.cell? ⟨gb291, 4, none⟩ = some (.int .i64 t287) := (blk_cell BK291.out 4).trans rfl; have hcz99_5 : w91.cell? ⟨gb291, 5, none⟩ = some (.int .i64 t288) := (blk_cell BK291.out 5).trans rfl; have hcz99_6 : w91.cell? ⟨gb291, 6, none⟩ = some (.int .i64 t289) := (blk_cell BK291.out 6).trans rfl; have hcz99_7 : w91.cell? ⟨gb291, 7, none⟩ = some (.int .i64 t290) := (blk_cell BK291.out 7).trans rfl; have hfz99_0 := blk_frozen BK291.out 0; have hfz99_1 := blk_frozen BK291.out 1; have hfz99_2 := blk_frozen BK291.out 2; have hfz99_3 := blk_frozen BK291.out 3; have hfz99_4 := blk_frozen BK291.out 4; have hfz99_5 := blk_frozen BK291.out 5; have hfz99_6 := blk_frozen BK291.out 6; have hfz99_7 := blk_frozen BK291.out 7; have hcz100_0 : w91.cell? ⟨gb296, 0, none⟩ = some (.int .i64 t292) := (blk_cell BK296.out 0).trans rfl; have hcz100_1 : w91.cell? ⟨gb296, 1, none⟩ = some (.slice Ao88 t293.length co88) := (blk_cell BK296.out 1).trans rfl; have hfz100_0 := blk_frozen BK296.out 0; have hfz100_1 := blk_frozen BK296.out 1) | ((with_reducible refine gate_callee (f := 35) rfl ?_); refine gL (some 55) Try.func35 #[.agg #[.slice Ao73 t277.length co73, .slice Ao78 t280.length co78, .slice Ao79 t283.length co79, .int .i64 t286, .int .i64 t287, .int .i64 t288, .int .i64 t289, .int .i64 t290], .agg #[.int .i64 t292, .slice Ao88 t293.length co88], .agg #[.int .i64 t297, .slice Ao98 t298.length co98]] ?_; (with_reducible refine (impl_MovedBlocks.calls k _ _ t277 _ _ t280 _ _ t283 t286 t287 t288 t289 t290 t292 _ _ t293 t297 _ _ t298 t302 t305 _ ?side1 ?side2 ?side3 ?side4 ?side5 ?side6 ?side7 ?side8 ?side9 ?side10 A46.out).mono ?_); (case side1 => refine (Kd.S_reads' (e := 23) (base := w.heap.size) (ok := fun k_ => (((((((((some k_ ≠ (.slice Ao78 t280.length co78 : Value).ownBlock ∧ some k_ ≠ (.slice Ao79 t283.length co79 : Value).ownBlock) ∧ some k_ ≠ (.slice Ao64 t251.length co64 : Value).ownBlock) ∧ some k_ ≠ (.slice Ao65 t254.length co65 : Value).ownBlock) ∧ some k_ ≠ (.slice Ao66 t257.length co66 : Value).ownBlock) ∧ some k_ ≠ (.slice Ao67 t266.length co67 : Value).ownBlock) ∧ some k_ ≠ (.slice Ao68 t270.length co68 : Value).ownBlock) ∧ some k_ ≠ (v274 : Value).ownBlock) ∧ some k_ ≠ (.slice Ao88 t293.length co88 : Value).ownBlock) ∧ some k_ ≠ (.slice Ao98 t298.length co98 : Value).ownBlock)) (n := t277.length) (c := co73) ?_).2.2; exact (by (with_reducible repeat (first | apply Kd.S_alloc | apply Kd.S_drewN | apply Kd.S_drew)); exact (Kd.S_mono (Kd.S_far (Kd.S_far (Kd.S_types HO279.out BK301.out (by decide)) (fun _ hk => hk.2) _) (fun _ hk => hk.2) _) (fun _ h_ => h_.1)))); (case side2 => exact (Kd.S_reads' HO279.out).2.1); (case side3 => refine (Kd.R_reads' (e := 3) (base := w.heap.size) (ok := fun k_ => (((((((some k_ ≠ (.slice Ao79 t283.length co79 : Value).ownBlock ∧ some k_ ≠ (.slice Ao65 t254.length co65 : Value).ownBlock) ∧ some k_ ≠ (.slice Ao66 t257.length co66 : Value).ownBlock) ∧ some k_ ≠ (.slice Ao67 t266.length co67 : Value).ownBlock) ∧ some k_ ≠ (.slice Ao68 t270.length co68 : Value).ownBlock) ∧ some k_ ≠ (v274 : Value).ownBlock) ∧ some k_ ≠ (.slice Ao88 t293.length co88 : Value).ownBlock) ∧ some k_ ≠ (.slice Ao98 t298.length co98 : Value).ownBlock)) (n := t280.length) (c := co78) ?_).2.2; exact (by (with_reducible repeat (first | apply Kd.R_alloc | apply Kd.R_drewN | apply Kd.R_drew)); exact (Kd.R_mono (Kd.R_far (Kd.R_far (Kd.R_types HO282.out BK301.out (by decide)) (fun _ hk => hk.2) _) (fun _ hk => hk.2) _) (fun _ h_ => h_.1)))); (case side4 => exact (Kd.R_reads' HO282.out).2.1); (case side5 => refine (Kd.R_reads' (e := 3) (base := w.heap.size) (ok := fun k_ => (((((((some k_ ≠ (.slice Ao78 t280.length co78 : Value).ownBlock ∧ some k_ ≠ (.slice Ao65 t254.length co65 : Value).ownBlock) ∧ some k_ ≠ (.slice Ao66 t257.length co66 : Value).ownBlock) ∧ some k_ ≠ (.slice Ao67 t266.length co67 : Value).ownBlock) ∧ some k_ ≠ (.slice Ao68 t270.length co68 : Value).ownBlock) ∧ some k_ ≠ (v274 : Value).ownBlock) ∧ some k_ ≠ (.slice Ao88 t293.length co88 : Value).ownBlock) ∧ some k_ ≠ (.slice Ao98 t298.length co98 : Value).ownBlock)) (n := t283.length) (c := co79) ?_).2.2; exact (by (with_reducible repeat (first | apply Kd.R_alloc | apply Kd.R_drewN | apply Kd.R_drew)); exact (Kd.R_mono (Kd.R_far (Kd.R_far (Kd.R_types HO285.out BK301.out (by decide)) (fun _ hk => hk.2) _) (fun _ hk => hk.2) _) (fun _ h_ => h_.1)))); (case side6 => exact (Kd.R_reads' HO285.out).2.1); (case side7 => refine (Kd.R_reads' (e := 3) (base := w.heap.size) (ok := fun k_ => ((((((((True ∧ some k_ ≠ (.slice Ao65 t254.length co65 : Value).ownBlock) ∧ some k_ ≠ (.slice Ao66 t257.length co66 : Value).ownBlock) ∧ some k_ ≠ (.slice Ao67 t266.length co67 : Value).ownBlock) ∧ some k_ ≠ (.slice Ao68 t270.length co68 : Value).ownBlock) ∧ some k_ ≠ (v274 : Value).ownBlock) ∧ some k_ ≠ (.slice Ao78 t280.length co78 : Value).ownBlock) ∧ some k_ ≠ (.slice Ao79 t283.length co79 : Value).ownBlock) ∧ some k_ ≠ (.slice Ao98 t298.length co98 : Value).ownBlock)) (n := t293.length) (c := co88) ?_).2.2; exact (by (with_reducible repeat (first | apply Kd.R_alloc | apply Kd.R_drewN | apply Kd.R_drew)); exact (Kd.R_mono (Kd.R_far (Kd.R_far (Kd.R_types HO295.out BK301.out (by decide)) (fun _ hk => hk.2) _) (fun _ hk => hk.2) _) (fun _ h_ => h_.1)))); (case side8 => exact (Kd.R_reads' HO295.out).2.1); (case side9 => refine (Kd.R_reads' (e := 3) (base := w.heap.size) (ok := fun k_ => ((((((((True ∧ some k_ ≠ (.slice Ao65 t254.length co65 : Value).ownBlock) ∧ some k_ ≠ (.slice Ao66 t257.length co66 : Value).ownBlock) ∧ some k_ ≠ (.slice Ao67 t266.length co67 : Value).ownBlock) ∧ some k_ ≠ (.slice Ao68 t270.length co68 : Value).ownBlock) ∧ some k_ ≠ (v274 : Value).ownBlock) ∧ some k_ ≠ (.slice Ao78 t280.length co78 : Value).ownBlock) ∧ some k_ ≠ (.slice Ao79 t283.length co79 : Value).ownBlock) ∧ some k_ ≠ (.slice Ao88 t293.length co88 : Value).ownBlock)) (n := t298.length) (c := co98) ?_).2.2; exact (by (with_reducible repeat (first | apply Kd.R_alloc | apply Kd.R_drewN | apply Kd.R_drew)); exact (Kd.R_mono (Kd.R_far (Kd.R_far (Kd.R_types HO300.out BK301.out (by decide)) (fun _ hk => hk.2) _) (fun _ hk => hk.2) _) (fun _ h_ => h_.1)))); (case side10 => exact (Kd.R_reads' HO300.out).2.1); rintro e w101 ⟨v303, rfl, ho0, hb⟩; refine ⟨_, rfl, ?_⟩; have n0_ := AZ (Kd.S_elder' (by (with_reducible repeat (first | apply Kd.S_alloc | apply Kd.S_drewN | apply Kd.S_drew)); exact (Kd.S_mono (Kd.S_far (Kd.S_far (Kd.S_types HO253.out BK301.out (by decide)) (fun _ hk => hk.2) _) (fun _ hk => hk.2) _) (fun _ h_ => h_.1))) (Kd.R_base ho0) hb); have n1_ := AZ (Kd.R_elder' (by (with_reducible repeat (first | apply Kd.R_alloc | apply Kd.R_drewN | apply Kd.R_drew)); exact (Kd.R_mono (Kd.R_far (Kd.R_far (Kd.R_types HO256.out BK301.out (by decide)) (fun _ hk => hk.2) _) (fun _ hk => hk.2) _) (fun _ h_ => h_.1))) (Kd.R_base ho0) hb); have n2_ := AZ (Kd.R_elder' (by (with_reducible repeat (first | apply Kd.R_alloc | apply Kd.R_drewN | apply Kd.R_drew)); exact (Kd.R_mono (Kd.R_far (Kd.R_far (Kd.R_types HO259.out BK301.out (by decide)) (fun _ hk => hk.2) _) (fun _ hk => hk.2) _) (fun _ h_ => h_.1))) (Kd.R_base ho0) hb); have n3_ := AZ (Kd.R_elder' (by (with_reducible repeat (first | apply Kd.R_alloc | apply Kd.R_drewN | apply Kd.R_drew)); exact (Kd.R_mono (Kd.R_far (Kd.R_far (Kd.R_types HO268.out BK301.out (by decide)) (fun _ hk => hk.2) _) (fun _ hk => hk.2) _) (fun _ h_ => h_.1))) (Kd.R_base ho0) hb); have n4_ := AZ (Kd.R_elder' (by (with_reducible repeat (first | apply Kd.R_alloc | apply Kd.R_drewN | apply Kd.R_drew)); exact (Kd.R_mono (Kd.R_far (Kd.R_far (Kd.R_types HO272.out BK301.out (by decide)) (fun _ hk => hk.2) _) (fun _ hk => hk.2) _) (fun _ h_ => h_.1))) (Kd.R_base ho0) hb); have n5_ := AZ (Kd.R_elder' (by (with_reducible repeat (first | apply Kd.R_alloc | apply Kd.R_drewN | apply Kd.R_drew)); exact (Kd.R_mono (Kd.R_far (Kd.R_far (Kd.R_types HO275.out BK301.out (by decide)) (fun _ hk => hk.2) _) (fun _ hk => hk.2) _) (fun _ h_ => h_.1))) (Kd.R_base ho0) hb); have n6_ := AZ (Kd.S_elder' (by (with_reducible repeat (first | apply Kd.S_alloc | apply Kd.S_drewN | apply Kd.S_drew)); exact (Kd.S_mono (Kd.S_far (Kd.S_far (Kd.S_types HO279.out BK301.out (by decide)) (fun _ hk => hk.2) _) (fun _ hk => hk.2) _) (fun _ h_ => h_.1))) (Kd.R_base ho0) hb); have n7_ := AZ (Kd.R_elder' (by (with_reducible repeat (first | apply Kd.R_alloc | apply Kd.R_drewN | apply Kd.R_drew)); exact (Kd.R_mono (Kd.R_far (Kd.R_far (Kd.R_types HO282.out BK301.out (by decide)) (fun _ hk => hk.2) _) (fun _ hk => hk.2) _) (fun _ h_ => h_.1))) (Kd.R_base ho0) hb); have n8_ := AZ (Kd.R_elder' (by (with_reducible repeat (first | apply Kd.R_alloc | apply Kd.R_drewN | apply Kd.R_drew)); exact (Kd.R_mono (Kd.R_far (Kd.R_far (Kd.R_types HO285.out BK301.out (by decide)) (fun _ hk => hk.2) _) (fun _ hk => hk.2) _) (fun _ h_ => h_.1))) (Kd.R_base ho0) hb); have n9_ := AZ (Kd.R_elder' (by (with_reducible repeat (first | apply Kd.R_alloc | apply Kd.R_drewN | apply Kd.R_drew)); exact (Kd.R_mono (Kd.R_far (Kd.R_far (Kd.R_types HO295.out BK301.out (by decide)) (fun _ hk => hk.2) _) (fun _ hk => hk.2) _) (fun _ h_ => h_.1))) (Kd.R_base ho0) hb); have n10_ := AZ (Kd.R_elder' (by (with_reducible repeat (first | apply Kd.R_alloc | apply Kd.R_drewN | apply Kd.R_drew)); exact (Kd.R_mono (Kd.R_far (Kd.R_far (Kd.R_types HO300.out BK301.out (by decide)) (fun _ hk => hk.2) _) (fun _ hk => hk.2) _) (fun _ h_ => h_.1))) (Kd.R_base ho0) hb); have n11_ := AZ (Kd.R_lower (Kd.R_new' (Kd.R_new' (Kd.R_new' (Kd.R_new' (Kd.R_new' (Kd.R_new' (Kd.R_new' (Kd.R_new' (Kd.R_new' ho0 (Kd.R_lt (by (with_reducible repeat (first | apply Kd.R_alloc | apply Kd.R_drewN | apply Kd.R_drew)); exact (Kd.R_mono (Kd.R_far (Kd.R_far (Kd.R_types HO256.out BK301.out (by decide)) (fun _ hk => hk.2) _) (fun _ hk => hk.2) _) (fun _ h_ => h_.1))))) (Kd.R_lt (by (with_reducible repeat (first | apply Kd.R_alloc | apply Kd.R_drewN | apply Kd.R_drew)); exact (Kd.R_mono (Kd.R_far (Kd.R_far (Kd.R_types HO259.out BK301.out (by decide)) (fun _ hk => hk.2) _) (fun _ hk => hk.2) _) (fun _ h_ => h_.1))))) (Kd.R_lt (by (with_reducible repeat (first | apply Kd.R_alloc | apply Kd.R_drewN | apply Kd.R_drew)); exact (Kd.R_mono (Kd.R_far (Kd.R_far (Kd.R_types HO268.out BK301.out (by decide)) (fun _ hk => hk.2) _) (fun _ hk => hk.2) _) (fun _ h_ => h_.1))))) (Kd.R_lt (by (with_reducible repeat (first | apply Kd.R_alloc | apply Kd.R_drewN | apply Kd.R_drew)); exact (Kd.R_mono (Kd.R_far (Kd.R_far (Kd.R_types HO272.out BK301.out (by decide)) (fun _ hk => hk.2) _) (fun _ hk => hk.2) _) (fun _ h_ => h_.1))))) (Kd.R_lt (by (with_reducible repeat (first | apply Kd.R_alloc | apply Kd.R_drewN | apply Kd.R_drew)); exact (Kd.R_mono (Kd.R_far (Kd.R_far (Kd.R_types HO275.out BK301.out (by decide)) (fun _ hk => hk.2) _) (fun _ hk => hk.2) _) (fun _ h_ => h_.1))))) (Kd.R_lt (by (with_reducible repeat (first | apply Kd.R_alloc | apply Kd.R_drewN | apply Kd.R_drew)); exact (Kd.R_mono (Kd.R_far (Kd.R_far (Kd.R_types HO282.out BK301.out (by decide)) (fun _ hk => hk.2) _) (fun _ hk => hk.2) _) (fun _ h_ => h_.1))))) (Kd.R_lt (by (with_reducible repeat (first | apply Kd.R_alloc | apply Kd.R_drewN | apply Kd.R_drew)); exact (Kd.R_mono (Kd.R_far (Kd.R_far (Kd.R_types HO285.out BK301.out (by decide)) (fun _ hk => hk.2) _) (fun _ hk => hk.2) _) (fun _ h_ => h_.1))))) (Kd.R_lt (by (with_reducible repeat (first | apply Kd.R_alloc | apply Kd.R_drewN | apply Kd.R_drew)); exact (Kd.R_mono (Kd.R_far (Kd.R_far (Kd.R_types HO295.out BK301.out (by decide)) (fun _ hk => hk.2) _) (fun _ hk => hk.2) _) (fun _ h_ => h_.1))))) (Kd.R_lt (by (with_reducible repeat (first | apply Kd.R_alloc | apply Kd.R_drewN | apply Kd.R_drew)); exact (Kd.R_mono (Kd.R_far (Kd.R_far (Kd.R_types HO300.out BK301.out (by decide)) (fun _ hk => hk.2) _) (fun _ hk => hk.2) _) (fun _ h_ => h_.1))))) (below_size (bS HB.out))); have n12_ := AZ (blk_below (g := gb245) (o := .cells #[.slice A0_0 l0_0.length c0_0, .slice A0_1 l0_1.length c0_1, .slice A0_2 l0_2.length c0_2, .int .i64 a0_3, .int .i64 a0_4, .int .i64 a0_5, .int .i64 a0_6, .int .i64 a0_7] 27 (0, 0)) (by (with_reducible repeat (first | refine blk_drewN ?_ _ | refine blk_drew ?_ | refine blk_alloc ?_ _)); refine blk_far ?_ NB245_301.out _; (with_reducible repeat (first | refine blk_drewN ?_ _ | refine blk_drew ?_ | refine blk_alloc ?_ _)); refine blk_far ?_ NB245_301.out _; (with_reducible repeat (first | refine blk_drewN ?_ _ | refine blk_drew ?_ | refine blk_alloc ?_ _)); exact BK245.out) hb); have n13_ := AZ (blk_below (g := gb246) (o := .cells #[.int .i64 a1_0, .slice A1_1 l1_1.length c1_1] 29 (0, 0)) (by (with_reducible repeat (first | refine blk_drewN ?_ _ | refine blk_drew ?_ | refine blk_alloc ?_ _)); refine blk_far ?_ NB246_301.out _; (with_reducible repeat (first | refine blk_drewN ?_ _ | refine blk_drew ?_ | refine blk_alloc ?_ _)); refine blk_far ?_ NB246_301.out _; (with_reducible repeat (first | refine blk_drewN ?_ _ | refine blk_drew ?_ | refine blk_alloc ?_ _)); exact BK246.out) hb); have n14_ := AZ (blk_below (g := gb247) (o := .cells #[.int .i64 a2_0, .slice A2_1 l2_1.length c2_1] 29 (0, 0)) (by (with_reducible repeat (first | refine blk_drewN ?_ _ | refine blk_drew ?_ | refine blk_alloc ?_ _)); refine blk_far ?_ NB247_301.out _; (with_reducible repeat (first | refine blk_drewN ?_ _ | refine blk_drew ?_ | refine blk_alloc ?_ _)); refine blk_far ?_ NB247_301.out _; (with_reducible repeat (first | refine blk_drewN ?_ _ | refine blk_drew ?_ | refine blk_alloc ?_ _)); exact BK247.out) hb); have n15_ := AZ (blk_below (g := gb291) (o := .cells #[.slice Ao73 t277.length co73, .slice Ao78 t280.length co78, .slice Ao79 t283.length co79, .int .i64 t286, .int .i64 t287, .int .i64 t288, .int .i64 t289, .int .i64 t290] 36 (0, 0)) (by (with_reducible repeat (first | refine blk_drewN ?_ _ | refine blk_drew ?_ | refine blk_alloc ?_ _)); refine blk_far ?_ NB291_301.out _; (with_reducible repeat (first | refine blk_drewN ?_ _ | refine blk_drew ?_ | refine blk_alloc ?_ _)); refine blk_far ?_ NB291_301.out _; (with_reducible repeat (first | refine blk_drewN ?_ _ | refine blk_drew ?_ | refine blk_alloc ?_ _)); exact BK291.out) hb); have n16_ := AZ (blk_below (g := gb296) (o := .cells #[.int .i64 t292, .slice Ao88 t293.length co88] 38 (0, 0)) (by (with_reducible repeat (first | refine blk_drewN ?_ _ | refine blk_drew ?_ | refine blk_alloc ?_ _)); refine blk_far ?_ NB296_301.out _; (with_reducible repeat (first | refine blk_drewN ?_ _ | refine blk_drew ?_ | refine blk_alloc ?_ _)); refine blk_far ?_ NB296_301.out _; (with_reducible repeat (first | refine blk_drewN ?_ _ | refine blk_drew ?_ | refine blk_alloc ?_ _)); exact BK296.out) hb); have n17_ := AZ (blk_below (g := gb301) (o := .cells #[.int .i64 t297, .slice Ao98 t298.length co98] 38 (0, 0)) (by (with_reducible repeat (first | refine blk_drewN ?_ _ | refine blk_drew ?_ | refine blk_alloc ?_ _)); refine blk_put (cs := #[.int .i64 t297, .slice none 0 0]) ?_ 1 _ rfl; (with_reducible repeat (first | refine blk_drewN ?_ _ | refine blk_drew ?_ | refine blk_alloc ?_ _)); refine blk_put (cs := #[.int .i64 0, .slice none 0 0]) ?_ 0 _ rfl; (with_reducible repeat (first | refine blk_drewN ?_ _ | refine blk_drew ?_ | refine blk_alloc ?_ _)); exact BK301.out) hb); have n18_ := AZ (below_step (bS HB.out) hb); clear HO253; clear HO256; clear HO259; clear HO268; clear HO272; clear HO275; clear HO279; clear HO282; clear HO285; clear HO295; clear HO300; clear BK245; clear BK246; clear BK247; clear BK291; clear BK296; clear BK301; clear HB; have HO253 := n0_; have HO256 := n1_; have HO259 := n2_; have HO268 := n3_; have HO272 := n4_; have HO275 := n5_; have HO279 := n6_; have HO282 := n7_; have HO285 := n8_; have HO295 := n9_; have HO300 := n10_; have HO304 := n11_; have BK245 := n12_; have BK246 := n13_; have BK247 := n14_; have BK291 := n15_; have BK296 := n16_; have BK301 := n17_; have HB := n18_; clear n0_ n1_ n2_ n3_ n4_ n5_ n6_ n7_ n8_ n9_ n10_ n11_ n12_ n13_ n14_ n15_ n16_ n17_ n18_; (try clear hb ho0)))
        (try simp only [Act.put, List.setIfInBounds_toArray, List.set_cons_zero, List.set_cons_succ])
        go_cut [66] (fun v66 wc => ∃ (kq : Nat) (x66_46 : Bool), v66 = .bool x66_46 ∧ Aside0 (laws_FnExactMovedBlocks.j0 kq t273 t276 t302 t305 x66_46 l0_0 l0_1 l0_2 a0_3 a0_4 a0_5 a0_6 a0_7 a1_0 l1_1 a2_0 l2_1 t277 t280 t283 t286 t287 t288 t289 t290 t292 t293 t297 t298 = some r) ∧ Aside0 (kq ≤ k) ∧ Aside0 (Kd.R (Kd.int .i64) 3 wc w.heap.size (fun k_ => some k_ ≠ (v303 : Value).ownBlock ∧ some k_ ≠ ((.slice Ao78 t280.length co78) : Value).ownBlock ∧ some k_ ≠ ((.slice Ao79 t283.length co79) : Value).ownBlock ∧ some k_ ≠ ((.slice Ao88 t293.length co88) : Value).ownBlock ∧ some k_ ≠ ((.slice Ao98 t298.length co98) : Value).ownBlock) v274 t273) ∧ Aside0 (Kd.R (Kd.int .i64) 3 wc w.heap.size (fun k_ => some k_ ≠ (v274 : Value).ownBlock ∧ some k_ ≠ ((.slice Ao78 t280.length co78) : Value).ownBlock ∧ some k_ ≠ ((.slice Ao79 t283.length co79) : Value).ownBlock ∧ some k_ ≠ ((.slice Ao88 t293.length co88) : Value).ownBlock ∧ some k_ ≠ ((.slice Ao98 t298.length co98) : Value).ownBlock) v303 t302) ∧ Aside0 (Kd.S (Kd.slice 3 (Kd.int .i64)) 23 wc w.heap.size (fun k_ => some k_ ≠ (v274 : Value).ownBlock ∧ some k_ ≠ (v303 : Value).ownBlock ∧ some k_ ≠ ((.slice Ao78 t280.length co78) : Value).ownBlock ∧ some k_ ≠ ((.slice Ao79 t283.length co79) : Value).ownBlock ∧ some k_ ≠ ((.slice Ao88 t293.length co88) : Value).ownBlock ∧ some k_ ≠ ((.slice Ao98 t298.length co98) : Value).ownBlock) (.slice Ao73 t277.length co73) t277) ∧ Aside0 (Kd.R (Kd.int .i64) 3 wc w.heap.size (fun k_ => some k_ ≠ (v274 : Value).ownBlock ∧ some k_ ≠ (v303 : Value).ownBlock ∧ some k_ ≠ ((.slice Ao79 t283.length co79) : Value).ownBlock ∧ some k_ ≠ ((.slice Ao88 t293.length co88) : Value).ownBlock ∧ some k_ ≠ ((.slice Ao98 t298.length co98) : Value).ownBlock) (.slice Ao78 t280.length co78) t280) ∧ Aside0 (Kd.R (Kd.int .i64) 3 wc w.heap.size (fun k_ => some k_ ≠ (v274 : Value).ownBlock ∧ some k_ ≠ (v303 : Value).ownBlock ∧ some k_ ≠ ((.slice Ao78 t280.length co78) : Value).ownBlock ∧ some k_ ≠ ((.slice Ao88 t293.length co88) : Value).ownBlock ∧ some k_ ≠ ((.slice Ao98 t298.length co98) : Value).ownBlock) (.slice Ao79 t283.length co79) t283) ∧ Aside0 (Kd.R (Kd.int .i64) 3 wc w.heap.size (fun k_ => some k_ ≠ (v274 : Value).ownBlock ∧ some k_ ≠ (v303 : Value).ownBlock ∧ some k_ ≠ ((.slice Ao78 t280.length co78) : Value).ownBlock ∧ some k_ ≠ ((.slice Ao79 t283.length co79) : Value).ownBlock ∧ some k_ ≠ ((.slice Ao98 t298.length co98) : Value).ownBlock) (.slice Ao88 t293.length co88) t293) ∧ Aside0 (Kd.R (Kd.int .i64) 3 wc w.heap.size (fun k_ => some k_ ≠ (v274 : Value).ownBlock ∧ some k_ ≠ (v303 : Value).ownBlock ∧ some k_ ≠ ((.slice Ao78 t280.length co78) : Value).ownBlock ∧ some k_ ≠ ((.slice Ao79 t283.length co79) : Value).ownBlock ∧ some k_ ≠ ((.slice Ao88 t293.length co88) : Value).ownBlock) (.slice Ao98 t298.length co98) t298) ∧ Aside0 (wc.heap[gb245]? = some (.cells #[(.slice A0_0 l0_0.length c0_0), (.slice A0_1 l0_1.length c0_1), (.slice A0_2 l0_2.length c0_2), .int .i64 a0_3, .int .i64 a0_4, .int .i64 a0_5, .int .i64 a0_6, .int .i64 a0_7] 27 (0, 0))) ∧ Aside0 (wc.heap[gb246]? = some (.cells #[.int .i64 a1_0, (.slice A1_1 l1_1.length c1_1)] 29 (0, 0))) ∧ Aside0 (wc.heap[gb247]? = some (.cells #[.int .i64 a2_0, (.slice A2_1 l2_1.length c2_1)] 29 (0, 0))) ∧ Aside0 (wc.heap[gb291]? = some (.cells #[(.slice Ao73 t277.length co73), (.slice Ao78 t280.length co78), (.slice Ao79 t283.length co79), .int .i64 t286, .int .i64 t287, .int .i64 t288, .int .i64 t289, .int .i64 t290] 36 (0, 0))) ∧ Aside0 (wc.heap[gb296]? = some (.cells #[.int .i64 t292, (.slice Ao88 t293.length co88)] 38 (0, 0))) ∧ Aside0 (wc.heap[gb301]? = some (.cells #[.int .i64 t297, (.slice Ao98 t298.length co98)] 38 (0, 0))) ∧ Aside0 (Below w.heap.size w wc))
        case first =>
          have H := HC47.out
          clear HC47
          replace H := Option.bind_eq_some_iff.mp H
          obtain ⟨t306, A1020, H⟩ := H
          replace H : (if t306 = true then (laws_FnExactMovedBlocks.j0 k t273 t276 t302 t305 (t305 != t276) l0_0 l0_1 l0_2 a0_3 a0_4 a0_5 a0_6 a0_7 a1_0 l1_1 a2_0 l2_1 t277 t280 t283 t286 t287 t288 t289 t290 t292 t293 t297 t298) else (laws_FnExactMovedBlocks.j0 k t273 t276 t302 t305 true l0_0 l0_1 l0_2 a0_3 a0_4 a0_5 a0_6 a0_7 a1_0 l1_1 a2_0 l2_1 t277 t280 t283 t286 t287 t288 t289 t290 t292 t293 t297 t298)) = some r := H
          have A102 := Aside0.mk A1020
          clear A1020
          by_cases c103 : t306 = true
          · subst c103
            have H1 : (laws_FnExactMovedBlocks.j0 k t273 t276 t302 t305 (t305 != t276) l0_0 l0_1 l0_2 a0_3 a0_4 a0_5 a0_6 a0_7 a1_0 l1_1 a2_0 l2_1 t277 t280 t283 t286 t287 t288 t289 t290 t292 t293 t297 t298) = some r := by rw [if_pos rfl] at H; exact H
            clear H
            have H := H1
            clear H1
            have H' := Aside0.mk H
            clear H
            obtain ⟨Ao104, co104, eo104⟩ := Kd.R_slice HO304.out
            subst eo104
            obtain ⟨Ao105, co105, eo105⟩ := Kd.R_slice HO275.out
            subst eo105
            go_wp2_with (first | ((with_reducible refine gate_callee (f := 36) rfl ?_); refine gL (some 60) Try.func36 #[.slice Ao104 t302.length co104, .slice Ao105 t273.length co105] ?_; (with_reducible refine (laws_eqIntS.calls k _ _ t302 _ _ t273 true _ ?side1 ?side2 ?side3 ?side4 A102.out).mono ?_); (case side1 => exact cS (Kd.R_reads' HO304.out).2.2); (case side2 => exact (Kd.R_reads' HO304.out).2.1); (case side3 => exact cS (Kd.R_reads' HO275.out).2.2); (case side4 => exact (Kd.R_reads' HO275.out).2.1); rintro e w' ⟨rfl, ⟨nd, rfl⟩⟩; refine ⟨_, rfl, ?_⟩))
            go_meet
            case rel => exact ⟨_, ((t305 != t276)), (by first | rfl | (simp; done) | (simp [*]; done)), H', ⟨by first | omega | exact Nat.le_refl _⟩, ⟨rS (Kd.R_mono HO275.out (fun _ hk => ⟨hk.2, ⟨hk.1.1.1.1.2, ⟨hk.1.1.1.2, ⟨hk.1.1.2, hk.1.2⟩⟩⟩⟩))⟩, ⟨rS (Kd.R_mono HO304.out (fun _ hk => ⟨hk.1.1.1.1.2, ⟨hk.1.1.1.2, ⟨hk.1.1.2, ⟨hk.1.2, hk.2⟩⟩⟩⟩))⟩, ⟨sS (Kd.S_mono HO279.out (fun _ hk => ⟨hk.1.1.1.2, ⟨hk.2, ⟨hk.1.1.1.1.1.1.1.1.1.1, ⟨hk.1.1.1.1.1.1.1.1.1.2, ⟨hk.1.1.2, hk.1.2⟩⟩⟩⟩⟩))⟩, ⟨rS (Kd.R_mono HO282.out (fun _ hk => ⟨hk.1.1.1.2, ⟨hk.2, ⟨hk.1.1.1.1.1.1.1.1, ⟨hk.1.1.2, hk.1.2⟩⟩⟩⟩))⟩, ⟨rS (Kd.R_mono HO285.out (fun _ hk => ⟨hk.1.1.1.2, ⟨hk.2, ⟨hk.1.1.1.1.1.1.1.1, ⟨hk.1.1.2, hk.1.2⟩⟩⟩⟩))⟩, ⟨rS (Kd.R_mono HO295.out (fun _ hk => ⟨hk.1.1.1.1.2, ⟨hk.2, ⟨hk.1.1.1.2, ⟨hk.1.1.2, hk.1.2⟩⟩⟩⟩))⟩, ⟨rS (Kd.R_mono HO300.out (fun _ hk => ⟨hk.1.1.1.1.2, ⟨hk.2, ⟨hk.1.1.1.2, ⟨hk.1.1.2, hk.1.2⟩⟩⟩⟩))⟩, ⟨blkS BK245.out⟩, ⟨blkS BK246.out⟩, ⟨blkS BK247.out⟩, ⟨blkS BK291.out⟩, ⟨blkS BK296.out⟩, ⟨blkS BK301.out⟩, ⟨bS HB.out⟩⟩
          · replace c103 := Bool.eq_false_iff.mpr c103
            subst c103
            have H1 : (laws_FnExactMovedBlocks.j0 k t273 t276 t302 t305 true l0_0 l0_1 l0_2 a0_3 a0_4 a0_5 a0_6 a0_7 a1_0 l1_1 a2_0 l2_1 t277 t280 t283 t286 t287 t288 t289 t290 t292 t293 t297 t298) = some r := by rw [if_neg (show ¬ (false = true) by decide)] at H; exact H
            clear H
            have H := H1
            clear H1
            have H' := Aside0.mk H
            clear H
            obtain ⟨Ao106, co106, eo106⟩ := Kd.R_slice HO304.out
            subst eo106
            obtain ⟨Ao107, co107, eo107⟩ := Kd.R_slice HO275.out
            subst eo107
            go_wp2_with (first | ((with_reducible refine gate_callee (f := 36) rfl ?_); refine gL (some 60) Try.func36 #[.slice Ao106 t302.length co106, .slice Ao107 t273.length co107] ?_; (with_reducible refine (laws_eqIntS.calls k _ _ t302 _ _ t273 false _ ?side1 ?side2 ?side3 ?side4 A102.out).mono ?_); (case side1 => exact cS (Kd.R_reads' HO304.out).2.2); (case side2 => exact (Kd.R_reads' HO304.out).2.1); (case side3 => exact cS (Kd.R_reads' HO275.out).2.2); (case side4 => exact (Kd.R_reads' HO275.out).2.1); rintro e w' ⟨rfl, ⟨nd, rfl⟩⟩; refine ⟨_, rfl, ?_⟩))
            go_meet
            case rel => exact ⟨_, (true), (by first | rfl | (simp; done) | (simp [*]; done)), H', ⟨by first | omega | exact Nat.le_refl _⟩, ⟨rS (Kd.R_mono HO275.out (fun _ hk => ⟨hk.2, ⟨hk.1.1.1.1.2, ⟨hk.1.1.1.2, ⟨hk.1.1.2, hk.1.2⟩⟩⟩⟩))⟩, ⟨rS (Kd.R_mono HO304.out (fun _ hk => ⟨hk.1.1.1.1.2, ⟨hk.1.1.1.2, ⟨hk.1.1.2, ⟨hk.1.2, hk.2⟩⟩⟩⟩))⟩, ⟨sS (Kd.S_mono HO279.out (fun _ hk => ⟨hk.1.1.1.2, ⟨hk.2, ⟨hk.1.1.1.1.1.1.1.1.1.1, ⟨hk.1.1.1.1.1.1.1.1.1.2, ⟨hk.1.1.2, hk.1.2⟩⟩⟩⟩⟩))⟩, ⟨rS (Kd.R_mono HO282.out (fun _ hk => ⟨hk.1.1.1.2, ⟨hk.2, ⟨hk.1.1.1.1.1.1.1.1, ⟨hk.1.1.2, hk.1.2⟩⟩⟩⟩))⟩, ⟨rS (Kd.R_mono HO285.out (fun _ hk => ⟨hk.1.1.1.2, ⟨hk.2, ⟨hk.1.1.1.1.1.1.1.1, ⟨hk.1.1.2, hk.1.2⟩⟩⟩⟩))⟩, ⟨rS (Kd.R_mono HO295.out (fun _ hk => ⟨hk.1.1.1.1.2, ⟨hk.2, ⟨hk.1.1.1.2, ⟨hk.1.1.2, hk.1.2⟩⟩⟩⟩))⟩, ⟨rS (Kd.R_mono HO300.out (fun _ hk => ⟨hk.1.1.1.1.2, ⟨hk.2, ⟨hk.1.1.1.2, ⟨hk.1.1.2, hk.1.2⟩⟩⟩⟩))⟩, ⟨blkS BK245.out⟩, ⟨blkS BK246.out⟩, ⟨blkS BK247.out⟩, ⟨blkS BK291.out⟩, ⟨blkS BK296.out⟩, ⟨blkS BK301.out⟩, ⟨bS HB.out⟩⟩
        case rest =>
          clear HC47
          try clear c1
          try clear c2
          try clear p2
          try clear c3
          try clear c5
          try clear c5b0
          try clear c6
          try clear c7
          try clear c8
          try clear c9
          try clear c10
          try clear c14
          try clear c14b0
          try clear c15
          try clear c17
          try clear c18
          try clear c19
          try clear c22
          try clear c26
          try clear c26b0
          try clear c30
          try clear c31
          try clear c34
          try clear c35
          try clear c36
          try clear c51
          try clear c52
          try clear c55
          try clear c74
          try clear c75
          try clear c76
          try clear c83
          try clear c84
          try clear c85
          try clear c86
          try clear c92
          try clear c93
          try clear c94
          try clear c95
          try clear c96
          try clear c103
          try clear hcz100_0
          try clear hcz100_1
          try clear hcz11_0
          try clear hcz11_1
          try clear hcz11_2
          try clear hcz11_3
          try clear hcz11_4
          try clear hcz11_5
          try clear hcz11_6
          try clear hcz11_7
          try clear hcz20_0
          try clear hcz20_1
          try clear hcz20_2
          try clear hcz20_3
          try clear hcz20_4
          try clear hcz20_5
          try clear hcz20_6
          try clear hcz20_7
          try clear hcz23_0
          try clear hcz23_1
          try clear hcz32_0
          try clear hcz32_1
          try clear hcz32_2
          try clear hcz32_3
          try clear hcz32_4
          try clear hcz32_5
          try clear hcz32_6
          try clear hcz32_7
          try clear hcz35_0
          try clear hcz35_1
          try clear hcz37_0
          try clear hcz37_1
          try clear hcz53_0
          try clear hcz53_1
          try clear hcz53_2
          try clear hcz53_3
          try clear hcz53_4
          try clear hcz53_5
          try clear hcz53_6
          try clear hcz53_7
          try clear hcz56_0
          try clear hcz56_1
          try clear hcz58_0
          try clear hcz58_1
          try clear hcz70_0
          try clear hcz70_1
          try clear hcz70_2
          try clear hcz70_3
          try clear hcz70_4
          try clear hcz70_5
          try clear hcz70_6
          try clear hcz70_7
          try clear hcz77_0
          try clear hcz77_1
          try clear hcz77_2
          try clear hcz77_3
          try clear hcz77_4
          try clear hcz77_5
          try clear hcz77_6
          try clear hcz77_7
          try clear hcz80_0
          try clear hcz80_1
          try clear hcz87_0
          try clear hcz87_1
          try clear hcz89_0
          try clear hcz89_1
          try clear hcz97_0
          try clear hcz97_1
          try clear hcz99_0
          try clear hcz99_1
          try clear hcz99_2
          try clear hcz99_3
          try clear hcz99_4
          try clear hcz99_5
          try clear hcz99_6
          try clear hcz99_7
          try clear hfz100_0
          try clear hfz100_1
          try clear hfz11_0
          try clear hfz11_1
          try clear hfz11_2
          try clear hfz11_3
          try clear hfz11_4
          try clear hfz11_5
          try clear hfz11_6
          try clear hfz11_7
          try clear hfz20_0
          try clear hfz20_1
          try clear hfz20_2
          try clear hfz20_3
          try clear hfz20_4
          try clear hfz20_5
          try clear hfz20_6
          try clear hfz20_7
          try clear hfz23_0
          try clear hfz23_1
          try clear hfz32_0
          try clear hfz32_1
          try clear hfz32_2
          try clear hfz32_3
          try clear hfz32_4
          try clear hfz32_5
          try clear hfz32_6
          try clear hfz32_7
          try clear hfz35_0
          try clear hfz35_1
          try clear hfz37_0
          try clear hfz37_1
          try clear hfz53_0
          try clear hfz53_1
          try clear hfz53_2
          try clear hfz53_3
          try clear hfz53_4
          try clear hfz53_5
          try clear hfz53_6
          try clear hfz53_7
          try clear hfz56_0
          try clear hfz56_1
          try clear hfz58_0
          try clear hfz58_1
          try clear hfz70_0
          try clear hfz70_1
          try clear hfz70_2
          try clear hfz70_3
          try clear hfz70_4
          try clear hfz70_5
          try clear hfz70_6
          try clear hfz70_7
          try clear hfz77_0
          try clear hfz77_1
          try clear hfz77_2
          try clear hfz77_3
          try clear hfz77_4
          try clear hfz77_5
          try clear hfz77_6
          try clear hfz77_7
          try clear hfz80_0
          try clear hfz80_1
          try clear hfz87_0
          try clear hfz87_1
          try clear hfz89_0
          try clear hfz89_1
          try clear hfz97_0
          try clear hfz97_1
          try clear hfz99_0
          try clear hfz99_1
          try clear hfz99_2
          try clear hfz99_3
          try clear hfz99_4
          try clear hfz99_5
          try clear hfz99_6
          try clear hfz99_7
          obtain ⟨kq, x66_46, rfl, HA, HJ46, HO_8, HO_13, HO_292000, HO_292001, HO_292002, HO_297001, HO_302001, BK245, BK246, BK247, BK291, BK296, BK301, HB⟩ := hcut
          cases kq with
          | zero => exact absurd HA.out (by simp [laws_FnExactMovedBlocks.j0])
          | succ kj46 =>
            have H := HA.out
            clear HA
            simp only [laws_FnExactMovedBlocks.j0] at H
            by_cases c108 : x66_46 = true
            · subst c108
              have H1 : (none) = some r := by rw [if_pos rfl] at H; exact H
              clear H
              have H := H1
              clear H1
              exact absurd H (by simp)
            · replace c108 := Bool.eq_false_iff.mpr c108
              subst c108
              have H1 : ((laws_toJob.f kj46 l0_0 l0_1 l0_2 a0_3 a0_4 a0_5 a0_6 a0_7).bind fun bt307 => ((laws_eqJob.f kj46 t277 t280 t283 t286 t287 t288 t289 t290 bt307.1 bt307.2.1 bt307.2.2.1 bt307.2.2.2.1 bt307.2.2.2.2.1 bt307.2.2.2.2.2.1 bt307.2.2.2.2.2.2.1 bt307.2.2.2.2.2.2.2).bind fun t321 => (if t321 = true then ((laws_toPlan.f kj46 a1_0 l1_1).bind fun bt322 => ((laws_eqPlan.f kj46 t292 t293 bt322.1 bt322.2).bind fun t326 => (if t326 = true then ((laws_toPlan.f kj46 a2_0 l2_1).bind fun bt327 => ((laws_eqPlan.f kj46 t297 t298 bt327.1 bt327.2).bind fun t331 => (if t331 = true then ((laws_markJob.f kj46 t277 t280 t283 t286 t287 t288 t289 t290 1).bind fun t332 => ((laws_markPlan.f kj46 t292 t293 t332).bind fun bt333 => ((laws_markPlan.f kj46 t297 t298 bt333.1).bind fun bt335 => (if bt335.1 < 0 then (laws_FnExactMovedBlocks.j1 kj46 t273 t276 t302 true l0_0 l0_1 l0_2 a0_3 a0_4 a0_5 a0_6 a0_7 a1_0 l1_1 a2_0 l2_1) else ((laws_eqIntS.f kj46 t302 t273).bind fun t337 => (if t337 = true then (laws_FnExactMovedBlocks.j1 kj46 t273 t276 t302 (t305 != t276) l0_0 l0_1 l0_2 a0_3 a0_4 a0_5 a0_6 a0_7 a1_0 l1_1 a2_0 l2_1) else (laws_FnExactMovedBlocks.j1 kj46 t273 t276 t302 true l0_0 l0_1 l0_2 a0_3 a0_4 a0_5 a0_6 a0_7 a1_0 l1_1 a2_0 l2_1))))))) else (none)))) else (none)))) else (none)))) = some r := by rw [if_neg (show ¬ (false = true) by decide)] at H; exact H
              clear H
              have H := H1
              clear H1
              replace H := Option.bind_eq_some_iff.mp H
              obtain ⟨⟨t307, t310, t313, t316, t317, t318, t319, t320⟩, A1090, H⟩ := H
              replace H : ((laws_eqJob.f kj46 t277 t280 t283 t286 t287 t288 t289 t290 t307 t310 t313 t316 t317 t318 t319 t320).bind fun t321 => (if t321 = true then ((laws_toPlan.f kj46 a1_0 l1_1).bind fun bt322 => ((laws_eqPlan.f kj46 t292 t293 bt322.1 bt322.2).bind fun t326 => (if t326 = true then ((laws_toPlan.f kj46 a2_0 l2_1).bind fun bt327 => ((laws_eqPlan.f kj46 t297 t298 bt327.1 bt327.2).bind fun t331 => (if t331 = true then ((laws_markJob.f kj46 t277 t280 t283 t286 t287 t288 t289 t290 1).bind fun t332 => ((laws_markPlan.f kj46 t292 t293 t332).bind fun bt333 => ((laws_markPlan.f kj46 t297 t298 bt333.1).bind fun bt335 => (if bt335.1 < 0 then (laws_FnExactMovedBlocks.j1 kj46 t273 t276 t302 true l0_0 l0_1 l0_2 a0_3 a0_4 a0_5 a0_6 a0_7 a1_0 l1_1 a2_0 l2_1) else ((laws_eqIntS.f kj46 t302 t273).bind fun t337 => (if t337 = true then (laws_FnExactMovedBlocks.j1 kj46 t273 t276 t302 (t305 != t276) l0_0 l0_1 l0_2 a0_3 a0_4 a0_5 a0_6 a0_7 a1_0 l1_1 a2_0 l2_1) else (laws_FnExactMovedBlocks.j1 kj46 t273 t276 t302 true l0_0 l0_1 l0_2 a0_3 a0_4 a0_5 a0_6 a0_7 a1_0 l1_1 a2_0 l2_1))))))) else (none)))) else (none)))) else (none))) = some r := H
              have A109 := Aside0.mk A1090
              clear A1090
              replace H := Option.bind_eq_some_iff.mp H
              obtain ⟨t321, A1100, H⟩ := H
              replace H : (if t321 = true then ((laws_toPlan.f kj46 a1_0 l1_1).bind fun bt322 => ((laws_eqPlan.f kj46 t292 t293 bt322.1 bt322.2).bind fun t326 => (if t326 = true then ((laws_toPlan.f kj46 a2_0 l2_1).bind fun bt327 => ((laws_eqPlan.f kj46 t297 t298 bt327.1 bt327.2).bind fun t331 => (if t331 = true then ((laws_markJob.f kj46 t277 t280 t283 t286 t287 t288 t289 t290 1).bind fun t332 => ((laws_markPlan.f kj46 t292 t293 t332).bind fun bt333 => ((laws_markPlan.f kj46 t297 t298 bt333.1).bind fun bt335 => (if bt335.1 < 0 then (laws_FnExactMovedBlocks.j1 kj46 t273 t276 t302 true l0_0 l0_1 l0_2 a0_3 a0_4 a0_5 a0_6 a0_7 a1_0 l1_1 a2_0 l2_1) else ((laws_eqIntS.f kj46 t302 t273).bind fun t337 => (if t337 = true then (laws_FnExactMovedBlocks.j1 kj46 t273 t276 t302 (t305 != t276) l0_0 l0_1 l0_2 a0_3 a0_4 a0_5 a0_6 a0_7 a1_0 l1_1 a2_0 l2_1) else (laws_FnExactMovedBlocks.j1 kj46 t273 t276 t302 true l0_0 l0_1 l0_2 a0_3 a0_4 a0_5 a0_6 a0_7 a1_0 l1_1 a2_0 l2_1))))))) else (none)))) else (none)))) else (none)) = some r := H
              have A110 := Aside0.mk A1100
              clear A1100
              by_cases c111 : t321 = true
              · subst c111
                have H1 : ((laws_toPlan.f kj46 a1_0 l1_1).bind fun bt322 => ((laws_eqPlan.f kj46 t292 t293 bt322.1 bt322.2).bind fun t326 => (if t326 = true then ((laws_toPlan.f kj46 a2_0 l2_1).bind fun bt327 => ((laws_eqPlan.f kj46 t297 t298 bt327.1 bt327.2).bind fun t331 => (if t331 = true then ((laws_markJob.f kj46 t277 t280 t283 t286 t287 t288 t289 t290 1).bind fun t332 => ((laws_markPlan.f kj46 t292 t293 t332).bind fun bt333 => ((laws_markPlan.f kj46 t297 t298 bt333.1).bind fun bt335 => (if bt335.1 < 0 then (laws_FnExactMovedBlocks.j1 kj46 t273 t276 t302 true l0_0 l0_1 l0_2 a0_3 a0_4 a0_5 a0_6 a0_7 a1_0 l1_1 a2_0 l2_1) else ((laws_eqIntS.f kj46 t302 t273).bind fun t337 => (if t337 = true then (laws_FnExactMovedBlocks.j1 kj46 t273 t276 t302 (t305 != t276) l0_0 l0_1 l0_2 a0_3 a0_4 a0_5 a0_6 a0_7 a1_0 l1_1 a2_0 l2_1) else (laws_FnExactMovedBlocks.j1 kj46 t273 t276 t302 true l0_0 l0_1 l0_2 a0_3 a0_4 a0_5 a0_6 a0_7 a1_0 l1_1 a2_0 l2_1))))))) else (none)))) else (none)))) = some r := by rw [if_pos rfl] at H; exact H
                clear H
                have H := H1
                clear H1
                replace H := Option.bind_eq_some_iff.mp H
                obtain ⟨⟨t322, t323⟩, A1120, H⟩ := H
                replace H : ((laws_eqPlan.f kj46 t292 t293 t322 t323).bind fun t326 => (if t326 = true then ((laws_toPlan.f kj46 a2_0 l2_1).bind fun bt327 => ((laws_eqPlan.f kj46 t297 t298 bt327.1 bt327.2).bind fun t331 => (if t331 = true then ((laws_markJob.f kj46 t277 t280 t283 t286 t287 t288 t289 t290 1).bind fun t332 => ((laws_markPlan.f kj46 t292 t293 t332).bind fun bt333 => ((laws_markPlan.f kj46 t297 t298 bt333.1).bind fun bt335 => (if bt335.1 < 0 then (laws_FnExactMovedBlocks.j1 kj46 t273 t276 t302 true l0_0 l0_1 l0_2 a0_3 a0_4 a0_5 a0_6 a0_7 a1_0 l1_1 a2_0 l2_1) else ((laws_eqIntS.f kj46 t302 t273).bind fun t337 => (if t337 = true then (laws_FnExactMovedBlocks.j1 kj46 t273 t276 t302 (t305 != t276) l0_0 l0_1 l0_2 a0_3 a0_4 a0_5 a0_6 a0_7 a1_0 l1_1 a2_0 l2_1) else (laws_FnExactMovedBlocks.j1 kj46 t273 t276 t302 true l0_0 l0_1 l0_2 a0_3 a0_4 a0_5 a0_6 a0_7 a1_0 l1_1 a2_0 l2_1))))))) else (none)))) else (none))) = some r := H
                have A112 := Aside0.mk A1120
                clear A1120
                replace H := Option.bind_eq_some_iff.mp H
                obtain ⟨t326, A1130, H⟩ := H
                replace H : (if t326 = true then ((laws_toPlan.f kj46 a2_0 l2_1).bind fun bt327 => ((laws_eqPlan.f kj46 t297 t298 bt327.1 bt327.2).bind fun t331 => (if t331 = true then ((laws_markJob.f kj46 t277 t280 t283 t286 t287 t288 t289 t290 1).bind fun t332 => ((laws_markPlan.f kj46 t292 t293 t332).bind fun bt333 => ((laws_markPlan.f kj46 t297 t298 bt333.1).bind fun bt335 => (if bt335.1 < 0 then (laws_FnExactMovedBlocks.j1 kj46 t273 t276 t302 true l0_0 l0_1 l0_2 a0_3 a0_4 a0_5 a0_6 a0_7 a1_0 l1_1 a2_0 l2_1) else ((laws_eqIntS.f kj46 t302 t273).bind fun t337 => (if t337 = true then (laws_FnExactMovedBlocks.j1 kj46 t273 t276 t302 (t305 != t276) l0_0 l0_1 l0_2 a0_3 a0_4 a0_5 a0_6 a0_7 a1_0 l1_1 a2_0 l2_1) else (laws_FnExactMovedBlocks.j1 kj46 t273 t276 t302 true l0_0 l0_1 l0_2 a0_3 a0_4 a0_5 a0_6 a0_7 a1_0 l1_1 a2_0 l2_1))))))) else (none)))) else (none)) = some r := H
                have A113 := Aside0.mk A1130
                clear A1130
                by_cases c114 : t326 = true
                · subst c114
                  have H1 : ((laws_toPlan.f kj46 a2_0 l2_1).bind fun bt327 => ((laws_eqPlan.f kj46 t297 t298 bt327.1 bt327.2).bind fun t331 => (if t331 = true then ((laws_markJob.f kj46 t277 t280 t283 t286 t287 t288 t289 t290 1).bind fun t332 => ((laws_markPlan.f kj46 t292 t293 t332).bind fun bt333 => ((laws_markPlan.f kj46 t297 t298 bt333.1).bind fun bt335 => (if bt335.1 < 0 then (laws_FnExactMovedBlocks.j1 kj46 t273 t276 t302 true l0_0 l0_1 l0_2 a0_3 a0_4 a0_5 a0_6 a0_7 a1_0 l1_1 a2_0 l2_1) else ((laws_eqIntS.f kj46 t302 t273).bind fun t337 => (if t337 = true then (laws_FnExactMovedBlocks.j1 kj46 t273 t276 t302 (t305 != t276) l0_0 l0_1 l0_2 a0_3 a0_4 a0_5 a0_6 a0_7 a1_0 l1_1 a2_0 l2_1) else (laws_FnExactMovedBlocks.j1 kj46 t273 t276 t302 true l0_0 l0_1 l0_2 a0_3 a0_4 a0_5 a0_6 a0_7 a1_0 l1_1 a2_0 l2_1))))))) else (none)))) = some r := by rw [if_pos rfl] at H; exact H
                  clear H
                  have H := H1
                  clear H1
                  replace H := Option.bind_eq_some_iff.mp H
                  obtain ⟨⟨t327, t328⟩, A1150, H⟩ := H
                  replace H : ((laws_eqPlan.f kj46 t297 t298 t327 t328).bind fun t331 => (if t331 = true then ((laws_markJob.f kj46 t277 t280 t283 t286 t287 t288 t289 t290 1).bind fun t332 => ((laws_markPlan.f kj46 t292 t293 t332).bind fun bt333 => ((laws_markPlan.f kj46 t297 t298 bt333.1).bind fun bt335 => (if bt335.1 < 0 then (laws_FnExactMovedBlocks.j1 kj46 t273 t276 t302 true l0_0 l0_1 l0_2 a0_3 a0_4 a0_5 a0_6 a0_7 a1_0 l1_1 a2_0 l2_1) else ((laws_eqIntS.f kj46 t302 t273).bind fun t337 => (if t337 = true then (laws_FnExactMovedBlocks.j1 kj46 t273 t276 t302 (t305 != t276) l0_0 l0_1 l0_2 a0_3 a0_4 a0_5 a0_6 a0_7 a1_0 l1_1 a2_0 l2_1) else (laws_FnExactMovedBlocks.j1 kj46 t273 t276 t302 true l0_0 l0_1 l0_2 a0_3 a0_4 a0_5 a0_6 a0_7 a1_0 l1_1 a2_0 l2_1))))))) else (none))) = some r := H
                  have A115 := Aside0.mk A1150
                  clear A1150
                  replace H := Option.bind_eq_some_iff.mp H
                  obtain ⟨t331, A1160, H⟩ := H
                  replace H : (if t331 = true then ((laws_markJob.f kj46 t277 t280 t283 t286 t287 t288 t289 t290 1).bind fun t332 => ((laws_markPlan.f kj46 t292 t293 t332).bind fun bt333 => ((laws_markPlan.f kj46 t297 t298 bt333.1).bind fun bt335 => (if bt335.1 < 0 then (laws_FnExactMovedBlocks.j1 kj46 t273 t276 t302 true l0_0 l0_1 l0_2 a0_3 a0_4 a0_5 a0_6 a0_7 a1_0 l1_1 a2_0 l2_1) else ((laws_eqIntS.f kj46 t302 t273).bind fun t337 => (if t337 = true then (laws_FnExactMovedBlocks.j1 kj46 t273 t276 t302 (t305 != t276) l0_0 l0_1 l0_2 a0_3 a0_4 a0_5 a0_6 a0_7 a1_0 l1_1 a2_0 l2_1) else (laws_FnExactMovedBlocks.j1 kj46 t273 t276 t302 true l0_0 l0_1 l0_2 a0_3 a0_4 a0_5 a0_6 a0_7 a1_0 l1_1 a2_0 l2_1))))))) else (none)) = some r := H
                  have A116 := Aside0.mk A1160
                  clear A1160
                  by_cases c117 : t331 = true
                  · subst c117
                    have H1 : ((laws_markJob.f kj46 t277 t280 t283 t286 t287 t288 t289 t290 1).bind fun t332 => ((laws_markPlan.f kj46 t292 t293 t332).bind fun bt333 => ((laws_markPlan.f kj46 t297 t298 bt333.1).bind fun bt335 => (if bt335.1 < 0 then (laws_FnExactMovedBlocks.j1 kj46 t273 t276 t302 true l0_0 l0_1 l0_2 a0_3 a0_4 a0_5 a0_6 a0_7 a1_0 l1_1 a2_0 l2_1) else ((laws_eqIntS.f kj46 t302 t273).bind fun t337 => (if t337 = true then (laws_FnExactMovedBlocks.j1 kj46 t273 t276 t302 (t305 != t276) l0_0 l0_1 l0_2 a0_3 a0_4 a0_5 a0_6 a0_7 a1_0 l1_1 a2_0 l2_1) else (laws_FnExactMovedBlocks.j1 kj46 t273 t276 t302 true l0_0 l0_1 l0_2 a0_3 a0_4 a0_5 a0_6 a0_7 a1_0 l1_1 a2_0 l2_1))))))) = some r := by rw [if_pos rfl] at H; exact H
                    clear H
                    have H := H1
                    clear H1
                    replace H := Option.bind_eq_some_iff.mp H
                    obtain ⟨t332, A1180, H⟩ := H
                    replace H : ((laws_markPlan.f kj46 t292 t293 t332).bind fun bt333 => ((laws_markPlan.f kj46 t297 t298 bt333.1).bind fun bt335 => (if bt335.1 < 0 then (laws_FnExactMovedBlocks.j1 kj46 t273 t276 t302 true l0_0 l0_1 l0_2 a0_3 a0_4 a0_5 a0_6 a0_7 a1_0 l1_1 a2_0 l2_1) else ((laws_eqIntS.f kj46 t302 t273).bind fun t337 => (if t337 = true then (laws_FnExactMovedBlocks.j1 kj46 t273 t276 t302 (t305 != t276) l0_0 l0_1 l0_2 a0_3 a0_4 a0_5 a0_6 a0_7 a1_0 l1_1 a2_0 l2_1) else (laws_FnExactMovedBlocks.j1 kj46 t273 t276 t302 true l0_0 l0_1 l0_2 a0_3 a0_4 a0_5 a0_6 a0_7 a1_0 l1_1 a2_0 l2_1)))))) = some r := H
                    have A118 := Aside0.mk A1180
                    clear A1180
                    replace H := Option.bind_eq_some_iff.mp H
                    obtain ⟨⟨t333, t334⟩, A1190, H⟩ := H
                    replace H : ((laws_markPlan.f kj46 t297 t298 t333).bind fun bt335 => (if bt335.1 < 0 then (laws_FnExactMovedBlocks.j1 kj46 t273 t276 t302 true l0_0 l0_1 l0_2 a0_3 a0_4 a0_5 a0_6 a0_7 a1_0 l1_1 a2_0 l2_1) else ((laws_eqIntS.f kj46 t302 t273).bind fun t337 => (if t337 = true then (laws_FnExactMovedBlocks.j1 kj46 t273 t276 t302 (t305 != t276) l0_0 l0_1 l0_2 a0_3 a0_4 a0_5 a0_6 a0_7 a1_0 l1_1 a2_0 l2_1) else (laws_FnExactMovedBlocks.j1 kj46 t273 t276 t302 true l0_0 l0_1 l0_2 a0_3 a0_4 a0_5 a0_6 a0_7 a1_0 l1_1 a2_0 l2_1))))) = some r := H
                    have A119 := Aside0.mk A1190
                    clear A1190
                    replace H := Option.bind_eq_some_iff.mp H
                    obtain ⟨⟨t335, t336⟩, A1200, H⟩ := H
                    replace H : (if t335 < 0 then (laws_FnExactMovedBlocks.j1 kj46 t273 t276 t302 true l0_0 l0_1 l0_2 a0_3 a0_4 a0_5 a0_6 a0_7 a1_0 l1_1 a2_0 l2_1) else ((laws_eqIntS.f kj46 t302 t273).bind fun t337 => (if t337 = true then (laws_FnExactMovedBlocks.j1 kj46 t273 t276 t302 (t305 != t276) l0_0 l0_1 l0_2 a0_3 a0_4 a0_5 a0_6 a0_7 a1_0 l1_1 a2_0 l2_1) else (laws_FnExactMovedBlocks.j1 kj46 t273 t276 t302 true l0_0 l0_1 l0_2 a0_3 a0_4 a0_5 a0_6 a0_7 a1_0 l1_1 a2_0 l2_1)))) = some r := H
                    have A120 := Aside0.mk A1200
                    clear A1200
                    have HC121 := Aside0.mk H
                    clear H
                    try go_wp2
                    have n0_ := AZ (Kd.R_drew HO_8.out)
                    have n1_ := AZ (Kd.R_drew HO_13.out)
                    have n2_ := AZ (Kd.S_drew HO_292000.out)
                    have n3_ := AZ (Kd.R_drew HO_292001.out)
                    have n4_ := AZ (Kd.R_drew HO_292002.out)
                    have n5_ := AZ (Kd.R_drew HO_297001.out)
                    have n6_ := AZ (Kd.R_drew HO_302001.out)
                    have n7_ := AZ (blk_drew BK245.out)
                    have n8_ := AZ (blk_drew BK246.out)
                    have n9_ := AZ (blk_drew BK247.out)
                    have n10_ := AZ (blk_drew BK291.out)
                    have n11_ := AZ (blk_drew BK296.out)
                    have n12_ := AZ (blk_drew BK301.out)
                    have n13_ := AZ (below_drew1 HB.out)
                    clear HO_8
                    clear HO_13
                    clear HO_292000
                    clear HO_292001
                    clear HO_292002
                    clear HO_297001
                    clear HO_302001
                    clear BK245
                    clear BK246
                    clear BK247
                    clear BK291
                    clear BK296
                    clear BK301
                    clear HB
                    have HO_8 := n0_
                    have HO_13 := n1_
                    have HO_292000 := n2_
                    have HO_292001 := n3_
                    have HO_292002 := n4_
                    have HO_297001 := n5_
                    have HO_302001 := n6_
                    have BK245 := n7_
                    have BK246 := n8_
                    have BK247 := n9_
                    have BK291 := n10_
                    have BK296 := n11_
                    have BK301 := n12_
                    have HB := n13_
                    clear n0_ n1_ n2_ n3_ n4_ n5_ n6_ n7_ n8_ n9_ n10_ n11_ n12_ n13_
                    refine start_ (n := 5) (S := fun w' => w'.cell? ⟨gb291, 0, none⟩ = some (.slice Ao73 t277.length co73) ∧ w'.cell? ⟨gb291, 1, none⟩ = some (.slice Ao78 t280.length co78) ∧ w'.cell? ⟨gb291, 2, none⟩ = some (.slice Ao79 t283.length co79) ∧ w'.cell? ⟨gb291, 3, none⟩ = some (.int .i64 t286) ∧ w'.cell? ⟨gb291, 4, none⟩ = some (.int .i64 t287) ∧ w'.cell? ⟨gb291, 5, none⟩ = some (.int .i64 t288) ∧ w'.cell? ⟨gb291, 6, none⟩ = some (.int .i64 t289) ∧ w'.cell? ⟨gb291, 7, none⟩ = some (.int .i64 t290) ∧ w'.cell? ⟨gb245, 0, none⟩ = some (.slice A0_0 l0_0.length c0_0) ∧ w'.cell? ⟨gb245, 1, none⟩ = some (.slice A0_1 l0_1.length c0_1) ∧ w'.cell? ⟨gb245, 2, none⟩ = some (.slice A0_2 l0_2.length c0_2) ∧ w'.cell? ⟨gb245, 3, none⟩ = some (.int .i64 a0_3) ∧ w'.cell? ⟨gb245, 4, none⟩ = some (.int .i64 a0_4) ∧ w'.cell? ⟨gb245, 5, none⟩ = some (.int .i64 a0_5) ∧ w'.cell? ⟨gb245, 6, none⟩ = some (.int .i64 a0_6) ∧ w'.cell? ⟨gb245, 7, none⟩ = some (.int .i64 a0_7)) (ds := []) #[false, false, false, false, false] (by kernel_rfl) rfl rfl ⟨(blk_cell BK291.out 0).trans rfl, (blk_cell BK291.out 1).trans rfl, (blk_cell BK291.out 2).trans rfl, (blk_cell BK291.out 3).trans rfl, (blk_cell BK291.out 4).trans rfl, (blk_cell BK291.out 5).trans rfl, (blk_cell BK291.out 6).trans rfl, (blk_cell BK291.out 7).trans rfl, (blk_cell BK245.out 0).trans rfl, (blk_cell BK245.out 1).trans rfl, (blk_cell BK245.out 2).trans rfl, (blk_cell BK245.out 3).trans rfl, (blk_cell BK245.out 4).trans rfl, (blk_cell BK245.out 5).trans rfl, (blk_cell BK245.out 6).trans rfl, (blk_cell BK245.out 7).trans rfl⟩ (fun hHeld => ?_)
                    generalize wc.drew = w122 at HO_8 HO_13 HO_292000 HO_292001 HO_292002 HO_297001 HO_302001 BK245 BK246 BK247 BK291 BK296 BK301 HB hHeld ⊢
                    refine take_ (i := 0) (N := some 67) (v := ?_) (a' := ?_) #[true, false, false, false, false] rfl rfl (by kernel_rfl) (fun _ _ _ h => h) (Or.inl ⟨by rfl, ?_⟩) hHeld ?_ ?_
                    rotate_left
                    · rintro w' ⟨s0, s1, s2, s3, s4, s5, s6, s7, s8, s9, s10, s11, s12, s13, s14, s15⟩
                      go_simp
                      with_reducible rfl
                    rotate_left
                    · simp only [Act.put, List.setIfInBounds_toArray, List.set_cons_zero, List.set_cons_succ, i64_w, i32_w]
                      rfl
                    refine take_ (i := 1) (N := some 68) (v := ?_) (a' := ?_) #[true, true, false, false, false] rfl rfl (by kernel_rfl) (fun _ _ _ h => h) (Or.inl ⟨by rfl, ?_⟩) hHeld ?_ ?_
                    rotate_left
                    · rintro w' ⟨s0, s1, s2, s3, s4, s5, s6, s7, s8, s9, s10, s11, s12, s13, s14, s15⟩
                      go_simp
                      with_reducible rfl
                    rotate_left
                    · simp only [Act.put, List.setIfInBounds_toArray, List.set_cons_zero, List.set_cons_succ, i64_w, i32_w]
                      rfl
                    refine one_ (i := 2) (N := some 69) #[true, true, true, false, false] rfl rfl (by kernel_rfl) (by decide) (fun K hK => ?_)
                    refine goes_ Try.func17 (by kernel_rfl) rfl #[.agg #[.slice A0_0 l0_0.length c0_0, .slice A0_1 l0_1.length c0_1, .slice A0_2 l0_2.length c0_2, .int .i64 a0_3, .int .i64 a0_4, .int .i64 a0_5, .int .i64 a0_6, .int .i64 a0_7]] (by rfl) rfl rfl (by (try simp only [List.map_toArray, List.map_cons, List.map_nil]); first | done | rfl | (simp only [List.length_drop, List.length_take]; rfl)) ?_
                    with_reducible refine (laws_toJob.calls kj46 _ _ l0_0 _ _ l0_1 _ _ l0_2 a0_3 a0_4 a0_5 a0_6 a0_7 t307 t310 t313 t316 t317 t318 t319 t320 _ ?side1 ?side2 ?side3 ?side4 ?side5 ?side6 A109.out).mono ?_
                    (case side1 => exact cS (Kd.C_below HR0_0.out HB.out))
                    (case side2 => exact HC0_0.out)
                    (case side3 => exact cS (Kd.C_below HR0_1.out HB.out))
                    (case side4 => exact HC0_1.out)
                    (case side5 => exact cS (Kd.C_below HR0_2.out HB.out))
                    (case side6 => exact HC0_2.out)
                    rintro e w123 ⟨v308, v311, v314, rfl, ho0, ho1, ho2, hb⟩
                    refine ⟨_, rfl, ?_⟩
                    have n0_ := AZ (Kd.R_mono (Kd.R_told (Kd.R_told (Kd.R_old (rS HO_8.out) hb) (Kd.R_base ho1)) (Kd.R_base ho2)) (fun _ h_ => h_.1))
                    have n1_ := AZ (Kd.R_mono (Kd.R_told (Kd.R_told (Kd.R_old (rS HO_13.out) hb) (Kd.R_base ho1)) (Kd.R_base ho2)) (fun _ h_ => h_.1))
                    have n2_ := AZ (Kd.S_mono (Kd.S_told (Kd.S_told (Kd.S_told (Kd.S_old (sS HO_292000.out) hb) (Kd.S_base ho0)) (Kd.R_base ho1)) (Kd.R_base ho2)) (fun _ h_ => h_.1))
                    have n3_ := AZ (Kd.R_mono (Kd.R_told (Kd.R_told (Kd.R_old (rS HO_292001.out) hb) (Kd.R_base ho1)) (Kd.R_base ho2)) (fun _ h_ => h_.1))
                    have n4_ := AZ (Kd.R_mono (Kd.R_told (Kd.R_told (Kd.R_old (rS HO_292002.out) hb) (Kd.R_base ho1)) (Kd.R_base ho2)) (fun _ h_ => h_.1))
                    have n5_ := AZ (Kd.R_mono (Kd.R_told (Kd.R_told (Kd.R_old (rS HO_297001.out) hb) (Kd.R_base ho1)) (Kd.R_base ho2)) (fun _ h_ => h_.1))
                    have n6_ := AZ (Kd.R_mono (Kd.R_told (Kd.R_told (Kd.R_old (rS HO_302001.out) hb) (Kd.R_base ho1)) (Kd.R_base ho2)) (fun _ h_ => h_.1))
                    have n7_ := AZ (Kd.S_lower (Kd.S_new' (Kd.S_new' (Kd.S_new' (Kd.S_new' (Kd.S_new' (Kd.S_new' (Kd.S_new' ho0 (Kd.R_lt (rS HO_8.out))) (Kd.R_lt (rS HO_13.out))) (Kd.S_lt (sS HO_292000.out))) (Kd.R_lt (rS HO_292001.out))) (Kd.R_lt (rS HO_292002.out))) (Kd.R_lt (rS HO_297001.out))) (Kd.R_lt (rS HO_302001.out))) (below_size (bS HB.out)))
                    have n8_ := AZ (Kd.R_lower (Kd.R_new' (Kd.R_new' (Kd.R_new' (Kd.R_new' (Kd.R_new' (Kd.R_new' ho1 (Kd.R_lt (rS HO_8.out))) (Kd.R_lt (rS HO_13.out))) (Kd.R_lt (rS HO_292001.out))) (Kd.R_lt (rS HO_292002.out))) (Kd.R_lt (rS HO_297001.out))) (Kd.R_lt (rS HO_302001.out))) (below_size (bS HB.out)))
                    have n9_ := AZ (Kd.R_lower (Kd.R_new' (Kd.R_new' (Kd.R_new' (Kd.R_new' (Kd.R_new' (Kd.R_new' ho2 (Kd.R_lt (rS HO_8.out))) (Kd.R_lt (rS HO_13.out))) (Kd.R_lt (rS HO_292001.out))) (Kd.R_lt (rS HO_292002.out))) (Kd.R_lt (rS HO_297001.out))) (Kd.R_lt (rS HO_302001.out))) (below_size (bS HB.out)))
                    have n10_ := blkA BK245 hb
                    have n11_ := blkA BK246 hb
                    have n12_ := blkA BK247 hb
                    have n13_ := blkA BK291 hb
                    have n14_ := blkA BK296 hb
                    have n15_ := blkA BK301 hb
                    have n16_ := AZ (below_step (bS HB.out) hb)
                    clear HO_8
                    clear HO_13
                    clear HO_292000
                    clear HO_292001
                    clear HO_292002
                    clear HO_297001
                    clear HO_302001
                    clear BK245
                    clear BK246
                    clear BK247
                    clear BK291
                    clear BK296
                    clear BK301
                    clear HB
                    have HO_8 := n0_
                    have HO_13 := n1_
                    have HO_292000 := n2_
                    have HO_292001 := n3_
                    have HO_292002 := n4_
                    have HO_297001 := n5_
                    have HO_302001 := n6_
                    have HO309 := n7_
                    have HO312 := n8_
                    have HO315 := n9_
                    have BK245 := n10_
                    have BK246 := n11_
                    have BK247 := n12_
                    have BK291 := n13_
                    have BK296 := n14_
                    have BK301 := n15_
                    have HB := n16_
                    clear n0_ n1_ n2_ n3_ n4_ n5_ n6_ n7_ n8_ n9_ n10_ n11_ n12_ n13_ n14_ n15_ n16_
                    (try clear hb)
                    (try clear hb2)
                    (try clear hk)
                    (try clear hi)
                    (try clear ho0)
                    (try clear ho1)
                    (try clear ho2)
                    obtain ⟨Ao124, co124, eo124⟩ := Kd.S_slice HO309.out
                    (first | subst eo124 | (injection eo124 with f1_ f2_ f3_; have f4_ := f1_.symm; have f5_ := f3_.symm; clear f1_ f2_ f3_; subst f4_; subst f5_))
                    obtain ⟨Ao125, co125, eo125⟩ := Kd.R_slice HO312.out
                    (first | subst eo125 | (injection eo125 with f1_ f2_ f3_; have f4_ := f1_.symm; have f5_ := f3_.symm; clear f1_ f2_ f3_; subst f4_; subst f5_))
                    obtain ⟨Ao126, co126, eo126⟩ := Kd.R_slice HO315.out
                    (first | subst eo126 | (injection eo126 with f1_ f2_ f3_; have f4_ := f1_.symm; have f5_ := f3_.symm; clear f1_ f2_ f3_; subst f4_; subst f5_))
                    refine hK.out _ _ ⟨(blk_cell BK291.out 0).trans rfl, (blk_cell BK291.out 1).trans rfl, (blk_cell BK291.out 2).trans rfl, (blk_cell BK291.out 3).trans rfl, (blk_cell BK291.out 4).trans rfl, (blk_cell BK291.out 5).trans rfl, (blk_cell BK291.out 6).trans rfl, (blk_cell BK291.out 7).trans rfl, (blk_cell BK245.out 0).trans rfl, (blk_cell BK245.out 1).trans rfl, (blk_cell BK245.out 2).trans rfl, (blk_cell BK245.out 3).trans rfl, (blk_cell BK245.out 4).trans rfl, (blk_cell BK245.out 5).trans rfl, (blk_cell BK245.out 6).trans rfl, (blk_cell BK245.out 7).trans rfl⟩ (fun hHeld => ?_)
                    clear hK K
                    refine norm_ (a' := ?_) ?_ ?_
                    rotate_left
                    · show Act.put _ (some 69) _ = _
                      simp only [Act.put, List.setIfInBounds_toArray, List.set_cons_zero, List.set_cons_succ, i64_w, i32_w]
                      rfl
                    refine one_ (i := 3) (N := some 70) #[true, true, true, true, false] rfl rfl (by kernel_rfl) (by decide) (fun K hK => ?_)
                    refine goes_ Try.func20 (by kernel_rfl) rfl #[.agg #[.slice Ao73 t277.length co73, .slice Ao78 t280.length co78, .slice Ao79 t283.length co79, .int .i64 t286, .int .i64 t287, .int .i64 t288, .int .i64 t289, .int .i64 t290], .agg #[.slice Ao124 t307.length co124, .slice Ao125 t310.length co125, .slice Ao126 t313.length co126, .int .i64 t316, .int .i64 t317, .int .i64 t318, .int .i64 t319, .int .i64 t320]] (by rfl) rfl rfl (by (try simp only [List.map_toArray, List.map_cons, List.map_nil]); first | done | rfl | (simp only [List.length_drop, List.length_take]; rfl)) ?_
                    with_reducible refine (laws_eqJob.calls kj46 _ _ t277 _ _ t280 _ _ t283 t286 t287 t288 t289 t290 _ _ t307 _ _ t310 _ _ t313 t316 t317 t318 t319 t320 true _ ?side1 ?side2 ?side3 ?side4 ?side5 ?side6 ?side7 ?side8 ?side9 ?side10 ?side11 ?side12 A110.out).mono ?_
                    (case side1 => exact cS (Kd.S_reads' HO_292000.out).2.2)
                    (case side2 => exact (Kd.S_reads' HO_292000.out).2.1)
                    (case side3 => exact cS (Kd.R_reads' HO_292001.out).2.2)
                    (case side4 => exact (Kd.R_reads' HO_292001.out).2.1)
                    (case side5 => exact cS (Kd.R_reads' HO_292002.out).2.2)
                    (case side6 => exact (Kd.R_reads' HO_292002.out).2.1)
                    (case side7 => exact cS (Kd.S_reads' HO309.out).2.2)
                    (case side8 => exact (Kd.S_reads' HO309.out).2.1)
                    (case side9 => exact cS (Kd.R_reads' HO312.out).2.2)
                    (case side10 => exact (Kd.R_reads' HO312.out).2.1)
                    (case side11 => exact cS (Kd.R_reads' HO315.out).2.2)
                    (case side12 => exact (Kd.R_reads' HO315.out).2.1)
                    rintro e w127 ⟨rfl, hb⟩
                    refine ⟨_, rfl, ?_⟩
                    have n0_ := AZ (Kd.R_below (rS HO_8.out) hb)
                    have n1_ := AZ (Kd.R_below (rS HO_13.out) hb)
                    have n2_ := AZ (Kd.S_below (sS HO_292000.out) hb)
                    have n3_ := AZ (Kd.R_below (rS HO_292001.out) hb)
                    have n4_ := AZ (Kd.R_below (rS HO_292002.out) hb)
                    have n5_ := AZ (Kd.R_below (rS HO_297001.out) hb)
                    have n6_ := AZ (Kd.R_below (rS HO_302001.out) hb)
                    have n7_ := AZ (Kd.S_below (sS HO309.out) hb)
                    have n8_ := AZ (Kd.R_below (rS HO312.out) hb)
                    have n9_ := AZ (Kd.R_below (rS HO315.out) hb)
                    have n10_ := blkA BK245 hb
                    have n11_ := blkA BK246 hb
                    have n12_ := blkA BK247 hb
                    have n13_ := blkA BK291 hb
                    have n14_ := blkA BK296 hb
                    have n15_ := blkA BK301 hb
                    have n16_ := AZ (below_step (bS HB.out) hb)
                    clear HO_8
                    clear HO_13
                    clear HO_292000
                    clear HO_292001
                    clear HO_292002
                    clear HO_297001
                    clear HO_302001
                    clear HO309
                    clear HO312
                    clear HO315
                    clear BK245
                    clear BK246
                    clear BK247
                    clear BK291
                    clear BK296
                    clear BK301
                    clear HB
                    have HO_8 := n0_
                    have HO_13 := n1_
                    have HO_292000 := n2_
                    have HO_292001 := n3_
                    have HO_292002 := n4_
                    have HO_297001 := n5_
                    have HO_302001 := n6_
                    have HO309 := n7_
                    have HO312 := n8_
                    have HO315 := n9_
                    have BK245 := n10_
                    have BK246 := n11_
                    have BK247 := n12_
                    have BK291 := n13_
                    have BK296 := n14_
                    have BK301 := n15_
                    have HB := n16_
                    clear n0_ n1_ n2_ n3_ n4_ n5_ n6_ n7_ n8_ n9_ n10_ n11_ n12_ n13_ n14_ n15_ n16_
                    (try clear hb)
                    (try clear hb2)
                    (try clear hk)
                    (try clear hi)
                    refine hK.out _ _ ⟨(blk_cell BK291.out 0).trans rfl, (blk_cell BK291.out 1).trans rfl, (blk_cell BK291.out 2).trans rfl, (blk_cell BK291.out 3).trans rfl, (blk_cell BK291.out 4).trans rfl, (blk_cell BK291.out 5).trans rfl, (blk_cell BK291.out 6).trans rfl, (blk_cell BK291.out 7).trans rfl, (blk_cell BK245.out 0).trans rfl, (blk_cell BK245.out 1).trans rfl, (blk_cell BK245.out 2).trans rfl, (blk_cell BK245.out 3).trans rfl, (blk_cell BK245.out 4).trans rfl, (blk_cell BK245.out 5).trans rfl, (blk_cell BK245.out 6).trans rfl, (blk_cell BK245.out 7).trans rfl⟩ (fun hHeld => ?_)
                    clear hK K
                    refine norm_ (a' := ?_) ?_ ?_
                    rotate_left
                    · show Act.put _ (some 70) _ = _
                      simp only [Act.put, List.setIfInBounds_toArray, List.set_cons_zero, List.set_cons_succ, i64_w, i32_w]
                      rfl
                    refine pure_ (i := 4) (N := some 71) (v := ?_) (a' := ?_) #[true, true, true, true, true] rfl rfl (by kernel_rfl) (fun _ _ _ h => h) (Or.inl ⟨by rfl, ?_⟩) ?_ ?_
                    rotate_left
                    · intro w'
                      go_simp
                      with_reducible rfl
                    rotate_left
                    · simp only [Act.put, List.setIfInBounds_toArray, List.set_cons_zero, List.set_cons_succ, i64_w, i32_w]
                      rfl
                    refine done_ (by kernel_rfl) ?_
                    try go_wp2
                    have n0_ := AZ (Kd.R_drew HO_8.out)
                    have n1_ := AZ (Kd.R_drew HO_13.out)
                    have n2_ := AZ (Kd.S_drew HO_292000.out)
                    have n3_ := AZ (Kd.R_drew HO_292001.out)
                    have n4_ := AZ (Kd.R_drew HO_292002.out)
                    have n5_ := AZ (Kd.R_drew HO_297001.out)
                    have n6_ := AZ (Kd.R_drew HO_302001.out)
                    have n7_ := AZ (Kd.S_drew HO309.out)
                    have n8_ := AZ (Kd.R_drew HO312.out)
                    have n9_ := AZ (Kd.R_drew HO315.out)
                    have n10_ := AZ (blk_drew BK245.out)
                    have n11_ := AZ (blk_drew BK246.out)
                    have n12_ := AZ (blk_drew BK247.out)
                    have n13_ := AZ (blk_drew BK291.out)
                    have n14_ := AZ (blk_drew BK296.out)
                    have n15_ := AZ (blk_drew BK301.out)
                    have n16_ := AZ (below_drew1 HB.out)
                    clear HO_8
                    clear HO_13
                    clear HO_292000
                    clear HO_292001
                    clear HO_292002
                    clear HO_297001
                    clear HO_302001
                    clear HO309
                    clear HO312
                    clear HO315
                    clear BK245
                    clear BK246
                    clear BK247
                    clear BK291
                    clear BK296
                    clear BK301
                    clear HB
                    have HO_8 := n0_
                    have HO_13 := n1_
                    have HO_292000 := n2_
                    have HO_292001 := n3_
                    have HO_292002 := n4_
                    have HO_297001 := n5_
                    have HO_302001 := n6_
                    have HO309 := n7_
                    have HO312 := n8_
                    have HO315 := n9_
                    have BK245 := n10_
                    have BK246 := n11_
                    have BK247 := n12_
                    have BK291 := n13_
                    have BK296 := n14_
                    have BK301 := n15_
                    have HB := n16_
                    clear n0_ n1_ n2_ n3_ n4_ n5_ n6_ n7_ n8_ n9_ n10_ n11_ n12_ n13_ n14_ n15_ n16_
                    refine start_ (n := 5) (S := fun w' => w'.cell? ⟨gb296, 0, none⟩ = some (.int .i64 t292) ∧ w'.cell? ⟨gb296, 1, none⟩ = some (.slice Ao88 t293.length co88) ∧ w'.cell? ⟨gb246, 0, none⟩ = some (.int .i64 a1_0) ∧ w'.cell? ⟨gb246, 1, none⟩ = some (.slice A1_1 l1_1.length c1_1)) (ds := []) #[false, false, false, false, false] (by kernel_rfl) rfl rfl ⟨(blk_cell BK296.out 0).trans rfl, (blk_cell BK296.out 1).trans rfl, (blk_cell BK246.out 0).trans rfl, (blk_cell BK246.out 1).trans rfl⟩ (fun hHeld => ?_)
                    generalize w127.drew = w128 at HO_8 HO_13 HO_292000 HO_292001 HO_292002 HO_297001 HO_302001 HO309 HO312 HO315 BK245 BK246 BK247 BK291 BK296 BK301 HB hHeld ⊢
                    refine take_ (i := 0) (N := some 72) (v := ?_) (a' := ?_) #[true, false, false, false, false] rfl rfl (by kernel_rfl) (fun _ _ _ h => h) (Or.inl ⟨by rfl, ?_⟩) hHeld ?_ ?_
                    rotate_left
                    · rintro w' ⟨s0, s1, s2, s3⟩
                      go_simp
                      with_reducible rfl
                    rotate_left
                    · simp only [Act.put, List.setIfInBounds_toArray, List.set_cons_zero, List.set_cons_succ, i64_w, i32_w]
                      rfl
                    refine take_ (i := 1) (N := some 73) (v := ?_) (a' := ?_) #[true, true, false, false, false] rfl rfl (by kernel_rfl) (fun _ _ _ h => h) (Or.inl ⟨by rfl, ?_⟩) hHeld ?_ ?_
                    rotate_left
                    · rintro w' ⟨s0, s1, s2, s3⟩
                      go_simp
                      with_reducible rfl
                    rotate_left
                    · simp only [Act.put, List.setIfInBounds_toArray, List.set_cons_zero, List.set_cons_succ, i64_w, i32_w]
                      rfl
                    refine one_ (i := 2) (N := some 74) #[true, true, true, false, false] rfl rfl (by kernel_rfl) (by decide) (fun K hK => ?_)
                    refine goes_ Try.func18 (by kernel_rfl) rfl #[.agg #[.int .i64 a1_0, .slice A1_1 l1_1.length c1_1]] (by rfl) rfl rfl (by (try simp only [List.map_toArray, List.map_cons, List.map_nil]); first | done | rfl | (simp only [List.length_drop, List.length_take]; rfl)) ?_
                    with_reducible refine (laws_toPlan.calls kj46 a1_0 _ _ l1_1 t322 t323 _ ?side1 ?side2 A112.out).mono ?_
                    (case side1 => exact cS (Kd.C_below HR1_1.out HB.out))
                    (case side2 => exact HC1_1.out)
                    rintro e w129 ⟨v324, rfl, ho0, hb⟩
                    refine ⟨_, rfl, ?_⟩
                    have n0_ := AZ (Kd.R_elder' (rS HO_8.out) (Kd.R_base ho0) hb)
                    have n1_ := AZ (Kd.R_elder' (rS HO_13.out) (Kd.R_base ho0) hb)
                    have n2_ := AZ (Kd.S_elder' (sS HO_292000.out) (Kd.R_base ho0) hb)
                    have n3_ := AZ (Kd.R_elder' (rS HO_292001.out) (Kd.R_base ho0) hb)
                    have n4_ := AZ (Kd.R_elder' (rS HO_292002.out) (Kd.R_base ho0) hb)
                    have n5_ := AZ (Kd.R_elder' (rS HO_297001.out) (Kd.R_base ho0) hb)
                    have n6_ := AZ (Kd.R_elder' (rS HO_302001.out) (Kd.R_base ho0) hb)
                    have n7_ := AZ (Kd.S_elder' (sS HO309.out) (Kd.R_base ho0) hb)
                    have n8_ := AZ (Kd.R_elder' (rS HO312.out) (Kd.R_base ho0) hb)
                    have n9_ := AZ (Kd.R_elder' (rS HO315.out) (Kd.R_base ho0) hb)
                    have n10_ := AZ (Kd.R_lower (Kd.R_new' (Kd.R_new' (Kd.R_new' (Kd.R_new' (Kd.R_new' (Kd.R_new' (Kd.R_new' (Kd.R_new' ho0 (Kd.R_lt (rS HO_8.out))) (Kd.R_lt (rS HO_13.out))) (Kd.R_lt (rS HO_292001.out))) (Kd.R_lt (rS HO_292002.out))) (Kd.R_lt (rS HO_297001.out))) (Kd.R_lt (rS HO_302001.out))) (Kd.R_lt (rS HO312.out))) (Kd.R_lt (rS HO315.out))) (below_size (bS HB.out)))
                    have n11_ := blkA BK245 hb
                    have n12_ := blkA BK246 hb
                    have n13_ := blkA BK247 hb
                    have n14_ := blkA BK291 hb
                    have n15_ := blkA BK296 hb
                    have n16_ := blkA BK301 hb
                    have n17_ := AZ (below_step (bS HB.out) hb)
                    clear HO_8
                    clear HO_13
                    clear HO_292000
                    clear HO_292001
                    clear HO_292002
                    clear HO_297001
                    clear HO_302001
                    clear HO309
                    clear HO312
                    clear HO315
                    clear BK245
                    clear BK246
                    clear BK247
                    clear BK291
                    clear BK296
                    clear BK301
                    clear HB
                    have HO_8 := n0_
                    have HO_13 := n1_
                    have HO_292000 := n2_
                    have HO_292001 := n3_
                    have HO_292002 := n4_
                    have HO_297001 := n5_
                    have HO_302001 := n6_
                    have HO309 := n7_
                    have HO312 := n8_
                    have HO315 := n9_
                    have HO325 := n10_
                    have BK245 := n11_
                    have BK246 := n12_
                    have BK247 := n13_
                    have BK291 := n14_
                    have BK296 := n15_
                    have BK301 := n16_
                    have HB := n17_
                    clear n0_ n1_ n2_ n3_ n4_ n5_ n6_ n7_ n8_ n9_ n10_ n11_ n12_ n13_ n14_ n15_ n16_ n17_
                    (try clear hb)
                    (try clear hb2)
                    (try clear hk)
                    (try clear hi)
                    (try clear ho0)
                    obtain ⟨Ao130, co130, eo130⟩ := Kd.R_slice HO325.out
                    (first | subst eo130 | (injection eo130 with f1_ f2_ f3_; have f4_ := f1_.symm; have f5_ := f3_.symm; clear f1_ f2_ f3_; subst f4_; subst f5_))
                    refine hK.out _ _ ⟨(blk_cell BK296.out 0).trans rfl, (blk_cell BK296.out 1).trans rfl, (blk_cell BK246.out 0).trans rfl, (blk_cell BK246.out 1).trans rfl⟩ (fun hHeld => ?_)
                    clear hK K
                    refine norm_ (a' := ?_) ?_ ?_
                    rotate_left
                    · show Act.put _ (some 74) _ = _
                      simp only [Act.put, List.setIfInBounds_toArray, List.set_cons_zero, List.set_cons_succ, i64_w, i32_w]
                      rfl
                    refine one_ (i := 3) (N := some 75) #[true, true, true, true, false] rfl rfl (by kernel_rfl) (by decide) (fun K hK => ?_)
                    refine goes_ Try.func21 (by kernel_rfl) rfl #[.agg #[.int .i64 t292, .slice Ao88 t293.length co88], .agg #[.int .i64 t322, .slice Ao130 t323.length co130]] (by rfl) rfl rfl (by (try simp only [List.map_toArray, List.map_cons, List.map_nil]); first | done | rfl | (simp only [List.length_drop, List.length_take]; rfl)) ?_
                    with_reducible refine (laws_eqPlan.calls kj46 t292 _ _ t293 t322 _ _ t323 true _ ?side1 ?side2 ?side3 ?side4 A113.out).mono ?_
                    (case side1 => exact cS (Kd.R_reads' HO_297001.out).2.2)
                    (case side2 => exact (Kd.R_reads' HO_297001.out).2.1)
                    (case side3 => exact cS (Kd.R_reads' HO325.out).2.2)
                    (case side4 => exact (Kd.R_reads' HO325.out).2.1)
                    rintro e w131 ⟨rfl, hb⟩
                    refine ⟨_, rfl, ?_⟩
                    have n0_ := AZ (Kd.R_below (rS HO_8.out) hb)
                    have n1_ := AZ (Kd.R_below (rS HO_13.out) hb)
                    have n2_ := AZ (Kd.S_below (sS HO_292000.out) hb)
                    have n3_ := AZ (Kd.R_below (rS HO_292001.out) hb)
                    have n4_ := AZ (Kd.R_below (rS HO_292002.out) hb)
                    have n5_ := AZ (Kd.R_below (rS HO_297001.out) hb)
                    have n6_ := AZ (Kd.R_below (rS HO_302001.out) hb)
                    have n7_ := AZ (Kd.S_below (sS HO309.out) hb)
                    have n8_ := AZ (Kd.R_below (rS HO312.out) hb)
                    have n9_ := AZ (Kd.R_below (rS HO315.out) hb)
                    have n10_ := AZ (Kd.R_below (rS HO325.out) hb)
                    have n11_ := blkA BK245 hb
                    have n12_ := blkA BK246 hb
                    have n13_ := blkA BK247 hb
                    have n14_ := blkA BK291 hb
                    have n15_ := blkA BK296 hb
                    have n16_ := blkA BK301 hb
                    have n17_ := AZ (below_step (bS HB.out) hb)
                    clear HO_8
                    clear HO_13
                    clear HO_292000
                    clear HO_292001
                    clear HO_292002
                    clear HO_297001
                    clear HO_302001
                    clear HO309
                    clear HO312
                    clear HO315
                    clear HO325
                    clear BK245
                    clear BK246
                    clear BK247
                    clear BK291
                    clear BK296
                    clear BK301
                    clear HB
                    have HO_8 := n0_
                    have HO_13 := n1_
                    have HO_292000 := n2_
                    have HO_292001 := n3_
                    have HO_292002 := n4_
                    have HO_297001 := n5_
                    have HO_302001 := n6_
                    have HO309 := n7_
                    have HO312 := n8_
                    have HO315 := n9_
                    have HO325 := n10_
                    have BK245 := n11_
                    have BK246 := n12_
                    have BK247 := n13_
                    have BK291 := n14_
                    have BK296 := n15_
                    have BK301 := n16_
                    have HB := n17_
                    clear n0_ n1_ n2_ n3_ n4_ n5_ n6_ n7_ n8_ n9_ n10_ n11_ n12_ n13_ n14_ n15_ n16_ n17_
                    (try clear hb)
                    (try clear hb2)
                    (try clear hk)
                    (try clear hi)
                    refine hK.out _ _ ⟨(blk_cell BK296.out 0).trans rfl, (blk_cell BK296.out 1).trans rfl, (blk_cell BK246.out 0).trans rfl, (blk_cell BK246.out 1).trans rfl⟩ (fun hHeld => ?_)
                    clear hK K
                    refine norm_ (a' := ?_) ?_ ?_
                    rotate_left
                    · show Act.put _ (some 75) _ = _
                      simp only [Act.put, List.setIfInBounds_toArray, List.set_cons_zero, List.set_cons_succ, i64_w, i32_w]
                      rfl
                    refine pure_ (i := 4) (N := some 76) (v := ?_) (a' := ?_) #[true, true, true, true, true] rfl rfl (by kernel_rfl) (fun _ _ _ h => h) (Or.inl ⟨by rfl, ?_⟩) ?_ ?_
                    rotate_left
                    · intro w'
                      go_simp
                      with_reducible rfl
                    rotate_left
                    · simp only [Act.put, List.setIfInBounds_toArray, List.set_cons_zero, List.set_cons_succ, i64_w, i32_w]
                      rfl
                    refine done_ (by kernel_rfl) ?_
                    try go_wp2
                    have n0_ := AZ (Kd.R_drew HO_8.out)
                    have n1_ := AZ (Kd.R_drew HO_13.out)
                    have n2_ := AZ (Kd.S_drew HO_292000.out)
                    have n3_ := AZ (Kd.R_drew HO_292001.out)
                    have n4_ := AZ (Kd.R_drew HO_292002.out)
                    have n5_ := AZ (Kd.R_drew HO_297001.out)
                    have n6_ := AZ (Kd.R_drew HO_302001.out)
                    have n7_ := AZ (Kd.S_drew HO309.out)
                    have n8_ := AZ (Kd.R_drew HO312.out)
                    have n9_ := AZ (Kd.R_drew HO315.out)
                    have n10_ := AZ (Kd.R_drew HO325.out)
                    have n11_ := AZ (blk_drew BK245.out)
                    have n12_ := AZ (blk_drew BK246.out)
                    have n13_ := AZ (blk_drew BK247.out)
                    have n14_ := AZ (blk_drew BK291.out)
                    have n15_ := AZ (blk_drew BK296.out)
                    have n16_ := AZ (blk_drew BK301.out)
                    have n17_ := AZ (below_drew1 HB.out)
                    clear HO_8
                    clear HO_13
                    clear HO_292000
                    clear HO_292001
                    clear HO_292002
                    clear HO_297001
                    clear HO_302001
                    clear HO309
                    clear HO312
                    clear HO315
                    clear HO325
                    clear BK245
                    clear BK246
                    clear BK247
                    clear BK291
                    clear BK296
                    clear BK301
                    clear HB
                    have HO_8 := n0_
                    have HO_13 := n1_
                    have HO_292000 := n2_
                    have HO_292001 := n3_
                    have HO_292002 := n4_
                    have HO_297001 := n5_
                    have HO_302001 := n6_
                    have HO309 := n7_
                    have HO312 := n8_
                    have HO315 := n9_
                    have HO325 := n10_
                    have BK245 := n11_
                    have BK246 := n12_
                    have BK247 := n13_
                    have BK291 := n14_
                    have BK296 := n15_
                    have BK301 := n16_
                    have HB := n17_
                    clear n0_ n1_ n2_ n3_ n4_ n5_ n6_ n7_ n8_ n9_ n10_ n11_ n12_ n13_ n14_ n15_ n16_ n17_
                    refine start_ (n := 5) (S := fun w' => w'.cell? ⟨gb301, 0, none⟩ = some (.int .i64 t297) ∧ w'.cell? ⟨gb301, 1, none⟩ = some (.slice Ao98 t298.length co98) ∧ w'.cell? ⟨gb247, 0, none⟩ = some (.int .i64 a2_0) ∧ w'.cell? ⟨gb247, 1, none⟩ = some (.slice A2_1 l2_1.length c2_1)) (ds := []) #[false, false, false, false, false] (by kernel_rfl) rfl rfl ⟨(blk_cell BK301.out 0).trans rfl, (blk_cell BK301.out 1).trans rfl, (blk_cell BK247.out 0).trans rfl, (blk_cell BK247.out 1).trans rfl⟩ (fun hHeld => ?_)
                    generalize w131.drew = w132 at HO_8 HO_13 HO_292000 HO_292001 HO_292002 HO_297001 HO_302001 HO309 HO312 HO315 HO325 BK245 BK246 BK247 BK291 BK296 BK301 HB hHeld ⊢
                    refine take_ (i := 0) (N := some 77) (v := ?_) (a' := ?_) #[true, false, false, false, false] rfl rfl (by kernel_rfl) (fun _ _ _ h => h) (Or.inl ⟨by rfl, ?_⟩) hHeld ?_ ?_
                    rotate_left
                    · rintro w' ⟨s0, s1, s2, s3⟩
                      go_simp
                      with_reducible rfl
                    rotate_left
                    · simp only [Act.put, List.setIfInBounds_toArray, List.set_cons_zero, List.set_cons_succ, i64_w, i32_w]
                      rfl
                    refine take_ (i := 1) (N := some 78) (v := ?_) (a' := ?_) #[true, true, false, false, false] rfl rfl (by kernel_rfl) (fun _ _ _ h => h) (Or.inl ⟨by rfl, ?_⟩) hHeld ?_ ?_
                    rotate_left
                    · rintro w' ⟨s0, s1, s2, s3⟩
                      go_simp
                      with_reducible rfl
                    rotate_left
                    · simp only [Act.put, List.setIfInBounds_toArray, List.set_cons_zero, List.set_cons_succ, i64_w, i32_w]
                      rfl
                    refine one_ (i := 2) (N := some 79) #[true, true, true, false, false] rfl rfl (by kernel_rfl) (by decide) (fun K hK => ?_)
                    refine goes_ Try.func18 (by kernel_rfl) rfl #[.agg #[.int .i64 a2_0, .slice A2_1 l2_1.length c2_1]] (by rfl) rfl rfl (by (try simp only [List.map_toArray, List.map_cons, List.map_nil]); first | done | rfl | (simp only [List.length_drop, List.length_take]; rfl)) ?_
                    with_reducible refine (laws_toPlan.calls kj46 a2_0 _ _ l2_1 t327 t328 _ ?side1 ?side2 A115.out).mono ?_
                    (case side1 => exact cS (Kd.C_below HR2_1.out HB.out))
                    (case side2 => exact HC2_1.out)
                    rintro e w133 ⟨v329, rfl, ho0, hb⟩
                    refine ⟨_, rfl, ?_⟩
                    have n0_ := AZ (Kd.R_elder' (rS HO_8.out) (Kd.R_base ho0) hb)
                    have n1_ := AZ (Kd.R_elder' (rS HO_13.out) (Kd.R_base ho0) hb)
                    have n2_ := AZ (Kd.S_elder' (sS HO_292000.out) (Kd.R_base ho0) hb)
                    have n3_ := AZ (Kd.R_elder' (rS HO_292001.out) (Kd.R_base ho0) hb)
                    have n4_ := AZ (Kd.R_elder' (rS HO_292002.out) (Kd.R_base ho0) hb)
                    have n5_ := AZ (Kd.R_elder' (rS HO_297001.out) (Kd.R_base ho0) hb)
                    have n6_ := AZ (Kd.R_elder' (rS HO_302001.out) (Kd.R_base ho0) hb)
                    have n7_ := AZ (Kd.S_elder' (sS HO309.out) (Kd.R_base ho0) hb)
                    have n8_ := AZ (Kd.R_elder' (rS HO312.out) (Kd.R_base ho0) hb)
                    have n9_ := AZ (Kd.R_elder' (rS HO315.out) (Kd.R_base ho0) hb)
                    have n10_ := AZ (Kd.R_elder' (rS HO325.out) (Kd.R_base ho0) hb)
                    have n11_ := AZ (Kd.R_lower (Kd.R_new' (Kd.R_new' (Kd.R_new' (Kd.R_new' (Kd.R_new' (Kd.R_new' (Kd.R_new' (Kd.R_new' (Kd.R_new' ho0 (Kd.R_lt (rS HO_8.out))) (Kd.R_lt (rS HO_13.out))) (Kd.R_lt (rS HO_292001.out))) (Kd.R_lt (rS HO_292002.out))) (Kd.R_lt (rS HO_297001.out))) (Kd.R_lt (rS HO_302001.out))) (Kd.R_lt (rS HO312.out))) (Kd.R_lt (rS HO315.out))) (Kd.R_lt (rS HO325.out))) (below_size (bS HB.out)))
                    have n12_ := blkA BK245 hb
                    have n13_ := blkA BK246 hb
                    have n14_ := blkA BK247 hb
                    have n15_ := blkA BK291 hb
                    have n16_ := blkA BK296 hb
                    have n17_ := blkA BK301 hb
                    have n18_ := AZ (below_step (bS HB.out) hb)
                    clear HO_8
                    clear HO_13
                    clear HO_292000
                    clear HO_292001
                    clear HO_292002
                    clear HO_297001
                    clear HO_302001
                    clear HO309
                    clear HO312
                    clear HO315
                    clear HO325
                    clear BK245
                    clear BK246
                    clear BK247
                    clear BK291
                    clear BK296
                    clear BK301
                    clear HB
                    have HO_8 := n0_
                    have HO_13 := n1_
                    have HO_292000 := n2_
                    have HO_292001 := n3_
                    have HO_292002 := n4_
                    have HO_297001 := n5_
                    have HO_302001 := n6_
                    have HO309 := n7_
                    have HO312 := n8_
                    have HO315 := n9_
                    have HO325 := n10_
                    have HO330 := n11_
                    have BK245 := n12_
                    have BK246 := n13_
                    have BK247 := n14_
                    have BK291 := n15_
                    have BK296 := n16_
                    have BK301 := n17_
                    have HB := n18_
                    clear n0_ n1_ n2_ n3_ n4_ n5_ n6_ n7_ n8_ n9_ n10_ n11_ n12_ n13_ n14_ n15_ n16_ n17_ n18_
                    (try clear hb)
                    (try clear hb2)
                    (try clear hk)
                    (try clear hi)
                    (try clear ho0)
                    obtain ⟨Ao134, co134, eo134⟩ := Kd.R_slice HO330.out
                    (first | subst eo134 | (injection eo134 with f1_ f2_ f3_; have f4_ := f1_.symm; have f5_ := f3_.symm; clear f1_ f2_ f3_; subst f4_; subst f5_))
                    refine hK.out _ _ ⟨(blk_cell BK301.out 0).trans rfl, (blk_cell BK301.out 1).trans rfl, (blk_cell BK247.out 0).trans rfl, (blk_cell BK247.out 1).trans rfl⟩ (fun hHeld => ?_)
                    clear hK K
                    refine norm_ (a' := ?_) ?_ ?_
                    rotate_left
                    · show Act.put _ (some 79) _ = _
                      simp only [Act.put, List.setIfInBounds_toArray, List.set_cons_zero, List.set_cons_succ, i64_w, i32_w]
                      rfl
                    refine one_ (i := 3) (N := some 80) #[true, true, true, true, false] rfl rfl (by kernel_rfl) (by decide) (fun K hK => ?_)
                    refine goes_ Try.func21 (by kernel_rfl) rfl #[.agg #[.int .i64 t297, .slice Ao98 t298.length co98], .agg #[.int .i64 t327, .slice Ao134 t328.length co134]] (by rfl) rfl rfl (by (try simp only [List.map_toArray, List.map_cons, List.map_nil]); first | done | rfl | (simp only [List.length_drop, List.length_take]; rfl)) ?_
                    with_reducible refine (laws_eqPlan.calls kj46 t297 _ _ t298 t327 _ _ t328 true _ ?side1 ?side2 ?side3 ?side4 A116.out).mono ?_
                    (case side1 => exact cS (Kd.R_reads' HO_302001.out).2.2)
                    (case side2 => exact (Kd.R_reads' HO_302001.out).2.1)
                    (case side3 => exact cS (Kd.R_reads' HO330.out).2.2)
                    (case side4 => exact (Kd.R_reads' HO330.out).2.1)
                    rintro e w135 ⟨rfl, hb⟩
                    refine ⟨_, rfl, ?_⟩
                    have n0_ := AZ (Kd.R_below (rS HO_8.out) hb)
                    have n1_ := AZ (Kd.R_below (rS HO_13.out) hb)
                    have n2_ := AZ (Kd.S_below (sS HO_292000.out) hb)
                    have n3_ := AZ (Kd.R_below (rS HO_292001.out) hb)
                    have n4_ := AZ (Kd.R_below (rS HO_292002.out) hb)
                    have n5_ := AZ (Kd.R_below (rS HO_297001.out) hb)
                    have n6_ := AZ (Kd.R_below (rS HO_302001.out) hb)
                    have n7_ := AZ (Kd.S_below (sS HO309.out) hb)
                    have n8_ := AZ (Kd.R_below (rS HO312.out) hb)
                    have n9_ := AZ (Kd.R_below (rS HO315.out) hb)
                    have n10_ := AZ (Kd.R_below (rS HO325.out) hb)
                    have n11_ := AZ (Kd.R_below (rS HO330.out) hb)
                    have n12_ := blkA BK245 hb
                    have n13_ := blkA BK246 hb
                    have n14_ := blkA BK247 hb
                    have n15_ := blkA BK291 hb
                    have n16_ := blkA BK296 hb
                    have n17_ := blkA BK301 hb
                    have n18_ := AZ (below_step (bS HB.out) hb)
                    clear HO_8
                    clear HO_13
                    clear HO_292000
                    clear HO_292001
                    clear HO_292002
                    clear HO_297001
                    clear HO_302001
                    clear HO309
                    clear HO312
                    clear HO315
                    clear HO325
                    clear HO330
                    clear BK245
                    clear BK246
                    clear BK247
                    clear BK291
                    clear BK296
                    clear BK301
                    clear HB
                    have HO_8 := n0_
                    have HO_13 := n1_
                    have HO_292000 := n2_
                    have HO_292001 := n3_
                    have HO_292002 := n4_
                    have HO_297001 := n5_
                    have HO_302001 := n6_
                    have HO309 := n7_
                    have HO312 := n8_
                    have HO315 := n9_
                    have HO325 := n10_
                    have HO330 := n11_
                    have BK245 := n12_
                    have BK246 := n13_
                    have BK247 := n14_
                    have BK291 := n15_
                    have BK296 := n16_
                    have BK301 := n17_
                    have HB := n18_
                    clear n0_ n1_ n2_ n3_ n4_ n5_ n6_ n7_ n8_ n9_ n10_ n11_ n12_ n13_ n14_ n15_ n16_ n17_ n18_
                    (try clear hb)
                    (try clear hb2)
                    (try clear hk)
                    (try clear hi)
                    refine hK.out _ _ ⟨(blk_cell BK301.out 0).trans rfl, (blk_cell BK301.out 1).trans rfl, (blk_cell BK247.out 0).trans rfl, (blk_cell BK247.out 1).trans rfl⟩ (fun hHeld => ?_)
                    clear hK K
                    refine norm_ (a' := ?_) ?_ ?_
                    rotate_left
                    · show Act.put _ (some 80) _ = _
                      simp only [Act.put, List.setIfInBounds_toArray, List.set_cons_zero, List.set_cons_succ, i64_w, i32_w]
                      rfl
                    refine pure_ (i := 4) (N := some 81) (v := ?_) (a' := ?_) #[true, true, true, true, true] rfl rfl (by kernel_rfl) (fun _ _ _ h => h) (Or.inl ⟨by rfl, ?_⟩) ?_ ?_
                    rotate_left
                    · intro w'
                      go_simp
                      with_reducible rfl
                    rotate_left
                    · simp only [Act.put, List.setIfInBounds_toArray, List.set_cons_zero, List.set_cons_succ, i64_w, i32_w]
                      rfl
                    refine done_ (by kernel_rfl) ?_
                    have hnb136 := NB291_245.out
                    have hnc136 := NB245_291.out
                    have hnb137 := NB291_246.out
                    have hnc137 := NB246_291.out
                    have hnb138 := NB291_247.out
                    have hnc138 := NB247_291.out
                    have hnb139 := NB291_296.out
                    have hnc139 := NB296_291.out
                    have hnb140 := NB291_301.out
                    have hnc140 := NB301_291.out
                    have hcz141_0 : w135.cell? ⟨gb291, 0, none⟩ = some (.slice Ao73 t277.length co73) := (blk_cell BK291.out 0).trans rfl
                    have hcz141_1 : w135.cell? ⟨gb291, 1, none⟩ = some (.slice Ao78 t280.length co78) := (blk_cell BK291.out 1).trans rfl
                    have hcz141_2 : w135.cell? ⟨gb291, 2, none⟩ = some (.slice Ao79 t283.length co79) := (blk_cell BK291.out 2).trans rfl
                    have hcz141_3 : w135.cell? ⟨gb291, 3, none⟩ = some (.int .i64 t286) := (blk_cell BK291.out 3).trans rfl
                    have hcz141_4 : w135.cell? ⟨gb291, 4, none⟩ = some (.int .i64 t287) := (blk_cell BK291.out 4).trans rfl
                    have hcz141_5 : w135.cell? ⟨gb291, 5, none⟩ = some (.int .i64 t288) := (blk_cell BK291.out 5).trans rfl
                    have hcz141_6 : w135.cell? ⟨gb291, 6, none⟩ = some (.int .i64 t289) := (blk_cell BK291.out 6).trans rfl
                    have hcz141_7 : w135.cell? ⟨gb291, 7, none⟩ = some (.int .i64 t290) := (blk_cell BK291.out 7).trans rfl
                    have hfz141_0 := blk_frozen BK291.out 0
                    have hfz141_1 := blk_frozen BK291.out 1
                    have hfz141_2 := blk_frozen BK291.out 2
                    have hfz141_3 := blk_frozen BK291.out 3
                    have hfz141_4 := blk_frozen BK291.out 4
                    have hfz141_5 := blk_frozen BK291.out 5
                    have hfz141_6 := blk_frozen BK291.out 6
                    have hfz141_7 := blk_frozen BK291.out 7
                    go_upto_region 28 with (first | ((with_reducible refine gate_callee (f := 37) rfl ?_); refine gL (some 84) Try.func37 #[.agg #[.slice Ao73 t277.length co73, .slice Ao78 t280.length co78, .slice Ao79 t283.length co79, .int .i64 t286, .int .i64 t287, .int .i64 t288, .int .i64 t289, .int .i64 t290], .int .i64 1] ?_; (with_reducible refine (laws_markJob.calls kj46 ?P1 (.slice Ao73 t277.length co73) t277 ?P2 (.slice Ao78 t280.length co78) t280 ?P3 (.slice Ao79 t283.length co79) t283 t286 t287 t288 t289 t290 1 t332 w _ ?side1 ?side2 ?side3 ?side4 ?side5 ?side6 ?side7 ?side8 ?side9 ?side10 A118.out).mono ?_); (case side1 => repeat (first | (with_reducible first | exact HB.out | apply below_alloc | apply pw_below_drewN | apply below_drew1 | refine below_set ?_ GE245.out | refine below_set ?_ GE246.out | refine below_set ?_ GE247.out | refine below_set ?_ GE291.out | refine below_set ?_ GE296.out | refine below_set ?_ GE301.out) | exact HB.out)); (case side2 => exact Kd.S_bound (HO_292000.out)); (case side3 => exact fun k_ hk_ => hk_.2.2.1); (case side4 => exact Kd.R_tight rfl (HO_292001.out)); (case side5 => exact fun k_ hk_ => Kd.R_lt (HO_292001.out) k_ hk_.symm); (case side6 => exact Kd.R_tight rfl (HO_292002.out)); (case side7 => exact fun k_ hk_ => Kd.R_lt (HO_292002.out) k_ hk_.symm); (case side8 => exact fun k_ hj_ hi_ => ((hi_).1.1.1.1.1.1.2.2.1) hj_); (case side9 => exact fun k_ hj_ hi_ => ((hi_).1.1.1.1.1.1.2.2.2.1) hj_); (case side10 => exact fun k_ hj_ hi_ => (((HO_292001.out).1 k_ (hi_).symm).1.1.1.1.2.2.1) hj_); rintro e w142 ⟨rfl, hb, hkp⟩; refine ⟨_, rfl, ?_⟩; have n0_ := AZ (Kd.R_mono (Kd.R_kept (Kd.R_tight rfl (HO_8.out)) hkp (fun k_ e_ hs_ => Or.elim hs_ (fun z_ => ((z_).1.1.1.1.1.1.1) e_) (fun z_ => Or.elim z_ (fun z_ => (((HO_292001.out).1 k_ (z_).symm).1.1.1.1.1) e_) (fun z_ => ((((HO_292002.out).1 k_ (z_).symm).1.1.1.1.1) e_))))) (fun k_ e_ => (HO_8.out).1 k_ e_.symm)); have n1_ := AZ (Kd.R_mono (Kd.R_kept (Kd.R_tight rfl (HO_13.out)) hkp (fun k_ e_ hs_ => Or.elim hs_ (fun z_ => ((z_).1.1.1.1.1.1.2.1) e_) (fun z_ => Or.elim z_ (fun z_ => (((HO_292001.out).1 k_ (z_).symm).1.1.1.1.2.1) e_) (fun z_ => ((((HO_292002.out).1 k_ (z_).symm).1.1.1.1.2.1) e_))))) (fun k_ e_ => (HO_13.out).1 k_ e_.symm)); have n2_ := AZ (Kd.R_mono (Kd.R_kept (Kd.R_tight rfl (HO_297001.out)) hkp (fun k_ e_ hs_ => Or.elim hs_ (fun z_ => ((z_).1.1.1.1.1.1.2.2.2.2.1) e_) (fun z_ => Or.elim z_ (fun z_ => (((HO_292001.out).1 k_ (z_).symm).1.1.1.1.2.2.2.1) e_) (fun z_ => ((((HO_292002.out).1 k_ (z_).symm).1.1.1.1.2.2.2.1) e_))))) (fun k_ e_ => (HO_297001.out).1 k_ e_.symm)); have n3_ := AZ (Kd.R_mono (Kd.R_kept (Kd.R_tight rfl (HO_302001.out)) hkp (fun k_ e_ hs_ => Or.elim hs_ (fun z_ => ((z_).1.1.1.1.1.1.2.2.2.2.2) e_) (fun z_ => Or.elim z_ (fun z_ => (((HO_292001.out).1 k_ (z_).symm).1.1.1.1.2.2.2.2) e_) (fun z_ => ((((HO_292002.out).1 k_ (z_).symm).1.1.1.1.2.2.2.2) e_))))) (fun k_ e_ => (HO_302001.out).1 k_ e_.symm)); have n4_ := AZ (blk_kept (g := gb245) (o := .cells #[.slice A0_0 l0_0.length c0_0, .slice A0_1 l0_1.length c0_1, .slice A0_2 l0_2.length c0_2, .int .i64 a0_3, .int .i64 a0_4, .int .i64 a0_5, .int .i64 a0_6, .int .i64 a0_7] 27 (0, 0)) (blkS BK245.out) hkp (fun hs_ => Or.elim hs_ (fun z_ => typed_absurd ((z_).2.2.2) ⟨_, blkS BK245.out⟩ (by decide)) (fun z_ => Or.elim z_ (fun z_ => typed_absurd (typed_one (Kd.R_typed (HO_292001.out) _ (z_).symm)) ⟨_, blkS BK245.out⟩ (by decide)) (fun z_ => (typed_absurd (typed_one (Kd.R_typed (HO_292002.out) _ (z_).symm)) ⟨_, blkS BK245.out⟩ (by decide)))))); have n5_ := AZ (blk_kept (g := gb246) (o := .cells #[.int .i64 a1_0, .slice A1_1 l1_1.length c1_1] 29 (0, 0)) (blkS BK246.out) hkp (fun hs_ => Or.elim hs_ (fun z_ => typed_absurd ((z_).2.2.2) ⟨_, blkS BK246.out⟩ (by decide)) (fun z_ => Or.elim z_ (fun z_ => typed_absurd (typed_one (Kd.R_typed (HO_292001.out) _ (z_).symm)) ⟨_, blkS BK246.out⟩ (by decide)) (fun z_ => (typed_absurd (typed_one (Kd.R_typed (HO_292002.out) _ (z_).symm)) ⟨_, blkS BK246.out⟩ (by decide)))))); have n6_ := AZ (blk_kept (g := gb247) (o := .cells #[.int .i64 a2_0, .slice A2_1 l2_1.length c2_1] 29 (0, 0)) (blkS BK247.out) hkp (fun hs_ => Or.elim hs_ (fun z_ => typed_absurd ((z_).2.2.2) ⟨_, blkS BK247.out⟩ (by decide)) (fun z_ => Or.elim z_ (fun z_ => typed_absurd (typed_one (Kd.R_typed (HO_292001.out) _ (z_).symm)) ⟨_, blkS BK247.out⟩ (by decide)) (fun z_ => (typed_absurd (typed_one (Kd.R_typed (HO_292002.out) _ (z_).symm)) ⟨_, blkS BK247.out⟩ (by decide)))))); have n7_ := AZ (blk_kept (g := gb291) (o := .cells #[.slice Ao73 t277.length co73, .slice Ao78 t280.length co78, .slice Ao79 t283.length co79, .int .i64 t286, .int .i64 t287, .int .i64 t288, .int .i64 t289, .int .i64 t290] 36 (0, 0)) (blkS BK291.out) hkp (fun hs_ => Or.elim hs_ (fun z_ => typed_absurd ((z_).2.2.2) ⟨_, blkS BK291.out⟩ (by decide)) (fun z_ => Or.elim z_ (fun z_ => typed_absurd (typed_one (Kd.R_typed (HO_292001.out) _ (z_).symm)) ⟨_, blkS BK291.out⟩ (by decide)) (fun z_ => (typed_absurd (typed_one (Kd.R_typed (HO_292002.out) _ (z_).symm)) ⟨_, blkS BK291.out⟩ (by decide)))))); have n8_ := AZ (blk_kept (g := gb296) (o := .cells #[.int .i64 t292, .slice Ao88 t293.length co88] 38 (0, 0)) (blkS BK296.out) hkp (fun hs_ => Or.elim hs_ (fun z_ => typed_absurd ((z_).2.2.2) ⟨_, blkS BK296.out⟩ (by decide)) (fun z_ => Or.elim z_ (fun z_ => typed_absurd (typed_one (Kd.R_typed (HO_292001.out) _ (z_).symm)) ⟨_, blkS BK296.out⟩ (by decide)) (fun z_ => (typed_absurd (typed_one (Kd.R_typed (HO_292002.out) _ (z_).symm)) ⟨_, blkS BK296.out⟩ (by decide)))))); have n9_ := AZ (blk_kept (g := gb301) (o := .cells #[.int .i64 t297, .slice Ao98 t298.length co98] 38 (0, 0)) (blkS BK301.out) hkp (fun hs_ => Or.elim hs_ (fun z_ => typed_absurd ((z_).2.2.2) ⟨_, blkS BK301.out⟩ (by decide)) (fun z_ => Or.elim z_ (fun z_ => typed_absurd (typed_one (Kd.R_typed (HO_292001.out) _ (z_).symm)) ⟨_, blkS BK301.out⟩ (by decide)) (fun z_ => (typed_absurd (typed_one (Kd.R_typed (HO_292002.out) _ (z_).symm)) ⟨_, blkS BK301.out⟩ (by decide)))))); have n10_ := AZ (Kd.R_mono (Kd.R_kept (Kd.R_tight rfl (HO312.out)) hkp (fun k_ e_ hs_ => Or.elim hs_ (fun z_ => ((z_).1.1.1.1.2) e_) (fun z_ => Or.elim z_ (fun z_ => (((HO_292001.out).1 k_ (z_).symm).1.1.1.2) e_) (fun z_ => ((((HO_292002.out).1 k_ (z_).symm).1.1.1.2) e_))))) (fun k_ e_ => (HO312.out).1 k_ e_.symm)); have n11_ := AZ (Kd.R_mono (Kd.R_kept (Kd.R_tight rfl (HO315.out)) hkp (fun k_ e_ hs_ => Or.elim hs_ (fun z_ => ((z_).1.1.1.2) e_) (fun z_ => Or.elim z_ (fun z_ => (((HO_292001.out).1 k_ (z_).symm).1.1.2) e_) (fun z_ => ((((HO_292002.out).1 k_ (z_).symm).1.1.2) e_))))) (fun k_ e_ => (HO315.out).1 k_ e_.symm)); have n12_ := AZ (Kd.R_mono (Kd.R_kept (Kd.R_tight rfl (HO325.out)) hkp (fun k_ e_ hs_ => Or.elim hs_ (fun z_ => ((z_).1.1.2) e_) (fun z_ => Or.elim z_ (fun z_ => (((HO_292001.out).1 k_ (z_).symm).1.2) e_) (fun z_ => ((((HO_292002.out).1 k_ (z_).symm).1.2) e_))))) (fun k_ e_ => (HO325.out).1 k_ e_.symm)); have n13_ := AZ (Kd.R_mono (Kd.R_kept (Kd.R_tight rfl (HO330.out)) hkp (fun k_ e_ hs_ => Or.elim hs_ (fun z_ => ((z_).1.2) e_) (fun z_ => Or.elim z_ (fun z_ => (((HO_292001.out).1 k_ (z_).symm).2) e_) (fun z_ => ((((HO_292002.out).1 k_ (z_).symm).2) e_))))) (fun k_ e_ => (HO330.out).1 k_ e_.symm)); have n14_ := AZ (hb); clear HO_8; clear HO_13; clear HO_297001; clear HO_302001; clear BK245; clear BK246; clear BK247; clear BK291; clear BK296; clear BK301; clear HO312; clear HO315; clear HO325; clear HO330; clear HB; clear HO_292000; clear HO_292001; clear HO_292002; clear HO309; have HO_8 := n0_; have HO_13 := n1_; have HO_297001 := n2_; have HO_302001 := n3_; have BK245 := n4_; have BK246 := n5_; have BK247 := n6_; have BK291 := n7_; have BK296 := n8_; have BK301 := n9_; have HO312 := n10_; have HO315 := n11_; have HO325 := n12_; have HO330 := n13_; have HB := n14_; clear n0_ n1_ n2_ n3_ n4_ n5_ n6_ n7_ n8_ n9_ n10_ n11_ n12_ n13_ n14_; (try clear hb hkp); have hnb143 := NB296_245.out; have hnc143 := NB245_296.out; have hnb144 := NB296_246.out; have hnc144 := NB246_296.out; have hnb145 := NB296_247.out; have hnc145 := NB247_296.out; have hnb146 := NB296_301.out; have hnc146 := NB301_296.out; have hcz147_0 : w142.cell? ⟨gb296, 0, none⟩ = some (.int .i64 t292) := (blk_cell BK296.out 0).trans rfl; have hcz147_1 : w142.cell? ⟨gb296, 1, none⟩ = some (.slice Ao88 t293.length co88) := (blk_cell BK296.out 1).trans rfl; have hfz147_0 := blk_frozen BK296.out 0; have hfz147_1 := blk_frozen BK296.out 1) | ((with_reducible refine gate_callee (f := 38) rfl ?_); refine gL (some 87) Try.func38 #[.agg #[.int .i64 t292, .slice Ao88 t293.length co88], .int .i64 t332] ?_; (with_reducible refine (laws_markPlan.calls kj46 t292 (fun k_ => some k_ = (.slice Ao88 t293.length co88 : Value).ownBlock) (.slice Ao88 t293.length co88) t293 t332 t333 t334 w _ ?side1 ?side2 A119.out).mono ?_); (case side1 => repeat (first | (with_reducible first | exact HB.out | apply below_alloc | apply pw_below_drewN | apply below_drew1 | refine below_set ?_ GE245.out | refine below_set ?_ GE246.out | refine below_set ?_ GE247.out | refine below_set ?_ GE291.out | refine below_set ?_ GE296.out | refine below_set ?_ GE301.out) | exact HB.out)); (case side2 => exact Kd.R_tight rfl HO_297001.out); rintro e w148 ⟨rfl, hy0, hb, hkp⟩; refine ⟨_, rfl, ?_⟩; have n0_ := AZ (Kd.R_mono (ok' := fun k_ => some k_ ≠ (v303 : Value).ownBlock ∧ some k_ ≠ (.slice Ao88 t293.length co88 : Value).ownBlock ∧ some k_ ≠ (.slice Ao98 t298.length co98 : Value).ownBlock ∧ some k_ ≠ (.slice Ao125 t310.length co125 : Value).ownBlock ∧ some k_ ≠ (.slice Ao126 t313.length co126 : Value).ownBlock ∧ some k_ ≠ (.slice Ao130 t323.length co130 : Value).ownBlock ∧ some k_ ≠ (.slice Ao134 t328.length co134 : Value).ownBlock) (Kd.R_keptB (HO_8.out) hkp (fun k_ hk_ hs_ => (hk_.1.1.1.1.2.2.2.1) hs_)) (fun k_ hk_ => ⟨hk_.1.1.1.1.1.1, hk_.1.1.1.1.1.2.2.2.1, hk_.1.1.1.1.1.2.2.2.2, hk_.1.1.1.1.2, hk_.1.1.1.2, hk_.1.1.2, hk_.1.2⟩)); have n1_ := AZ (Kd.R_mono (ok' := fun k_ => some k_ ≠ (v274 : Value).ownBlock ∧ some k_ ≠ (.slice Ao88 t293.length co88 : Value).ownBlock ∧ some k_ ≠ (.slice Ao98 t298.length co98 : Value).ownBlock ∧ some k_ ≠ (.slice Ao125 t310.length co125 : Value).ownBlock ∧ some k_ ≠ (.slice Ao126 t313.length co126 : Value).ownBlock ∧ some k_ ≠ (.slice Ao130 t323.length co130 : Value).ownBlock ∧ some k_ ≠ (.slice Ao134 t328.length co134 : Value).ownBlock) (Kd.R_keptB (HO_13.out) hkp (fun k_ hk_ hs_ => (hk_.1.1.1.1.2.2.2.1) hs_)) (fun k_ hk_ => ⟨hk_.1.1.1.1.1.1, hk_.1.1.1.1.1.2.2.2.1, hk_.1.1.1.1.1.2.2.2.2, hk_.1.1.1.1.2, hk_.1.1.1.2, hk_.1.1.2, hk_.1.2⟩)); have n2_ := AZ (Kd.R_reok rfl hy0 (fun k_ e_ => HO_297001.out.1 k_ e_)); have n3_ := AZ (Kd.R_mono (ok' := fun k_ => some k_ ≠ (v274 : Value).ownBlock ∧ some k_ ≠ (v303 : Value).ownBlock ∧ some k_ ≠ (.slice Ao88 t293.length co88 : Value).ownBlock ∧ some k_ ≠ (.slice Ao125 t310.length co125 : Value).ownBlock ∧ some k_ ≠ (.slice Ao126 t313.length co126 : Value).ownBlock ∧ some k_ ≠ (.slice Ao130 t323.length co130 : Value).ownBlock ∧ some k_ ≠ (.slice Ao134 t328.length co134 : Value).ownBlock) (Kd.R_keptB (HO_302001.out) hkp (fun k_ hk_ hs_ => (hk_.1.1.1.1.2.2.2.2) hs_)) (fun k_ hk_ => ⟨hk_.1.1.1.1.1.1, hk_.1.1.1.1.1.2.1, hk_.1.1.1.1.1.2.2.2.2, hk_.1.1.1.1.2, hk_.1.1.1.2, hk_.1.1.2, hk_.1.2⟩)); have n4_ := AZ (blk_kept (blkS BK245.out) hkp (fun hs_ => (fun e_ => (Kd.R_ne HO_297001.out BK245.out (by decide)) e_) hs_)); have n5_ := AZ (blk_kept (blkS BK246.out) hkp (fun hs_ => (fun e_ => (Kd.R_ne HO_297001.out BK246.out (by decide)) e_) hs_)); have n6_ := AZ (blk_kept (blkS BK247.out) hkp (fun hs_ => (fun e_ => (Kd.R_ne HO_297001.out BK247.out (by decide)) e_) hs_)); have n7_ := AZ (blk_kept (blkS BK291.out) hkp (fun hs_ => (fun e_ => (Kd.R_ne HO_297001.out BK291.out (by decide)) e_) hs_)); have n8_ := AZ (blk_kept (blkS BK296.out) hkp (fun hs_ => (fun e_ => (Kd.R_ne HO_297001.out BK296.out (by decide)) e_) hs_)); have n9_ := AZ (blk_kept (blkS BK301.out) hkp (fun hs_ => (fun e_ => (Kd.R_ne HO_297001.out BK301.out (by decide)) e_) hs_)); have n10_ := AZ (Kd.R_mono (ok' := fun k_ => some k_ ≠ (v274 : Value).ownBlock ∧ some k_ ≠ (v303 : Value).ownBlock ∧ some k_ ≠ (.slice Ao88 t293.length co88 : Value).ownBlock ∧ some k_ ≠ (.slice Ao98 t298.length co98 : Value).ownBlock ∧ some k_ ≠ (.slice Ao126 t313.length co126 : Value).ownBlock ∧ some k_ ≠ (.slice Ao130 t323.length co130 : Value).ownBlock ∧ some k_ ≠ (.slice Ao134 t328.length co134 : Value).ownBlock) (Kd.R_keptB (HO312.out) hkp (fun k_ hk_ hs_ => (hk_.1.1.1.2) hs_)) (fun k_ hk_ => ⟨hk_.1.1.1.1.1.1.1.1.2, hk_.1.1.1.1.1.1.1.2, hk_.1.1.1.1.2, hk_.1.1.1.2, hk_.1.1.1.1.1.1.1.1.1, hk_.1.1.2, hk_.1.2⟩)); have n11_ := AZ (Kd.R_mono (ok' := fun k_ => some k_ ≠ (v274 : Value).ownBlock ∧ some k_ ≠ (v303 : Value).ownBlock ∧ some k_ ≠ (.slice Ao88 t293.length co88 : Value).ownBlock ∧ some k_ ≠ (.slice Ao98 t298.length co98 : Value).ownBlock ∧ some k_ ≠ (.slice Ao125 t310.length co125 : Value).ownBlock ∧ some k_ ≠ (.slice Ao130 t323.length co130 : Value).ownBlock ∧ some k_ ≠ (.slice Ao134 t328.length co134 : Value).ownBlock) (Kd.R_keptB (HO315.out) hkp (fun k_ hk_ hs_ => (hk_.1.1.1.2) hs_)) (fun k_ hk_ => ⟨hk_.1.1.1.1.1.1.1.1.2, hk_.1.1.1.1.1.1.1.2, hk_.1.1.1.1.2, hk_.1.1.1.2, hk_.1.1.1.1.1.1.1.1.1, hk_.1.1.2, hk_.1.2⟩)); have n12_ := AZ (Kd.R_mono (ok' := fun k_ => some k_ ≠ (v274 : Value).ownBlock ∧ some k_ ≠ (v303 : Value).ownBlock ∧ some k_ ≠ (.slice Ao88 t293.length co88 : Value).ownBlock ∧ some k_ ≠ (.slice Ao98 t298.length co98 : Value).ownBlock ∧ some k_ ≠ (.slice Ao125 t310.length co125 : Value).ownBlock ∧ some k_ ≠ (.slice Ao126 t313.length co126 : Value).ownBlock ∧ some k_ ≠ (.slice Ao134 t328.length co134 : Value).ownBlock) (Kd.R_keptB (HO325.out) hkp (fun k_ hk_ hs_ => (hk_.1.1.1.1.2) hs_)) (fun k_ hk_ => ⟨hk_.1.1.1.1.1.1.1.1.1.2, hk_.1.1.1.1.1.1.1.1.2, hk_.1.1.1.1.1.2, hk_.1.1.1.1.2, hk_.1.1.1.2, hk_.1.1.2, hk_.1.2⟩)); have n13_ := AZ (Kd.R_mono (ok' := fun k_ => some k_ ≠ (v274 : Value).ownBlock ∧ some k_ ≠ (v303 : Value).ownBlock ∧ some k_ ≠ (.slice Ao88 t293.length co88 : Value).ownBlock ∧ some k_ ≠ (.slice Ao98 t298.length co98 : Value).ownBlock ∧ some k_ ≠ (.slice Ao125 t310.length co125 : Value).ownBlock ∧ some k_ ≠ (.slice Ao126 t313.length co126 : Value).ownBlock ∧ some k_ ≠ (.slice Ao130 t323.length co130 : Value).ownBlock) (Kd.R_keptB (HO330.out) hkp (fun k_ hk_ hs_ => (hk_.1.1.1.1.2) hs_)) (fun k_ hk_ => ⟨hk_.1.1.1.1.1.1.1.1.1.2, hk_.1.1.1.1.1.1.1.1.2, hk_.1.1.1.1.1.2, hk_.1.1.1.1.2, hk_.1.1.1.2, hk_.1.1.2, hk_.1.2⟩)); have n14_ := AZ (hb); clear HO_8; clear HO_13; clear HO_297001; clear HO_302001; clear BK245; clear BK246; clear BK247; clear BK291; clear BK296; clear BK301; clear HO312; clear HO315; clear HO325; clear HO330; clear HB; have HO_8 := n0_; have HO_13 := n1_; have HO_297001 := n2_; have HO_302001 := n3_; have BK245 := n4_; have BK246 := n5_; have BK247 := n6_; have BK291 := n7_; have BK296 := n8_; have BK301 := n9_; have HO312 := n10_; have HO315 := n11_; have HO325 := n12_; have HO330 := n13_; have HB := n14_; clear n0_ n1_ n2_ n3_ n4_ n5_ n6_ n7_ n8_ n9_ n10_ n11_ n12_ n13_ n14_; (try clear hb); (try clear hkp); (try clear hy0); have hnb149 := NB301_245.out; have hnc149 := NB245_301.out; have hnb150 := NB301_246.out; have hnc150 := NB246_301.out; have hnb151 := NB301_247.out; have hnc151 := NB247_301.out; have hcz152_0 : w148.cell? ⟨gb301, 0, none⟩ = some (.int .i64 t297) := (blk_cell BK301.out 0).trans rfl; have hcz152_1 : w148.cell? ⟨gb301, 1, none⟩ = some (.slice Ao98 t298.length co98) := (blk_cell BK301.out 1).trans rfl; have hfz152_0 := blk_frozen BK301.out 0; have hfz152_1 := blk_frozen BK301.out 1) | ((with_reducible refine gate_callee (f := 38) rfl ?_); refine gL (some 90) Try.func38 #[.agg #[.int .i64 t297, .slice Ao98 t298.length co98], .int .i64 t333] ?_; (with_reducible refine (laws_markPlan.calls kj46 t297 (fun k_ => some k_ = (.slice Ao98 t298.length co98 : Value).ownBlock) (.slice Ao98 t298.length co98) t298 t333 t335 t336 w _ ?side1 ?side2 A120.out).mono ?_); (case side1 => repeat (first | (with_reducible first | exact HB.out | apply below_alloc | apply pw_below_drewN | apply below_drew1 | refine below_set ?_ GE245.out | refine below_set ?_ GE246.out | refine below_set ?_ GE247.out | refine below_set ?_ GE291.out | refine below_set ?_ GE296.out | refine below_set ?_ GE301.out) | exact HB.out)); (case side2 => exact Kd.R_tight rfl HO_302001.out); rintro e w153 ⟨rfl, hy0, hb, hkp⟩; refine ⟨_, rfl, ?_⟩; have n0_ := AZ (Kd.R_mono (ok' := fun k_ => some k_ ≠ (v303 : Value).ownBlock ∧ some k_ ≠ (.slice Ao88 t293.length co88 : Value).ownBlock ∧ some k_ ≠ (.slice Ao98 t298.length co98 : Value).ownBlock ∧ some k_ ≠ (.slice Ao125 t310.length co125 : Value).ownBlock ∧ some k_ ≠ (.slice Ao126 t313.length co126 : Value).ownBlock ∧ some k_ ≠ (.slice Ao130 t323.length co130 : Value).ownBlock ∧ some k_ ≠ (.slice Ao134 t328.length co134 : Value).ownBlock) (Kd.R_keptB (HO_8.out) hkp (fun k_ hk_ hs_ => (hk_.2.2.1) hs_)) (fun k_ hk_ => ⟨hk_.1.1, hk_.1.2.1, hk_.1.2.2.1, hk_.1.2.2.2.1, hk_.1.2.2.2.2.1, hk_.1.2.2.2.2.2.1, hk_.1.2.2.2.2.2.2⟩)); have n1_ := AZ (Kd.R_mono (ok' := fun k_ => some k_ ≠ (v274 : Value).ownBlock ∧ some k_ ≠ (.slice Ao88 t293.length co88 : Value).ownBlock ∧ some k_ ≠ (.slice Ao98 t298.length co98 : Value).ownBlock ∧ some k_ ≠ (.slice Ao125 t310.length co125 : Value).ownBlock ∧ some k_ ≠ (.slice Ao126 t313.length co126 : Value).ownBlock ∧ some k_ ≠ (.slice Ao130 t323.length co130 : Value).ownBlock ∧ some k_ ≠ (.slice Ao134 t328.length co134 : Value).ownBlock) (Kd.R_keptB (HO_13.out) hkp (fun k_ hk_ hs_ => (hk_.2.2.1) hs_)) (fun k_ hk_ => ⟨hk_.1.1, hk_.1.2.1, hk_.1.2.2.1, hk_.1.2.2.2.1, hk_.1.2.2.2.2.1, hk_.1.2.2.2.2.2.1, hk_.1.2.2.2.2.2.2⟩)); have n2_ := AZ (Kd.R_mono (ok' := fun k_ => some k_ ≠ (v274 : Value).ownBlock ∧ some k_ ≠ (v303 : Value).ownBlock ∧ some k_ ≠ (.slice Ao98 t298.length co98 : Value).ownBlock ∧ some k_ ≠ (.slice Ao125 t310.length co125 : Value).ownBlock ∧ some k_ ≠ (.slice Ao126 t313.length co126 : Value).ownBlock ∧ some k_ ≠ (.slice Ao130 t323.length co130 : Value).ownBlock ∧ some k_ ≠ (.slice Ao134 t328.length co134 : Value).ownBlock) (Kd.R_keptB (HO_297001.out) hkp (fun k_ hk_ hs_ => (hk_.1.1.1.1.2.2.2.2) hs_)) (fun k_ hk_ => ⟨hk_.1.1.1.1.1.1, hk_.1.1.1.1.1.2.1, hk_.1.1.1.1.1.2.2.2.2, hk_.1.1.1.1.2, hk_.1.1.1.2, hk_.1.1.2, hk_.1.2⟩)); have n3_ := AZ (Kd.R_reok rfl hy0 (fun k_ e_ => HO_302001.out.1 k_ e_)); have n4_ := AZ (blk_kept (blkS BK245.out) hkp (fun hs_ => (fun e_ => (Kd.R_ne HO_302001.out BK245.out (by decide)) e_) hs_)); have n5_ := AZ (blk_kept (blkS BK246.out) hkp (fun hs_ => (fun e_ => (Kd.R_ne HO_302001.out BK246.out (by decide)) e_) hs_)); have n6_ := AZ (blk_kept (blkS BK247.out) hkp (fun hs_ => (fun e_ => (Kd.R_ne HO_302001.out BK247.out (by decide)) e_) hs_)); have n7_ := AZ (blk_kept (blkS BK291.out) hkp (fun hs_ => (fun e_ => (Kd.R_ne HO_302001.out BK291.out (by decide)) e_) hs_)); have n8_ := AZ (blk_kept (blkS BK296.out) hkp (fun hs_ => (fun e_ => (Kd.R_ne HO_302001.out BK296.out (by decide)) e_) hs_)); have n9_ := AZ (blk_kept (blkS BK301.out) hkp (fun hs_ => (fun e_ => (Kd.R_ne HO_302001.out BK301.out (by decide)) e_) hs_)); have n10_ := AZ (Kd.R_mono (ok' := fun k_ => some k_ ≠ (v274 : Value).ownBlock ∧ some k_ ≠ (v303 : Value).ownBlock ∧ some k_ ≠ (.slice Ao88 t293.length co88 : Value).ownBlock ∧ some k_ ≠ (.slice Ao98 t298.length co98 : Value).ownBlock ∧ some k_ ≠ (.slice Ao126 t313.length co126 : Value).ownBlock ∧ some k_ ≠ (.slice Ao130 t323.length co130 : Value).ownBlock ∧ some k_ ≠ (.slice Ao134 t328.length co134 : Value).ownBlock) (Kd.R_keptB (HO312.out) hkp (fun k_ hk_ hs_ => (hk_.2.2.2.1) hs_)) (fun k_ hk_ => ⟨hk_.1.1, hk_.1.2.1, hk_.1.2.2.1, hk_.1.2.2.2.1, hk_.1.2.2.2.2.1, hk_.1.2.2.2.2.2.1, hk_.1.2.2.2.2.2.2⟩)); have n11_ := AZ (Kd.R_mono (ok' := fun k_ => some k_ ≠ (v274 : Value).ownBlock ∧ some k_ ≠ (v303 : Value).ownBlock ∧ some k_ ≠ (.slice Ao88 t293.length co88 : Value).ownBlock ∧ some k_ ≠ (.slice Ao98 t298.length co98 : Value).ownBlock ∧ some k_ ≠ (.slice Ao125 t310.length co125 : Value).ownBlock ∧ some k_ ≠ (.slice Ao130 t323.length co130 : Value).ownBlock ∧ some k_ ≠ (.slice Ao134 t328.length co134 : Value).ownBlock) (Kd.R_keptB (HO315.out) hkp (fun k_ hk_ hs_ => (hk_.2.2.2.1) hs_)) (fun k_ hk_ => ⟨hk_.1.1, hk_.1.2.1, hk_.1.2.2.1, hk_.1.2.2.2.1, hk_.1.2.2.2.2.1, hk_.1.2.2.2.2.2.1, hk_.1.2.2.2.2.2.2⟩)); have n12_ := AZ (Kd.R_mono (ok' := fun k_ => some k_ ≠ (v274 : Value).ownBlock ∧ some k_ ≠ (v303 : Value).ownBlock ∧ some k_ ≠ (.slice Ao88 t293.length co88 : Value).ownBlock ∧ some k_ ≠ (.slice Ao98 t298.length co98 : Value).ownBlock ∧ some k_ ≠ (.slice Ao125 t310.length co125 : Value).ownBlock ∧ some k_ ≠ (.slice Ao126 t313.length co126 : Value).ownBlock ∧ some k_ ≠ (.slice Ao134 t328.length co134 : Value).ownBlock) (Kd.R_keptB (HO325.out) hkp (fun k_ hk_ hs_ => (hk_.2.2.2.1) hs_)) (fun k_ hk_ => ⟨hk_.1.1, hk_.1.2.1, hk_.1.2.2.1, hk_.1.2.2.2.1, hk_.1.2.2.2.2.1, hk_.1.2.2.2.2.2.1, hk_.1.2.2.2.2.2.2⟩)); have n13_ := AZ (Kd.R_mono (ok' := fun k_ => some k_ ≠ (v274 : Value).ownBlock ∧ some k_ ≠ (v303 : Value).ownBlock ∧ some k_ ≠ (.slice Ao88 t293.length co88 : Value).ownBlock ∧ some k_ ≠ (.slice Ao98 t298.length co98 : Value).ownBlock ∧ some k_ ≠ (.slice Ao125 t310.length co125 : Value).ownBlock ∧ some k_ ≠ (.slice Ao126 t313.length co126 : Value).ownBlock ∧ some k_ ≠ (.slice Ao130 t323.length co130 : Value).ownBlock) (Kd.R_keptB (HO330.out) hkp (fun k_ hk_ hs_ => (hk_.2.2.2.1) hs_)) (fun k_ hk_ => ⟨hk_.1.1, hk_.1.2.1, hk_.1.2.2.1, hk_.1.2.2.2.1, hk_.1.2.2.2.2.1, hk_.1.2.2.2.2.2.1, hk_.1.2.2.2.2.2.2⟩)); have n14_ := AZ (hb); clear HO_8; clear HO_13; clear HO_297001; clear HO_302001; clear BK245; clear BK246; clear BK247; clear BK291; clear BK296; clear BK301; clear HO312; clear HO315; clear HO325; clear HO330; clear HB; have HO_8 := n0_; have HO_13 := n1_; have HO_297001 := n2_; have HO_302001 := n3_; have BK245 := n4_; have BK246 := n5_; have BK247 := n6_; have BK291 := n7_; have BK296 := n8_; have BK301 := n9_; have HO312 := n10_; have HO315 := n11_; have HO325 := n12_; have HO330 := n13_; have HB := n14_; clear n0_ n1_ n2_ n3_ n4_ n5_ n6_ n7_ n8_ n9_ n10_ n11_ n12_ n13_ n14_; (try clear hb); (try clear hkp); (try clear hy0)))
                    (try simp only [Act.put, List.setIfInBounds_toArray, List.set_cons_zero, List.set_cons_succ])
                    go_cut [103] (fun v103 wc => ∃ (kq : Nat) (x103_120 : Bool), v103 = .bool x103_120 ∧ Aside0 (laws_FnExactMovedBlocks.j1 kq t273 t276 t302 x103_120 l0_0 l0_1 l0_2 a0_3 a0_4 a0_5 a0_6 a0_7 a1_0 l1_1 a2_0 l2_1 = some r) ∧ Aside0 (kq ≤ kj46) ∧ Aside0 (Kd.R (Kd.int .i64) 3 wc w.heap.size (fun k_ => some k_ ≠ (v303 : Value).ownBlock ∧ some k_ ≠ ((.slice Ao88 t293.length co88) : Value).ownBlock ∧ some k_ ≠ ((.slice Ao98 t298.length co98) : Value).ownBlock) v274 t273) ∧ Aside0 (Kd.R (Kd.int .i64) 3 wc w.heap.size (fun k_ => some k_ ≠ (v274 : Value).ownBlock ∧ some k_ ≠ ((.slice Ao88 t293.length co88) : Value).ownBlock ∧ some k_ ≠ ((.slice Ao98 t298.length co98) : Value).ownBlock) v303 t302) ∧ Aside0 (Kd.R (Kd.int .i64) 3 wc w.heap.size (fun k_ => some k_ ≠ (v274 : Value).ownBlock ∧ some k_ ≠ (v303 : Value).ownBlock ∧ some k_ ≠ ((.slice Ao98 t298.length co98) : Value).ownBlock) (.slice Ao88 t293.length co88) t334) ∧ Aside0 (Kd.R (Kd.int .i64) 3 wc w.heap.size (fun k_ => some k_ ≠ (v274 : Value).ownBlock ∧ some k_ ≠ (v303 : Value).ownBlock ∧ some k_ ≠ ((.slice Ao88 t293.length co88) : Value).ownBlock) (.slice Ao98 t298.length co98) t336) ∧ Aside0 (wc.heap[gb245]? = some (.cells #[(.slice A0_0 l0_0.length c0_0), (.slice A0_1 l0_1.length c0_1), (.slice A0_2 l0_2.length c0_2), .int .i64 a0_3, .int .i64 a0_4, .int .i64 a0_5, .int .i64 a0_6, .int .i64 a0_7] 27 (0, 0))) ∧ Aside0 (wc.heap[gb246]? = some (.cells #[.int .i64 a1_0, (.slice A1_1 l1_1.length c1_1)] 29 (0, 0))) ∧ Aside0 (wc.heap[gb247]? = some (.cells #[.int .i64 a2_0, (.slice A2_1 l2_1.length c2_1)] 29 (0, 0))) ∧ Aside0 (wc.heap[gb296]? = some (.cells #[.int .i64 t292, (.slice Ao88 t293.length co88)] 38 (0, 0))) ∧ Aside0 (wc.heap[gb301]? = some (.cells #[.int .i64 t297, (.slice Ao98 t298.length co98)] 38 (0, 0))) ∧ Aside0 (Below w.heap.size w wc))
                    case first =>
                      have H := HC121.out
                      clear HC121
                      by_cases c154 : t335 < 0
                      · rw [if_pos c154] at H
                        have c154b0 : decide (t335 < 0) = true := decide_eq_true c154
                        clear c154
                        (first | rw [c154b0] | (simp only [i64_w, i32_w]; rw [c154b0]) | skip)
                        have H' := Aside0.mk H
                        clear H
                        go_wp2
                        go_meet
                        case rel => exact ⟨_, (true), (by first | rfl | (simp; done) | (simp [*]; done)), H', ⟨by have := HJ46.out; first | omega | exact Nat.le_refl _⟩, ⟨rS (Kd.R_mono HO_8.out (fun _ hk => ⟨hk.1, ⟨hk.2.1, hk.2.2.1⟩⟩))⟩, ⟨rS (Kd.R_mono HO_13.out (fun _ hk => ⟨hk.1, ⟨hk.2.1, hk.2.2.1⟩⟩))⟩, ⟨rS (Kd.R_mono HO_297001.out (fun _ hk => ⟨hk.1, ⟨hk.2.1, hk.2.2.1⟩⟩))⟩, ⟨rS (Kd.R_mono HO_302001.out (fun _ hk => ⟨hk.1, ⟨hk.2.1, hk.2.2.1⟩⟩))⟩, ⟨blkS BK245.out⟩, ⟨blkS BK246.out⟩, ⟨blkS BK247.out⟩, ⟨blkS BK296.out⟩, ⟨blkS BK301.out⟩, ⟨bS HB.out⟩⟩
                      · rw [if_neg c154] at H
                        have c154b0 : decide (t335 < 0) = false := decide_eq_false c154
                        clear c154
                        (first | rw [c154b0] | (simp only [i64_w, i32_w]; rw [c154b0]) | skip)
                        replace H := Option.bind_eq_some_iff.mp H
                        obtain ⟨t337, A1550, H⟩ := H
                        replace H : (if t337 = true then (laws_FnExactMovedBlocks.j1 kj46 t273 t276 t302 (t305 != t276) l0_0 l0_1 l0_2 a0_3 a0_4 a0_5 a0_6 a0_7 a1_0 l1_1 a2_0 l2_1) else (laws_FnExactMovedBlocks.j1 kj46 t273 t276 t302 true l0_0 l0_1 l0_2 a0_3 a0_4 a0_5 a0_6 a0_7 a1_0 l1_1 a2_0 l2_1)) = some r := H
                        have A155 := Aside0.mk A1550
                        clear A1550
                        by_cases c156 : t337 = true
                        · subst c156
                          have H1 : (laws_FnExactMovedBlocks.j1 kj46 t273 t276 t302 (t305 != t276) l0_0 l0_1 l0_2 a0_3 a0_4 a0_5 a0_6 a0_7 a1_0 l1_1 a2_0 l2_1) = some r := by rw [if_pos rfl] at H; exact H
                          clear H
                          have H := H1
                          clear H1
                          have H' := Aside0.mk H
                          clear H
                          obtain ⟨Ao157, co157, eo157⟩ := Kd.R_slice HO_13.out
                          subst eo157
                          obtain ⟨Ao158, co158, eo158⟩ := Kd.R_slice HO_8.out
                          subst eo158
                          go_wp2_with (first | (go_at_call 36; (with_reducible refine (laws_eqIntS.calls kj46 _ _ t302 _ _ t273 true _ ?side1 ?side2 ?side3 ?side4 A155.out).mono ?_); (case side1 => exact cS (Kd.R_reads' HO_13.out).2.2); (case side2 => exact (Kd.R_reads' HO_13.out).2.1); (case side3 => exact cS (Kd.R_reads' HO_8.out).2.2); (case side4 => exact (Kd.R_reads' HO_8.out).2.1); rintro e w' ⟨rfl, ⟨nd, rfl⟩⟩))
                          go_meet
                          case rel => exact ⟨_, ((t305 != t276)), (by first | rfl | (simp; done) | (simp [*]; done)), H', ⟨by have := HJ46.out; first | omega | exact Nat.le_refl _⟩, ⟨rS (Kd.R_mono HO_8.out (fun _ hk => ⟨hk.1, ⟨hk.2.1, hk.2.2.1⟩⟩))⟩, ⟨rS (Kd.R_mono HO_13.out (fun _ hk => ⟨hk.1, ⟨hk.2.1, hk.2.2.1⟩⟩))⟩, ⟨rS (Kd.R_mono HO_297001.out (fun _ hk => ⟨hk.1, ⟨hk.2.1, hk.2.2.1⟩⟩))⟩, ⟨rS (Kd.R_mono HO_302001.out (fun _ hk => ⟨hk.1, ⟨hk.2.1, hk.2.2.1⟩⟩))⟩, ⟨blkS BK245.out⟩, ⟨blkS BK246.out⟩, ⟨blkS BK247.out⟩, ⟨blkS BK296.out⟩, ⟨blkS BK301.out⟩, ⟨bS HB.out⟩⟩
                        · replace c156 := Bool.eq_false_iff.mpr c156
                          subst c156
                          have H1 : (laws_FnExactMovedBlocks.j1 kj46 t273 t276 t302 true l0_0 l0_1 l0_2 a0_3 a0_4 a0_5 a0_6 a0_7 a1_0 l1_1 a2_0 l2_1) = some r := by rw [if_neg (show ¬ (false = true) by decide)] at H; exact H
                          clear H
                          have H := H1
                          clear H1
                          have H' := Aside0.mk H
                          clear H
                          obtain ⟨Ao159, co159, eo159⟩ := Kd.R_slice HO_13.out
                          subst eo159
                          obtain ⟨Ao160, co160, eo160⟩ := Kd.R_slice HO_8.out
                          subst eo160
                          go_wp2_with (first | (go_at_call 36; (with_reducible refine (laws_eqIntS.calls kj46 _ _ t302 _ _ t273 false _ ?side1 ?side2 ?side3 ?side4 A155.out).mono ?_); (case side1 => exact cS (Kd.R_reads' HO_13.out).2.2); (case side2 => exact (Kd.R_reads' HO_13.out).2.1); (case side3 => exact cS (Kd.R_reads' HO_8.out).2.2); (case side4 => exact (Kd.R_reads' HO_8.out).2.1); rintro e w' ⟨rfl, ⟨nd, rfl⟩⟩))
                          go_meet
                          case rel => exact ⟨_, (true), (by first | rfl | (simp; done) | (simp [*]; done)), H', ⟨by have := HJ46.out; first | omega | exact Nat.le_refl _⟩, ⟨rS (Kd.R_mono HO_8.out (fun _ hk => ⟨hk.1, ⟨hk.2.1, hk.2.2.1⟩⟩))⟩, ⟨rS (Kd.R_mono HO_13.out (fun _ hk => ⟨hk.1, ⟨hk.2.1, hk.2.2.1⟩⟩))⟩, ⟨rS (Kd.R_mono HO_297001.out (fun _ hk => ⟨hk.1, ⟨hk.2.1, hk.2.2.1⟩⟩))⟩, ⟨rS (Kd.R_mono HO_302001.out (fun _ hk => ⟨hk.1, ⟨hk.2.1, hk.2.2.1⟩⟩))⟩, ⟨blkS BK245.out⟩, ⟨blkS BK246.out⟩, ⟨blkS BK247.out⟩, ⟨blkS BK296.out⟩, ⟨blkS BK301.out⟩, ⟨bS HB.out⟩⟩
                    case rest =>
                      clear HC121
                      try clear c1
                      try clear c2
                      try clear p2
                      try clear c3
                      try clear c13
                      try clear c14
                      try clear c15
                      try clear c18
                      try clear c21
                      try clear c37
                      try clear c38
                      try clear c136
                      try clear c137
                      try clear c138
                      try clear c139
                      try clear c140
                      try clear c143
                      try clear c144
                      try clear c145
                      try clear c146
                      try clear c149
                      try clear c150
                      try clear c151
                      try clear c154
                      try clear c154b0
                      try clear c156
                      try clear hcz141_0
                      try clear hcz141_1
                      try clear hcz141_2
                      try clear hcz141_3
                      try clear hcz141_4
                      try clear hcz141_5
                      try clear hcz141_6
                      try clear hcz141_7
                      try clear hcz147_0
                      try clear hcz147_1
                      try clear hcz152_0
                      try clear hcz152_1
                      try clear hfz141_0
                      try clear hfz141_1
                      try clear hfz141_2
                      try clear hfz141_3
                      try clear hfz141_4
                      try clear hfz141_5
                      try clear hfz141_6
                      try clear hfz141_7
                      try clear hfz147_0
                      try clear hfz147_1
                      try clear hfz152_0
                      try clear hfz152_1
                      obtain ⟨kq, x103_120, rfl, HA, HJ120, HO_8, HO_13, HO_297001, HO_302001, BK245, BK246, BK247, BK296, BK301, HB⟩ := hcut
                      have hl297001_120 := (Kd.R_reads' HO_297001.out).1
                      rw [hl297001_120] at HO_297001
                      (try simp only [hl297001_120])
                      (try simp only [hl297001_120] at BK245)
                      (try simp only [hl297001_120] at BK246)
                      (try simp only [hl297001_120] at BK247)
                      (try simp only [hl297001_120] at BK296)
                      (try simp only [hl297001_120] at BK301)
                      (try simp only [hl297001_120] at HO_8)
                      (try simp only [hl297001_120] at HO_13)
                      (try simp only [hl297001_120] at HO_302001)
                      have hl302001_120 := (Kd.R_reads' HO_302001.out).1
                      rw [hl302001_120] at HO_302001
                      (try simp only [hl302001_120])
                      (try simp only [hl302001_120] at BK245)
                      (try simp only [hl302001_120] at BK246)
                      (try simp only [hl302001_120] at BK247)
                      (try simp only [hl302001_120] at BK296)
                      (try simp only [hl302001_120] at BK301)
                      (try simp only [hl302001_120] at HO_8)
                      (try simp only [hl302001_120] at HO_13)
                      (try simp only [hl302001_120] at HO_297001)
                      cases kq with
                      | zero => exact absurd HA.out (by simp [laws_FnExactMovedBlocks.j1])
                      | succ kj120 =>
                        have H := HA.out
                        clear HA
                        simp only [laws_FnExactMovedBlocks.j1] at H
                        by_cases c161 : x103_120 = true
                        · subst c161
                          have H1 : (none) = some r := by rw [if_pos rfl] at H; exact H
                          clear H
                          have H := H1
                          clear H1
                          exact absurd H (by simp)
                        · replace c161 := Bool.eq_false_iff.mpr c161
                          subst c161
                          have H1 : ((laws_markIntS.f kj120 t302 1).bind fun bt338 => ((laws_heldIntS.f kj120 bt338.2 1).bind fun t340 => (if t340 < 0 then (none) else (if t340 = bt338.1 then ((laws_toJob.f kj120 l0_0 l0_1 l0_2 a0_3 a0_4 a0_5 a0_6 a0_7).bind fun bt341 => ((laws_toPlan.f kj120 a1_0 l1_1).bind fun bt355 => ((laws_toPlan.f kj120 a2_0 l2_1).bind fun bt359 => ((impl_MovedBlocks.f kj120 bt341.1 bt341.2.1 bt341.2.2.1 bt341.2.2.2.1 bt341.2.2.2.2.1 bt341.2.2.2.2.2.1 bt341.2.2.2.2.2.2.1 bt341.2.2.2.2.2.2.2 bt355.1 bt355.2 bt359.1 bt359.2).bind fun bt363 => ((laws_eqIntS.f kj120 bt363.1 t273).bind fun t367 => (if t367 = true then (laws_FnExactMovedBlocks.j2 kj120 bt338.2 bt338.1 (bt363.2 != t276)) else (laws_FnExactMovedBlocks.j2 kj120 bt338.2 bt338.1 true))))))) else (none))))) = some r := by rw [if_neg (show ¬ (false = true) by decide)] at H; exact H
                          clear H
                          have H := H1
                          clear H1
                          replace H := Option.bind_eq_some_iff.mp H
                          obtain ⟨⟨t338, t339⟩, A1620, H⟩ := H
                          replace H : ((laws_heldIntS.f kj120 t339 1).bind fun t340 => (if t340 < 0 then (none) else (if t340 = t338 then ((laws_toJob.f kj120 l0_0 l0_1 l0_2 a0_3 a0_4 a0_5 a0_6 a0_7).bind fun bt341 => ((laws_toPlan.f kj120 a1_0 l1_1).bind fun bt355 => ((laws_toPlan.f kj120 a2_0 l2_1).bind fun bt359 => ((impl_MovedBlocks.f kj120 bt341.1 bt341.2.1 bt341.2.2.1 bt341.2.2.2.1 bt341.2.2.2.2.1 bt341.2.2.2.2.2.1 bt341.2.2.2.2.2.2.1 bt341.2.2.2.2.2.2.2 bt355.1 bt355.2 bt359.1 bt359.2).bind fun bt363 => ((laws_eqIntS.f kj120 bt363.1 t273).bind fun t367 => (if t367 = true then (laws_FnExactMovedBlocks.j2 kj120 t339 t338 (bt363.2 != t276)) else (laws_FnExactMovedBlocks.j2 kj120 t339 t338 true))))))) else (none)))) = some r := H
                          have A162 := Aside0.mk A1620
                          clear A1620
                          replace H := Option.bind_eq_some_iff.mp H
                          obtain ⟨t340, A1630, H⟩ := H
                          replace H : (if t340 < 0 then (none) else (if t340 = t338 then ((laws_toJob.f kj120 l0_0 l0_1 l0_2 a0_3 a0_4 a0_5 a0_6 a0_7).bind fun bt341 => ((laws_toPlan.f kj120 a1_0 l1_1).bind fun bt355 => ((laws_toPlan.f kj120 a2_0 l2_1).bind fun bt359 => ((impl_MovedBlocks.f kj120 bt341.1 bt341.2.1 bt341.2.2.1 bt341.2.2.2.1 bt341.2.2.2.2.1 bt341.2.2.2.2.2.1 bt341.2.2.2.2.2.2.1 bt341.2.2.2.2.2.2.2 bt355.1 bt355.2 bt359.1 bt359.2).bind fun bt363 => ((laws_eqIntS.f kj120 bt363.1 t273).bind fun t367 => (if t367 = true then (laws_FnExactMovedBlocks.j2 kj120 t339 t338 (bt363.2 != t276)) else (laws_FnExactMovedBlocks.j2 kj120 t339 t338 true))))))) else (none))) = some r := H
                          have A163 := Aside0.mk A1630
                          clear A1630
                          by_cases c164 : t340 < 0
                          · rw [if_pos c164] at H
                            exact absurd H (by simp)
                          · rw [if_neg c164] at H
                            have c164b0 : decide (t340 < 0) = false := decide_eq_false c164
                            clear c164
                            by_cases c165 : t340 = t338
                            · rw [if_pos c165] at H
                              have c165b0 : (t340 == t338) = true := beq_iff_eq.mpr c165
                              have c165b1 : (t340 != t338) = false := bne_eq_false_iff_eq.mpr c165
                              clear c165
                              replace H := Option.bind_eq_some_iff.mp H
                              obtain ⟨⟨t341, t344, t347, t350, t351, t352, t353, t354⟩, A1660, H⟩ := H
                              replace H : ((laws_toPlan.f kj120 a1_0 l1_1).bind fun bt355 => ((laws_toPlan.f kj120 a2_0 l2_1).bind fun bt359 => ((impl_MovedBlocks.f kj120 t341 t344 t347 t350 t351 t352 t353 t354 bt355.1 bt355.2 bt359.1 bt359.2).bind fun bt363 => ((laws_eqIntS.f kj120 bt363.1 t273).bind fun t367 => (if t367 = true then (laws_FnExactMovedBlocks.j2 kj120 t339 t338 (bt363.2 != t276)) else (laws_FnExactMovedBlocks.j2 kj120 t339 t338 true)))))) = some r := H
                              have A166 := Aside0.mk A1660
                              clear A1660
                              replace H := Option.bind_eq_some_iff.mp H
                              obtain ⟨⟨t355, t356⟩, A1670, H⟩ := H
                              replace H : ((laws_toPlan.f kj120 a2_0 l2_1).bind fun bt359 => ((impl_MovedBlocks.f kj120 t341 t344 t347 t350 t351 t352 t353 t354 t355 t356 bt359.1 bt359.2).bind fun bt363 => ((laws_eqIntS.f kj120 bt363.1 t273).bind fun t367 => (if t367 = true then (laws_FnExactMovedBlocks.j2 kj120 t339 t338 (bt363.2 != t276)) else (laws_FnExactMovedBlocks.j2 kj120 t339 t338 true))))) = some r := H
                              have A167 := Aside0.mk A1670
                              clear A1670
                              replace H := Option.bind_eq_some_iff.mp H
                              obtain ⟨⟨t359, t360⟩, A1680, H⟩ := H
                              replace H : ((impl_MovedBlocks.f kj120 t341 t344 t347 t350 t351 t352 t353 t354 t355 t356 t359 t360).bind fun bt363 => ((laws_eqIntS.f kj120 bt363.1 t273).bind fun t367 => (if t367 = true then (laws_FnExactMovedBlocks.j2 kj120 t339 t338 (bt363.2 != t276)) else (laws_FnExactMovedBlocks.j2 kj120 t339 t338 true)))) = some r := H
                              have A168 := Aside0.mk A1680
                              clear A1680
                              replace H := Option.bind_eq_some_iff.mp H
                              obtain ⟨⟨t363, t366⟩, A1690, H⟩ := H
                              replace H : ((laws_eqIntS.f kj120 t363 t273).bind fun t367 => (if t367 = true then (laws_FnExactMovedBlocks.j2 kj120 t339 t338 (t366 != t276)) else (laws_FnExactMovedBlocks.j2 kj120 t339 t338 true))) = some r := H
                              have A169 := Aside0.mk A1690
                              clear A1690
                              have HC170 := Aside0.mk H
                              clear H
                              obtain ⟨Ao171, co171, eo171⟩ := Kd.R_slice HO_13.out
                              subst eo171
                              try go_wp2_with (first | ((with_reducible refine gate_callee (f := 39) rfl ?_); refine gL (some 106) Try.func39 #[.slice Ao171 t302.length co171, .int .i64 1] ?_; (with_reducible refine (laws_markIntS.calls kj120 (fun k_ => some k_ = (.slice Ao171 t302.length co171 : Value).ownBlock) (.slice Ao171 t302.length co171) t302 1 t338 t339 w _ ?side1 ?side2 A162.out).mono ?_); (case side1 => repeat (first | (with_reducible first | exact HB.out | apply below_alloc | apply pw_below_drewN | apply below_drew1 | refine below_set ?_ GE245.out | refine below_set ?_ GE246.out | refine below_set ?_ GE247.out | refine below_set ?_ GE296.out | refine below_set ?_ GE301.out) | exact HB.out)); (case side2 => exact Kd.R_tight rfl HO_13.out); rintro e w172 ⟨rfl, hy0, hb, hkp⟩; refine ⟨_, rfl, ?_⟩; have n0_ := AZ (Kd.R_mono (ok' := fun k_ => some k_ ≠ (.slice Ao171 t302.length co171 : Value).ownBlock ∧ some k_ ≠ (.slice Ao88 t334.length co88 : Value).ownBlock ∧ some k_ ≠ (.slice Ao98 t336.length co98 : Value).ownBlock) (Kd.R_keptB (HO_8.out) hkp (fun k_ hk_ hs_ => (hk_.1) hs_)) (fun k_ hk_ => ⟨hk_.1.1, hk_.1.2.1, hk_.1.2.2⟩)); have n1_ := AZ (Kd.R_reok rfl hy0 (fun k_ e_ => HO_13.out.1 k_ e_)); have n2_ := AZ (Kd.R_mono (ok' := fun k_ => some k_ ≠ (v274 : Value).ownBlock ∧ some k_ ≠ (.slice Ao171 t302.length co171 : Value).ownBlock ∧ some k_ ≠ (.slice Ao98 t336.length co98 : Value).ownBlock) (Kd.R_keptB (HO_297001.out) hkp (fun k_ hk_ hs_ => (hk_.2.1) hs_)) (fun k_ hk_ => ⟨hk_.1.1, hk_.1.2.1, hk_.1.2.2⟩)); have n3_ := AZ (Kd.R_mono (ok' := fun k_ => some k_ ≠ (v274 : Value).ownBlock ∧ some k_ ≠ (.slice Ao171 t302.length co171 : Value).ownBlock ∧ some k_ ≠ (.slice Ao88 t334.length co88 : Value).ownBlock) (Kd.R_keptB (HO_302001.out) hkp (fun k_ hk_ hs_ => (hk_.2.1) hs_)) (fun k_ hk_ => ⟨hk_.1.1, hk_.1.2.1, hk_.1.2.2⟩)); have n4_ := AZ (blk_kept (blkS BK245.out) hkp (fun hs_ => (fun e_ => (Kd.R_ne HO_13.out BK245.out (by decide)) e_) hs_)); have n5_ := AZ (blk_kept (blkS BK246.out) hkp (fun hs_ => (fun e_ => (Kd.R_ne HO_13.out BK246.out (by decide)) e_) hs_)); have n6_ := AZ (blk_kept (blkS BK247.out) hkp (fun hs_ => (fun e_ => (Kd.R_ne HO_13.out BK247.out (by decide)) e_) hs_)); have n7_ := AZ (blk_kept (blkS BK296.out) hkp (fun hs_ => (fun e_ => (Kd.R_ne HO_13.out BK296.out (by decide)) e_) hs_)); have n8_ := AZ (blk_kept (blkS BK301.out) hkp (fun hs_ => (fun e_ => (Kd.R_ne HO_13.out BK301.out (by decide)) e_) hs_)); have n9_ := AZ (hb); clear HO_8; clear HO_13; clear HO_297001; clear HO_302001; clear BK245; clear BK246; clear BK247; clear BK296; clear BK301; clear HB; have HO_8 := n0_; have HO_13 := n1_; have HO_297001 := n2_; have HO_302001 := n3_; have BK245 := n4_; have BK246 := n5_; have BK247 := n6_; have BK296 := n7_; have BK301 := n8_; have HB := n9_; clear n0_ n1_ n2_ n3_ n4_ n5_ n6_ n7_ n8_ n9_; (try clear hb); (try clear hkp); (try clear hy0)) | ((with_reducible refine gate_callee (f := 40) rfl ?_); refine goesL_ (some 109) rfl rfl Try.func40 (by kernel_rfl) rfl #[.slice Ao171 t339.length co171, .int .i64 1] rfl (by (try simp only [List.map_toArray, List.map_cons, List.map_nil]); first | done | (rw [show t339.length = t302.length from (Kd.R_reads' HO_13.out).1.symm] <;> rfl) | rfl | (simp only [List.length_drop, List.length_take]; rfl)) ?_; (with_reducible refine (laws_heldIntS.calls kj120 _ _ t339 1 t340 _ ?side1 ?side2 A163.out).mono ?_); (case side1 => exact cS (Kd.R_reads' HO_13.out).2.2); (case side2 => rw [show t339.length = t302.length from (Kd.R_reads' HO_13.out).1.symm]; exact (Kd.R_reads' HO_13.out).2.1); rintro e w' ⟨rfl, ⟨nd, rfl⟩⟩; refine ⟨_, rfl, ?_⟩))
                              (try (rw [drewN_self w172]; generalize hq_ : World.drewN w172 _ = w172; have n0_ : Aside0 (Kd.R (Kd.int .i64) 3 w172 w.heap.size (fun k_ => (some k_ ≠ (v274 : Value).ownBlock ∧ (some k_ ≠ (.slice Ao88 t334.length co88 : Value).ownBlock ∧ some k_ ≠ (.slice Ao98 t336.length co98 : Value).ownBlock))) (.slice Ao171 t302.length co171) t339) := ⟨by rw [← hq_]; exact (rS HO_13.out)⟩; have n1_ : Aside0 (Kd.R (Kd.int .i64) 3 w172 w.heap.size (fun k_ => (some k_ ≠ (v274 : Value).ownBlock ∧ (some k_ ≠ (.slice Ao171 t302.length co171 : Value).ownBlock ∧ some k_ ≠ (.slice Ao98 t336.length co98 : Value).ownBlock))) (.slice Ao88 t334.length co88) t334) := ⟨by rw [← hq_]; exact (rS HO_297001.out)⟩; have n2_ : Aside0 (Kd.R (Kd.int .i64) 3 w172 w.heap.size (fun k_ => (some k_ ≠ (v274 : Value).ownBlock ∧ (some k_ ≠ (.slice Ao171 t302.length co171 : Value).ownBlock ∧ some k_ ≠ (.slice Ao88 t334.length co88 : Value).ownBlock))) (.slice Ao98 t336.length co98) t336) := ⟨by rw [← hq_]; exact (rS HO_302001.out)⟩; have n3_ : Aside0 (Kd.R (Kd.int .i64) 3 w172 w.heap.size (fun k_ => some k_ ≠ (.slice Ao171 t302.length co171 : Value).ownBlock ∧ some k_ ≠ (.slice Ao88 t334.length co88 : Value).ownBlock ∧ some k_ ≠ (.slice Ao98 t336.length co98 : Value).ownBlock) v274 t273) := ⟨by rw [← hq_]; exact (rS HO_8.out)⟩; have n4_ : Aside0 (w172.heap[gb245]? = some (.cells #[.slice A0_0 l0_0.length c0_0, .slice A0_1 l0_1.length c0_1, .slice A0_2 l0_2.length c0_2, .int .i64 a0_3, .int .i64 a0_4, .int .i64 a0_5, .int .i64 a0_6, .int .i64 a0_7] 27 (0, 0))) := ⟨by rw [← hq_]; exact (blkS BK245.out)⟩; have n5_ : Aside0 (w172.heap[gb246]? = some (.cells #[.int .i64 a1_0, .slice A1_1 l1_1.length c1_1] 29 (0, 0))) := ⟨by rw [← hq_]; exact (blkS BK246.out)⟩; have n6_ : Aside0 (w172.heap[gb247]? = some (.cells #[.int .i64 a2_0, .slice A2_1 l2_1.length c2_1] 29 (0, 0))) := ⟨by rw [← hq_]; exact (blkS BK247.out)⟩; have n7_ : Aside0 (w172.heap[gb296]? = some (.cells #[.int .i64 t292, .slice Ao88 t334.length co88] 38 (0, 0))) := ⟨by rw [← hq_]; exact (blkS BK296.out)⟩; have n8_ : Aside0 (w172.heap[gb301]? = some (.cells #[.int .i64 t297, .slice Ao98 t336.length co98] 38 (0, 0))) := ⟨by rw [← hq_]; exact (blkS BK301.out)⟩; have n9_ : Aside0 (Below w.heap.size w w172) := ⟨by rw [← hq_]; exact (bS HB.out)⟩; clear HO_13 HO_297001 HO_302001 HO_8 BK245 BK246 BK247 BK296 BK301 HB hq_; have HO_13 := n0_; have HO_297001 := n1_; have HO_302001 := n2_; have HO_8 := n3_; have BK245 := n4_; have BK246 := n5_; have BK247 := n6_; have BK296 := n7_; have BK301 := n8_; have HB := n9_; clear n0_ n1_ n2_ n3_ n4_ n5_ n6_ n7_ n8_ n9_))
                              have n0_ := AZ (Kd.R_drew HO_8.out)
                              have n1_ := AZ (Kd.R_drew HO_13.out)
                              have n2_ := AZ (Kd.R_drew HO_297001.out)
                              have n3_ := AZ (Kd.R_drew HO_302001.out)
                              have n4_ := AZ (blk_drew BK245.out)
                              have n5_ := AZ (blk_drew BK246.out)
                              have n6_ := AZ (blk_drew BK247.out)
                              have n7_ := AZ (blk_drew BK296.out)
                              have n8_ := AZ (blk_drew BK301.out)
                              have n9_ := AZ (below_drew1 HB.out)
                              clear HO_8
                              clear HO_13
                              clear HO_297001
                              clear HO_302001
                              clear BK245
                              clear BK246
                              clear BK247
                              clear BK296
                              clear BK301
                              clear HB
                              have HO_8 := n0_
                              have HO_13 := n1_
                              have HO_297001 := n2_
                              have HO_302001 := n3_
                              have BK245 := n4_
                              have BK246 := n5_
                              have BK247 := n6_
                              have BK296 := n7_
                              have BK301 := n8_
                              have HB := n9_
                              clear n0_ n1_ n2_ n3_ n4_ n5_ n6_ n7_ n8_ n9_
                              refine start_ (n := 12) (S := fun w' => w'.cell? ⟨gb245, 0, none⟩ = some (.slice A0_0 l0_0.length c0_0) ∧ w'.cell? ⟨gb245, 1, none⟩ = some (.slice A0_1 l0_1.length c0_1) ∧ w'.cell? ⟨gb245, 2, none⟩ = some (.slice A0_2 l0_2.length c0_2) ∧ w'.cell? ⟨gb245, 3, none⟩ = some (.int .i64 a0_3) ∧ w'.cell? ⟨gb245, 4, none⟩ = some (.int .i64 a0_4) ∧ w'.cell? ⟨gb245, 5, none⟩ = some (.int .i64 a0_5) ∧ w'.cell? ⟨gb245, 6, none⟩ = some (.int .i64 a0_6) ∧ w'.cell? ⟨gb245, 7, none⟩ = some (.int .i64 a0_7) ∧ w'.cell? ⟨gb246, 0, none⟩ = some (.int .i64 a1_0) ∧ w'.cell? ⟨gb246, 1, none⟩ = some (.slice A1_1 l1_1.length c1_1) ∧ w'.cell? ⟨gb247, 0, none⟩ = some (.int .i64 a2_0) ∧ w'.cell? ⟨gb247, 1, none⟩ = some (.slice A2_1 l2_1.length c2_1)) (ds := []) #[false, false, false, false, false, false, false, false, false, false, false, false] (by kernel_rfl) rfl rfl ⟨(blk_cell BK245.out 0).trans rfl, (blk_cell BK245.out 1).trans rfl, (blk_cell BK245.out 2).trans rfl, (blk_cell BK245.out 3).trans rfl, (blk_cell BK245.out 4).trans rfl, (blk_cell BK245.out 5).trans rfl, (blk_cell BK245.out 6).trans rfl, (blk_cell BK245.out 7).trans rfl, (blk_cell BK246.out 0).trans rfl, (blk_cell BK246.out 1).trans rfl, (blk_cell BK247.out 0).trans rfl, (blk_cell BK247.out 1).trans rfl⟩ (fun hHeld => ?_); refine with_tabW laws_FnExactMovedBlocks.tab38 laws_FnExactMovedBlocks.bits38 (fun HT_ HW_ => ?_)
                              generalize w172.drew = w173 at HO_8 HO_13 HO_297001 HO_302001 BK245 BK246 BK247 BK296 BK301 HB hHeld ⊢
                              refine take_ (i := 0) (N := some 116) (v := ?_) (a' := ?_) #[true, false, false, false, false, false, false, false, false, false, false, false] rfl rfl (take_ofW HT_.out HW_.out (by kernel_rfl)) (fun _ _ _ h => h) (Or.inl ⟨by rfl, ?_⟩) hHeld ?_ ?_
                              rotate_left
                              · rintro w' ⟨s0, s1, s2, s3, s4, s5, s6, s7, s8, s9, s10, s11⟩
                                go_simp
                                with_reducible rfl
                              rotate_left
                              · simp only [Act.put, List.setIfInBounds_toArray, List.set_cons_zero, List.set_cons_succ, i64_w, i32_w]
                                rfl
                              refine take_ (i := 2) (N := some 118) (v := ?_) (a' := ?_) #[true, false, true, false, false, false, false, false, false, false, false, false] rfl rfl (take_ofW HT_.out HW_.out (by kernel_rfl)) (fun _ _ _ h => h) (Or.inl ⟨by rfl, ?_⟩) hHeld ?_ ?_
                              rotate_left
                              · rintro w' ⟨s0, s1, s2, s3, s4, s5, s6, s7, s8, s9, s10, s11⟩
                                go_simp
                                with_reducible rfl
                              rotate_left
                              · simp only [Act.put, List.setIfInBounds_toArray, List.set_cons_zero, List.set_cons_succ, i64_w, i32_w]
                                rfl
                              refine take_ (i := 4) (N := some 120) (v := ?_) (a' := ?_) #[true, false, true, false, true, false, false, false, false, false, false, false] rfl rfl (take_ofW HT_.out HW_.out (by kernel_rfl)) (fun _ _ _ h => h) (Or.inl ⟨by rfl, ?_⟩) hHeld ?_ ?_
                              rotate_left
                              · rintro w' ⟨s0, s1, s2, s3, s4, s5, s6, s7, s8, s9, s10, s11⟩
                                go_simp
                                with_reducible rfl
                              rotate_left
                              · simp only [Act.put, List.setIfInBounds_toArray, List.set_cons_zero, List.set_cons_succ, i64_w, i32_w]
                                rfl
                              refine one_ (i := 1) (N := some 117) #[true, true, true, false, true, false, false, false, false, false, false, false] rfl rfl (one_of HT_.out (by kernel_rfl)) (by decide) (fun K hK => ?_)
                              refine goes_ Try.func17 (by kernel_rfl) rfl #[.agg #[.slice A0_0 l0_0.length c0_0, .slice A0_1 l0_1.length c0_1, .slice A0_2 l0_2.length c0_2, .int .i64 a0_3, .int .i64 a0_4, .int .i64 a0_5, .int .i64 a0_6, .int .i64 a0_7]] (by rfl) rfl rfl (by (try simp only [List.map_toArray, List.map_cons, List.map_nil]); first | done | rfl | (simp only [List.length_drop, List.length_take]; rfl)) ?_
                              with_reducible refine (laws_toJob.calls kj120 _ _ l0_0 _ _ l0_1 _ _ l0_2 a0_3 a0_4 a0_5 a0_6 a0_7 t341 t344 t347 t350 t351 t352 t353 t354 _ ?side1 ?side2 ?side3 ?side4 ?side5 ?side6 A166.out).mono ?_
                              (case side1 => exact cS (Kd.C_below HR0_0.out HB.out))
                              (case side2 => exact HC0_0.out)
                              (case side3 => exact cS (Kd.C_below HR0_1.out HB.out))
                              (case side4 => exact HC0_1.out)
                              (case side5 => exact cS (Kd.C_below HR0_2.out HB.out))
                              (case side6 => exact HC0_2.out)
                              rintro e w174 ⟨v342, v345, v348, rfl, ho0, ho1, ho2, hb⟩
                              refine ⟨_, rfl, ?_⟩
                              have n0_ := AZ (Kd.R_mono (Kd.R_told (Kd.R_told (Kd.R_old (rS HO_8.out) hb) (Kd.R_base ho1)) (Kd.R_base ho2)) (fun _ h_ => h_.1))
                              have n1_ := AZ (Kd.R_mono (Kd.R_told (Kd.R_told (Kd.R_old (rS HO_13.out) hb) (Kd.R_base ho1)) (Kd.R_base ho2)) (fun _ h_ => h_.1))
                              have n2_ := AZ (Kd.R_mono (Kd.R_told (Kd.R_told (Kd.R_old (rS HO_297001.out) hb) (Kd.R_base ho1)) (Kd.R_base ho2)) (fun _ h_ => h_.1))
                              have n3_ := AZ (Kd.R_mono (Kd.R_told (Kd.R_told (Kd.R_old (rS HO_302001.out) hb) (Kd.R_base ho1)) (Kd.R_base ho2)) (fun _ h_ => h_.1))
                              have n4_ := AZ (Kd.S_lower (Kd.S_new' (Kd.S_new' (Kd.S_new' (Kd.S_new' ho0 (Kd.R_lt (rS HO_8.out))) (Kd.R_lt (rS HO_13.out))) (Kd.R_lt (rS HO_297001.out))) (Kd.R_lt (rS HO_302001.out))) (below_size (bS HB.out)))
                              have n5_ := AZ (Kd.R_lower (Kd.R_new' (Kd.R_new' (Kd.R_new' (Kd.R_new' ho1 (Kd.R_lt (rS HO_8.out))) (Kd.R_lt (rS HO_13.out))) (Kd.R_lt (rS HO_297001.out))) (Kd.R_lt (rS HO_302001.out))) (below_size (bS HB.out)))
                              have n6_ := AZ (Kd.R_lower (Kd.R_new' (Kd.R_new' (Kd.R_new' (Kd.R_new' ho2 (Kd.R_lt (rS HO_8.out))) (Kd.R_lt (rS HO_13.out))) (Kd.R_lt (rS HO_297001.out))) (Kd.R_lt (rS HO_302001.out))) (below_size (bS HB.out)))
                              have n7_ := blkA BK245 hb
                              have n8_ := blkA BK246 hb
                              have n9_ := blkA BK247 hb
                              have n10_ := blkA BK296 hb
                              have n11_ := blkA BK301 hb
                              have n12_ := AZ (below_step (bS HB.out) hb)
                              clear HO_8
                              clear HO_13
                              clear HO_297001
                              clear HO_302001
                              clear BK245
                              clear BK246
                              clear BK247
                              clear BK296
                              clear BK301
                              clear HB
                              have HO_8 := n0_
                              have HO_13 := n1_
                              have HO_297001 := n2_
                              have HO_302001 := n3_
                              have HO343 := n4_
                              have HO346 := n5_
                              have HO349 := n6_
                              have BK245 := n7_
                              have BK246 := n8_
                              have BK247 := n9_
                              have BK296 := n10_
                              have BK301 := n11_
                              have HB := n12_
                              clear n0_ n1_ n2_ n3_ n4_ n5_ n6_ n7_ n8_ n9_ n10_ n11_ n12_
                              (try clear hb)
                              (try clear hb2)
                              (try clear hk)
                              (try clear hi)
                              (try clear ho0)
                              (try clear ho1)
                              (try clear ho2)
                              refine hK.out _ _ ⟨(blk_cell BK245.out 0).trans rfl, (blk_cell BK245.out 1).trans rfl, (blk_cell BK245.out 2).trans rfl, (blk_cell BK245.out 3).trans rfl, (blk_cell BK245.out 4).trans rfl, (blk_cell BK245.out 5).trans rfl, (blk_cell BK245.out 6).trans rfl, (blk_cell BK245.out 7).trans rfl, (blk_cell BK246.out 0).trans rfl, (blk_cell BK246.out 1).trans rfl, (blk_cell BK247.out 0).trans rfl, (blk_cell BK247.out 1).trans rfl⟩ (fun hHeld => ?_)
                              clear hK K
                              refine norm_ (a' := ?_) ?_ ?_
                              rotate_left
                              · show Act.put _ (some 117) _ = _
                                simp only [Act.put, List.setIfInBounds_toArray, List.set_cons_zero, List.set_cons_succ, i64_w, i32_w]
                                rfl
                              refine one_ (i := 3) (N := some 119) #[true, true, true, true, true, false, false, false, false, false, false, false] rfl rfl (one_of HT_.out (by kernel_rfl)) (by decide) (fun K hK => ?_)
                              refine goes_ Try.func18 (by kernel_rfl) rfl #[.agg #[.int .i64 a1_0, .slice A1_1 l1_1.length c1_1]] (by rfl) rfl rfl (by (try simp only [List.map_toArray, List.map_cons, List.map_nil]); first | done | rfl | (simp only [List.length_drop, List.length_take]; rfl)) ?_
                              with_reducible refine (laws_toPlan.calls kj120 a1_0 _ _ l1_1 t355 t356 _ ?side1 ?side2 A167.out).mono ?_
                              (case side1 => exact cS (Kd.C_below HR1_1.out HB.out))
                              (case side2 => exact HC1_1.out)
                              rintro e w175 ⟨v357, rfl, ho0, hb⟩
                              refine ⟨_, rfl, ?_⟩
                              have n0_ := AZ (Kd.R_elder' (rS HO_8.out) (Kd.R_base ho0) hb)
                              have n1_ := AZ (Kd.R_elder' (rS HO_13.out) (Kd.R_base ho0) hb)
                              have n2_ := AZ (Kd.R_elder' (rS HO_297001.out) (Kd.R_base ho0) hb)
                              have n3_ := AZ (Kd.R_elder' (rS HO_302001.out) (Kd.R_base ho0) hb)
                              have n4_ := AZ (Kd.S_elder' (sS HO343.out) (Kd.R_base ho0) hb)
                              have n5_ := AZ (Kd.R_elder' (rS HO346.out) (Kd.R_base ho0) hb)
                              have n6_ := AZ (Kd.R_elder' (rS HO349.out) (Kd.R_base ho0) hb)
                              have n7_ := AZ (Kd.R_lower (Kd.R_new' (Kd.R_new' (Kd.R_new' (Kd.R_new' (Kd.R_new' (Kd.R_new' ho0 (Kd.R_lt (rS HO_8.out))) (Kd.R_lt (rS HO_13.out))) (Kd.R_lt (rS HO_297001.out))) (Kd.R_lt (rS HO_302001.out))) (Kd.R_lt (rS HO346.out))) (Kd.R_lt (rS HO349.out))) (below_size (bS HB.out)))
                              have n8_ := blkA BK245 hb
                              have n9_ := blkA BK246 hb
                              have n10_ := blkA BK247 hb
                              have n11_ := blkA BK296 hb
                              have n12_ := blkA BK301 hb
                              have n13_ := AZ (below_step (bS HB.out) hb)
                              clear HO_8
                              clear HO_13
                              clear HO_297001
                              clear HO_302001
                              clear HO343
                              clear HO346
                              clear HO349
                              clear BK245
                              clear BK246
                              clear BK247
                              clear BK296
                              clear BK301
                              clear HB
                              have HO_8 := n0_
                              have HO_13 := n1_
                              have HO_297001 := n2_
                              have HO_302001 := n3_
                              have HO343 := n4_
                              have HO346 := n5_
                              have HO349 := n6_
                              have HO358 := n7_
                              have BK245 := n8_
                              have BK246 := n9_
                              have BK247 := n10_
                              have BK296 := n11_
                              have BK301 := n12_
                              have HB := n13_
                              clear n0_ n1_ n2_ n3_ n4_ n5_ n6_ n7_ n8_ n9_ n10_ n11_ n12_ n13_
                              (try clear hb)
                              (try clear hb2)
                              (try clear hk)
                              (try clear hi)
                              (try clear ho0)
                              refine hK.out _ _ ⟨(blk_cell BK245.out 0).trans rfl, (blk_cell BK245.out 1).trans rfl, (blk_cell BK245.out 2).trans rfl, (blk_cell BK245.out 3).trans rfl, (blk_cell BK245.out 4).trans rfl, (blk_cell BK245.out 5).trans rfl, (blk_cell BK245.out 6).trans rfl, (blk_cell BK245.out 7).trans rfl, (blk_cell BK246.out 0).trans rfl, (blk_cell BK246.out 1).trans rfl, (blk_cell BK247.out 0).trans rfl, (blk_cell BK247.out 1).trans rfl⟩ (fun hHeld => ?_)
                              clear hK K
                              refine norm_ (a' := ?_) ?_ ?_
                              rotate_left
                              · show Act.put _ (some 119) _ = _
                                simp only [Act.put, List.setIfInBounds_toArray, List.set_cons_zero, List.set_cons_succ, i64_w, i32_w]
                                rfl
                              refine one_ (i := 5) (N := some 121) #[true, true, true, true, true, true, false, false, false, false, false, false] rfl rfl (one_of HT_.out (by kernel_rfl)) (by decide) (fun K hK => ?_)
                              refine goes_ Try.func18 (by kernel_rfl) rfl #[.agg #[.int .i64 a2_0, .slice A2_1 l2_1.length c2_1]] (by rfl) rfl rfl (by (try simp only [List.map_toArray, List.map_cons, List.map_nil]); first | done | rfl | (simp only [List.length_drop, List.length_take]; rfl)) ?_
                              with_reducible refine (laws_toPlan.calls kj120 a2_0 _ _ l2_1 t359 t360 _ ?side1 ?side2 A168.out).mono ?_
                              (case side1 => exact cS (Kd.C_below HR2_1.out HB.out))
                              (case side2 => exact HC2_1.out)
                              rintro e w176 ⟨v361, rfl, ho0, hb⟩
                              refine ⟨_, rfl, ?_⟩
                              have n0_ := AZ (Kd.R_elder' (rS HO_8.out) (Kd.R_base ho0) hb)
                              have n1_ := AZ (Kd.R_elder' (rS HO_13.out) (Kd.R_base ho0) hb)
                              have n2_ := AZ (Kd.R_elder' (rS HO_297001.out) (Kd.R_base ho0) hb)
                              have n3_ := AZ (Kd.R_elder' (rS HO_302001.out) (Kd.R_base ho0) hb)
                              have n4_ := AZ (Kd.S_elder' (sS HO343.out) (Kd.R_base ho0) hb)
                              have n5_ := AZ (Kd.R_elder' (rS HO346.out) (Kd.R_base ho0) hb)
                              have n6_ := AZ (Kd.R_elder' (rS HO349.out) (Kd.R_base ho0) hb)
                              have n7_ := AZ (Kd.R_elder' (rS HO358.out) (Kd.R_base ho0) hb)
                              have n8_ := AZ (Kd.R_lower (Kd.R_new' (Kd.R_new' (Kd.R_new' (Kd.R_new' (Kd.R_new' (Kd.R_new' (Kd.R_new' ho0 (Kd.R_lt (rS HO_8.out))) (Kd.R_lt (rS HO_13.out))) (Kd.R_lt (rS HO_297001.out))) (Kd.R_lt (rS HO_302001.out))) (Kd.R_lt (rS HO346.out))) (Kd.R_lt (rS HO349.out))) (Kd.R_lt (rS HO358.out))) (below_size (bS HB.out)))
                              have n9_ := blkA BK245 hb
                              have n10_ := blkA BK246 hb
                              have n11_ := blkA BK247 hb
                              have n12_ := blkA BK296 hb
                              have n13_ := blkA BK301 hb
                              have n14_ := AZ (below_step (bS HB.out) hb)
                              clear HO_8
                              clear HO_13
                              clear HO_297001
                              clear HO_302001
                              clear HO343
                              clear HO346
                              clear HO349
                              clear HO358
                              clear BK245
                              clear BK246
                              clear BK247
                              clear BK296
                              clear BK301
                              clear HB
                              have HO_8 := n0_
                              have HO_13 := n1_
                              have HO_297001 := n2_
                              have HO_302001 := n3_
                              have HO343 := n4_
                              have HO346 := n5_
                              have HO349 := n6_
                              have HO358 := n7_
                              have HO362 := n8_
                              have BK245 := n9_
                              have BK246 := n10_
                              have BK247 := n11_
                              have BK296 := n12_
                              have BK301 := n13_
                              have HB := n14_
                              clear n0_ n1_ n2_ n3_ n4_ n5_ n6_ n7_ n8_ n9_ n10_ n11_ n12_ n13_ n14_
                              (try clear hb)
                              (try clear hb2)
                              (try clear hk)
                              (try clear hi)
                              (try clear ho0)
                              obtain ⟨Ao177, co177, eo177⟩ := Kd.S_slice HO343.out
                              (first | subst eo177 | (injection eo177 with f1_ f2_ f3_; have f4_ := f1_.symm; have f5_ := f3_.symm; clear f1_ f2_ f3_; subst f4_; subst f5_))
                              obtain ⟨Ao178, co178, eo178⟩ := Kd.R_slice HO346.out
                              (first | subst eo178 | (injection eo178 with f1_ f2_ f3_; have f4_ := f1_.symm; have f5_ := f3_.symm; clear f1_ f2_ f3_; subst f4_; subst f5_))
                              obtain ⟨Ao179, co179, eo179⟩ := Kd.R_slice HO349.out
                              (first | subst eo179 | (injection eo179 with f1_ f2_ f3_; have f4_ := f1_.symm; have f5_ := f3_.symm; clear f1_ f2_ f3_; subst f4_; subst f5_))
                              obtain ⟨Ao180, co180, eo180⟩ := Kd.R_slice HO358.out
                              (first | subst eo180 | (injection eo180 with f1_ f2_ f3_; have f4_ := f1_.symm; have f5_ := f3_.symm; clear f1_ f2_ f3_; subst f4_; subst f5_))
                              obtain ⟨Ao181, co181, eo181⟩ := Kd.R_slice HO362.out
                              (first | subst eo181 | (injection eo181 with f1_ f2_ f3_; have f4_ := f1_.symm; have f5_ := f3_.symm; clear f1_ f2_ f3_; subst f4_; subst f5_))
                              refine hK.out _ _ ⟨(blk_cell BK245.out 0).trans rfl, (blk_cell BK245.out 1).trans rfl, (blk_cell BK245.out 2).trans rfl, (blk_cell BK245.out 3).trans rfl, (blk_cell BK245.out 4).trans rfl, (blk_cell BK245.out 5).trans rfl, (blk_cell BK245.out 6).trans rfl, (blk_cell BK245.out 7).trans rfl, (blk_cell BK246.out 0).trans rfl, (blk_cell BK246.out 1).trans rfl, (blk_cell BK247.out 0).trans rfl, (blk_cell BK247.out 1).trans rfl⟩ (fun hHeld => ?_)
                              clear hK K
                              refine norm_ (a' := ?_) ?_ ?_
                              rotate_left
                              · show Act.put _ (some 121) _ = _
                                simp only [Act.put, List.setIfInBounds_toArray, List.set_cons_zero, List.set_cons_succ, i64_w, i32_w]
                                rfl
                              refine one_ (i := 6) (N := some 122) #[true, true, true, true, true, true, true, false, false, false, false, false] rfl rfl (one_of HT_.out (by kernel_rfl)) (by decide) (fun K hK => ?_)
                              refine goes_ Try.func35 (by kernel_rfl) rfl #[.agg #[.slice Ao177 t341.length co177, .slice Ao178 t344.length co178, .slice Ao179 t347.length co179, .int .i64 t350, .int .i64 t351, .int .i64 t352, .int .i64 t353, .int .i64 t354], .agg #[.int .i64 t355, .slice Ao180 t356.length co180], .agg #[.int .i64 t359, .slice Ao181 t360.length co181]] (by rfl) rfl rfl (by (try simp only [List.map_toArray, List.map_cons, List.map_nil]); first | done | rfl | (simp only [List.length_drop, List.length_take]; rfl)) ?_
                              with_reducible refine (impl_MovedBlocks.calls kj120 _ _ t341 _ _ t344 _ _ t347 t350 t351 t352 t353 t354 t355 _ _ t356 t359 _ _ t360 t363 t366 _ ?side1 ?side2 ?side3 ?side4 ?side5 ?side6 ?side7 ?side8 ?side9 ?side10 A169.out).mono ?_
                              (case side1 => exact cS (Kd.S_reads' HO343.out).2.2)
                              (case side2 => exact (Kd.S_reads' HO343.out).2.1)
                              (case side3 => exact cS (Kd.R_reads' HO346.out).2.2)
                              (case side4 => exact (Kd.R_reads' HO346.out).2.1)
                              (case side5 => exact cS (Kd.R_reads' HO349.out).2.2)
                              (case side6 => exact (Kd.R_reads' HO349.out).2.1)
                              (case side7 => exact cS (Kd.R_reads' HO358.out).2.2)
                              (case side8 => exact (Kd.R_reads' HO358.out).2.1)
                              (case side9 => exact cS (Kd.R_reads' HO362.out).2.2)
                              (case side10 => exact (Kd.R_reads' HO362.out).2.1)
                              rintro e w182 ⟨v364, rfl, ho0, hb⟩
                              refine ⟨_, rfl, ?_⟩
                              have n0_ := AZ (Kd.R_elder' (rS HO_8.out) (Kd.R_base ho0) hb)
                              have n1_ := AZ (Kd.R_elder' (rS HO_13.out) (Kd.R_base ho0) hb)
                              have n2_ := AZ (Kd.R_elder' (rS HO_297001.out) (Kd.R_base ho0) hb)
                              have n3_ := AZ (Kd.R_elder' (rS HO_302001.out) (Kd.R_base ho0) hb)
                              have n4_ := AZ (Kd.S_elder' (sS HO343.out) (Kd.R_base ho0) hb)
                              have n5_ := AZ (Kd.R_elder' (rS HO346.out) (Kd.R_base ho0) hb)
                              have n6_ := AZ (Kd.R_elder' (rS HO349.out) (Kd.R_base ho0) hb)
                              have n7_ := AZ (Kd.R_elder' (rS HO358.out) (Kd.R_base ho0) hb)
                              have n8_ := AZ (Kd.R_elder' (rS HO362.out) (Kd.R_base ho0) hb)
                              have n9_ := AZ (Kd.R_lower (Kd.R_new' (Kd.R_new' (Kd.R_new' (Kd.R_new' (Kd.R_new' (Kd.R_new' (Kd.R_new' (Kd.R_new' ho0 (Kd.R_lt (rS HO_8.out))) (Kd.R_lt (rS HO_13.out))) (Kd.R_lt (rS HO_297001.out))) (Kd.R_lt (rS HO_302001.out))) (Kd.R_lt (rS HO346.out))) (Kd.R_lt (rS HO349.out))) (Kd.R_lt (rS HO358.out))) (Kd.R_lt (rS HO362.out))) (below_size (bS HB.out)))
                              have n10_ := blkA BK245 hb
                              have n11_ := blkA BK246 hb
                              have n12_ := blkA BK247 hb
                              have n13_ := blkA BK296 hb
                              have n14_ := blkA BK301 hb
                              have n15_ := AZ (below_step (bS HB.out) hb)
                              clear HO_8
                              clear HO_13
                              clear HO_297001
                              clear HO_302001
                              clear HO343
                              clear HO346
                              clear HO349
                              clear HO358
                              clear HO362
                              clear BK245
                              clear BK246
                              clear BK247
                              clear BK296
                              clear BK301
                              clear HB
                              have HO_8 := n0_
                              have HO_13 := n1_
                              have HO_297001 := n2_
                              have HO_302001 := n3_
                              have HO343 := n4_
                              have HO346 := n5_
                              have HO349 := n6_
                              have HO358 := n7_
                              have HO362 := n8_
                              have HO365 := n9_
                              have BK245 := n10_
                              have BK246 := n11_
                              have BK247 := n12_
                              have BK296 := n13_
                              have BK301 := n14_
                              have HB := n15_
                              clear n0_ n1_ n2_ n3_ n4_ n5_ n6_ n7_ n8_ n9_ n10_ n11_ n12_ n13_ n14_ n15_
                              (try clear hb)
                              (try clear hb2)
                              (try clear hk)
                              (try clear hi)
                              (try clear ho0)
                              refine hK.out _ _ ⟨(blk_cell BK245.out 0).trans rfl, (blk_cell BK245.out 1).trans rfl, (blk_cell BK245.out 2).trans rfl, (blk_cell BK245.out 3).trans rfl, (blk_cell BK245.out 4).trans rfl, (blk_cell BK245.out 5).trans rfl, (blk_cell BK245.out 6).trans rfl, (blk_cell BK245.out 7).trans rfl, (blk_cell BK246.out 0).trans rfl, (blk_cell BK246.out 1).trans rfl, (blk_cell BK247.out 0).trans rfl, (blk_cell BK247.out 1).trans rfl⟩ (fun hHeld => ?_)
                              clear hK K
                              refine norm_ (a' := ?_) ?_ ?_
                              rotate_left
                              · show Act.put _ (some 122) _ = _
                                simp only [Act.put, List.setIfInBounds_toArray, List.set_cons_zero, List.set_cons_succ, i64_w, i32_w]
                                rfl
                              refine pure_ (i := 7) (N := some 115) (v := ?_) (a' := ?_) #[true, true, true, true, true, true, true, true, false, false, false, false] rfl rfl (any_of HT_.out (by kernel_rfl)) (fun _ _ _ h => h) (Or.inl ⟨by rfl, ?_⟩) ?_ ?_
                              rotate_left
                              · intro w'
                                go_simp
                                with_reducible rfl
                              rotate_left
                              · simp only [Act.put, List.setIfInBounds_toArray, List.set_cons_zero, List.set_cons_succ, i64_w, i32_w]
                                rfl
                              refine pure_ (i := 8) (N := some 123) (v := ?_) (a' := ?_) #[true, true, true, true, true, true, true, true, true, false, false, false] rfl rfl (any_of HT_.out (by kernel_rfl)) (fun _ _ _ h => h) (Or.inl ⟨by rfl, ?_⟩) ?_ ?_
                              rotate_left
                              · intro w'
                                go_simp
                                with_reducible rfl
                              rotate_left
                              · simp only [Act.put, List.setIfInBounds_toArray, List.set_cons_zero, List.set_cons_succ, i64_w, i32_w]
                                rfl
                              refine pure_ (i := 9) (N := some 124) (v := ?_) (a' := ?_) #[true, true, true, true, true, true, true, true, true, true, false, false] rfl rfl (any_of HT_.out (by kernel_rfl)) (fun _ _ _ h => h) (Or.inl ⟨by rfl, ?_⟩) ?_ ?_
                              rotate_left
                              · intro w'
                                go_simp
                                with_reducible rfl
                              rotate_left
                              · simp only [Act.put, List.setIfInBounds_toArray, List.set_cons_zero, List.set_cons_succ, i64_w, i32_w]
                                rfl
                              refine pure_ (i := 10) (N := some 18) (v := ?_) (a' := ?_) #[true, true, true, true, true, true, true, true, true, true, true, false] rfl rfl (any_of HT_.out (by kernel_rfl)) (fun _ _ _ h => h) (Or.inl ⟨by rfl, ?_⟩) ?_ ?_
                              rotate_left
                              · intro w'
                                go_simp
                                with_reducible rfl
                              rotate_left
                              · simp only [Act.put, List.setIfInBounds_toArray, List.set_cons_zero, List.set_cons_succ, i64_w, i32_w]
                                rfl
                              refine pure_ (i := 11) (N := some 19) (v := ?_) (a' := ?_) #[true, true, true, true, true, true, true, true, true, true, true, true] rfl rfl (any_of HT_.out (by kernel_rfl)) (fun _ _ _ h => h) (Or.inl ⟨by rfl, ?_⟩) ?_ ?_
                              rotate_left
                              · intro w'
                                go_simp
                                with_reducible rfl
                              rotate_left
                              · simp only [Act.put, List.setIfInBounds_toArray, List.set_cons_zero, List.set_cons_succ, i64_w, i32_w]
                                rfl
                              refine done_ (done_of HT_.out (by kernel_rfl)) ?_
                              go_upto_region 39 with (fail)
                              go_cut [133] (fun v133 wc => ∃ (kq : Nat) (x133_169 : Bool), v133 = .bool x133_169 ∧ Aside0 (laws_FnExactMovedBlocks.j2 kq t339 t338 x133_169 = some r) ∧ Aside0 (kq ≤ kj120) ∧ Aside0 (Kd.R (Kd.int .i64) 3 wc w.heap.size (fun k_ => some k_ ≠ ((.slice Ao88 t334.length co88) : Value).ownBlock ∧ some k_ ≠ ((.slice Ao98 t336.length co98) : Value).ownBlock) (.slice Ao171 t302.length co171) t339) ∧ Aside0 (Kd.R (Kd.int .i64) 3 wc w.heap.size (fun k_ => some k_ ≠ ((.slice Ao171 t302.length co171) : Value).ownBlock ∧ some k_ ≠ ((.slice Ao98 t336.length co98) : Value).ownBlock) (.slice Ao88 t334.length co88) t334) ∧ Aside0 (Kd.R (Kd.int .i64) 3 wc w.heap.size (fun k_ => some k_ ≠ ((.slice Ao171 t302.length co171) : Value).ownBlock ∧ some k_ ≠ ((.slice Ao88 t334.length co88) : Value).ownBlock) (.slice Ao98 t336.length co98) t336) ∧ Aside0 (wc.heap[gb245]? = some (.cells #[(.slice A0_0 l0_0.length c0_0), (.slice A0_1 l0_1.length c0_1), (.slice A0_2 l0_2.length c0_2), .int .i64 a0_3, .int .i64 a0_4, .int .i64 a0_5, .int .i64 a0_6, .int .i64 a0_7] 27 (0, 0))) ∧ Aside0 (wc.heap[gb246]? = some (.cells #[.int .i64 a1_0, (.slice A1_1 l1_1.length c1_1)] 29 (0, 0))) ∧ Aside0 (wc.heap[gb247]? = some (.cells #[.int .i64 a2_0, (.slice A2_1 l2_1.length c2_1)] 29 (0, 0))) ∧ Aside0 (wc.heap[gb296]? = some (.cells #[.int .i64 t292, (.slice Ao88 t334.length co88)] 38 (0, 0))) ∧ Aside0 (wc.heap[gb301]? = some (.cells #[.int .i64 t297, (.slice Ao98 t336.length co98)] 38 (0, 0))) ∧ Aside0 (Below w.heap.size w wc))
                              case first =>
                                have H := HC170.out
                                clear HC170
                                replace H := Option.bind_eq_some_iff.mp H
                                obtain ⟨t367, A1830, H⟩ := H
                                replace H : (if t367 = true then (laws_FnExactMovedBlocks.j2 kj120 t339 t338 (t366 != t276)) else (laws_FnExactMovedBlocks.j2 kj120 t339 t338 true)) = some r := H
                                have A183 := Aside0.mk A1830
                                clear A1830
                                by_cases c184 : t367 = true
                                · subst c184
                                  have H1 : (laws_FnExactMovedBlocks.j2 kj120 t339 t338 (t366 != t276)) = some r := by rw [if_pos rfl] at H; exact H
                                  clear H
                                  have H := H1
                                  clear H1
                                  have H' := Aside0.mk H
                                  clear H
                                  obtain ⟨Ao185, co185, eo185⟩ := Kd.R_slice HO365.out
                                  subst eo185
                                  obtain ⟨Ao186, co186, eo186⟩ := Kd.R_slice HO_8.out
                                  subst eo186
                                  go_wp2_with (first | ((with_reducible refine gate_callee (f := 36) rfl ?_); refine gL (some 127) Try.func36 #[.slice Ao185 t363.length co185, .slice Ao186 t273.length co186] ?_; (with_reducible refine (laws_eqIntS.calls kj120 _ _ t363 _ _ t273 true _ ?side1 ?side2 ?side3 ?side4 A183.out).mono ?_); (case side1 => exact cS (Kd.R_reads' HO365.out).2.2); (case side2 => exact (Kd.R_reads' HO365.out).2.1); (case side3 => exact cS (Kd.R_reads' HO_8.out).2.2); (case side4 => exact (Kd.R_reads' HO_8.out).2.1); rintro e w' ⟨rfl, ⟨nd, rfl⟩⟩; refine ⟨_, rfl, ?_⟩))
                                  go_meet
                                  case rel => exact ⟨_, ((t366 != t276)), (by first | rfl | (simp; done) | (simp [*]; done)), H', ⟨by have := HJ46.out; have := HJ120.out; first | omega | exact Nat.le_refl _⟩, ⟨by (try simp only [hl297001_120]); (try simp only [hl302001_120]); (with_reducible repeat (first | apply Kd.R_alloc | apply Kd.R_drewN | apply Kd.R_drew)); exact Kd.R_mono HO_13.out (fun _ hk => ⟨hk.1.1.1.1.1.2.1, hk.1.1.1.1.1.2.2⟩)⟩, ⟨by (try simp only [hl297001_120]); (try simp only [hl302001_120]); (with_reducible repeat (first | apply Kd.R_alloc | apply Kd.R_drewN | apply Kd.R_drew)); exact Kd.R_mono HO_297001.out (fun _ hk => ⟨hk.1.1.1.1.1.2.1, hk.1.1.1.1.1.2.2⟩)⟩, ⟨by (try simp only [hl297001_120]); (try simp only [hl302001_120]); (with_reducible repeat (first | apply Kd.R_alloc | apply Kd.R_drewN | apply Kd.R_drew)); exact Kd.R_mono HO_302001.out (fun _ hk => ⟨hk.1.1.1.1.1.2.1, hk.1.1.1.1.1.2.2⟩)⟩, ⟨by (try simp only [hl297001_120]); (try simp only [hl302001_120]); (with_reducible repeat (first | refine blk_drewN ?_ _ | refine blk_drew ?_ | refine blk_alloc ?_ _)); exact BK245.out⟩, ⟨by (try simp only [hl297001_120]); (try simp only [hl302001_120]); (with_reducible repeat (first | refine blk_drewN ?_ _ | refine blk_drew ?_ | refine blk_alloc ?_ _)); exact BK246.out⟩, ⟨by (try simp only [hl297001_120]); (try simp only [hl302001_120]); (with_reducible repeat (first | refine blk_drewN ?_ _ | refine blk_drew ?_ | refine blk_alloc ?_ _)); exact BK247.out⟩, ⟨by (try simp only [hl297001_120]); (try simp only [hl302001_120]); (with_reducible repeat (first | refine blk_drewN ?_ _ | refine blk_drew ?_ | refine blk_alloc ?_ _)); exact BK296.out⟩, ⟨by (try simp only [hl297001_120]); (try simp only [hl302001_120]); (with_reducible repeat (first | refine blk_drewN ?_ _ | refine blk_drew ?_ | refine blk_alloc ?_ _)); exact BK301.out⟩, ⟨bS HB.out⟩⟩
                                · replace c184 := Bool.eq_false_iff.mpr c184
                                  subst c184
                                  have H1 : (laws_FnExactMovedBlocks.j2 kj120 t339 t338 true) = some r := by rw [if_neg (show ¬ (false = true) by decide)] at H; exact H
                                  clear H
                                  have H := H1
                                  clear H1
                                  have H' := Aside0.mk H
                                  clear H
                                  obtain ⟨Ao187, co187, eo187⟩ := Kd.R_slice HO365.out
                                  subst eo187
                                  obtain ⟨Ao188, co188, eo188⟩ := Kd.R_slice HO_8.out
                                  subst eo188
                                  go_wp2_with (first | ((with_reducible refine gate_callee (f := 36) rfl ?_); refine gL (some 127) Try.func36 #[.slice Ao187 t363.length co187, .slice Ao188 t273.length co188] ?_; (with_reducible refine (laws_eqIntS.calls kj120 _ _ t363 _ _ t273 false _ ?side1 ?side2 ?side3 ?side4 A183.out).mono ?_); (case side1 => exact cS (Kd.R_reads' HO365.out).2.2); (case side2 => exact (Kd.R_reads' HO365.out).2.1); (case side3 => exact cS (Kd.R_reads' HO_8.out).2.2); (case side4 => exact (Kd.R_reads' HO_8.out).2.1); rintro e w' ⟨rfl, ⟨nd, rfl⟩⟩; refine ⟨_, rfl, ?_⟩))
                                  go_meet
                                  case rel => exact ⟨_, (true), (by first | rfl | (simp; done) | (simp [*]; done)), H', ⟨by have := HJ46.out; have := HJ120.out; first | omega | exact Nat.le_refl _⟩, ⟨by (try simp only [hl297001_120]); (try simp only [hl302001_120]); (with_reducible repeat (first | apply Kd.R_alloc | apply Kd.R_drewN | apply Kd.R_drew)); exact Kd.R_mono HO_13.out (fun _ hk => ⟨hk.1.1.1.1.1.2.1, hk.1.1.1.1.1.2.2⟩)⟩, ⟨by (try simp only [hl297001_120]); (try simp only [hl302001_120]); (with_reducible repeat (first | apply Kd.R_alloc | apply Kd.R_drewN | apply Kd.R_drew)); exact Kd.R_mono HO_297001.out (fun _ hk => ⟨hk.1.1.1.1.1.2.1, hk.1.1.1.1.1.2.2⟩)⟩, ⟨by (try simp only [hl297001_120]); (try simp only [hl302001_120]); (with_reducible repeat (first | apply Kd.R_alloc | apply Kd.R_drewN | apply Kd.R_drew)); exact Kd.R_mono HO_302001.out (fun _ hk => ⟨hk.1.1.1.1.1.2.1, hk.1.1.1.1.1.2.2⟩)⟩, ⟨by (try simp only [hl297001_120]); (try simp only [hl302001_120]); (with_reducible repeat (first | refine blk_drewN ?_ _ | refine blk_drew ?_ | refine blk_alloc ?_ _)); exact BK245.out⟩, ⟨by (try simp only [hl297001_120]); (try simp only [hl302001_120]); (with_reducible repeat (first | refine blk_drewN ?_ _ | refine blk_drew ?_ | refine blk_alloc ?_ _)); exact BK246.out⟩, ⟨by (try simp only [hl297001_120]); (try simp only [hl302001_120]); (with_reducible repeat (first | refine blk_drewN ?_ _ | refine blk_drew ?_ | refine blk_alloc ?_ _)); exact BK247.out⟩, ⟨by (try simp only [hl297001_120]); (try simp only [hl302001_120]); (with_reducible repeat (first | refine blk_drewN ?_ _ | refine blk_drew ?_ | refine blk_alloc ?_ _)); exact BK296.out⟩, ⟨by (try simp only [hl297001_120]); (try simp only [hl302001_120]); (with_reducible repeat (first | refine blk_drewN ?_ _ | refine blk_drew ?_ | refine blk_alloc ?_ _)); exact BK301.out⟩, ⟨bS HB.out⟩⟩
                              case rest =>
                                clear HC170
                                try clear c1
                                try clear c2
                                try clear p2
                                try clear c3
                                try clear c4
                                try clear c13
                                try clear c14
                                try clear c15
                                try clear c16
                                try clear c17
                                try clear c18
                                try clear c21
                                try clear c35
                                try clear c36
                                try clear c37
                                try clear c38
                                try clear c39
                                try clear c40
                                try clear c136
                                try clear c137
                                try clear c138
                                try clear c139
                                try clear c140
                                try clear c143
                                try clear c144
                                try clear c145
                                try clear c146
                                try clear c149
                                try clear c150
                                try clear c151
                                try clear c154
                                try clear c154b0
                                try clear c156
                                try clear c161
                                try clear c164
                                try clear c164b0
                                try clear c165
                                try clear c165b0
                                try clear c165b1
                                try clear c184
                                try clear hcz141_0
                                try clear hcz141_1
                                try clear hcz141_2
                                try clear hcz141_3
                                try clear hcz141_4
                                try clear hcz141_5
                                try clear hcz141_6
                                try clear hcz141_7
                                try clear hcz147_0
                                try clear hcz147_1
                                try clear hcz152_0
                                try clear hcz152_1
                                try clear hfz141_0
                                try clear hfz141_1
                                try clear hfz141_2
                                try clear hfz141_3
                                try clear hfz141_4
                                try clear hfz141_5
                                try clear hfz141_6
                                try clear hfz141_7
                                try clear hfz147_0
                                try clear hfz147_1
                                try clear hfz152_0
                                try clear hfz152_1
                                try clear p2
                                obtain ⟨kq, x133_169, rfl, HA, HJ169, HO_13, HO_297001, HO_302001, BK245, BK246, BK247, BK296, BK301, HB⟩ := hcut
                                have hl13_169 := (Kd.R_reads' HO_13.out).1
                                rw [hl13_169] at HO_13
                                (try simp only [hl13_169])
                                (try simp only [hl13_169] at BK245)
                                (try simp only [hl13_169] at BK246)
                                (try simp only [hl13_169] at BK247)
                                (try simp only [hl13_169] at BK296)
                                (try simp only [hl13_169] at BK301)
                                (try simp only [hl13_169] at HO_297001)
                                (try simp only [hl13_169] at HO_302001)
                                cases kq with
                                | zero => exact absurd HA.out (by simp [laws_FnExactMovedBlocks.j2])
                                | succ kj169 =>
                                  have H := HA.out
                                  clear HA
                                  simp only [laws_FnExactMovedBlocks.j2] at H
                                  by_cases c189 : x133_169 = true
                                  · subst c189
                                    have H1 : (none) = some r := by rw [if_pos rfl] at H; exact H
                                    clear H
                                    have H := H1
                                    clear H1
                                    exact absurd H (by simp)
                                  · replace c189 := Bool.eq_false_iff.mpr c189
                                    subst c189
                                    have H1 : ((laws_heldIntS.f kj169 t339 1).bind fun t368 => (if t368 < 0 then (none) else (if t368 = t338 then (some true) else (none)))) = some r := by rw [if_neg (show ¬ (false = true) by decide)] at H; exact H
                                    clear H
                                    have H := H1
                                    clear H1
                                    replace H := Option.bind_eq_some_iff.mp H
                                    obtain ⟨t368, A1900, H⟩ := H
                                    replace H : (if t368 < 0 then (none) else (if t368 = t338 then (some true) else (none))) = some r := H
                                    have A190 := Aside0.mk A1900
                                    clear A1900
                                    by_cases c191 : t368 < 0
                                    · rw [if_pos c191] at H
                                      exact absurd H (by simp)
                                    · rw [if_neg c191] at H
                                      have c191b0 : decide (t368 < 0) = false := decide_eq_false c191
                                      clear c191
                                      by_cases c192 : t368 = t338
                                      · rw [if_pos c192] at H
                                        have c192b0 : (t368 == t338) = true := beq_iff_eq.mpr c192
                                        have c192b1 : (t368 != t338) = false := bne_eq_false_iff_eq.mpr c192
                                        clear c192
                                        obtain rfl := Option.some.inj H
                                        go_wp2_with (first | ((with_reducible refine gate_callee (f := 40) rfl ?_); refine gL (some 136) Try.func40 #[.slice Ao171 t339.length co171, .int .i64 1] ?_; (with_reducible refine (laws_heldIntS.calls kj169 _ _ t339 1 t368 _ ?side1 ?side2 A190.out).mono ?_); (case side1 => exact cS (Kd.R_reads' HO_13.out).2.2); (case side2 => exact (Kd.R_reads' HO_13.out).2.1); rintro e w' ⟨rfl, ⟨nd, rfl⟩⟩; refine ⟨_, rfl, ?_⟩))
                                        go_ret
                                        exact ⟨by first | rfl | (simp; done) | (simp [*]; done), bS HB.out⟩
                                      · rw [if_neg c192] at H
                                        exact absurd H (by simp)
                            · rw [if_neg c165] at H
                              exact absurd H (by simp)
                  · replace c117 := Bool.eq_false_iff.mpr c117
                    subst c117
                    have H1 : (none) = some r := by rw [if_neg (show ¬ (false = true) by decide)] at H; exact H
                    clear H
                    have H := H1
                    clear H1
                    exact absurd H (by simp)
                · replace c114 := Bool.eq_false_iff.mpr c114
                  subst c114
                  have H1 : (none) = some r := by rw [if_neg (show ¬ (false = true) by decide)] at H; exact H
                  clear H
                  have H := H1
                  clear H1
                  exact absurd H (by simp)
              · replace c111 := Bool.eq_false_iff.mpr c111
                subst c111
                have H1 : (none) = some r := by rw [if_neg (show ¬ (false = true) by decide)] at H; exact H
                clear H
                have H := H1
                clear H1
                exact absurd H (by simp)

end Go.Proofs.Ytpfjjheognelhaa.PFnExactMovedBlocks
