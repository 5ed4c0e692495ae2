-- Written by a program of this claim (patch_print.py over the print): no hand has typed it.
import Derived.Test.YtpfjjheognelhaaPFnExactFirstApartx0
import Derived.Test.YtpfjjheognelhaaPFnExactFirstApartx1
import Derived.Test.YtpfjjheognelhaaPFnExactFirstApartx3
import Derived.Test.YtpfjjheognelhaaPFnExactFirstApartx7
import Derived.Test.YtpfjjheognelhaaPFnExactFirstApartx8
namespace Go.Proofs.Ytpfjjheognelhaa.PFnExactFirstApart
open Go.RowKit Go.Proofs.YtpfjjheognelhaaW.PrintWords Go.Proofs.YtpfjjheognelhaaW.PrintLast Go.Proofs.YtpfjjheognelhaaW.PrintMore
attribute [local go_sem] max2_int min2_int max_two min_two max_three min_three max_four min_four   -- for this text's walks alone
set_option linter.unusedVariables false
set_option linter.unusedSimpArgs false

/-! ### laws_FnExactFirstApart: function 3 -/
def laws_FnExactFirstApart.j0 : Nat → Bool → List (List Int) → List Int → List Int → Int → Int → Int → Int → Int → Int → List Int → Int → List Int → List (List Int) → List Int → List Int → Int → Int → Int → Int → Int → Int → List Int → Int → List Int → Option (Bool)
  | 0, _, _, _, _, _, _, _, _, _, _, _, _, _, _, _, _, _, _, _, _, _, _, _, _, _ => none
  | k + 1, x60, x238000, x238001, x238002, x238003, x238004, x238005, x238006, x238007, x239000, x239001, x240000, x240001, x282000, x282001, x282002, x282003, x282004, x282005, x282006, x282007, x287000, x287001, x292000, x292001 => if x60 = true then (none) else ((laws_toJob.f k x238000 x238001 x238002 x238003 x238004 x238005 x238006 x238007).bind fun bt294 => ((laws_eqJob.f k x282000 x282001 x282002 x282003 x282004 x282005 x282006 x282007 bt294.1 bt294.2.1 bt294.2.2.1 bt294.2.2.2.1 bt294.2.2.2.2.1 bt294.2.2.2.2.2.1 bt294.2.2.2.2.2.2.1 bt294.2.2.2.2.2.2.2).bind fun t308 => (if t308 = true then ((laws_toPlan.f k x239000 x239001).bind fun bt309 => ((laws_eqPlan.f k x287000 x287001 bt309.1 bt309.2).bind fun t313 => (if t313 = true then ((laws_toPlan.f k x240000 x240001).bind fun bt314 => ((laws_eqPlan.f k x292000 x292001 bt314.1 bt314.2).bind fun t318 => (if t318 = true then (some true) else (none)))) else (none)))) else (none))))
def laws_FnExactFirstApart.f (k : Nat) (l0_0 : List (List Int)) (l0_1 : List Int) (l0_2 : List Int) (a0_3 : Int) (a0_4 : Int) (a0_5 : Int) (a0_6 : Int) (a0_7 : Int) (a1_0 : Int) (l1_1 : List Int) (a2_0 : Int) (l2_1 : List Int) : Option (Bool) := (laws_szJob.f k l0_0 l0_1 l0_2 a0_3 a0_4 a0_5 a0_6 a0_7 1048576).bind fun t240 => (if t240 < 0 then (some true) else ((laws_szPlan.f a1_0 l1_1 t240).bind fun t241 => (if t241 < 0 then (some true) else ((laws_szPlan.f a2_0 l2_1 t241).bind fun t242 => (if t242 < 0 then (some true) else ((laws_toJob.f k l0_0 l0_1 l0_2 a0_3 a0_4 a0_5 a0_6 a0_7).bind fun bt243 => ((laws_toPlan.f k a1_0 l1_1).bind fun bt257 => ((laws_toPlan.f k a2_0 l2_1).bind fun bt261 => ((spec_FirstApart.f k bt243.1 bt243.2.1 bt243.2.2.1 bt243.2.2.2.1 bt243.2.2.2.2.1 bt243.2.2.2.2.2.1 bt243.2.2.2.2.2.2.1 bt243.2.2.2.2.2.2.2 bt257.1 bt257.2 bt261.1 bt261.2).bind fun bt265 => ((laws_toJob.f k l0_0 l0_1 l0_2 a0_3 a0_4 a0_5 a0_6 a0_7).bind fun bt267 => ((laws_toPlan.f k a1_0 l1_1).bind fun bt282 => ((laws_toPlan.f k a2_0 l2_1).bind fun bt287 => ((impl_FirstApart.f k bt267.1 bt267.2.1 bt267.2.2.1 bt267.2.2.2.1 bt267.2.2.2.2.1 bt267.2.2.2.2.2.1 bt267.2.2.2.2.2.2.1 bt267.2.2.2.2.2.2.2 bt282.1 bt282.2 bt287.1 bt287.2).bind fun bt292 => (if bt292.1 = bt265.1 then (laws_FnExactFirstApart.j0 k (bt292.2 != bt265.2) l0_0 l0_1 l0_2 a0_3 a0_4 a0_5 a0_6 a0_7 a1_0 l1_1 a2_0 l2_1 bt267.1 bt267.2.1 bt267.2.2.1 bt267.2.2.2.1 bt267.2.2.2.2.1 bt267.2.2.2.2.2.1 bt267.2.2.2.2.2.2.1 bt267.2.2.2.2.2.2.2 bt282.1 bt282.2 bt287.1 bt287.2) else (laws_FnExactFirstApart.j0 k true l0_0 l0_1 l0_2 a0_3 a0_4 a0_5 a0_6 a0_7 a1_0 l1_1 a2_0 l2_1 bt267.1 bt267.2.1 bt267.2.2.1 bt267.2.2.2.1 bt267.2.2.2.2.1 bt267.2.2.2.2.2.1 bt267.2.2.2.2.2.2.1 bt267.2.2.2.2.2.2.2 bt282.1 bt282.2 bt287.1 bt287.2)))))))))))))))
def laws_FnExactFirstApart.T11 : Bool × List (List Nat × List Nat) := (true, [([], []), ([0], [0]), ([], []), ([2, 1], [2]), ([], []), ([4, 3], [4]), ([1, 3, 5, 5], [1, 3, 5]), ([6], [6]), ([7], [7]), ([7], [7]), ([8, 6, 0, 1, 2, 3, 4, 5, 6, 7, 8], [8]), ([9, 10, 0, 1, 2, 3, 4, 5, 6, 7, 8, 9, 10], [9])])
def laws_FnExactFirstApart.B11 : List Nat := [0, 1, 0, 7, 0, 31, 63, 127, 255, 255, 511, 2047]
theorem laws_FnExactFirstApart.tab11 : rtab .any (opsOf Try.f3 11) = laws_FnExactFirstApart.T11 := by kernel_rfl
theorem laws_FnExactFirstApart.bits11 : waitsOk laws_FnExactFirstApart.T11.2 laws_FnExactFirstApart.B11 = true := by kernel_rfl
set_option maxHeartbeats 8000000 in
set_option maxRecDepth 100000 in
theorem laws_FnExactFirstApart.calls (k : Nat) (A0_0 : Option Addr) (c0_0 : Nat) (l0_0 : List (List Int)) (A0_1 : Option Addr) (c0_1 : Nat) (l0_1 : List Int) (A0_2 : Option Addr) (c0_2 : Nat) (l0_2 : List Int) (a0_3 : Int) (a0_4 : Int) (a0_5 : Int) (a0_6 : Int) (a0_7 : Int) (a1_0 : Int) (A1_1 : Option Addr) (c1_1 : Nat) (l1_1 : List Int) (a2_0 : Int) (A2_1 : Option Addr) (c2_1 : Nat) (l2_1 : List Int) (r : Bool) (w : World) (hr0_0 : Kd.C (Kd.slice 3 (Kd.int .i64)) w A0_0 l0_0.length l0_0) (hc0_0 : l0_0.length ≤ c0_0) (hr0_1 : Kd.C (Kd.int .i64) w A0_1 l0_1.length l0_1) (hc0_1 : l0_1.length ≤ c0_1) (hr0_2 : Kd.C (Kd.int .i64) w A0_2 l0_2.length l0_2) (hc0_2 : l0_2.length ≤ c0_2) (hr1_1 : Kd.C (Kd.int .i64) w A1_1 l1_1.length l1_1) (hc1_1 : l1_1.length ≤ c1_1) (hr2_1 : Kd.C (Kd.int .i64) w A2_1 l2_1.length l2_1) (hc2_1 : l2_1.length ≤ c2_1) (h : laws_FnExactFirstApart.f k l0_0 l0_1 l0_2 a0_3 a0_4 a0_5 a0_6 a0_7 a1_0 l1_1 a2_0 l2_1 = some r) :
    Calls Try.prog 3 #[.agg #[.slice A0_0 l0_0.length c0_0, .slice A0_1 l0_1.length c0_1, .slice A0_2 l0_2.length c0_2, .int .i64 a0_3, .int .i64 a0_4, .int .i64 a0_5, .int .i64 a0_6, .int .i64 a0_7], .agg #[.int .i64 a1_0, .slice A1_1 l1_1.length c1_1], .agg #[.int .i64 a2_0, .slice A2_1 l2_1.length c2_1]] w fun e w' => e = .returned (.bool r) ∧ Below w.heap.size w w' := by
  have hu27 := Try.underlying27
  have hu29 := Try.underlying29
  have hu36 := Try.underlying36
  have hu38 := Try.underlying38
  have HR0_0 := Aside0.mk hr0_0
  have HC0_0 := Aside0.mk hc0_0
  clear hr0_0 hc0_0
  have HR0_1 := Aside0.mk hr0_1
  have HC0_1 := Aside0.mk hc0_1
  clear hr0_1 hc0_1
  have HR0_2 := Aside0.mk hr0_2
  have HC0_2 := Aside0.mk hc0_2
  clear hr0_2 hc0_2
  have HR1_1 := Aside0.mk hr1_1
  have HC1_1 := Aside0.mk hc1_1
  clear hr1_1 hc1_1
  have HR2_1 := Aside0.mk hr2_1
  have HC2_1 := Aside0.mk hc2_1
  clear hr2_1 hc2_1
  have HB := AZ (Below.refl w.heap.size w)
  have H : ((laws_szJob.f k l0_0 l0_1 l0_2 a0_3 a0_4 a0_5 a0_6 a0_7 1048576).bind fun t240 => (if t240 < 0 then (some true) else ((laws_szPlan.f a1_0 l1_1 t240).bind fun t241 => (if t241 < 0 then (some true) else ((laws_szPlan.f a2_0 l2_1 t241).bind fun t242 => (if t242 < 0 then (some true) else ((laws_toJob.f k l0_0 l0_1 l0_2 a0_3 a0_4 a0_5 a0_6 a0_7).bind fun bt243 => ((laws_toPlan.f k a1_0 l1_1).bind fun bt257 => ((laws_toPlan.f k a2_0 l2_1).bind fun bt261 => ((spec_FirstApart.f k bt243.1 bt243.2.1 bt243.2.2.1 bt243.2.2.2.1 bt243.2.2.2.2.1 bt243.2.2.2.2.2.1 bt243.2.2.2.2.2.2.1 bt243.2.2.2.2.2.2.2 bt257.1 bt257.2 bt261.1 bt261.2).bind fun bt265 => ((laws_toJob.f k l0_0 l0_1 l0_2 a0_3 a0_4 a0_5 a0_6 a0_7).bind fun bt267 => ((laws_toPlan.f k a1_0 l1_1).bind fun bt282 => ((laws_toPlan.f k a2_0 l2_1).bind fun bt287 => ((impl_FirstApart.f k bt267.1 bt267.2.1 bt267.2.2.1 bt267.2.2.2.1 bt267.2.2.2.2.1 bt267.2.2.2.2.2.1 bt267.2.2.2.2.2.2.1 bt267.2.2.2.2.2.2.2 bt282.1 bt282.2 bt287.1 bt287.2).bind fun bt292 => (if bt292.1 = bt265.1 then (laws_FnExactFirstApart.j0 k (bt292.2 != bt265.2) l0_0 l0_1 l0_2 a0_3 a0_4 a0_5 a0_6 a0_7 a1_0 l1_1 a2_0 l2_1 bt267.1 bt267.2.1 bt267.2.2.1 bt267.2.2.2.1 bt267.2.2.2.2.1 bt267.2.2.2.2.2.1 bt267.2.2.2.2.2.2.1 bt267.2.2.2.2.2.2.2 bt282.1 bt282.2 bt287.1 bt287.2) else (laws_FnExactFirstApart.j0 k true l0_0 l0_1 l0_2 a0_3 a0_4 a0_5 a0_6 a0_7 a1_0 l1_1 a2_0 l2_1 bt267.1 bt267.2.1 bt267.2.2.1 bt267.2.2.2.1 bt267.2.2.2.2.1 bt267.2.2.2.2.2.1 bt267.2.2.2.2.2.2.1 bt267.2.2.2.2.2.2.2 bt282.1 bt282.2 bt287.1 bt287.2)))))))))))))))) = some r := h
  clear h
  replace H := Option.bind_eq_some_iff.mp H
  obtain ⟨t240, A40, H⟩ := H
  replace H : (if t240 < 0 then (some true) else ((laws_szPlan.f a1_0 l1_1 t240).bind fun t241 => (if t241 < 0 then (some true) else ((laws_szPlan.f a2_0 l2_1 t241).bind fun t242 => (if t242 < 0 then (some true) else ((laws_toJob.f k l0_0 l0_1 l0_2 a0_3 a0_4 a0_5 a0_6 a0_7).bind fun bt243 => ((laws_toPlan.f k a1_0 l1_1).bind fun bt257 => ((laws_toPlan.f k a2_0 l2_1).bind fun bt261 => ((spec_FirstApart.f k bt243.1 bt243.2.1 bt243.2.2.1 bt243.2.2.2.1 bt243.2.2.2.2.1 bt243.2.2.2.2.2.1 bt243.2.2.2.2.2.2.1 bt243.2.2.2.2.2.2.2 bt257.1 bt257.2 bt261.1 bt261.2).bind fun bt265 => ((laws_toJob.f k l0_0 l0_1 l0_2 a0_3 a0_4 a0_5 a0_6 a0_7).bind fun bt267 => ((laws_toPlan.f k a1_0 l1_1).bind fun bt282 => ((laws_toPlan.f k a2_0 l2_1).bind fun bt287 => ((impl_FirstApart.f k bt267.1 bt267.2.1 bt267.2.2.1 bt267.2.2.2.1 bt267.2.2.2.2.1 bt267.2.2.2.2.2.1 bt267.2.2.2.2.2.2.1 bt267.2.2.2.2.2.2.2 bt282.1 bt282.2 bt287.1 bt287.2).bind fun bt292 => (if bt292.1 = bt265.1 then (laws_FnExactFirstApart.j0 k (bt292.2 != bt265.2) l0_0 l0_1 l0_2 a0_3 a0_4 a0_5 a0_6 a0_7 a1_0 l1_1 a2_0 l2_1 bt267.1 bt267.2.1 bt267.2.2.1 bt267.2.2.2.1 bt267.2.2.2.2.1 bt267.2.2.2.2.2.1 bt267.2.2.2.2.2.2.1 bt267.2.2.2.2.2.2.2 bt282.1 bt282.2 bt287.1 bt287.2) else (laws_FnExactFirstApart.j0 k true l0_0 l0_1 l0_2 a0_3 a0_4 a0_5 a0_6 a0_7 a1_0 l1_1 a2_0 l2_1 bt267.1 bt267.2.1 bt267.2.2.1 bt267.2.2.2.1 bt267.2.2.2.2.1 bt267.2.2.2.2.2.1 bt267.2.2.2.2.2.2.1 bt267.2.2.2.2.2.2.2 bt282.1 bt282.2 bt287.1 bt287.2))))))))))))))) = some r := H
  have A4 := Aside0.mk A40
  clear A40
  by_cases c5 : t240 < 0
  · rw [if_pos c5] at H
    have c5b0 : decide (t240 < 0) = true := decide_eq_true c5
    clear c5
    obtain rfl := Option.some.inj H
    go_enter Try.func3, Try.ntmps3
    go_wp2_with (first | ((with_reducible refine gate_dst (N := 3) rfl ?_); refine box_event ?hg (N := 3) ?hd (cs := #[.slice A0_0 l0_0.length c0_0, .slice A0_1 l0_1.length c0_1, .slice A0_2 l0_2.length c0_2, .int .i64 a0_3, .int .i64 a0_4, .int .i64 a0_5, .int .i64 a0_6, .int .i64 a0_7]) (t := 27) ?hr ?_; (case hd => rfl); (case hg => rfl); (case hr => first | (go_simp; done) | (go_simp; rfl)); intro gb237 hg w6 hbox hb; have n0_ := AZ (below_step (bS HB.out) hb); have n1_ := AZ (hbox); have n2_ := AZ (geS hg HB.out); have n3_ := AZ (geS hg HB.out); clear HB; have HB := n0_; have BK237 := n1_; have GW237 := n2_; have GE237 := n3_; clear n0_ n1_ n2_ n3_; clear hb hbox hg) | ((with_reducible refine gate_dst (N := 4) rfl ?_); refine box_event ?hg (N := 4) ?hd (cs := #[.int .i64 a1_0, .slice A1_1 l1_1.length c1_1]) (t := 29) ?hr ?_; (case hd => rfl); (case hg => rfl); (case hr => first | (go_simp; done) | (go_simp; rfl)); intro gb238 hg w7 hbox hb; have n0_ := blkA BK237 hb; have n1_ := AZ (below_step (bS HB.out) hb); have n2_ := AZ (hbox); have n3_ := AZ (geS hg HB.out); have n4_ := AZ (geS hg HB.out); have n5_ := AZ ((by rw [hg]; exact Nat.ne_of_lt (blkL BK237.out) : gb237 ≠ gb238)); have n6_ := AZ ((by rw [hg]; exact Nat.ne_of_gt (blkL BK237.out) : gb238 ≠ gb237)); clear BK237; clear HB; have BK237 := n0_; have HB := n1_; have BK238 := n2_; have GW238 := n3_; have GE238 := n4_; have NB237_238 := n5_; have NB238_237 := n6_; clear n0_ n1_ n2_ n3_ n4_ n5_ n6_; clear hb hbox hg) | ((with_reducible refine gate_dst (N := 5) rfl ?_); refine box_event ?hg (N := 5) ?hd (cs := #[.int .i64 a2_0, .slice A2_1 l2_1.length c2_1]) (t := 29) ?hr ?_; (case hd => rfl); (case hg => rfl); (case hr => first | (go_simp; done) | (go_simp; rfl)); intro gb239 hg w8 hbox hb; have n0_ := blkA BK237 hb; have n1_ := blkA BK238 hb; have n2_ := AZ (below_step (bS HB.out) hb); have n3_ := AZ (hbox); have n4_ := AZ (geS hg HB.out); have n5_ := AZ (geS hg HB.out); have n6_ := AZ ((by rw [hg]; exact Nat.ne_of_lt (blkL BK237.out) : gb237 ≠ gb239)); have n7_ := AZ ((by rw [hg]; exact Nat.ne_of_gt (blkL BK237.out) : gb239 ≠ gb237)); have n8_ := AZ ((by rw [hg]; exact Nat.ne_of_lt (blkL BK238.out) : gb238 ≠ gb239)); have n9_ := AZ ((by rw [hg]; exact Nat.ne_of_gt (blkL BK238.out) : gb239 ≠ gb238)); clear BK237; clear BK238; clear HB; have BK237 := n0_; have BK238 := n1_; have HB := n2_; have BK239 := n3_; have GW239 := n4_; have GE239 := n5_; have NB237_239 := n6_; have NB239_237 := n7_; have NB238_239 := n8_; have NB239_238 := n9_; clear n0_ n1_ n2_ n3_ n4_ n5_ n6_ n7_ n8_ n9_; clear hb hbox hg; have hnb9 := NB237_238.out; have hnc9 := NB238_237.out; have hnb10 := NB237_239.out; have hnc10 := NB239_237.out; have hcz11_0 : w8.cell? ⟨gb237, 0, none⟩ = some (.slice A0_0 l0_0.length c0_0) := (blk_cell BK237.out 0).trans rfl; have hcz11_1 : w8.cell? ⟨gb237, 1, none⟩ = some (.slice A0_1 l0_1.length c0_1) := (blk_cell BK237.out 1).trans rfl; have hcz11_2 : w8.cell? ⟨gb237, 2, none⟩ = some (.slice A0_2 l0_2.length c0_2) := (blk_cell BK237.out 2).trans rfl; have hcz11_3 : w8.cell? ⟨gb237, 3, none⟩ = some (.int .i64 a0_3) := (blk_cell BK237.out 3).trans rfl; have hcz11_4 : w8.cell? ⟨gb237, 4, none⟩ = some (.int .i64 a0_4) := (blk_cell BK237.out 4).trans rfl; have hcz11_5 : w8.cell? ⟨gb237, 5, none⟩ = some (.int .i64 a0_5) := (blk_cell BK237.out 5).trans rfl; have hcz11_6 : w8.cell? ⟨gb237, 6, none⟩ = some (.int .i64 a0_6) := (blk_cell BK237.out 6).trans rfl; have hcz11_7 : w8.cell? ⟨gb237, 7, none⟩ = some (.int .i64 a0_7) := (blk_cell BK237.out 7).trans rfl; have hfz11_0 := blk_frozen BK237.out 0; have hfz11_1 := blk_frozen BK237.out 1; have hfz11_2 := blk_frozen BK237.out 2; have hfz11_3 := blk_frozen BK237.out 3; have hfz11_4 := blk_frozen BK237.out 4; have hfz11_5 := blk_frozen BK237.out 5; have hfz11_6 := blk_frozen BK237.out 6; have hfz11_7 := blk_frozen BK237.out 7) | ((with_reducible refine gate_callee (f := 14) rfl ?_); refine gL (some 17) Try.func14 #[.agg #[.slice A0_0 l0_0.length c0_0, .slice A0_1 l0_1.length c0_1, .slice A0_2 l0_2.length c0_2, .int .i64 a0_3, .int .i64 a0_4, .int .i64 a0_5, .int .i64 a0_6, .int .i64 a0_7], .int .i64 1048576] ?_; (with_reducible refine (laws_szJob.calls k _ _ l0_0 _ _ l0_1 _ _ l0_2 a0_3 a0_4 a0_5 a0_6 a0_7 1048576 t240 _ ?side1 ?side2 ?side3 ?side4 ?side5 ?side6 A4.out).mono ?_); (case side1 => exact cS (Kd.C_below HR0_0.out HB.out)); (case side2 => exact HC0_0.out); (case side3 => exact cS (Kd.C_below HR0_1.out HB.out)); (case side4 => exact HC0_1.out); (case side5 => exact cS (Kd.C_below HR0_2.out HB.out)); (case side6 => exact HC0_2.out); rintro e w12 ⟨rfl, hb⟩; refine ⟨_, rfl, ?_⟩; have n0_ := blkA BK237 hb; have n1_ := blkA BK238 hb; have n2_ := blkA BK239 hb; have n3_ := AZ (below_step (bS HB.out) hb); clear BK237; clear BK238; clear BK239; clear HB; have BK237 := n0_; have BK238 := n1_; have BK239 := n2_; have HB := n3_; clear n0_ n1_ n2_ n3_; (try clear hb)))
    go_ret
    exact ⟨by first | rfl | (simp; done) | (simp [*]; done), bS HB.out⟩
  · rw [if_neg c5] at H
    have c5b0 : decide (t240 < 0) = false := decide_eq_false c5
    clear c5
    replace H := Option.bind_eq_some_iff.mp H
    obtain ⟨t241, A130, H⟩ := H
    replace H : (if t241 < 0 then (some true) else ((laws_szPlan.f a2_0 l2_1 t241).bind fun t242 => (if t242 < 0 then (some true) else ((laws_toJob.f k l0_0 l0_1 l0_2 a0_3 a0_4 a0_5 a0_6 a0_7).bind fun bt243 => ((laws_toPlan.f k a1_0 l1_1).bind fun bt257 => ((laws_toPlan.f k a2_0 l2_1).bind fun bt261 => ((spec_FirstApart.f k bt243.1 bt243.2.1 bt243.2.2.1 bt243.2.2.2.1 bt243.2.2.2.2.1 bt243.2.2.2.2.2.1 bt243.2.2.2.2.2.2.1 bt243.2.2.2.2.2.2.2 bt257.1 bt257.2 bt261.1 bt261.2).bind fun bt265 => ((laws_toJob.f k l0_0 l0_1 l0_2 a0_3 a0_4 a0_5 a0_6 a0_7).bind fun bt267 => ((laws_toPlan.f k a1_0 l1_1).bind fun bt282 => ((laws_toPlan.f k a2_0 l2_1).bind fun bt287 => ((impl_FirstApart.f k bt267.1 bt267.2.1 bt267.2.2.1 bt267.2.2.2.1 bt267.2.2.2.2.1 bt267.2.2.2.2.2.1 bt267.2.2.2.2.2.2.1 bt267.2.2.2.2.2.2.2 bt282.1 bt282.2 bt287.1 bt287.2).bind fun bt292 => (if bt292.1 = bt265.1 then (laws_FnExactFirstApart.j0 k (bt292.2 != bt265.2) l0_0 l0_1 l0_2 a0_3 a0_4 a0_5 a0_6 a0_7 a1_0 l1_1 a2_0 l2_1 bt267.1 bt267.2.1 bt267.2.2.1 bt267.2.2.2.1 bt267.2.2.2.2.1 bt267.2.2.2.2.2.1 bt267.2.2.2.2.2.2.1 bt267.2.2.2.2.2.2.2 bt282.1 bt282.2 bt287.1 bt287.2) else (laws_FnExactFirstApart.j0 k true l0_0 l0_1 l0_2 a0_3 a0_4 a0_5 a0_6 a0_7 a1_0 l1_1 a2_0 l2_1 bt267.1 bt267.2.1 bt267.2.2.1 bt267.2.2.2.1 bt267.2.2.2.2.1 bt267.2.2.2.2.2.1 bt267.2.2.2.2.2.2.1 bt267.2.2.2.2.2.2.2 bt282.1 bt282.2 bt287.1 bt287.2))))))))))))) = some r := H
    have A13 := Aside0.mk A130
    clear A130
    by_cases c14 : t241 < 0
    · rw [if_pos c14] at H
      have c14b0 : decide (t241 < 0) = true := decide_eq_true c14
      clear c14
      obtain rfl := Option.some.inj H
      go_enter Try.func3, Try.ntmps3
      go_wp2_with (first | ((with_reducible refine gate_dst (N := 3) rfl ?_); refine box_event ?hg (N := 3) ?hd (cs := #[.slice A0_0 l0_0.length c0_0, .slice A0_1 l0_1.length c0_1, .slice A0_2 l0_2.length c0_2, .int .i64 a0_3, .int .i64 a0_4, .int .i64 a0_5, .int .i64 a0_6, .int .i64 a0_7]) (t := 27) ?hr ?_; (case hd => rfl); (case hg => rfl); (case hr => first | (go_simp; done) | (go_simp; rfl)); intro gb237 hg w15 hbox hb; have n0_ := AZ (below_step (bS HB.out) hb); have n1_ := AZ (hbox); have n2_ := AZ (geS hg HB.out); have n3_ := AZ (geS hg HB.out); clear HB; have HB := n0_; have BK237 := n1_; have GW237 := n2_; have GE237 := n3_; clear n0_ n1_ n2_ n3_; clear hb hbox hg) | ((with_reducible refine gate_dst (N := 4) rfl ?_); refine box_event ?hg (N := 4) ?hd (cs := #[.int .i64 a1_0, .slice A1_1 l1_1.length c1_1]) (t := 29) ?hr ?_; (case hd => rfl); (case hg => rfl); (case hr => first | (go_simp; done) | (go_simp; rfl)); intro gb238 hg w16 hbox hb; have n0_ := blkA BK237 hb; have n1_ := AZ (below_step (bS HB.out) hb); have n2_ := AZ (hbox); have n3_ := AZ (geS hg HB.out); have n4_ := AZ (geS hg HB.out); have n5_ := AZ ((by rw [hg]; exact Nat.ne_of_lt (blkL BK237.out) : gb237 ≠ gb238)); have n6_ := AZ ((by rw [hg]; exact Nat.ne_of_gt (blkL BK237.out) : gb238 ≠ gb237)); clear BK237; clear HB; have BK237 := n0_; have HB := n1_; have BK238 := n2_; have GW238 := n3_; have GE238 := n4_; have NB237_238 := n5_; have NB238_237 := n6_; clear n0_ n1_ n2_ n3_ n4_ n5_ n6_; clear hb hbox hg) | ((with_reducible refine gate_dst (N := 5) rfl ?_); refine box_event ?hg (N := 5) ?hd (cs := #[.int .i64 a2_0, .slice A2_1 l2_1.length c2_1]) (t := 29) ?hr ?_; (case hd => rfl); (case hg => rfl); (case hr => first | (go_simp; done) | (go_simp; rfl)); intro gb239 hg w17 hbox hb; have n0_ := blkA BK237 hb; have n1_ := blkA BK238 hb; have n2_ := AZ (below_step (bS HB.out) hb); have n3_ := AZ (hbox); have n4_ := AZ (geS hg HB.out); have n5_ := AZ (geS hg HB.out); have n6_ := AZ ((by rw [hg]; exact Nat.ne_of_lt (blkL BK237.out) : gb237 ≠ gb239)); have n7_ := AZ ((by rw [hg]; exact Nat.ne_of_gt (blkL BK237.out) : gb239 ≠ gb237)); have n8_ := AZ ((by rw [hg]; exact Nat.ne_of_lt (blkL BK238.out) : gb238 ≠ gb239)); have n9_ := AZ ((by rw [hg]; exact Nat.ne_of_gt (blkL BK238.out) : gb239 ≠ gb238)); clear BK237; clear BK238; clear HB; have BK237 := n0_; have BK238 := n1_; have HB := n2_; have BK239 := n3_; have GW239 := n4_; have GE239 := n5_; have NB237_239 := n6_; have NB239_237 := n7_; have NB238_239 := n8_; have NB239_238 := n9_; clear n0_ n1_ n2_ n3_ n4_ n5_ n6_ n7_ n8_ n9_; clear hb hbox hg; have hnb18 := NB237_238.out; have hnc18 := NB238_237.out; have hnb19 := NB237_239.out; have hnc19 := NB239_237.out; have hcz20_0 : w17.cell? ⟨gb237, 0, none⟩ = some (.slice A0_0 l0_0.length c0_0) := (blk_cell BK237.out 0).trans rfl; have hcz20_1 : w17.cell? ⟨gb237, 1, none⟩ = some (.slice A0_1 l0_1.length c0_1) := (blk_cell BK237.out 1).trans rfl; have hcz20_2 : w17.cell? ⟨gb237, 2, none⟩ = some (.slice A0_2 l0_2.length c0_2) := (blk_cell BK237.out 2).trans rfl; have hcz20_3 : w17.cell? ⟨gb237, 3, none⟩ = some (.int .i64 a0_3) := (blk_cell BK237.out 3).trans rfl; have hcz20_4 : w17.cell? ⟨gb237, 4, none⟩ = some (.int .i64 a0_4) := (blk_cell BK237.out 4).trans rfl; have hcz20_5 : w17.cell? ⟨gb237, 5, none⟩ = some (.int .i64 a0_5) := (blk_cell BK237.out 5).trans rfl; have hcz20_6 : w17.cell? ⟨gb237, 6, none⟩ = some (.int .i64 a0_6) := (blk_cell BK237.out 6).trans rfl; have hcz20_7 : w17.cell? ⟨gb237, 7, none⟩ = some (.int .i64 a0_7) := (blk_cell BK237.out 7).trans rfl; have hfz20_0 := blk_frozen BK237.out 0; have hfz20_1 := blk_frozen BK237.out 1; have hfz20_2 := blk_frozen BK237.out 2; have hfz20_3 := blk_frozen BK237.out 3; have hfz20_4 := blk_frozen BK237.out 4; have hfz20_5 := blk_frozen BK237.out 5; have hfz20_6 := blk_frozen BK237.out 6; have hfz20_7 := blk_frozen BK237.out 7) | ((with_reducible refine gate_callee (f := 14) rfl ?_); refine gL (some 17) Try.func14 #[.agg #[.slice A0_0 l0_0.length c0_0, .slice A0_1 l0_1.length c0_1, .slice A0_2 l0_2.length c0_2, .int .i64 a0_3, .int .i64 a0_4, .int .i64 a0_5, .int .i64 a0_6, .int .i64 a0_7], .int .i64 1048576] ?_; (with_reducible refine (laws_szJob.calls k _ _ l0_0 _ _ l0_1 _ _ l0_2 a0_3 a0_4 a0_5 a0_6 a0_7 1048576 t240 _ ?side1 ?side2 ?side3 ?side4 ?side5 ?side6 A4.out).mono ?_); (case side1 => exact cS (Kd.C_below HR0_0.out HB.out)); (case side2 => exact HC0_0.out); (case side3 => exact cS (Kd.C_below HR0_1.out HB.out)); (case side4 => exact HC0_1.out); (case side5 => exact cS (Kd.C_below HR0_2.out HB.out)); (case side6 => exact HC0_2.out); rintro e w21 ⟨rfl, hb⟩; refine ⟨_, rfl, ?_⟩; have n0_ := blkA BK237 hb; have n1_ := blkA BK238 hb; have n2_ := blkA BK239 hb; have n3_ := AZ (below_step (bS HB.out) hb); clear BK237; clear BK238; clear BK239; clear HB; have BK237 := n0_; have BK238 := n1_; have BK239 := n2_; have HB := n3_; clear n0_ n1_ n2_ n3_; (try clear hb); have hnb22 := NB238_239.out; have hnc22 := NB239_238.out; have hcz23_0 : w21.cell? ⟨gb238, 0, none⟩ = some (.int .i64 a1_0) := (blk_cell BK238.out 0).trans rfl; have hcz23_1 : w21.cell? ⟨gb238, 1, none⟩ = some (.slice A1_1 l1_1.length c1_1) := (blk_cell BK238.out 1).trans rfl; have hfz23_0 := blk_frozen BK238.out 0; have hfz23_1 := blk_frozen BK238.out 1) | ((with_reducible refine gate_callee (f := 15) rfl ?_); refine gL (some 22) Try.func15 #[.agg #[.int .i64 a1_0, .slice A1_1 l1_1.length c1_1], .int .i64 t240] ?_; (with_reducible refine (laws_szPlan.calls a1_0 _ _ l1_1 t240 t241 _ ?side1 ?side2 A13.out).mono ?_); (case side1 => exact cS (Kd.C_below HR1_1.out HB.out)); (case side2 => exact HC1_1.out); rintro e w24 ⟨rfl, hb⟩; refine ⟨_, rfl, ?_⟩; have n0_ := blkA BK237 hb; have n1_ := blkA BK238 hb; have n2_ := blkA BK239 hb; have n3_ := AZ (below_step (bS HB.out) hb); clear BK237; clear BK238; clear BK239; clear HB; have BK237 := n0_; have BK238 := n1_; have BK239 := n2_; have HB := n3_; clear n0_ n1_ n2_ n3_; (try clear hb)))
      go_ret
      exact ⟨by first | rfl | (simp; done) | (simp [*]; done), bS HB.out⟩
    · rw [if_neg c14] at H
      have c14b0 : decide (t241 < 0) = false := decide_eq_false c14
      clear c14
      replace H := Option.bind_eq_some_iff.mp H
      obtain ⟨t242, A250, H⟩ := H
      replace H : (if t242 < 0 then (some true) else ((laws_toJob.f k l0_0 l0_1 l0_2 a0_3 a0_4 a0_5 a0_6 a0_7).bind fun bt243 => ((laws_toPlan.f k a1_0 l1_1).bind fun bt257 => ((laws_toPlan.f k a2_0 l2_1).bind fun bt261 => ((spec_FirstApart.f k bt243.1 bt243.2.1 bt243.2.2.1 bt243.2.2.2.1 bt243.2.2.2.2.1 bt243.2.2.2.2.2.1 bt243.2.2.2.2.2.2.1 bt243.2.2.2.2.2.2.2 bt257.1 bt257.2 bt261.1 bt261.2).bind fun bt265 => ((laws_toJob.f k l0_0 l0_1 l0_2 a0_3 a0_4 a0_5 a0_6 a0_7).bind fun bt267 => ((laws_toPlan.f k a1_0 l1_1).bind fun bt282 => ((laws_toPlan.f k a2_0 l2_1).bind fun bt287 => ((impl_FirstApart.f k bt267.1 bt267.2.1 bt267.2.2.1 bt267.2.2.2.1 bt267.2.2.2.2.1 bt267.2.2.2.2.2.1 bt267.2.2.2.2.2.2.1 bt267.2.2.2.2.2.2.2 bt282.1 bt282.2 bt287.1 bt287.2).bind fun bt292 => (if bt292.1 = bt265.1 then (laws_FnExactFirstApart.j0 k (bt292.2 != bt265.2) l0_0 l0_1 l0_2 a0_3 a0_4 a0_5 a0_6 a0_7 a1_0 l1_1 a2_0 l2_1 bt267.1 bt267.2.1 bt267.2.2.1 bt267.2.2.2.1 bt267.2.2.2.2.1 bt267.2.2.2.2.2.1 bt267.2.2.2.2.2.2.1 bt267.2.2.2.2.2.2.2 bt282.1 bt282.2 bt287.1 bt287.2) else (laws_FnExactFirstApart.j0 k true l0_0 l0_1 l0_2 a0_3 a0_4 a0_5 a0_6 a0_7 a1_0 l1_1 a2_0 l2_1 bt267.1 bt267.2.1 bt267.2.2.1 bt267.2.2.2.1 bt267.2.2.2.2.1 bt267.2.2.2.2.2.1 bt267.2.2.2.2.2.2.1 bt267.2.2.2.2.2.2.2 bt282.1 bt282.2 bt287.1 bt287.2))))))))))) = some r := H
      have A25 := Aside0.mk A250
      clear A250
      by_cases c26 : t242 < 0
      · rw [if_pos c26] at H
        have c26b0 : decide (t242 < 0) = true := decide_eq_true c26
        clear c26
        obtain rfl := Option.some.inj H
        go_enter Try.func3, Try.ntmps3
        go_wp2_with (first | ((with_reducible refine gate_dst (N := 3) rfl ?_); refine box_event ?hg (N := 3) ?hd (cs := #[.slice A0_0 l0_0.length c0_0, .slice A0_1 l0_1.length c0_1, .slice A0_2 l0_2.length c0_2, .int .i64 a0_3, .int .i64 a0_4, .int .i64 a0_5, .int .i64 a0_6, .int .i64 a0_7]) (t := 27) ?hr ?_; (case hd => rfl); (case hg => rfl); (case hr => first | (go_simp; done) | (go_simp; rfl)); intro gb237 hg w27 hbox hb; have n0_ := AZ (below_step (bS HB.out) hb); have n1_ := AZ (hbox); have n2_ := AZ (geS hg HB.out); have n3_ := AZ (geS hg HB.out); clear HB; have HB := n0_; have BK237 := n1_; have GW237 := n2_; have GE237 := n3_; clear n0_ n1_ n2_ n3_; clear hb hbox hg) | ((with_reducible refine gate_dst (N := 4) rfl ?_); refine box_event ?hg (N := 4) ?hd (cs := #[.int .i64 a1_0, .slice A1_1 l1_1.length c1_1]) (t := 29) ?hr ?_; (case hd => rfl); (case hg => rfl); (case hr => first | (go_simp; done) | (go_simp; rfl)); intro gb238 hg w28 hbox hb; have n0_ := blkA BK237 hb; have n1_ := AZ (below_step (bS HB.out) hb); have n2_ := AZ (hbox); have n3_ := AZ (geS hg HB.out); have n4_ := AZ (geS hg HB.out); have n5_ := AZ ((by rw [hg]; exact Nat.ne_of_lt (blkL BK237.out) : gb237 ≠ gb238)); have n6_ := AZ ((by rw [hg]; exact Nat.ne_of_gt (blkL BK237.out) : gb238 ≠ gb237)); clear BK237; clear HB; have BK237 := n0_; have HB := n1_; have BK238 := n2_; have GW238 := n3_; have GE238 := n4_; have NB237_238 := n5_; have NB238_237 := n6_; clear n0_ n1_ n2_ n3_ n4_ n5_ n6_; clear hb hbox hg) | ((with_reducible refine gate_dst (N := 5) rfl ?_); refine box_event ?hg (N := 5) ?hd (cs := #[.int .i64 a2_0, .slice A2_1 l2_1.length c2_1]) (t := 29) ?hr ?_; (case hd => rfl); (case hg => rfl); (case hr => first | (go_simp; done) | (go_simp; rfl)); intro gb239 hg w29 hbox hb; have n0_ := blkA BK237 hb; have n1_ := blkA BK238 hb; have n2_ := AZ (below_step (bS HB.out) hb); have n3_ := AZ (hbox); have n4_ := AZ (geS hg HB.out); have n5_ := AZ (geS hg HB.out); have n6_ := AZ ((by rw [hg]; exact Nat.ne_of_lt (blkL BK237.out) : gb237 ≠ gb239)); have n7_ := AZ ((by rw [hg]; exact Nat.ne_of_gt (blkL BK237.out) : gb239 ≠ gb237)); have n8_ := AZ ((by rw [hg]; exact Nat.ne_of_lt (blkL BK238.out) : gb238 ≠ gb239)); have n9_ := AZ ((by rw [hg]; exact Nat.ne_of_gt (blkL BK238.out) : gb239 ≠ gb238)); clear BK237; clear BK238; clear HB; have BK237 := n0_; have BK238 := n1_; have HB := n2_; have BK239 := n3_; have GW239 := n4_; have GE239 := n5_; have NB237_239 := n6_; have NB239_237 := n7_; have NB238_239 := n8_; have NB239_238 := n9_; clear n0_ n1_ n2_ n3_ n4_ n5_ n6_ n7_ n8_ n9_; clear hb hbox hg; have hnb30 := NB237_238.out; have hnc30 := NB238_237.out; have hnb31 := NB237_239.out; have hnc31 := NB239_237.out; have hcz32_0 : w29.cell? ⟨gb237, 0, none⟩ = some (.slice A0_0 l0_0.length c0_0) := (blk_cell BK237.out 0).trans rfl; have hcz32_1 : w29.cell? ⟨gb237, 1, none⟩ = some (.slice A0_1 l0_1.length c0_1) := (blk_cell BK237.out 1).trans rfl; have hcz32_2 : w29.cell? ⟨gb237, 2, none⟩ = some (.slice A0_2 l0_2.length c0_2) := (blk_cell BK237.out 2).trans rfl; have hcz32_3 : w29.cell? ⟨gb237, 3, none⟩ = some (.int .i64 a0_3) := (blk_cell BK237.out 3).trans rfl; have hcz32_4 : w29.cell? ⟨gb237, 4, none⟩ = some (.int .i64 a0_4) := (blk_cell BK237.out 4).trans rfl; have hcz32_5 : w29.cell? ⟨gb237, 5, none⟩ = some (.int .i64 a0_5) := (blk_cell BK237.out 5).trans rfl; have hcz32_6 : w29.cell? ⟨gb237, 6, none⟩ = some (.int .i64 a0_6) := (blk_cell BK237.out 6).trans rfl; have hcz32_7 : w29.cell? ⟨gb237, 7, none⟩ = some (.int .i64 a0_7) := (blk_cell BK237.out 7).trans rfl; have hfz32_0 := blk_frozen BK237.out 0; have hfz32_1 := blk_frozen BK237.out 1; have hfz32_2 := blk_frozen BK237.out 2; have hfz32_3 := blk_frozen BK237.out 3; have hfz32_4 := blk_frozen BK237.out 4; have hfz32_5 := blk_frozen BK237.out 5; have hfz32_6 := blk_frozen BK237.out 6; have hfz32_7 := blk_frozen BK237.out 7) | ((with_reducible refine gate_callee (f := 14) rfl ?_); refine gL (some 17) Try.func14 #[.agg #[.slice A0_0 l0_0.length c0_0, .slice A0_1 l0_1.length c0_1, .slice A0_2 l0_2.length c0_2, .int .i64 a0_3, .int .i64 a0_4, .int .i64 a0_5, .int .i64 a0_6, .int .i64 a0_7], .int .i64 1048576] ?_; (with_reducible refine (laws_szJob.calls k _ _ l0_0 _ _ l0_1 _ _ l0_2 a0_3 a0_4 a0_5 a0_6 a0_7 1048576 t240 _ ?side1 ?side2 ?side3 ?side4 ?side5 ?side6 A4.out).mono ?_); (case side1 => exact cS (Kd.C_below HR0_0.out HB.out)); (case side2 => exact HC0_0.out); (case side3 => exact cS (Kd.C_below HR0_1.out HB.out)); (case side4 => exact HC0_1.out); (case side5 => exact cS (Kd.C_below HR0_2.out HB.out)); (case side6 => exact HC0_2.out); rintro e w33 ⟨rfl, hb⟩; refine ⟨_, rfl, ?_⟩; have n0_ := blkA BK237 hb; have n1_ := blkA BK238 hb; have n2_ := blkA BK239 hb; have n3_ := AZ (below_step (bS HB.out) hb); clear BK237; clear BK238; clear BK239; clear HB; have BK237 := n0_; have BK238 := n1_; have BK239 := n2_; have HB := n3_; clear n0_ n1_ n2_ n3_; (try clear hb); have hnb34 := NB238_239.out; have hnc34 := NB239_238.out; have hcz35_0 : w33.cell? ⟨gb238, 0, none⟩ = some (.int .i64 a1_0) := (blk_cell BK238.out 0).trans rfl; have hcz35_1 : w33.cell? ⟨gb238, 1, none⟩ = some (.slice A1_1 l1_1.length c1_1) := (blk_cell BK238.out 1).trans rfl; have hfz35_0 := blk_frozen BK238.out 0; have hfz35_1 := blk_frozen BK238.out 1) | ((with_reducible refine gate_callee (f := 15) rfl ?_); refine gL (some 22) Try.func15 #[.agg #[.int .i64 a1_0, .slice A1_1 l1_1.length c1_1], .int .i64 t240] ?_; (with_reducible refine (laws_szPlan.calls a1_0 _ _ l1_1 t240 t241 _ ?side1 ?side2 A13.out).mono ?_); (case side1 => exact cS (Kd.C_below HR1_1.out HB.out)); (case side2 => exact HC1_1.out); rintro e w36 ⟨rfl, hb⟩; refine ⟨_, rfl, ?_⟩; have n0_ := blkA BK237 hb; have n1_ := blkA BK238 hb; have n2_ := blkA BK239 hb; have n3_ := AZ (below_step (bS HB.out) hb); clear BK237; clear BK238; clear BK239; clear HB; have BK237 := n0_; have BK238 := n1_; have BK239 := n2_; have HB := n3_; clear n0_ n1_ n2_ n3_; (try clear hb); have hcz37_0 : w36.cell? ⟨gb239, 0, none⟩ = some (.int .i64 a2_0) := (blk_cell BK239.out 0).trans rfl; have hcz37_1 : w36.cell? ⟨gb239, 1, none⟩ = some (.slice A2_1 l2_1.length c2_1) := (blk_cell BK239.out 1).trans rfl; have hfz37_0 := blk_frozen BK239.out 0; have hfz37_1 := blk_frozen BK239.out 1) | ((with_reducible refine gate_callee (f := 15) rfl ?_); refine gL (some 27) Try.func15 #[.agg #[.int .i64 a2_0, .slice A2_1 l2_1.length c2_1], .int .i64 t241] ?_; (with_reducible refine (laws_szPlan.calls a2_0 _ _ l2_1 t241 t242 _ ?side1 ?side2 A25.out).mono ?_); (case side1 => exact cS (Kd.C_below HR2_1.out HB.out)); (case side2 => exact HC2_1.out); rintro e w38 ⟨rfl, hb⟩; refine ⟨_, rfl, ?_⟩; have n0_ := blkA BK237 hb; have n1_ := blkA BK238 hb; have n2_ := blkA BK239 hb; have n3_ := AZ (below_step (bS HB.out) hb); clear BK237; clear BK238; clear BK239; clear HB; have BK237 := n0_; have BK238 := n1_; have BK239 := n2_; have HB := n3_; clear n0_ n1_ n2_ n3_; (try clear hb)))
        go_ret
        exact ⟨by first | rfl | (simp; done) | (simp [*]; done), bS HB.out⟩
      · rw [if_neg c26] at H
        have c26b0 : decide (t242 < 0) = false := decide_eq_false c26
        clear c26
        replace H := Option.bind_eq_some_iff.mp H
        obtain ⟨⟨t243, t246, t249, t252, t253, t254, t255, t256⟩, A390, H⟩ := H
        replace H : ((laws_toPlan.f k a1_0 l1_1).bind fun bt257 => ((laws_toPlan.f k a2_0 l2_1).bind fun bt261 => ((spec_FirstApart.f k t243 t246 t249 t252 t253 t254 t255 t256 bt257.1 bt257.2 bt261.1 bt261.2).bind fun bt265 => ((laws_toJob.f k l0_0 l0_1 l0_2 a0_3 a0_4 a0_5 a0_6 a0_7).bind fun bt267 => ((laws_toPlan.f k a1_0 l1_1).bind fun bt282 => ((laws_toPlan.f k a2_0 l2_1).bind fun bt287 => ((impl_FirstApart.f k bt267.1 bt267.2.1 bt267.2.2.1 bt267.2.2.2.1 bt267.2.2.2.2.1 bt267.2.2.2.2.2.1 bt267.2.2.2.2.2.2.1 bt267.2.2.2.2.2.2.2 bt282.1 bt282.2 bt287.1 bt287.2).bind fun bt292 => (if bt292.1 = bt265.1 then (laws_FnExactFirstApart.j0 k (bt292.2 != bt265.2) l0_0 l0_1 l0_2 a0_3 a0_4 a0_5 a0_6 a0_7 a1_0 l1_1 a2_0 l2_1 bt267.1 bt267.2.1 bt267.2.2.1 bt267.2.2.2.1 bt267.2.2.2.2.1 bt267.2.2.2.2.2.1 bt267.2.2.2.2.2.2.1 bt267.2.2.2.2.2.2.2 bt282.1 bt282.2 bt287.1 bt287.2) else (laws_FnExactFirstApart.j0 k true l0_0 l0_1 l0_2 a0_3 a0_4 a0_5 a0_6 a0_7 a1_0 l1_1 a2_0 l2_1 bt267.1 bt267.2.1 bt267.2.2.1 bt267.2.2.2.1 bt267.2.2.2.2.1 bt267.2.2.2.2.2.1 bt267.2.2.2.2.2.2.1 bt267.2.2.2.2.2.2.2 bt282.1 bt282.2 bt287.1 bt287.2))))))))) = some r := H
        have A39 := Aside0.mk A390
        clear A390
        replace H := Option.bind_eq_some_iff.mp H
        obtain ⟨⟨t257, t258⟩, A400, H⟩ := H
        replace H : ((laws_toPlan.f k a2_0 l2_1).bind fun bt261 => ((spec_FirstApart.f k t243 t246 t249 t252 t253 t254 t255 t256 t257 t258 bt261.1 bt261.2).bind fun bt265 => ((laws_toJob.f k l0_0 l0_1 l0_2 a0_3 a0_4 a0_5 a0_6 a0_7).bind fun bt267 => ((laws_toPlan.f k a1_0 l1_1).bind fun bt282 => ((laws_toPlan.f k a2_0 l2_1).bind fun bt287 => ((impl_FirstApart.f k bt267.1 bt267.2.1 bt267.2.2.1 bt267.2.2.2.1 bt267.2.2.2.2.1 bt267.2.2.2.2.2.1 bt267.2.2.2.2.2.2.1 bt267.2.2.2.2.2.2.2 bt282.1 bt282.2 bt287.1 bt287.2).bind fun bt292 => (if bt292.1 = bt265.1 then (laws_FnExactFirstApart.j0 k (bt292.2 != bt265.2) l0_0 l0_1 l0_2 a0_3 a0_4 a0_5 a0_6 a0_7 a1_0 l1_1 a2_0 l2_1 bt267.1 bt267.2.1 bt267.2.2.1 bt267.2.2.2.1 bt267.2.2.2.2.1 bt267.2.2.2.2.2.1 bt267.2.2.2.2.2.2.1 bt267.2.2.2.2.2.2.2 bt282.1 bt282.2 bt287.1 bt287.2) else (laws_FnExactFirstApart.j0 k true l0_0 l0_1 l0_2 a0_3 a0_4 a0_5 a0_6 a0_7 a1_0 l1_1 a2_0 l2_1 bt267.1 bt267.2.1 bt267.2.2.1 bt267.2.2.2.1 bt267.2.2.2.2.1 bt267.2.2.2.2.2.1 bt267.2.2.2.2.2.2.1 bt267.2.2.2.2.2.2.2 bt282.1 bt282.2 bt287.1 bt287.2)))))))) = some r := H
        have A40 := Aside0.mk A400
        clear A400
        replace H := Option.bind_eq_some_iff.mp H
        obtain ⟨⟨t261, t262⟩, A410, H⟩ := H
        replace H : ((spec_FirstApart.f k t243 t246 t249 t252 t253 t254 t255 t256 t257 t258 t261 t262).bind fun bt265 => ((laws_toJob.f k l0_0 l0_1 l0_2 a0_3 a0_4 a0_5 a0_6 a0_7).bind fun bt267 => ((laws_toPlan.f k a1_0 l1_1).bind fun bt282 => ((laws_toPlan.f k a2_0 l2_1).bind fun bt287 => ((impl_FirstApart.f k bt267.1 bt267.2.1 bt267.2.2.1 bt267.2.2.2.1 bt267.2.2.2.2.1 bt267.2.2.2.2.2.1 bt267.2.2.2.2.2.2.1 bt267.2.2.2.2.2.2.2 bt282.1 bt282.2 bt287.1 bt287.2).bind fun bt292 => (if bt292.1 = bt265.1 then (laws_FnExactFirstApart.j0 k (bt292.2 != bt265.2) l0_0 l0_1 l0_2 a0_3 a0_4 a0_5 a0_6 a0_7 a1_0 l1_1 a2_0 l2_1 bt267.1 bt267.2.1 bt267.2.2.1 bt267.2.2.2.1 bt267.2.2.2.2.1 bt267.2.2.2.2.2.1 bt267.2.2.2.2.2.2.1 bt267.2.2.2.2.2.2.2 bt282.1 bt282.2 bt287.1 bt287.2) else (laws_FnExactFirstApart.j0 k true l0_0 l0_1 l0_2 a0_3 a0_4 a0_5 a0_6 a0_7 a1_0 l1_1 a2_0 l2_1 bt267.1 bt267.2.1 bt267.2.2.1 bt267.2.2.2.1 bt267.2.2.2.2.1 bt267.2.2.2.2.2.1 bt267.2.2.2.2.2.2.1 bt267.2.2.2.2.2.2.2 bt282.1 bt282.2 bt287.1 bt287.2))))))) = some r := H
        have A41 := Aside0.mk A410
        clear A410
        replace H := Option.bind_eq_some_iff.mp H
        obtain ⟨⟨t265, t266⟩, A420, H⟩ := H
        replace H : ((laws_toJob.f k l0_0 l0_1 l0_2 a0_3 a0_4 a0_5 a0_6 a0_7).bind fun bt267 => ((laws_toPlan.f k a1_0 l1_1).bind fun bt282 => ((laws_toPlan.f k a2_0 l2_1).bind fun bt287 => ((impl_FirstApart.f k bt267.1 bt267.2.1 bt267.2.2.1 bt267.2.2.2.1 bt267.2.2.2.2.1 bt267.2.2.2.2.2.1 bt267.2.2.2.2.2.2.1 bt267.2.2.2.2.2.2.2 bt282.1 bt282.2 bt287.1 bt287.2).bind fun bt292 => (if bt292.1 = t265 then (laws_FnExactFirstApart.j0 k (bt292.2 != t266) l0_0 l0_1 l0_2 a0_3 a0_4 a0_5 a0_6 a0_7 a1_0 l1_1 a2_0 l2_1 bt267.1 bt267.2.1 bt267.2.2.1 bt267.2.2.2.1 bt267.2.2.2.2.1 bt267.2.2.2.2.2.1 bt267.2.2.2.2.2.2.1 bt267.2.2.2.2.2.2.2 bt282.1 bt282.2 bt287.1 bt287.2) else (laws_FnExactFirstApart.j0 k true l0_0 l0_1 l0_2 a0_3 a0_4 a0_5 a0_6 a0_7 a1_0 l1_1 a2_0 l2_1 bt267.1 bt267.2.1 bt267.2.2.1 bt267.2.2.2.1 bt267.2.2.2.2.1 bt267.2.2.2.2.2.1 bt267.2.2.2.2.2.2.1 bt267.2.2.2.2.2.2.2 bt282.1 bt282.2 bt287.1 bt287.2)))))) = some r := H
        have A42 := Aside0.mk A420
        clear A420
        replace H := Option.bind_eq_some_iff.mp H
        obtain ⟨⟨t267, t270, t273, t276, t277, t278, t279, t280⟩, A430, H⟩ := H
        replace H : ((laws_toPlan.f k a1_0 l1_1).bind fun bt282 => ((laws_toPlan.f k a2_0 l2_1).bind fun bt287 => ((impl_FirstApart.f k t267 t270 t273 t276 t277 t278 t279 t280 bt282.1 bt282.2 bt287.1 bt287.2).bind fun bt292 => (if bt292.1 = t265 then (laws_FnExactFirstApart.j0 k (bt292.2 != t266) l0_0 l0_1 l0_2 a0_3 a0_4 a0_5 a0_6 a0_7 a1_0 l1_1 a2_0 l2_1 t267 t270 t273 t276 t277 t278 t279 t280 bt282.1 bt282.2 bt287.1 bt287.2) else (laws_FnExactFirstApart.j0 k true l0_0 l0_1 l0_2 a0_3 a0_4 a0_5 a0_6 a0_7 a1_0 l1_1 a2_0 l2_1 t267 t270 t273 t276 t277 t278 t279 t280 bt282.1 bt282.2 bt287.1 bt287.2))))) = some r := H
        have A43 := Aside0.mk A430
        clear A430
        replace H := Option.bind_eq_some_iff.mp H
        obtain ⟨⟨t282, t283⟩, A440, H⟩ := H
        replace H : ((laws_toPlan.f k a2_0 l2_1).bind fun bt287 => ((impl_FirstApart.f k t267 t270 t273 t276 t277 t278 t279 t280 t282 t283 bt287.1 bt287.2).bind fun bt292 => (if bt292.1 = t265 then (laws_FnExactFirstApart.j0 k (bt292.2 != t266) l0_0 l0_1 l0_2 a0_3 a0_4 a0_5 a0_6 a0_7 a1_0 l1_1 a2_0 l2_1 t267 t270 t273 t276 t277 t278 t279 t280 t282 t283 bt287.1 bt287.2) else (laws_FnExactFirstApart.j0 k true l0_0 l0_1 l0_2 a0_3 a0_4 a0_5 a0_6 a0_7 a1_0 l1_1 a2_0 l2_1 t267 t270 t273 t276 t277 t278 t279 t280 t282 t283 bt287.1 bt287.2)))) = some r := H
        have A44 := Aside0.mk A440
        clear A440
        replace H := Option.bind_eq_some_iff.mp H
        obtain ⟨⟨t287, t288⟩, A450, H⟩ := H
        replace H : ((impl_FirstApart.f k t267 t270 t273 t276 t277 t278 t279 t280 t282 t283 t287 t288).bind fun bt292 => (if bt292.1 = t265 then (laws_FnExactFirstApart.j0 k (bt292.2 != t266) l0_0 l0_1 l0_2 a0_3 a0_4 a0_5 a0_6 a0_7 a1_0 l1_1 a2_0 l2_1 t267 t270 t273 t276 t277 t278 t279 t280 t282 t283 t287 t288) else (laws_FnExactFirstApart.j0 k true l0_0 l0_1 l0_2 a0_3 a0_4 a0_5 a0_6 a0_7 a1_0 l1_1 a2_0 l2_1 t267 t270 t273 t276 t277 t278 t279 t280 t282 t283 t287 t288))) = some r := H
        have A45 := Aside0.mk A450
        clear A450
        replace H := Option.bind_eq_some_iff.mp H
        obtain ⟨⟨t292, t293⟩, A460, H⟩ := H
        replace H : (if t292 = t265 then (laws_FnExactFirstApart.j0 k (t293 != t266) l0_0 l0_1 l0_2 a0_3 a0_4 a0_5 a0_6 a0_7 a1_0 l1_1 a2_0 l2_1 t267 t270 t273 t276 t277 t278 t279 t280 t282 t283 t287 t288) else (laws_FnExactFirstApart.j0 k true l0_0 l0_1 l0_2 a0_3 a0_4 a0_5 a0_6 a0_7 a1_0 l1_1 a2_0 l2_1 t267 t270 t273 t276 t277 t278 t279 t280 t282 t283 t287 t288)) = some r := H
        have A46 := Aside0.mk A460
        clear A460
        have HC47 := Aside0.mk H
        clear H
        go_enter Try.func3, Try.ntmps3
        try go_wp2_with (first | ((with_reducible refine gate_dst (N := 3) rfl ?_); refine box_event ?hg (N := 3) ?hd (cs := #[.slice A0_0 l0_0.length c0_0, .slice A0_1 l0_1.length c0_1, .slice A0_2 l0_2.length c0_2, .int .i64 a0_3, .int .i64 a0_4, .int .i64 a0_5, .int .i64 a0_6, .int .i64 a0_7]) (t := 27) ?hr ?_; (case hd => rfl); (case hg => rfl); (case hr => first | (go_simp; done) | (go_simp; rfl)); intro gb237 hg w48 hbox hb; have n0_ := AZ (below_step (bS HB.out) hb); have n1_ := AZ (hbox); have n2_ := AZ (geS hg HB.out); have n3_ := AZ (geS hg HB.out); clear HB; have HB := n0_; have BK237 := n1_; have GW237 := n2_; have GE237 := n3_; clear n0_ n1_ n2_ n3_; clear hb hbox hg) | ((with_reducible refine gate_dst (N := 4) rfl ?_); refine box_event ?hg (N := 4) ?hd (cs := #[.int .i64 a1_0, .slice A1_1 l1_1.length c1_1]) (t := 29) ?hr ?_; (case hd => rfl); (case hg => rfl); (case hr => first | (go_simp; done) | (go_simp; rfl)); intro gb238 hg w49 hbox hb; have n0_ := blkA BK237 hb; have n1_ := AZ (below_step (bS HB.out) hb); have n2_ := AZ (hbox); have n3_ := AZ (geS hg HB.out); have n4_ := AZ (geS hg HB.out); have n5_ := AZ ((by rw [hg]; exact Nat.ne_of_lt (blkL BK237.out) : gb237 ≠ gb238)); have n6_ := AZ ((by rw [hg]; exact Nat.ne_of_gt (blkL BK237.out) : gb238 ≠ gb237)); clear BK237; clear HB; have BK237 := n0_; have HB := n1_; have BK238 := n2_; have GW238 := n3_; have GE238 := n4_; have NB237_238 := n5_; have NB238_237 := n6_; clear n0_ n1_ n2_ n3_ n4_ n5_ n6_; clear hb hbox hg) | ((with_reducible refine gate_dst (N := 5) rfl ?_); refine box_event ?hg (N := 5) ?hd (cs := #[.int .i64 a2_0, .slice A2_1 l2_1.length c2_1]) (t := 29) ?hr ?_; (case hd => rfl); (case hg => rfl); (case hr => first | (go_simp; done) | (go_simp; rfl)); intro gb239 hg w50 hbox hb; have n0_ := blkA BK237 hb; have n1_ := blkA BK238 hb; have n2_ := AZ (below_step (bS HB.out) hb); have n3_ := AZ (hbox); have n4_ := AZ (geS hg HB.out); have n5_ := AZ (geS hg HB.out); have n6_ := AZ ((by rw [hg]; exact Nat.ne_of_lt (blkL BK237.out) : gb237 ≠ gb239)); have n7_ := AZ ((by rw [hg]; exact Nat.ne_of_gt (blkL BK237.out) : gb239 ≠ gb237)); have n8_ := AZ ((by rw [hg]; exact Nat.ne_of_lt (blkL BK238.out) : gb238 ≠ gb239)); have n9_ := AZ ((by rw [hg]; exact Nat.ne_of_gt (blkL BK238.out) : gb239 ≠ gb238)); clear BK237; clear BK238; clear HB; have BK237 := n0_; have BK238 := n1_; have HB := n2_; have BK239 := n3_; have GW239 := n4_; have GE239 := n5_; have NB237_239 := n6_; have NB239_237 := n7_; have NB238_239 := n8_; have NB239_238 := n9_; clear n0_ n1_ n2_ n3_ n4_ n5_ n6_ n7_ n8_ n9_; clear hb hbox hg; have hnb51 := NB237_238.out; have hnc51 := NB238_237.out; have hnb52 := NB237_239.out; have hnc52 := NB239_237.out; have hcz53_0 : w50.cell? ⟨gb237, 0, none⟩ = some (.slice A0_0 l0_0.length c0_0) := (blk_cell BK237.out 0).trans rfl; have hcz53_1 : w50.cell? ⟨gb237, 1, none⟩ = some (.slice A0_1 l0_1.length c0_1) := (blk_cell BK237.out 1).trans rfl; have hcz53_2 : w50.cell? ⟨gb237, 2, none⟩ = some (.slice A0_2 l0_2.length c0_2) := (blk_cell BK237.out 2).trans rfl; have hcz53_3 : w50.cell? ⟨gb237, 3, none⟩ = some (.int .i64 a0_3) := (blk_cell BK237.out 3).trans rfl; have hcz53_4 : w50.cell? ⟨gb237, 4, none⟩ = some (.int .i64 a0_4) := (blk_cell BK237.out 4).trans rfl; have hcz53_5 : w50.cell? ⟨gb237, 5, none⟩ = some (.int .i64 a0_5) := (blk_cell BK237.out 5).trans rfl; have hcz53_6 : w50.cell? ⟨gb237, 6, none⟩ = some (.int .i64 a0_6) := (blk_cell BK237.out 6).trans rfl; have hcz53_7 : w50.cell? ⟨gb237, 7, none⟩ = some (.int .i64 a0_7) := (blk_cell BK237.out 7).trans rfl; have hfz53_0 := blk_frozen BK237.out 0; have hfz53_1 := blk_frozen BK237.out 1; have hfz53_2 := blk_frozen BK237.out 2; have hfz53_3 := blk_frozen BK237.out 3; have hfz53_4 := blk_frozen BK237.out 4; have hfz53_5 := blk_frozen BK237.out 5; have hfz53_6 := blk_frozen BK237.out 6; have hfz53_7 := blk_frozen BK237.out 7) | ((with_reducible refine gate_callee (f := 14) rfl ?_); refine gL (some 17) Try.func14 #[.agg #[.slice A0_0 l0_0.length c0_0, .slice A0_1 l0_1.length c0_1, .slice A0_2 l0_2.length c0_2, .int .i64 a0_3, .int .i64 a0_4, .int .i64 a0_5, .int .i64 a0_6, .int .i64 a0_7], .int .i64 1048576] ?_; (with_reducible refine (laws_szJob.calls k _ _ l0_0 _ _ l0_1 _ _ l0_2 a0_3 a0_4 a0_5 a0_6 a0_7 1048576 t240 _ ?side1 ?side2 ?side3 ?side4 ?side5 ?side6 A4.out).mono ?_); (case side1 => exact cS (Kd.C_below HR0_0.out HB.out)); (case side2 => exact HC0_0.out); (case side3 => exact cS (Kd.C_below HR0_1.out HB.out)); (case side4 => exact HC0_1.out); (case side5 => exact cS (Kd.C_below HR0_2.out HB.out)); (case side6 => exact HC0_2.out); rintro e w54 ⟨rfl, hb⟩; refine ⟨_, rfl, ?_⟩; have n0_ := blkA BK237 hb; have n1_ := blkA BK238 hb; have n2_ := blkA BK239 hb; have n3_ := AZ (below_step (bS HB.out) hb); clear BK237; clear BK238; clear BK239; clear HB; have BK237 := n0_; have BK238 := n1_; have BK239 := n2_; have HB := n3_; clear n0_ n1_ n2_ n3_; (try clear hb); have hnb55 := NB238_239.out; have hnc55 := NB239_238.out; have hcz56_0 : w54.cell? ⟨gb238, 0, none⟩ = some (.int .i64 a1_0) := (blk_cell BK238.out 0).trans rfl; have hcz56_1 : w54.cell? ⟨gb238, 1, none⟩ = some (.slice A1_1 l1_1.length c1_1) := (blk_cell BK238.out 1).trans rfl; have hfz56_0 := blk_frozen BK238.out 0; have hfz56_1 := blk_frozen BK238.out 1) | ((with_reducible refine gate_callee (f := 15) rfl ?_); refine gL (some 22) Try.func15 #[.agg #[.int .i64 a1_0, .slice A1_1 l1_1.length c1_1], .int .i64 t240] ?_; (with_reducible refine (laws_szPlan.calls a1_0 _ _ l1_1 t240 t241 _ ?side1 ?side2 A13.out).mono ?_); (case side1 => exact cS (Kd.C_below HR1_1.out HB.out)); (case side2 => exact HC1_1.out); rintro e w57 ⟨rfl, hb⟩; refine ⟨_, rfl, ?_⟩; have n0_ := blkA BK237 hb; have n1_ := blkA BK238 hb; have n2_ := blkA BK239 hb; have n3_ := AZ (below_step (bS HB.out) hb); clear BK237; clear BK238; clear BK239; clear HB; have BK237 := n0_; have BK238 := n1_; have BK239 := n2_; have HB := n3_; clear n0_ n1_ n2_ n3_; (try clear hb); have hcz58_0 : w57.cell? ⟨gb239, 0, none⟩ = some (.int .i64 a2_0) := (blk_cell BK239.out 0).trans rfl; have hcz58_1 : w57.cell? ⟨gb239, 1, none⟩ = some (.slice A2_1 l2_1.length c2_1) := (blk_cell BK239.out 1).trans rfl; have hfz58_0 := blk_frozen BK239.out 0; have hfz58_1 := blk_frozen BK239.out 1) | ((with_reducible refine gate_callee (f := 15) rfl ?_); refine gL (some 27) Try.func15 #[.agg #[.int .i64 a2_0, .slice A2_1 l2_1.length c2_1], .int .i64 t241] ?_; (with_reducible refine (laws_szPlan.calls a2_0 _ _ l2_1 t241 t242 _ ?side1 ?side2 A25.out).mono ?_); (case side1 => exact cS (Kd.C_below HR2_1.out HB.out)); (case side2 => exact HC2_1.out); rintro e w59 ⟨rfl, hb⟩; refine ⟨_, rfl, ?_⟩; have n0_ := blkA BK237 hb; have n1_ := blkA BK238 hb; have n2_ := blkA BK239 hb; have n3_ := AZ (below_step (bS HB.out) hb); clear BK237; clear BK238; clear BK239; clear HB; have BK237 := n0_; have BK238 := n1_; have BK239 := n2_; have HB := n3_; clear n0_ n1_ n2_ n3_; (try clear hb)))
        have n0_ := AZ (blk_drew BK237.out)
        have n1_ := AZ (blk_drew BK238.out)
        have n2_ := AZ (blk_drew BK239.out)
        have n3_ := AZ (below_drew1 HB.out)
        clear BK237
        clear BK238
        clear BK239
        clear HB
        have BK237 := n0_
        have BK238 := n1_
        have BK239 := n2_
        have HB := n3_
        clear n0_ n1_ n2_ n3_
        refine start_ (n := 12) (S := fun w' => w'.cell? ⟨gb237, 0, none⟩ = some (.slice A0_0 l0_0.length c0_0) ∧ w'.cell? ⟨gb237, 1, none⟩ = some (.slice A0_1 l0_1.length c0_1) ∧ w'.cell? ⟨gb237, 2, none⟩ = some (.slice A0_2 l0_2.length c0_2) ∧ w'.cell? ⟨gb237, 3, none⟩ = some (.int .i64 a0_3) ∧ w'.cell? ⟨gb237, 4, none⟩ = some (.int .i64 a0_4) ∧ w'.cell? ⟨gb237, 5, none⟩ = some (.int .i64 a0_5) ∧ w'.cell? ⟨gb237, 6, none⟩ = some (.int .i64 a0_6) ∧ w'.cell? ⟨gb237, 7, none⟩ = some (.int .i64 a0_7) ∧ w'.cell? ⟨gb238, 0, none⟩ = some (.int .i64 a1_0) ∧ w'.cell? ⟨gb238, 1, none⟩ = some (.slice A1_1 l1_1.length c1_1) ∧ w'.cell? ⟨gb239, 0, none⟩ = some (.int .i64 a2_0) ∧ w'.cell? ⟨gb239, 1, none⟩ = some (.slice A2_1 l2_1.length c2_1)) (ds := []) #[false, false, false, false, false, false, false, false, false, false, false, false] (by kernel_rfl) rfl rfl ⟨(blk_cell BK237.out 0).trans rfl, (blk_cell BK237.out 1).trans rfl, (blk_cell BK237.out 2).trans rfl, (blk_cell BK237.out 3).trans rfl, (blk_cell BK237.out 4).trans rfl, (blk_cell BK237.out 5).trans rfl, (blk_cell BK237.out 6).trans rfl, (blk_cell BK237.out 7).trans rfl, (blk_cell BK238.out 0).trans rfl, (blk_cell BK238.out 1).trans rfl, (blk_cell BK239.out 0).trans rfl, (blk_cell BK239.out 1).trans rfl⟩ (fun hHeld => ?_); refine with_tabW laws_FnExactFirstApart.tab11 laws_FnExactFirstApart.bits11 (fun HT_ HW_ => ?_)
        generalize w59.drew = w60 at BK237 BK238 BK239 HB hHeld ⊢
        refine take_ (i := 0) (N := some 31) (v := ?_) (a' := ?_) #[true, false, false, false, false, false, false, false, false, false, false, false] rfl rfl (take_ofW HT_.out HW_.out (by kernel_rfl)) (fun _ _ _ h => h) (Or.inl ⟨by rfl, ?_⟩) hHeld ?_ ?_
        rotate_left
        · rintro w' ⟨s0, s1, s2, s3, s4, s5, s6, s7, s8, s9, s10, s11⟩
          go_simp
          with_reducible rfl
        rotate_left
        · simp only [Act.put, List.setIfInBounds_toArray, List.set_cons_zero, List.set_cons_succ, i64_w, i32_w]
          rfl
        refine take_ (i := 2) (N := some 33) (v := ?_) (a' := ?_) #[true, false, true, false, false, false, false, false, false, false, false, false] rfl rfl (take_ofW HT_.out HW_.out (by kernel_rfl)) (fun _ _ _ h => h) (Or.inl ⟨by rfl, ?_⟩) hHeld ?_ ?_
        rotate_left
        · rintro w' ⟨s0, s1, s2, s3, s4, s5, s6, s7, s8, s9, s10, s11⟩
          go_simp
          with_reducible rfl
        rotate_left
        · simp only [Act.put, List.setIfInBounds_toArray, List.set_cons_zero, List.set_cons_succ, i64_w, i32_w]
          rfl
        refine take_ (i := 4) (N := some 35) (v := ?_) (a' := ?_) #[true, false, true, false, true, false, false, false, false, false, false, false] rfl rfl (take_ofW HT_.out HW_.out (by kernel_rfl)) (fun _ _ _ h => h) (Or.inl ⟨by rfl, ?_⟩) hHeld ?_ ?_
        rotate_left
        · rintro w' ⟨s0, s1, s2, s3, s4, s5, s6, s7, s8, s9, s10, s11⟩
          go_simp
          with_reducible rfl
        rotate_left
        · simp only [Act.put, List.setIfInBounds_toArray, List.set_cons_zero, List.set_cons_succ, i64_w, i32_w]
          rfl
        refine one_ (i := 1) (N := some 32) #[true, true, true, false, true, false, false, false, false, false, false, false] rfl rfl (one_of HT_.out (by kernel_rfl)) (by decide) (fun K hK => ?_)
        refine goes_ Try.func17 (by kernel_rfl) rfl #[.agg #[.slice A0_0 l0_0.length c0_0, .slice A0_1 l0_1.length c0_1, .slice A0_2 l0_2.length c0_2, .int .i64 a0_3, .int .i64 a0_4, .int .i64 a0_5, .int .i64 a0_6, .int .i64 a0_7]] (by rfl) rfl rfl (by (try simp only [List.map_toArray, List.map_cons, List.map_nil]); first | done | rfl | (simp only [List.length_drop, List.length_take]; rfl)) ?_
        with_reducible refine (laws_toJob.calls k _ _ l0_0 _ _ l0_1 _ _ l0_2 a0_3 a0_4 a0_5 a0_6 a0_7 t243 t246 t249 t252 t253 t254 t255 t256 _ ?side1 ?side2 ?side3 ?side4 ?side5 ?side6 A39.out).mono ?_
        (case side1 => exact cS (Kd.C_below HR0_0.out HB.out))
        (case side2 => exact HC0_0.out)
        (case side3 => exact cS (Kd.C_below HR0_1.out HB.out))
        (case side4 => exact HC0_1.out)
        (case side5 => exact cS (Kd.C_below HR0_2.out HB.out))
        (case side6 => exact HC0_2.out)
        rintro e w61 ⟨v244, v247, v250, rfl, ho0, ho1, ho2, hb⟩
        refine ⟨_, rfl, ?_⟩
        have n0_ := AZ (Kd.S_lower ho0 (below_size (bS HB.out)))
        have n1_ := AZ (Kd.R_lower ho1 (below_size (bS HB.out)))
        have n2_ := AZ (Kd.R_lower ho2 (below_size (bS HB.out)))
        have n3_ := blkA BK237 hb
        have n4_ := blkA BK238 hb
        have n5_ := blkA BK239 hb
        have n6_ := AZ (below_step (bS HB.out) hb)
        clear BK237
        clear BK238
        clear BK239
        clear HB
        have HO245 := n0_
        have HO248 := n1_
        have HO251 := n2_
        have BK237 := n3_
        have BK238 := n4_
        have BK239 := n5_
        have HB := n6_
        clear n0_ n1_ n2_ n3_ n4_ n5_ n6_
        (try clear hb)
        (try clear hb2)
        (try clear hk)
        (try clear hi)
        (try clear ho0)
        (try clear ho1)
        (try clear ho2)
        refine hK.out _ _ ⟨(blk_cell BK237.out 0).trans rfl, (blk_cell BK237.out 1).trans rfl, (blk_cell BK237.out 2).trans rfl, (blk_cell BK237.out 3).trans rfl, (blk_cell BK237.out 4).trans rfl, (blk_cell BK237.out 5).trans rfl, (blk_cell BK237.out 6).trans rfl, (blk_cell BK237.out 7).trans rfl, (blk_cell BK238.out 0).trans rfl, (blk_cell BK238.out 1).trans rfl, (blk_cell BK239.out 0).trans rfl, (blk_cell BK239.out 1).trans rfl⟩ (fun hHeld => ?_)
        clear hK K
        refine norm_ (a' := ?_) ?_ ?_
        rotate_left
        · show Act.put _ (some 32) _ = _
          simp only [Act.put, List.setIfInBounds_toArray, List.set_cons_zero, List.set_cons_succ, i64_w, i32_w]
          rfl
        refine one_ (i := 3) (N := some 34) #[true, true, true, true, true, false, false, false, false, false, false, false] rfl rfl (one_of HT_.out (by kernel_rfl)) (by decide) (fun K hK => ?_)
        refine goes_ Try.func18 (by kernel_rfl) rfl #[.agg #[.int .i64 a1_0, .slice A1_1 l1_1.length c1_1]] (by rfl) rfl rfl (by (try simp only [List.map_toArray, List.map_cons, List.map_nil]); first | done | rfl | (simp only [List.length_drop, List.length_take]; rfl)) ?_
        with_reducible refine (laws_toPlan.calls k a1_0 _ _ l1_1 t257 t258 _ ?side1 ?side2 A40.out).mono ?_
        (case side1 => exact cS (Kd.C_below HR1_1.out HB.out))
        (case side2 => exact HC1_1.out)
        rintro e w62 ⟨v259, rfl, ho0, hb⟩
        refine ⟨_, rfl, ?_⟩
        have n0_ := AZ (Kd.S_elder' (sS HO245.out) (Kd.R_base ho0) hb)
        have n1_ := AZ (Kd.R_elder' (rS HO248.out) (Kd.R_base ho0) hb)
        have n2_ := AZ (Kd.R_elder' (rS HO251.out) (Kd.R_base ho0) hb)
        have n3_ := AZ (Kd.R_lower (Kd.R_new' (Kd.R_new' ho0 (Kd.R_lt (rS HO248.out))) (Kd.R_lt (rS HO251.out))) (below_size (bS HB.out)))
        have n4_ := blkA BK237 hb
        have n5_ := blkA BK238 hb
        have n6_ := blkA BK239 hb
        have n7_ := AZ (below_step (bS HB.out) hb)
        clear HO245
        clear HO248
        clear HO251
        clear BK237
        clear BK238
        clear BK239
        clear HB
        have HO245 := n0_
        have HO248 := n1_
        have HO251 := n2_
        have HO260 := n3_
        have BK237 := n4_
        have BK238 := n5_
        have BK239 := n6_
        have HB := n7_
        clear n0_ n1_ n2_ n3_ n4_ n5_ n6_ n7_
        (try clear hb)
        (try clear hb2)
        (try clear hk)
        (try clear hi)
        (try clear ho0)
        refine hK.out _ _ ⟨(blk_cell BK237.out 0).trans rfl, (blk_cell BK237.out 1).trans rfl, (blk_cell BK237.out 2).trans rfl, (blk_cell BK237.out 3).trans rfl, (blk_cell BK237.out 4).trans rfl, (blk_cell BK237.out 5).trans rfl, (blk_cell BK237.out 6).trans rfl, (blk_cell BK237.out 7).trans rfl, (blk_cell BK238.out 0).trans rfl, (blk_cell BK238.out 1).trans rfl, (blk_cell BK239.out 0).trans rfl, (blk_cell BK239.out 1).trans rfl⟩ (fun hHeld => ?_)
        clear hK K
        refine norm_ (a' := ?_) ?_ ?_
        rotate_left
        · show Act.put _ (some 34) _ = _
          simp only [Act.put, List.setIfInBounds_toArray, List.set_cons_zero, List.set_cons_succ, i64_w, i32_w]
          rfl
        refine one_ (i := 5) (N := some 36) #[true, true, true, true, true, true, false, false, false, false, false, false] rfl rfl (one_of HT_.out (by kernel_rfl)) (by decide) (fun K hK => ?_)
        refine goes_ Try.func18 (by kernel_rfl) rfl #[.agg #[.int .i64 a2_0, .slice A2_1 l2_1.length c2_1]] (by rfl) rfl rfl (by (try simp only [List.map_toArray, List.map_cons, List.map_nil]); first | done | rfl | (simp only [List.length_drop, List.length_take]; rfl)) ?_
        with_reducible refine (laws_toPlan.calls k a2_0 _ _ l2_1 t261 t262 _ ?side1 ?side2 A41.out).mono ?_
        (case side1 => exact cS (Kd.C_below HR2_1.out HB.out))
        (case side2 => exact HC2_1.out)
        rintro e w63 ⟨v263, rfl, ho0, hb⟩
        refine ⟨_, rfl, ?_⟩
        have n0_ := AZ (Kd.S_elder' (sS HO245.out) (Kd.R_base ho0) hb)
        have n1_ := AZ (Kd.R_elder' (rS HO248.out) (Kd.R_base ho0) hb)
        have n2_ := AZ (Kd.R_elder' (rS HO251.out) (Kd.R_base ho0) hb)
        have n3_ := AZ (Kd.R_elder' (rS HO260.out) (Kd.R_base ho0) hb)
        have n4_ := AZ (Kd.R_lower (Kd.R_new' (Kd.R_new' (Kd.R_new' ho0 (Kd.R_lt (rS HO248.out))) (Kd.R_lt (rS HO251.out))) (Kd.R_lt (rS HO260.out))) (below_size (bS HB.out)))
        have n5_ := blkA BK237 hb
        have n6_ := blkA BK238 hb
        have n7_ := blkA BK239 hb
        have n8_ := AZ (below_step (bS HB.out) hb)
        clear HO245
        clear HO248
        clear HO251
        clear HO260
        clear BK237
        clear BK238
        clear BK239
        clear HB
        have HO245 := n0_
        have HO248 := n1_
        have HO251 := n2_
        have HO260 := n3_
        have HO264 := n4_
        have BK237 := n5_
        have BK238 := n6_
        have BK239 := n7_
        have HB := n8_
        clear n0_ n1_ n2_ n3_ n4_ n5_ n6_ n7_ n8_
        (try clear hb)
        (try clear hb2)
        (try clear hk)
        (try clear hi)
        (try clear ho0)
        obtain ⟨Ao64, co64, eo64⟩ := Kd.S_slice HO245.out
        (first | subst eo64 | (injection eo64 with f1_ f2_ f3_; have f4_ := f1_.symm; have f5_ := f3_.symm; clear f1_ f2_ f3_; subst f4_; subst f5_))
        obtain ⟨Ao65, co65, eo65⟩ := Kd.R_slice HO248.out
        (first | subst eo65 | (injection eo65 with f1_ f2_ f3_; have f4_ := f1_.symm; have f5_ := f3_.symm; clear f1_ f2_ f3_; subst f4_; subst f5_))
        obtain ⟨Ao66, co66, eo66⟩ := Kd.R_slice HO251.out
        (first | subst eo66 | (injection eo66 with f1_ f2_ f3_; have f4_ := f1_.symm; have f5_ := f3_.symm; clear f1_ f2_ f3_; subst f4_; subst f5_))
        obtain ⟨Ao67, co67, eo67⟩ := Kd.R_slice HO260.out
        (first | subst eo67 | (injection eo67 with f1_ f2_ f3_; have f4_ := f1_.symm; have f5_ := f3_.symm; clear f1_ f2_ f3_; subst f4_; subst f5_))
        obtain ⟨Ao68, co68, eo68⟩ := Kd.R_slice HO264.out
        (first | subst eo68 | (injection eo68 with f1_ f2_ f3_; have f4_ := f1_.symm; have f5_ := f3_.symm; clear f1_ f2_ f3_; subst f4_; subst f5_))
        refine hK.out _ _ ⟨(blk_cell BK237.out 0).trans rfl, (blk_cell BK237.out 1).trans rfl, (blk_cell BK237.out 2).trans rfl, (blk_cell BK237.out 3).trans rfl, (blk_cell BK237.out 4).trans rfl, (blk_cell BK237.out 5).trans rfl, (blk_cell BK237.out 6).trans rfl, (blk_cell BK237.out 7).trans rfl, (blk_cell BK238.out 0).trans rfl, (blk_cell BK238.out 1).trans rfl, (blk_cell BK239.out 0).trans rfl, (blk_cell BK239.out 1).trans rfl⟩ (fun hHeld => ?_)
        clear hK K
        refine norm_ (a' := ?_) ?_ ?_
        rotate_left
        · show Act.put _ (some 36) _ = _
          simp only [Act.put, List.setIfInBounds_toArray, List.set_cons_zero, List.set_cons_succ, i64_w, i32_w]
          rfl
        refine one_ (i := 6) (N := some 37) #[true, true, true, true, true, true, true, false, false, false, false, false] rfl rfl (one_of HT_.out (by kernel_rfl)) (by decide) (fun K hK => ?_)
        refine goes_ Try.func16 (by kernel_rfl) rfl #[.agg #[.slice Ao64 t243.length co64, .slice Ao65 t246.length co65, .slice Ao66 t249.length co66, .int .i64 t252, .int .i64 t253, .int .i64 t254, .int .i64 t255, .int .i64 t256], .agg #[.int .i64 t257, .slice Ao67 t258.length co67], .agg #[.int .i64 t261, .slice Ao68 t262.length co68]] (by rfl) rfl rfl (by (try simp only [List.map_toArray, List.map_cons, List.map_nil]); first | done | rfl | (simp only [List.length_drop, List.length_take]; rfl)) ?_
        with_reducible refine (spec_FirstApart.calls k _ _ t243 _ _ t246 _ _ t249 t252 t253 t254 t255 t256 t257 _ _ t258 t261 _ _ t262 t265 t266 _ ?side1 ?side2 ?side3 ?side4 ?side5 ?side6 ?side7 ?side8 ?side9 ?side10 A42.out).mono ?_
        (case side1 => exact cS (Kd.S_reads' HO245.out).2.2)
        (case side2 => exact (Kd.S_reads' HO245.out).2.1)
        (case side3 => exact cS (Kd.R_reads' HO248.out).2.2)
        (case side4 => exact (Kd.R_reads' HO248.out).2.1)
        (case side5 => exact cS (Kd.R_reads' HO251.out).2.2)
        (case side6 => exact (Kd.R_reads' HO251.out).2.1)
        (case side7 => exact cS (Kd.R_reads' HO260.out).2.2)
        (case side8 => exact (Kd.R_reads' HO260.out).2.1)
        (case side9 => exact cS (Kd.R_reads' HO264.out).2.2)
        (case side10 => exact (Kd.R_reads' HO264.out).2.1)
        rintro e w69 ⟨rfl, hb⟩
        refine ⟨_, rfl, ?_⟩
        have n0_ := AZ (Kd.S_below (sS HO245.out) hb)
        have n1_ := AZ (Kd.R_below (rS HO248.out) hb)
        have n2_ := AZ (Kd.R_below (rS HO251.out) hb)
        have n3_ := AZ (Kd.R_below (rS HO260.out) hb)
        have n4_ := AZ (Kd.R_below (rS HO264.out) hb)
        have n5_ := blkA BK237 hb
        have n6_ := blkA BK238 hb
        have n7_ := blkA BK239 hb
        have n8_ := AZ (below_step (bS HB.out) hb)
        clear HO245
        clear HO248
        clear HO251
        clear HO260
        clear HO264
        clear BK237
        clear BK238
        clear BK239
        clear HB
        have HO245 := n0_
        have HO248 := n1_
        have HO251 := n2_
        have HO260 := n3_
        have HO264 := n4_
        have BK237 := n5_
        have BK238 := n6_
        have BK239 := n7_
        have HB := n8_
        clear n0_ n1_ n2_ n3_ n4_ n5_ n6_ n7_ n8_
        (try clear hb)
        (try clear hb2)
        (try clear hk)
        (try clear hi)
        refine hK.out _ _ ⟨(blk_cell BK237.out 0).trans rfl, (blk_cell BK237.out 1).trans rfl, (blk_cell BK237.out 2).trans rfl, (blk_cell BK237.out 3).trans rfl, (blk_cell BK237.out 4).trans rfl, (blk_cell BK237.out 5).trans rfl, (blk_cell BK237.out 6).trans rfl, (blk_cell BK237.out 7).trans rfl, (blk_cell BK238.out 0).trans rfl, (blk_cell BK238.out 1).trans rfl, (blk_cell BK239.out 0).trans rfl, (blk_cell BK239.out 1).trans rfl⟩ (fun hHeld => ?_)
        clear hK K
        refine norm_ (a' := ?_) ?_ ?_
        rotate_left
        · show Act.put _ (some 37) _ = _
          simp only [Act.put, List.setIfInBounds_toArray, List.set_cons_zero, List.set_cons_succ, i64_w, i32_w]
          rfl
        refine pure_ (i := 7) (N := some 30) (v := ?_) (a' := ?_) #[true, true, true, true, true, true, true, true, false, false, false, false] rfl rfl (any_of HT_.out (by kernel_rfl)) (fun _ _ _ h => h) (Or.inl ⟨by rfl, ?_⟩) ?_ ?_
        rotate_left
        · intro w'
          go_simp
          with_reducible rfl
        rotate_left
        · simp only [Act.put, List.setIfInBounds_toArray, List.set_cons_zero, List.set_cons_succ, i64_w, i32_w]
          rfl
        refine pure_ (i := 8) (N := some 38) (v := ?_) (a' := ?_) #[true, true, true, true, true, true, true, true, true, false, false, false] rfl rfl (any_of HT_.out (by kernel_rfl)) (fun _ _ _ h => h) (Or.inl ⟨by rfl, ?_⟩) ?_ ?_
        rotate_left
        · intro w'
          go_simp
          with_reducible rfl
        rotate_left
        · simp only [Act.put, List.setIfInBounds_toArray, List.set_cons_zero, List.set_cons_succ, i64_w, i32_w]
          rfl
        refine pure_ (i := 9) (N := some 39) (v := ?_) (a' := ?_) #[true, true, true, true, true, true, true, true, true, true, false, false] rfl rfl (any_of HT_.out (by kernel_rfl)) (fun _ _ _ h => h) (Or.inl ⟨by rfl, ?_⟩) ?_ ?_
        rotate_left
        · intro w'
          go_simp
          with_reducible rfl
        rotate_left
        · simp only [Act.put, List.setIfInBounds_toArray, List.set_cons_zero, List.set_cons_succ, i64_w, i32_w]
          rfl
        refine pure_ (i := 10) (N := some 8) (v := ?_) (a' := ?_) #[true, true, true, true, true, true, true, true, true, true, true, false] rfl rfl (any_of HT_.out (by kernel_rfl)) (fun _ _ _ h => h) (Or.inl ⟨by rfl, ?_⟩) ?_ ?_
        rotate_left
        · intro w'
          go_simp
          with_reducible rfl
        rotate_left
        · simp only [Act.put, List.setIfInBounds_toArray, List.set_cons_zero, List.set_cons_succ, i64_w, i32_w]
          rfl
        refine pure_ (i := 11) (N := some 9) (v := ?_) (a' := ?_) #[true, true, true, true, true, true, true, true, true, true, true, true] rfl rfl (any_of HT_.out (by kernel_rfl)) (fun _ _ _ h => h) (Or.inl ⟨by rfl, ?_⟩) ?_ ?_
        rotate_left
        · intro w'
          go_simp
          with_reducible rfl
        rotate_left
        · simp only [Act.put, List.setIfInBounds_toArray, List.set_cons_zero, List.set_cons_succ, i64_w, i32_w]
          rfl
        refine done_ (done_of HT_.out (by kernel_rfl)) ?_
        have hcz70_0 : w69.cell? ⟨gb237, 0, none⟩ = some (.slice A0_0 l0_0.length c0_0) := (blk_cell BK237.out 0).trans rfl
        have hcz70_1 : w69.cell? ⟨gb237, 1, none⟩ = some (.slice A0_1 l0_1.length c0_1) := (blk_cell BK237.out 1).trans rfl
        have hcz70_2 : w69.cell? ⟨gb237, 2, none⟩ = some (.slice A0_2 l0_2.length c0_2) := (blk_cell BK237.out 2).trans rfl
        have hcz70_3 : w69.cell? ⟨gb237, 3, none⟩ = some (.int .i64 a0_3) := (blk_cell BK237.out 3).trans rfl
        have hcz70_4 : w69.cell? ⟨gb237, 4, none⟩ = some (.int .i64 a0_4) := (blk_cell BK237.out 4).trans rfl
        have hcz70_5 : w69.cell? ⟨gb237, 5, none⟩ = some (.int .i64 a0_5) := (blk_cell BK237.out 5).trans rfl
        have hcz70_6 : w69.cell? ⟨gb237, 6, none⟩ = some (.int .i64 a0_6) := (blk_cell BK237.out 6).trans rfl
        have hcz70_7 : w69.cell? ⟨gb237, 7, none⟩ = some (.int .i64 a0_7) := (blk_cell BK237.out 7).trans rfl
        have hfz70_0 := blk_frozen BK237.out 0
        have hfz70_1 := blk_frozen BK237.out 1
        have hfz70_2 := blk_frozen BK237.out 2
        have hfz70_3 := blk_frozen BK237.out 3
        have hfz70_4 := blk_frozen BK237.out 4
        have hfz70_5 := blk_frozen BK237.out 5
        have hfz70_6 := blk_frozen BK237.out 6
        have hfz70_7 := blk_frozen BK237.out 7
        go_upto_region 16 with (first | ((with_reducible refine gate_callee (f := 17) rfl ?_); refine gL (some 41) Try.func17 #[.agg #[.slice A0_0 l0_0.length c0_0, .slice A0_1 l0_1.length c0_1, .slice A0_2 l0_2.length c0_2, .int .i64 a0_3, .int .i64 a0_4, .int .i64 a0_5, .int .i64 a0_6, .int .i64 a0_7]] ?_; (with_reducible refine (laws_toJob.calls k _ _ l0_0 _ _ l0_1 _ _ l0_2 a0_3 a0_4 a0_5 a0_6 a0_7 t267 t270 t273 t276 t277 t278 t279 t280 _ ?side1 ?side2 ?side3 ?side4 ?side5 ?side6 A43.out).mono ?_); (case side1 => exact cS (Kd.C_below HR0_0.out HB.out)); (case side2 => exact HC0_0.out); (case side3 => exact cS (Kd.C_below HR0_1.out HB.out)); (case side4 => exact HC0_1.out); (case side5 => exact cS (Kd.C_below HR0_2.out HB.out)); (case side6 => exact HC0_2.out); rintro e w71 ⟨v268, v271, v274, rfl, ho0, ho1, ho2, hb⟩; refine ⟨_, rfl, ?_⟩; have n0_ := AZ (Kd.S_mono (Kd.S_told (Kd.S_told (Kd.S_told (Kd.S_old (sS HO245.out) hb) (Kd.S_base ho0)) (Kd.R_base ho1)) (Kd.R_base ho2)) (fun _ h_ => h_.1)); have n1_ := AZ (Kd.R_mono (Kd.R_told (Kd.R_told (Kd.R_old (rS HO248.out) hb) (Kd.R_base ho1)) (Kd.R_base ho2)) (fun _ h_ => h_.1)); have n2_ := AZ (Kd.R_mono (Kd.R_told (Kd.R_told (Kd.R_old (rS HO251.out) hb) (Kd.R_base ho1)) (Kd.R_base ho2)) (fun _ h_ => h_.1)); have n3_ := AZ (Kd.R_mono (Kd.R_told (Kd.R_told (Kd.R_old (rS HO260.out) hb) (Kd.R_base ho1)) (Kd.R_base ho2)) (fun _ h_ => h_.1)); have n4_ := AZ (Kd.R_mono (Kd.R_told (Kd.R_told (Kd.R_old (rS HO264.out) hb) (Kd.R_base ho1)) (Kd.R_base ho2)) (fun _ h_ => h_.1)); have n5_ := AZ (Kd.S_lower (Kd.S_new' (Kd.S_new' (Kd.S_new' (Kd.S_new' (Kd.S_new' ho0 (Kd.S_lt (sS HO245.out))) (Kd.R_lt (rS HO248.out))) (Kd.R_lt (rS HO251.out))) (Kd.R_lt (rS HO260.out))) (Kd.R_lt (rS HO264.out))) (below_size (bS HB.out))); have n6_ := AZ (Kd.R_lower (Kd.R_new' (Kd.R_new' (Kd.R_new' (Kd.R_new' ho1 (Kd.R_lt (rS HO248.out))) (Kd.R_lt (rS HO251.out))) (Kd.R_lt (rS HO260.out))) (Kd.R_lt (rS HO264.out))) (below_size (bS HB.out))); have n7_ := AZ (Kd.R_lower (Kd.R_new' (Kd.R_new' (Kd.R_new' (Kd.R_new' ho2 (Kd.R_lt (rS HO248.out))) (Kd.R_lt (rS HO251.out))) (Kd.R_lt (rS HO260.out))) (Kd.R_lt (rS HO264.out))) (below_size (bS HB.out))); have n8_ := blkA BK237 hb; have n9_ := blkA BK238 hb; have n10_ := blkA BK239 hb; have n11_ := AZ (below_step (bS HB.out) hb); clear HO245; clear HO248; clear HO251; clear HO260; clear HO264; clear BK237; clear BK238; clear BK239; clear HB; have HO245 := n0_; have HO248 := n1_; have HO251 := n2_; have HO260 := n3_; have HO264 := n4_; have HO269 := n5_; have HO272 := n6_; have HO275 := n7_; have BK237 := n8_; have BK238 := n9_; have BK239 := n10_; have HB := n11_; clear n0_ n1_ n2_ n3_ n4_ n5_ n6_ n7_ n8_ n9_ n10_ n11_; (try clear hb ho0 ho1 ho2)) | ((with_reducible refine gate_dst (N := 10) rfl ?_); refine box_event ?hg (N := 10) ?hd (cs := #[.slice none 0 0, .slice none 0 0, .slice none 0 0, .int .i64 0, .int .i64 0, .int .i64 0, .int .i64 0, .int .i64 0]) (t := 36) ?hr ?_; (case hd => rfl); (case hg => rfl); (case hr => first | (go_simp; done) | (go_simp; rfl)); intro gb281 hg w72 hbox hb; have n0_ := AZ (Kd.S_below (sS HO245.out) hb); have n1_ := AZ (Kd.R_below (rS HO248.out) hb); have n2_ := AZ (Kd.R_below (rS HO251.out) hb); have n3_ := AZ (Kd.R_below (rS HO260.out) hb); have n4_ := AZ (Kd.R_below (rS HO264.out) hb); have n5_ := AZ (Kd.S_below (sS HO269.out) hb); have n6_ := AZ (Kd.R_below (rS HO272.out) hb); have n7_ := AZ (Kd.R_below (rS HO275.out) hb); have n8_ := blkA BK237 hb; have n9_ := blkA BK238 hb; have n10_ := blkA BK239 hb; have n11_ := AZ (below_step (bS HB.out) hb); have n12_ := AZ (hbox); have n13_ := AZ (geS hg HB.out); have n14_ := AZ (geS hg HB.out); have n15_ := AZ ((by rw [hg]; exact Nat.ne_of_lt (blkL BK237.out) : gb237 ≠ gb281)); have n16_ := AZ ((by rw [hg]; exact Nat.ne_of_gt (blkL BK237.out) : gb281 ≠ gb237)); have n17_ := AZ ((by rw [hg]; exact Nat.ne_of_lt (blkL BK238.out) : gb238 ≠ gb281)); have n18_ := AZ ((by rw [hg]; exact Nat.ne_of_gt (blkL BK238.out) : gb281 ≠ gb238)); have n19_ := AZ ((by rw [hg]; exact Nat.ne_of_lt (blkL BK239.out) : gb239 ≠ gb281)); have n20_ := AZ ((by rw [hg]; exact Nat.ne_of_gt (blkL BK239.out) : gb281 ≠ gb239)); clear HO245; clear HO248; clear HO251; clear HO260; clear HO264; clear HO269; clear HO272; clear HO275; clear BK237; clear BK238; clear BK239; clear HB; have HO245 := n0_; have HO248 := n1_; have HO251 := n2_; have HO260 := n3_; have HO264 := n4_; have HO269 := n5_; have HO272 := n6_; have HO275 := n7_; have BK237 := n8_; have BK238 := n9_; have BK239 := n10_; have HB := n11_; have BK281 := n12_; have GW281 := n13_; have GE281 := n14_; have NB237_281 := n15_; have NB281_237 := n16_; have NB238_281 := n17_; have NB281_238 := n18_; have NB239_281 := n19_; have NB281_239 := n20_; clear n0_ n1_ n2_ n3_ n4_ n5_ n6_ n7_ n8_ n9_ n10_ n11_ n12_ n13_ n14_ n15_ n16_ n17_ n18_ n19_ n20_; clear hb hbox hg; obtain ⟨Ao73, co73, eo73⟩ := Kd.S_slice HO269.out; subst eo73; have hnb74 := NB281_237.out; have hnc74 := NB237_281.out; have hnb75 := NB281_238.out; have hnc75 := NB238_281.out; have hnb76 := NB281_239.out; have hnc76 := NB239_281.out; have hcz77_0 : w72.cell? ⟨gb281, 0, none⟩ = some (.slice none 0 0) := (blk_cell BK281.out 0).trans rfl; have hcz77_1 : w72.cell? ⟨gb281, 1, none⟩ = some (.slice none 0 0) := (blk_cell BK281.out 1).trans rfl; have hcz77_2 : w72.cell? ⟨gb281, 2, none⟩ = some (.slice none 0 0) := (blk_cell BK281.out 2).trans rfl; have hcz77_3 : w72.cell? ⟨gb281, 3, none⟩ = some (.int .i64 0) := (blk_cell BK281.out 3).trans rfl; have hcz77_4 : w72.cell? ⟨gb281, 4, none⟩ = some (.int .i64 0) := (blk_cell BK281.out 4).trans rfl; have hcz77_5 : w72.cell? ⟨gb281, 5, none⟩ = some (.int .i64 0) := (blk_cell BK281.out 5).trans rfl; have hcz77_6 : w72.cell? ⟨gb281, 6, none⟩ = some (.int .i64 0) := (blk_cell BK281.out 6).trans rfl; have hcz77_7 : w72.cell? ⟨gb281, 7, none⟩ = some (.int .i64 0) := (blk_cell BK281.out 7).trans rfl; have hfz77_0 := blk_frozen BK281.out 0; have hfz77_1 := blk_frozen BK281.out 1; have hfz77_2 := blk_frozen BK281.out 2; have hfz77_3 := blk_frozen BK281.out 3; have hfz77_4 := blk_frozen BK281.out 4; have hfz77_5 := blk_frozen BK281.out 5; have hfz77_6 := blk_frozen BK281.out 6; have hfz77_7 := blk_frozen BK281.out 7; obtain ⟨Ao78, co78, eo78⟩ := Kd.R_slice HO272.out; subst eo78; obtain ⟨Ao79, co79, eo79⟩ := Kd.R_slice HO275.out; subst eo79; have hcz80_0 : w72.cell? ⟨gb238, 0, none⟩ = some (.int .i64 a1_0) := (blk_cell BK238.out 0).trans rfl; have hcz80_1 : w72.cell? ⟨gb238, 1, none⟩ = some (.slice A1_1 l1_1.length c1_1) := (blk_cell BK238.out 1).trans rfl; have hfz80_0 := blk_frozen BK238.out 0; have hfz80_1 := blk_frozen BK238.out 1) | ((with_reducible refine gate_callee (f := 18) rfl ?_); refine gL (some 43) Try.func18 #[.agg #[.int .i64 a1_0, .slice A1_1 l1_1.length c1_1]] ?_; (with_reducible refine (laws_toPlan.calls k a1_0 _ _ l1_1 t282 t283 _ ?side1 ?side2 A44.out).mono ?_); (case side1 => exact Kd.C_below HR1_1.out (bS HB.out)); (case side2 => exact HC1_1.out); rintro e w81 ⟨v284, rfl, ho0, hb⟩; refine ⟨_, rfl, ?_⟩; have n0_ := AZ (Kd.S_elder' (by (with_reducible repeat (first | apply Kd.S_alloc | apply Kd.S_drewN | apply Kd.S_drew)); exact (Kd.S_mono (Kd.S_far (Kd.S_far (Kd.S_far (Kd.S_far (Kd.S_far (Kd.S_far (Kd.S_far (Kd.S_far (Kd.S_types HO245.out BK281.out (by decide)) (fun _ hk => hk.2) _) (fun _ hk => hk.2) _) (fun _ hk => hk.2) _) (fun _ hk => hk.2) _) (fun _ hk => hk.2) _) (fun _ hk => hk.2) _) (fun _ hk => hk.2) _) (fun _ hk => hk.2) _) (fun _ h_ => h_.1))) (Kd.R_base ho0) hb); have n1_ := AZ (Kd.R_elder' (by (with_reducible repeat (first | apply Kd.R_alloc | apply Kd.R_drewN | apply Kd.R_drew)); exact (Kd.R_mono (Kd.R_far (Kd.R_far (Kd.R_far (Kd.R_far (Kd.R_far (Kd.R_far (Kd.R_far (Kd.R_far (Kd.R_types HO248.out BK281.out (by decide)) (fun _ hk => hk.2) _) (fun _ hk => hk.2) _) (fun _ hk => hk.2) _) (fun _ hk => hk.2) _) (fun _ hk => hk.2) _) (fun _ hk => hk.2) _) (fun _ hk => hk.2) _) (fun _ hk => hk.2) _) (fun _ h_ => h_.1))) (Kd.R_base ho0) hb); have n2_ := AZ (Kd.R_elder' (by (with_reducible repeat (first | apply Kd.R_alloc | apply Kd.R_drewN | apply Kd.R_drew)); exact (Kd.R_mono (Kd.R_far (Kd.R_far (Kd.R_far (Kd.R_far (Kd.R_far (Kd.R_far (Kd.R_far (Kd.R_far (Kd.R_types HO251.out BK281.out (by decide)) (fun _ hk => hk.2) _) (fun _ hk => hk.2) _) (fun _ hk => hk.2) _) (fun _ hk => hk.2) _) (fun _ hk => hk.2) _) (fun _ hk => hk.2) _) (fun _ hk => hk.2) _) (fun _ hk => hk.2) _) (fun _ h_ => h_.1))) (Kd.R_base ho0) hb); have n3_ := AZ (Kd.R_elder' (by (with_reducible repeat (first | apply Kd.R_alloc | apply Kd.R_drewN | apply Kd.R_drew)); exact (Kd.R_mono (Kd.R_far (Kd.R_far (Kd.R_far (Kd.R_far (Kd.R_far (Kd.R_far (Kd.R_far (Kd.R_far (Kd.R_types HO260.out BK281.out (by decide)) (fun _ hk => hk.2) _) (fun _ hk => hk.2) _) (fun _ hk => hk.2) _) (fun _ hk => hk.2) _) (fun _ hk => hk.2) _) (fun _ hk => hk.2) _) (fun _ hk => hk.2) _) (fun _ hk => hk.2) _) (fun _ h_ => h_.1))) (Kd.R_base ho0) hb); have n4_ := AZ (Kd.R_elder' (by (with_reducible repeat (first | apply Kd.R_alloc | apply Kd.R_drewN | apply Kd.R_drew)); exact (Kd.R_mono (Kd.R_far (Kd.R_far (Kd.R_far (Kd.R_far (Kd.R_far (Kd.R_far (Kd.R_far (Kd.R_far (Kd.R_types HO264.out BK281.out (by decide)) (fun _ hk => hk.2) _) (fun _ hk => hk.2) _) (fun _ hk => hk.2) _) (fun _ hk => hk.2) _) (fun _ hk => hk.2) _) (fun _ hk => hk.2) _) (fun _ hk => hk.2) _) (fun _ hk => hk.2) _) (fun _ h_ => h_.1))) (Kd.R_base ho0) hb); have n5_ := AZ (Kd.S_elder' (by (with_reducible repeat (first | apply Kd.S_alloc | apply Kd.S_drewN | apply Kd.S_drew)); exact (Kd.S_mono (Kd.S_far (Kd.S_far (Kd.S_far (Kd.S_far (Kd.S_far (Kd.S_far (Kd.S_far (Kd.S_far (Kd.S_types HO269.out BK281.out (by decide)) (fun _ hk => hk.2) _) (fun _ hk => hk.2) _) (fun _ hk => hk.2) _) (fun _ hk => hk.2) _) (fun _ hk => hk.2) _) (fun _ hk => hk.2) _) (fun _ hk => hk.2) _) (fun _ hk => hk.2) _) (fun _ h_ => h_.1))) (Kd.R_base ho0) hb); have n6_ := AZ (Kd.R_elder' (by (with_reducible repeat (first | apply Kd.R_alloc | apply Kd.R_drewN | apply Kd.R_drew)); exact (Kd.R_mono (Kd.R_far (Kd.R_far (Kd.R_far (Kd.R_far (Kd.R_far (Kd.R_far (Kd.R_far (Kd.R_far (Kd.R_types HO272.out BK281.out (by decide)) (fun _ hk => hk.2) _) (fun _ hk => hk.2) _) (fun _ hk => hk.2) _) (fun _ hk => hk.2) _) (fun _ hk => hk.2) _) (fun _ hk => hk.2) _) (fun _ hk => hk.2) _) (fun _ hk => hk.2) _) (fun _ h_ => h_.1))) (Kd.R_base ho0) hb); have n7_ := AZ (Kd.R_elder' (by (with_reducible repeat (first | apply Kd.R_alloc | apply Kd.R_drewN | apply Kd.R_drew)); exact (Kd.R_mono (Kd.R_far (Kd.R_far (Kd.R_far (Kd.R_far (Kd.R_far (Kd.R_far (Kd.R_far (Kd.R_far (Kd.R_types HO275.out BK281.out (by decide)) (fun _ hk => hk.2) _) (fun _ hk => hk.2) _) (fun _ hk => hk.2) _) (fun _ hk => hk.2) _) (fun _ hk => hk.2) _) (fun _ hk => hk.2) _) (fun _ hk => hk.2) _) (fun _ hk => hk.2) _) (fun _ h_ => h_.1))) (Kd.R_base ho0) hb); have n8_ := AZ (Kd.R_lower (Kd.R_new' (Kd.R_new' (Kd.R_new' (Kd.R_new' (Kd.R_new' (Kd.R_new' ho0 (Kd.R_lt (by (with_reducible repeat (first | apply Kd.R_alloc | apply Kd.R_drewN | apply Kd.R_drew)); exact (Kd.R_mono (Kd.R_far (Kd.R_far (Kd.R_far (Kd.R_far (Kd.R_far (Kd.R_far (Kd.R_far (Kd.R_far (Kd.R_types HO248.out BK281.out (by decide)) (fun _ hk => hk.2) _) (fun _ hk => hk.2) _) (fun _ hk => hk.2) _) (fun _ hk => hk.2) _) (fun _ hk => hk.2) _) (fun _ hk => hk.2) _) (fun _ hk => hk.2) _) (fun _ hk => hk.2) _) (fun _ h_ => h_.1))))) (Kd.R_lt (by (with_reducible repeat (first | apply Kd.R_alloc | apply Kd.R_drewN | apply Kd.R_drew)); exact (Kd.R_mono (Kd.R_far (Kd.R_far (Kd.R_far (Kd.R_far (Kd.R_far (Kd.R_far (Kd.R_far (Kd.R_far (Kd.R_types HO251.out BK281.out (by decide)) (fun _ hk => hk.2) _) (fun _ hk => hk.2) _) (fun _ hk => hk.2) _) (fun _ hk => hk.2) _) (fun _ hk => hk.2) _) (fun _ hk => hk.2) _) (fun _ hk => hk.2) _) (fun _ hk => hk.2) _) (fun _ h_ => h_.1))))) (Kd.R_lt (by (with_reducible repeat (first | apply Kd.R_alloc | apply Kd.R_drewN | apply Kd.R_drew)); exact (Kd.R_mono (Kd.R_far (Kd.R_far (Kd.R_far (Kd.R_far (Kd.R_far (Kd.R_far (Kd.R_far (Kd.R_far (Kd.R_types HO260.out BK281.out (by decide)) (fun _ hk => hk.2) _) (fun _ hk => hk.2) _) (fun _ hk => hk.2) _) (fun _ hk => hk.2) _) (fun _ hk => hk.2) _) (fun _ hk => hk.2) _) (fun _ hk => hk.2) _) (fun _ hk => hk.2) _) (fun _ h_ => h_.1))))) (Kd.R_lt (by (with_reducible repeat (first | apply Kd.R_alloc | apply Kd.R_drewN | apply Kd.R_drew)); exact (Kd.R_mono (Kd.R_far (Kd.R_far (Kd.R_far (Kd.R_far (Kd.R_far (Kd.R_far (Kd.R_far (Kd.R_far (Kd.R_types HO264.out BK281.out (by decide)) (fun _ hk => hk.2) _) (fun _ hk => hk.2) _) (fun _ hk => hk.2) _) (fun _ hk => hk.2) _) (fun _ hk => hk.2) _) (fun _ hk => hk.2) _) (fun _ hk => hk.2) _) (fun _ hk => hk.2) _) (fun _ h_ => h_.1))))) (Kd.R_lt (by (with_reducible repeat (first | apply Kd.R_alloc | apply Kd.R_drewN | apply Kd.R_drew)); exact (Kd.R_mono (Kd.R_far (Kd.R_far (Kd.R_far (Kd.R_far (Kd.R_far (Kd.R_far (Kd.R_far (Kd.R_far (Kd.R_types HO272.out BK281.out (by decide)) (fun _ hk => hk.2) _) (fun _ hk => hk.2) _) (fun _ hk => hk.2) _) (fun _ hk => hk.2) _) (fun _ hk => hk.2) _) (fun _ hk => hk.2) _) (fun _ hk => hk.2) _) (fun _ hk => hk.2) _) (fun _ h_ => h_.1))))) (Kd.R_lt (by (with_reducible repeat (first | apply Kd.R_alloc | apply Kd.R_drewN | apply Kd.R_drew)); exact (Kd.R_mono (Kd.R_far (Kd.R_far (Kd.R_far (Kd.R_far (Kd.R_far (Kd.R_far (Kd.R_far (Kd.R_far (Kd.R_types HO275.out BK281.out (by decide)) (fun _ hk => hk.2) _) (fun _ hk => hk.2) _) (fun _ hk => hk.2) _) (fun _ hk => hk.2) _) (fun _ hk => hk.2) _) (fun _ hk => hk.2) _) (fun _ hk => hk.2) _) (fun _ hk => hk.2) _) (fun _ h_ => h_.1))))) (below_size (bS HB.out))); have n9_ := AZ (blk_below (g := gb237) (o := .cells #[.slice A0_0 l0_0.length c0_0, .slice A0_1 l0_1.length c0_1, .slice A0_2 l0_2.length c0_2, .int .i64 a0_3, .int .i64 a0_4, .int .i64 a0_5, .int .i64 a0_6, .int .i64 a0_7] 27 (0, 0)) (by (with_reducible repeat (first | refine blk_drewN ?_ _ | refine blk_drew ?_ | refine blk_alloc ?_ _)); refine blk_far ?_ NB237_281.out _; (with_reducible repeat (first | refine blk_drewN ?_ _ | refine blk_drew ?_ | refine blk_alloc ?_ _)); refine blk_far ?_ NB237_281.out _; (with_reducible repeat (first | refine blk_drewN ?_ _ | refine blk_drew ?_ | refine blk_alloc ?_ _)); refine blk_far ?_ NB237_281.out _; (with_reducible repeat (first | refine blk_drewN ?_ _ | refine blk_drew ?_ | refine blk_alloc ?_ _)); refine blk_far ?_ NB237_281.out _; (with_reducible repeat (first | refine blk_drewN ?_ _ | refine blk_drew ?_ | refine blk_alloc ?_ _)); refine blk_far ?_ NB237_281.out _; (with_reducible repeat (first | refine blk_drewN ?_ _ | refine blk_drew ?_ | refine blk_alloc ?_ _)); refine blk_far ?_ NB237_281.out _; (with_reducible repeat (first | refine blk_drewN ?_ _ | refine blk_drew ?_ | refine blk_alloc ?_ _)); refine blk_far ?_ NB237_281.out _; (with_reducible repeat (first | refine blk_drewN ?_ _ | refine blk_drew ?_ | refine blk_alloc ?_ _)); refine blk_far ?_ NB237_281.out _; (with_reducible repeat (first | refine blk_drewN ?_ _ | refine blk_drew ?_ | refine blk_alloc ?_ _)); exact BK237.out) hb); have n10_ := AZ (blk_below (g := gb238) (o := .cells #[.int .i64 a1_0, .slice A1_1 l1_1.length c1_1] 29 (0, 0)) (by (with_reducible repeat (first | refine blk_drewN ?_ _ | refine blk_drew ?_ | refine blk_alloc ?_ _)); refine blk_far ?_ NB238_281.out _; (with_reducible repeat (first | refine blk_drewN ?_ _ | refine blk_drew ?_ | refine blk_alloc ?_ _)); refine blk_far ?_ NB238_281.out _; (with_reducible repeat (first | refine blk_drewN ?_ _ | refine blk_drew ?_ | refine blk_alloc ?_ _)); refine blk_far ?_ NB238_281.out _; (with_reducible repeat (first | refine blk_drewN ?_ _ | refine blk_drew ?_ | refine blk_alloc ?_ _)); refine blk_far ?_ NB238_281.out _; (with_reducible repeat (first | refine blk_drewN ?_ _ | refine blk_drew ?_ | refine blk_alloc ?_ _)); refine blk_far ?_ NB238_281.out _; (with_reducible repeat (first | refine blk_drewN ?_ _ | refine blk_drew ?_ | refine blk_alloc ?_ _)); refine blk_far ?_ NB238_281.out _; (with_reducible repeat (first | refine blk_drewN ?_ _ | refine blk_drew ?_ | refine blk_alloc ?_ _)); refine blk_far ?_ NB238_281.out _; (with_reducible repeat (first | refine blk_drewN ?_ _ | refine blk_drew ?_ | refine blk_alloc ?_ _)); refine blk_far ?_ NB238_281.out _; (with_reducible repeat (first | refine blk_drewN ?_ _ | refine blk_drew ?_ | refine blk_alloc ?_ _)); exact BK238.out) hb); have n11_ := AZ (blk_below (g := gb239) (o := .cells #[.int .i64 a2_0, .slice A2_1 l2_1.length c2_1] 29 (0, 0)) (by (with_reducible repeat (first | refine blk_drewN ?_ _ | refine blk_drew ?_ | refine blk_alloc ?_ _)); refine blk_far ?_ NB239_281.out _; (with_reducible repeat (first | refine blk_drewN ?_ _ | refine blk_drew ?_ | refine blk_alloc ?_ _)); refine blk_far ?_ NB239_281.out _; (with_reducible repeat (first | refine blk_drewN ?_ _ | refine blk_drew ?_ | refine blk_alloc ?_ _)); refine blk_far ?_ NB239_281.out _; (with_reducible repeat (first | refine blk_drewN ?_ _ | refine blk_drew ?_ | refine blk_alloc ?_ _)); refine blk_far ?_ NB239_281.out _; (with_reducible repeat (first | refine blk_drewN ?_ _ | refine blk_drew ?_ | refine blk_alloc ?_ _)); refine blk_far ?_ NB239_281.out _; (with_reducible repeat (first | refine blk_drewN ?_ _ | refine blk_drew ?_ | refine blk_alloc ?_ _)); refine blk_far ?_ NB239_281.out _; (with_reducible repeat (first | refine blk_drewN ?_ _ | refine blk_drew ?_ | refine blk_alloc ?_ _)); refine blk_far ?_ NB239_281.out _; (with_reducible repeat (first | refine blk_drewN ?_ _ | refine blk_drew ?_ | refine blk_alloc ?_ _)); refine blk_far ?_ NB239_281.out _; (with_reducible repeat (first | refine blk_drewN ?_ _ | refine blk_drew ?_ | refine blk_alloc ?_ _)); exact BK239.out) hb); have n12_ := AZ (blk_below (g := gb281) (o := .cells #[.slice Ao73 t267.length co73, .slice Ao78 t270.length co78, .slice Ao79 t273.length co79, .int .i64 t276, .int .i64 t277, .int .i64 t278, .int .i64 t279, .int .i64 t280] 36 (0, 0)) (by (with_reducible repeat (first | refine blk_drewN ?_ _ | refine blk_drew ?_ | refine blk_alloc ?_ _)); refine blk_put (cs := #[.slice Ao73 t267.length co73, .slice Ao78 t270.length co78, .slice Ao79 t273.length co79, .int .i64 t276, .int .i64 t277, .int .i64 t278, .int .i64 t279, .int .i64 0]) ?_ 7 _ rfl; (with_reducible repeat (first | refine blk_drewN ?_ _ | refine blk_drew ?_ | refine blk_alloc ?_ _)); refine blk_put (cs := #[.slice Ao73 t267.length co73, .slice Ao78 t270.length co78, .slice Ao79 t273.length co79, .int .i64 t276, .int .i64 t277, .int .i64 t278, .int .i64 0, .int .i64 0]) ?_ 6 _ rfl; (with_reducible repeat (first | refine blk_drewN ?_ _ | refine blk_drew ?_ | refine blk_alloc ?_ _)); refine blk_put (cs := #[.slice Ao73 t267.length co73, .slice Ao78 t270.length co78, .slice Ao79 t273.length co79, .int .i64 t276, .int .i64 t277, .int .i64 0, .int .i64 0, .int .i64 0]) ?_ 5 _ rfl; (with_reducible repeat (first | refine blk_drewN ?_ _ | refine blk_drew ?_ | refine blk_alloc ?_ _)); refine blk_put (cs := #[.slice Ao73 t267.length co73, .slice Ao78 t270.length co78, .slice Ao79 t273.length co79, .int .i64 t276, .int .i64 0, .int .i64 0, .int .i64 0, .int .i64 0]) ?_ 4 _ rfl; (with_reducible repeat (first | refine blk_drewN ?_ _ | refine blk_drew ?_ | refine blk_alloc ?_ _)); refine blk_put (cs := #[.slice Ao73 t267.length co73, .slice Ao78 t270.length co78, .slice Ao79 t273.length co79, .int .i64 0, .int .i64 0, .int .i64 0, .int .i64 0, .int .i64 0]) ?_ 3 _ rfl; (with_reducible repeat (first | refine blk_drewN ?_ _ | refine blk_drew ?_ | refine blk_alloc ?_ _)); refine blk_put (cs := #[.slice Ao73 t267.length co73, .slice Ao78 t270.length co78, .slice none 0 0, .int .i64 0, .int .i64 0, .int .i64 0, .int .i64 0, .int .i64 0]) ?_ 2 _ rfl; (with_reducible repeat (first | refine blk_drewN ?_ _ | refine blk_drew ?_ | refine blk_alloc ?_ _)); refine blk_put (cs := #[.slice Ao73 t267.length co73, .slice none 0 0, .slice none 0 0, .int .i64 0, .int .i64 0, .int .i64 0, .int .i64 0, .int .i64 0]) ?_ 1 _ rfl; (with_reducible repeat (first | refine blk_drewN ?_ _ | refine blk_drew ?_ | refine blk_alloc ?_ _)); refine blk_put (cs := #[.slice none 0 0, .slice none 0 0, .slice none 0 0, .int .i64 0, .int .i64 0, .int .i64 0, .int .i64 0, .int .i64 0]) ?_ 0 _ rfl; (with_reducible repeat (first | refine blk_drewN ?_ _ | refine blk_drew ?_ | refine blk_alloc ?_ _)); exact BK281.out) hb); have n13_ := AZ (below_step (bS HB.out) hb); clear HO245; clear HO248; clear HO251; clear HO260; clear HO264; clear HO269; clear HO272; clear HO275; clear BK237; clear BK238; clear BK239; clear BK281; clear HB; have HO245 := n0_; have HO248 := n1_; have HO251 := n2_; have HO260 := n3_; have HO264 := n4_; have HO269 := n5_; have HO272 := n6_; have HO275 := n7_; have HO285 := n8_; have BK237 := n9_; have BK238 := n10_; have BK239 := n11_; have BK281 := n12_; have HB := n13_; clear n0_ n1_ n2_ n3_ n4_ n5_ n6_ n7_ n8_ n9_ n10_ n11_ n12_ n13_; (try clear hb ho0)) | ((with_reducible refine gate_dst (N := 11) rfl ?_); refine box_event ?hg (N := 11) ?hd (cs := #[.int .i64 0, .slice none 0 0]) (t := 38) ?hr ?_; (case hd => rfl); (case hg => rfl); (case hr => first | (go_simp; done) | (go_simp; rfl)); intro gb286 hg w82 hbox hb; have n0_ := AZ (Kd.S_below (sS HO245.out) hb); have n1_ := AZ (Kd.R_below (rS HO248.out) hb); have n2_ := AZ (Kd.R_below (rS HO251.out) hb); have n3_ := AZ (Kd.R_below (rS HO260.out) hb); have n4_ := AZ (Kd.R_below (rS HO264.out) hb); have n5_ := AZ (Kd.S_below (sS HO269.out) hb); have n6_ := AZ (Kd.R_below (rS HO272.out) hb); have n7_ := AZ (Kd.R_below (rS HO275.out) hb); have n8_ := AZ (Kd.R_below (rS HO285.out) hb); have n9_ := blkA BK237 hb; have n10_ := blkA BK238 hb; have n11_ := blkA BK239 hb; have n12_ := blkA BK281 hb; have n13_ := AZ (below_step (bS HB.out) hb); have n14_ := AZ (hbox); have n15_ := AZ (geS hg HB.out); have n16_ := AZ (geS hg HB.out); have n17_ := AZ ((by rw [hg]; exact Nat.ne_of_lt (blkL BK237.out) : gb237 ≠ gb286)); have n18_ := AZ ((by rw [hg]; exact Nat.ne_of_gt (blkL BK237.out) : gb286 ≠ gb237)); have n19_ := AZ ((by rw [hg]; exact Nat.ne_of_lt (blkL BK238.out) : gb238 ≠ gb286)); have n20_ := AZ ((by rw [hg]; exact Nat.ne_of_gt (blkL BK238.out) : gb286 ≠ gb238)); have n21_ := AZ ((by rw [hg]; exact Nat.ne_of_lt (blkL BK239.out) : gb239 ≠ gb286)); have n22_ := AZ ((by rw [hg]; exact Nat.ne_of_gt (blkL BK239.out) : gb286 ≠ gb239)); have n23_ := AZ ((by rw [hg]; exact Nat.ne_of_lt (blkL BK281.out) : gb281 ≠ gb286)); have n24_ := AZ ((by rw [hg]; exact Nat.ne_of_gt (blkL BK281.out) : gb286 ≠ gb281)); clear HO245; clear HO248; clear HO251; clear HO260; clear HO264; clear HO269; clear HO272; clear HO275; clear HO285; clear BK237; clear BK238; clear BK239; clear BK281; clear HB; have HO245 := n0_; have HO248 := n1_; have HO251 := n2_; have HO260 := n3_; have HO264 := n4_; have HO269 := n5_; have HO272 := n6_; have HO275 := n7_; have HO285 := n8_; have BK237 := n9_; have BK238 := n10_; have BK239 := n11_; have BK281 := n12_; have HB := n13_; have BK286 := n14_; have GW286 := n15_; have GE286 := n16_; have NB237_286 := n17_; have NB286_237 := n18_; have NB238_286 := n19_; have NB286_238 := n20_; have NB239_286 := n21_; have NB286_239 := n22_; have NB281_286 := n23_; have NB286_281 := n24_; clear n0_ n1_ n2_ n3_ n4_ n5_ n6_ n7_ n8_ n9_ n10_ n11_ n12_ n13_ n14_ n15_ n16_ n17_ n18_ n19_ n20_ n21_ n22_ n23_ n24_; clear hb hbox hg; have hnb83 := NB286_237.out; have hnc83 := NB237_286.out; have hnb84 := NB286_238.out; have hnc84 := NB238_286.out; have hnb85 := NB286_239.out; have hnc85 := NB239_286.out; have hnb86 := NB286_281.out; have hnc86 := NB281_286.out; have hcz87_0 : w82.cell? ⟨gb286, 0, none⟩ = some (.int .i64 0) := (blk_cell BK286.out 0).trans rfl; have hcz87_1 : w82.cell? ⟨gb286, 1, none⟩ = some (.slice none 0 0) := (blk_cell BK286.out 1).trans rfl; have hfz87_0 := blk_frozen BK286.out 0; have hfz87_1 := blk_frozen BK286.out 1; obtain ⟨Ao88, co88, eo88⟩ := Kd.R_slice HO285.out; subst eo88; have hcz89_0 : w82.cell? ⟨gb239, 0, none⟩ = some (.int .i64 a2_0) := (blk_cell BK239.out 0).trans rfl; have hcz89_1 : w82.cell? ⟨gb239, 1, none⟩ = some (.slice A2_1 l2_1.length c2_1) := (blk_cell BK239.out 1).trans rfl; have hfz89_0 := blk_frozen BK239.out 0; have hfz89_1 := blk_frozen BK239.out 1) | ((with_reducible refine gate_callee (f := 18) rfl ?_); refine gL (some 45) Try.func18 #[.agg #[.int .i64 a2_0, .slice A2_1 l2_1.length c2_1]] ?_; (with_reducible refine (laws_toPlan.calls k a2_0 _ _ l2_1 t287 t288 _ ?side1 ?side2 A45.out).mono ?_); (case side1 => exact Kd.C_below HR2_1.out (bS HB.out)); (case side2 => exact HC2_1.out); rintro e w90 ⟨v289, rfl, ho0, hb⟩; refine ⟨_, rfl, ?_⟩; have n0_ := AZ (Kd.S_elder' (by (with_reducible repeat (first | apply Kd.S_alloc | apply Kd.S_drewN | apply Kd.S_drew)); exact (Kd.S_mono (Kd.S_far (Kd.S_far (Kd.S_types HO245.out BK286.out (by decide)) (fun _ hk => hk.2) _) (fun _ hk => hk.2) _) (fun _ h_ => h_.1))) (Kd.R_base ho0) hb); have n1_ := AZ (Kd.R_elder' (by (with_reducible repeat (first | apply Kd.R_alloc | apply Kd.R_drewN | apply Kd.R_drew)); exact (Kd.R_mono (Kd.R_far (Kd.R_far (Kd.R_types HO248.out BK286.out (by decide)) (fun _ hk => hk.2) _) (fun _ hk => hk.2) _) (fun _ h_ => h_.1))) (Kd.R_base ho0) hb); have n2_ := AZ (Kd.R_elder' (by (with_reducible repeat (first | apply Kd.R_alloc | apply Kd.R_drewN | apply Kd.R_drew)); exact (Kd.R_mono (Kd.R_far (Kd.R_far (Kd.R_types HO251.out BK286.out (by decide)) (fun _ hk => hk.2) _) (fun _ hk => hk.2) _) (fun _ h_ => h_.1))) (Kd.R_base ho0) hb); have n3_ := AZ (Kd.R_elder' (by (with_reducible repeat (first | apply Kd.R_alloc | apply Kd.R_drewN | apply Kd.R_drew)); exact (Kd.R_mono (Kd.R_far (Kd.R_far (Kd.R_types HO260.out BK286.out (by decide)) (fun _ hk => hk.2) _) (fun _ hk => hk.2) _) (fun _ h_ => h_.1))) (Kd.R_base ho0) hb); have n4_ := AZ (Kd.R_elder' (by (with_reducible repeat (first | apply Kd.R_alloc | apply Kd.R_drewN | apply Kd.R_drew)); exact (Kd.R_mono (Kd.R_far (Kd.R_far (Kd.R_types HO264.out BK286.out (by decide)) (fun _ hk => hk.2) _) (fun _ hk => hk.2) _) (fun _ h_ => h_.1))) (Kd.R_base ho0) hb); have n5_ := AZ (Kd.S_elder' (by (with_reducible repeat (first | apply Kd.S_alloc | apply Kd.S_drewN | apply Kd.S_drew)); exact (Kd.S_mono (Kd.S_far (Kd.S_far (Kd.S_types HO269.out BK286.out (by decide)) (fun _ hk => hk.2) _) (fun _ hk => hk.2) _) (fun _ h_ => h_.1))) (Kd.R_base ho0) hb); have n6_ := AZ (Kd.R_elder' (by (with_reducible repeat (first | apply Kd.R_alloc | apply Kd.R_drewN | apply Kd.R_drew)); exact (Kd.R_mono (Kd.R_far (Kd.R_far (Kd.R_types HO272.out BK286.out (by decide)) (fun _ hk => hk.2) _) (fun _ hk => hk.2) _) (fun _ h_ => h_.1))) (Kd.R_base ho0) hb); have n7_ := AZ (Kd.R_elder' (by (with_reducible repeat (first | apply Kd.R_alloc | apply Kd.R_drewN | apply Kd.R_drew)); exact (Kd.R_mono (Kd.R_far (Kd.R_far (Kd.R_types HO275.out BK286.out (by decide)) (fun _ hk => hk.2) _) (fun _ hk => hk.2) _) (fun _ h_ => h_.1))) (Kd.R_base ho0) hb); have n8_ := AZ (Kd.R_elder' (by (with_reducible repeat (first | apply Kd.R_alloc | apply Kd.R_drewN | apply Kd.R_drew)); exact (Kd.R_mono (Kd.R_far (Kd.R_far (Kd.R_types HO285.out BK286.out (by decide)) (fun _ hk => hk.2) _) (fun _ hk => hk.2) _) (fun _ h_ => h_.1))) (Kd.R_base ho0) hb); have n9_ := AZ (Kd.R_lower (Kd.R_new' (Kd.R_new' (Kd.R_new' (Kd.R_new' (Kd.R_new' (Kd.R_new' (Kd.R_new' ho0 (Kd.R_lt (by (with_reducible repeat (first | apply Kd.R_alloc | apply Kd.R_drewN | apply Kd.R_drew)); exact (Kd.R_mono (Kd.R_far (Kd.R_far (Kd.R_types HO248.out BK286.out (by decide)) (fun _ hk => hk.2) _) (fun _ hk => hk.2) _) (fun _ h_ => h_.1))))) (Kd.R_lt (by (with_reducible repeat (first | apply Kd.R_alloc | apply Kd.R_drewN | apply Kd.R_drew)); exact (Kd.R_mono (Kd.R_far (Kd.R_far (Kd.R_types HO251.out BK286.out (by decide)) (fun _ hk => hk.2) _) (fun _ hk => hk.2) _) (fun _ h_ => h_.1))))) (Kd.R_lt (by (with_reducible repeat (first | apply Kd.R_alloc | apply Kd.R_drewN | apply Kd.R_drew)); exact (Kd.R_mono (Kd.R_far (Kd.R_far (Kd.R_types HO260.out BK286.out (by decide)) (fun _ hk => hk.2) _) (fun _ hk => hk.2) _) (fun _ h_ => h_.1))))) (Kd.R_lt (by (with_reducible repeat (first | apply Kd.R_alloc | apply Kd.R_drewN | apply Kd.R_drew)); exact (Kd.R_mono (Kd.R_far (Kd.R_far (Kd.R_types HO264.out BK286.out (by decide)) (fun _ hk => hk.2) _) (fun _ hk => hk.2) _) (fun _ h_ => h_.1))))) (Kd.R_lt (by (with_reducible repeat (first | apply Kd.R_alloc | apply Kd.R_drewN | apply Kd.R_drew)); exact (Kd.R_mono (Kd.R_far (Kd.R_far (Kd.R_types HO272.out BK286.out (by decide)) (fun _ hk => hk.2) _) (fun _ hk => hk.2) _) (fun _ h_ => h_.1))))) (Kd.R_lt (by (with_reducible repeat (first | apply Kd.R_alloc | apply Kd.R_drewN | apply Kd.R_drew)); exact (Kd.R_mono (Kd.R_far (Kd.R_far (Kd.R_types HO275.out BK286.out (by decide)) (fun _ hk => hk.2) _) (fun _ hk => hk.2) _) (fun _ h_ => h_.1))))) (Kd.R_lt (by (with_reducible repeat (first | apply Kd.R_alloc | apply Kd.R_drewN | apply Kd.R_drew)); exact (Kd.R_mono (Kd.R_far (Kd.R_far (Kd.R_types HO285.out BK286.out (by decide)) (fun _ hk => hk.2) _) (fun _ hk => hk.2) _) (fun _ h_ => h_.1))))) (below_size (bS HB.out))); have n10_ := AZ (blk_below (g := gb237) (o := .cells #[.slice A0_0 l0_0.length c0_0, .slice A0_1 l0_1.length c0_1, .slice A0_2 l0_2.length c0_2, .int .i64 a0_3, .int .i64 a0_4, .int .i64 a0_5, .int .i64 a0_6, .int .i64 a0_7] 27 (0, 0)) (by (with_reducible repeat (first | refine blk_drewN ?_ _ | refine blk_drew ?_ | refine blk_alloc ?_ _)); refine blk_far ?_ NB237_286.out _; (with_reducible repeat (first | refine blk_drewN ?_ _ | refine blk_drew ?_ | refine blk_alloc ?_ _)); refine blk_far ?_ NB237_286.out _; (with_reducible repeat (first | refine blk_drewN ?_ _ | refine blk_drew ?_ | refine blk_alloc ?_ _)); exact BK237.out) hb); have n11_ := AZ (blk_below (g := gb238) (o := .cells #[.int .i64 a1_0, .slice A1_1 l1_1.length c1_1] 29 (0, 0)) (by (with_reducible repeat (first | refine blk_drewN ?_ _ | refine blk_drew ?_ | refine blk_alloc ?_ _)); refine blk_far ?_ NB238_286.out _; (with_reducible repeat (first | refine blk_drewN ?_ _ | refine blk_drew ?_ | refine blk_alloc ?_ _)); refine blk_far ?_ NB238_286.out _; (with_reducible repeat (first | refine blk_drewN ?_ _ | refine blk_drew ?_ | refine blk_alloc ?_ _)); exact BK238.out) hb); have n12_ := AZ (blk_below (g := gb239) (o := .cells #[.int .i64 a2_0, .slice A2_1 l2_1.length c2_1] 29 (0, 0)) (by (with_reducible repeat (first | refine blk_drewN ?_ _ | refine blk_drew ?_ | refine blk_alloc ?_ _)); refine blk_far ?_ NB239_286.out _; (with_reducible repeat (first | refine blk_drewN ?_ _ | refine blk_drew ?_ | refine blk_alloc ?_ _)); refine blk_far ?_ NB239_286.out _; (with_reducible repeat (first | refine blk_drewN ?_ _ | refine blk_drew ?_ | refine blk_alloc ?_ _)); exact BK239.out) hb); have n13_ := AZ (blk_below (g := gb281) (o := .cells #[.slice Ao73 t267.length co73, .slice Ao78 t270.length co78, .slice Ao79 t273.length co79, .int .i64 t276, .int .i64 t277, .int .i64 t278, .int .i64 t279, .int .i64 t280] 36 (0, 0)) (by (with_reducible repeat (first | refine blk_drewN ?_ _ | refine blk_drew ?_ | refine blk_alloc ?_ _)); refine blk_far ?_ NB281_286.out _; (with_reducible repeat (first | refine blk_drewN ?_ _ | refine blk_drew ?_ | refine blk_alloc ?_ _)); refine blk_far ?_ NB281_286.out _; (with_reducible repeat (first | refine blk_drewN ?_ _ | refine blk_drew ?_ | refine blk_alloc ?_ _)); exact BK281.out) hb); have n14_ := AZ (blk_below (g := gb286) (o := .cells #[.int .i64 t282, .slice Ao88 t283.length co88] 38 (0, 0)) (by (with_reducible repeat (first | refine blk_drewN ?_ _ | refine blk_drew ?_ | refine blk_alloc ?_ _)); refine blk_put (cs := #[.int .i64 t282, .slice none 0 0]) ?_ 1 _ rfl; (with_reducible repeat (first | refine blk_drewN ?_ _ | refine blk_drew ?_ | refine blk_alloc ?_ _)); refine blk_put (cs := #[.int .i64 0, .slice none 0 0]) ?_ 0 _ rfl; (with_reducible repeat (first | refine blk_drewN ?_ _ | refine blk_drew ?_ | refine blk_alloc ?_ _)); exact BK286.out) hb); have n15_ := AZ (below_step (bS HB.out) hb); clear HO245; clear HO248; clear HO251; clear HO260; clear HO264; clear HO269; clear HO272; clear HO275; clear HO285; clear BK237; clear BK238; clear BK239; clear BK281; clear BK286; clear HB; have HO245 := n0_; have HO248 := n1_; have HO251 := n2_; have HO260 := n3_; have HO264 := n4_; have HO269 := n5_; have HO272 := n6_; have HO275 := n7_; have HO285 := n8_; have HO290 := n9_; have BK237 := n10_; have BK238 := n11_; have BK239 := n12_; have BK281 := n13_; have BK286 := n14_; have HB := n15_; clear n0_ n1_ n2_ n3_ n4_ n5_ n6_ n7_ n8_ n9_ n10_ n11_ n12_ n13_ n14_ n15_; (try clear hb ho0)) | ((with_reducible refine gate_dst (N := 12) rfl ?_); refine box_event ?hg (N := 12) ?hd (cs := #[.int .i64 0, .slice none 0 0]) (t := 38) ?hr ?_; (case hd => rfl); (case hg => rfl); (case hr => first | (go_simp; done) | (go_simp; rfl)); intro gb291 hg w91 hbox hb; have n0_ := AZ (Kd.S_below (sS HO245.out) hb); have n1_ := AZ (Kd.R_below (rS HO248.out) hb); have n2_ := AZ (Kd.R_below (rS HO251.out) hb); have n3_ := AZ (Kd.R_below (rS HO260.out) hb); have n4_ := AZ (Kd.R_below (rS HO264.out) hb); have n5_ := AZ (Kd.S_below (sS HO269.out) hb); have n6_ := AZ (Kd.R_below (rS HO272.out) hb); have n7_ := AZ (Kd.R_below (rS HO275.out) hb); have n8_ := AZ (Kd.R_below (rS HO285.out) hb); have n9_ := AZ (Kd.R_below (rS HO290.out) hb); have n10_ := blkA BK237 hb; have n11_ := blkA BK238 hb; have n12_ := blkA BK239 hb; have n13_ := blkA BK281 hb; have n14_ := blkA BK286 hb; have n15_ := AZ (below_step (bS HB.out) hb); have n16_ := AZ (hbox); have n17_ := AZ (geS hg HB.out); have n18_ := AZ (geS hg HB.out); have n19_ := AZ ((by rw [hg]; exact Nat.ne_of_lt (blkL BK237.out) : gb237 ≠ gb291)); have n20_ := AZ ((by rw [hg]; exact Nat.ne_of_gt (blkL BK237.out) : gb291 ≠ gb237)); have n21_ := AZ ((by rw [hg]; exact Nat.ne_of_lt (blkL BK238.out) : gb238 ≠ gb291)); have n22_ := AZ ((by rw [hg]; exact Nat.ne_of_gt (blkL BK238.out) : gb291 ≠ gb238)); have n23_ := AZ ((by rw [hg]; exact Nat.ne_of_lt (blkL BK239.out) : gb239 ≠ gb291)); have n24_ := AZ ((by rw [hg]; exact Nat.ne_of_gt (blkL BK239.out) : gb291 ≠ gb239)); have n25_ := AZ ((by rw [hg]; exact Nat.ne_of_lt (blkL BK281.out) : gb281 ≠ gb291)); have n26_ := AZ ((by rw [hg]; exact Nat.ne_of_gt (blkL BK281.out) : gb291 ≠ gb281)); have n27_ := AZ ((by rw [hg]; exact Nat.ne_of_lt (blkL BK286.out) : gb286 ≠ gb291)); have n28_ := AZ ((by rw [hg]; exact Nat.ne_of_gt (blkL BK286.out) : gb291 ≠ gb286)); clear HO245; clear HO248; clear HO251; clear HO260; clear HO264; clear HO269; clear HO272; clear HO275; clear HO285; clear HO290; clear BK237; clear BK238; clear BK239; clear BK281; clear BK286; clear HB; have HO245 := n0_; have HO248 := n1_; have HO251 := n2_; have HO260 := n3_; have HO264 := n4_; have HO269 := n5_; have HO272 := n6_; have HO275 := n7_; have HO285 := n8_; have HO290 := n9_; have BK237 := n10_; have BK238 := n11_; have BK239 := n12_; have BK281 := n13_; have BK286 := n14_; have HB := n15_; have BK291 := n16_; have GW291 := n17_; have GE291 := n18_; have NB237_291 := n19_; have NB291_237 := n20_; have NB238_291 := n21_; have NB291_238 := n22_; have NB239_291 := n23_; have NB291_239 := n24_; have NB281_291 := n25_; have NB291_281 := n26_; have NB286_291 := n27_; have NB291_286 := n28_; clear n0_ n1_ n2_ n3_ n4_ n5_ n6_ n7_ n8_ n9_ n10_ n11_ n12_ n13_ n14_ n15_ n16_ n17_ n18_ n19_ n20_ n21_ n22_ n23_ n24_ n25_ n26_ n27_ n28_; clear hb hbox hg; have hnb92 := NB291_237.out; have hnc92 := NB237_291.out; have hnb93 := NB291_238.out; have hnc93 := NB238_291.out; have hnb94 := NB291_239.out; have hnc94 := NB239_291.out; have hnb95 := NB291_281.out; have hnc95 := NB281_291.out; have hnb96 := NB291_286.out; have hnc96 := NB286_291.out; have hcz97_0 : w91.cell? ⟨gb291, 0, none⟩ = some (.int .i64 0) := (blk_cell BK291.out 0).trans rfl; have hcz97_1 : w91.cell? ⟨gb291, 1, none⟩ = some (.slice none 0 0) := (blk_cell BK291.out 1).trans rfl; have hfz97_0 := blk_frozen BK291.out 0; have hfz97_1 := blk_frozen BK291.out 1; obtain ⟨Ao98, co98, eo98⟩ := Kd.R_slice HO290.out; subst eo98; have hcz99_0 : w91.cell? ⟨gb281, 0, none⟩ = some (.slice Ao73 t267.length co73) := (blk_cell BK281.out 0).trans rfl; have hcz99_1 : w91.cell? ⟨gb281, 1, none⟩ = some (.slice Ao78 t270.length co78) := (blk_cell BK281.out 1).trans rfl; have hcz99_2 : w91.cell? ⟨gb281, 2, none⟩ = some (.slice Ao79 t273.length co79) := (blk_cell BK281.out 2).trans rfl; have hcz99_3 : w91.cell? ⟨gb281, 3, none⟩ = some (.int .i64 t276) := (blk_cell BK281.out 3).trans rfl; have hcz99_4 : w91.cell? ⟨gb281, 4, none⟩ = some (.int .i64 t277) := (blk_cell BK281.out 4).trans rfl; have hcz99_5 : w91.cell? ⟨gb281, 5, none⟩ = some (.int .i64 t278) := (blk_cell BK281.out 5).trans rfl; have hcz99_6 : w91.cell? ⟨gb281, 6, none⟩ = some (.int .i64 t279) := (blk_cell BK281.out 6).trans rfl; have hcz99_7 : w91.cell? ⟨gb281, 7, none⟩ = some (.int .i64 t280) := (blk_cell BK281.out 7).trans rfl; have hfz99_0 := blk_frozen BK281.out 0; have hfz99_1 := blk_frozen BK281.out 1; have hfz99_2 := blk_frozen BK281.out 2; have hfz99_3 := blk_frozen BK281.out 3; have hfz99_4 := blk_frozen BK281.out 4; have hfz99_5 := blk_frozen BK281.out 5; have hfz99_6 := blk_frozen BK281.out 6; have hfz99_7 := blk_frozen BK281.out 7; have hcz100_0 : w91.cell? ⟨gb286, 0, none⟩ = some (.int .i64 t282) := (blk_cell BK286.out 0).trans rfl; have hcz100_1 : w91.cell? ⟨gb286, 1, none⟩ = some (.slice Ao88 t283.length co88) := (blk_cell BK286.out 1).trans rfl; have hfz100_0 := blk_frozen BK286.out 0; have hfz100_1 := blk_frozen BK286.out 1) | ((with_reducible refine gate_callee (f := 19) rfl ?_); refine gL (some 50) Try.func19 #[.agg #[.slice Ao73 t267.length co73, .slice Ao78 t270.length co78, .slice Ao79 t273.length co79, .int .i64 t276, .int .i64 t277, .int .i64 t278, .int .i64 t279, .int .i64 t280], .agg #[.int .i64 t282, .slice Ao88 t283.length co88], .agg #[.int .i64 t287, .slice Ao98 t288.length co98]] ?_; (with_reducible refine (impl_FirstApart.calls k _ _ t267 _ _ t270 _ _ t273 t276 t277 t278 t279 t280 t282 _ _ t283 t287 _ _ t288 t292 t293 _ ?side1 ?side2 ?side3 ?side4 ?side5 ?side6 ?side7 ?side8 ?side9 ?side10 A46.out).mono ?_); (case side1 => refine (Kd.S_reads' (e := 23) (base := w.heap.size) (ok := fun k_ => ((((((((some k_ ≠ (.slice Ao78 t270.length co78 : Value).ownBlock ∧ some k_ ≠ (.slice Ao79 t273.length co79 : Value).ownBlock) ∧ some k_ ≠ (.slice Ao64 t243.length co64 : Value).ownBlock) ∧ some k_ ≠ (.slice Ao65 t246.length co65 : Value).ownBlock) ∧ some k_ ≠ (.slice Ao66 t249.length co66 : Value).ownBlock) ∧ some k_ ≠ (.slice Ao67 t258.length co67 : Value).ownBlock) ∧ some k_ ≠ (.slice Ao68 t262.length co68 : Value).ownBlock) ∧ some k_ ≠ (.slice Ao88 t283.length co88 : Value).ownBlock) ∧ some k_ ≠ (.slice Ao98 t288.length co98 : Value).ownBlock)) (n := t267.length) (c := co73) ?_).2.2; exact (by (with_reducible repeat (first | apply Kd.S_alloc | apply Kd.S_drewN | apply Kd.S_drew)); exact (Kd.S_mono (Kd.S_far (Kd.S_far (Kd.S_types HO269.out BK291.out (by decide)) (fun _ hk => hk.2) _) (fun _ hk => hk.2) _) (fun _ h_ => h_.1)))); (case side2 => exact (Kd.S_reads' HO269.out).2.1); (case side3 => refine (Kd.R_reads' (e := 3) (base := w.heap.size) (ok := fun k_ => ((((((some k_ ≠ (.slice Ao79 t273.length co79 : Value).ownBlock ∧ some k_ ≠ (.slice Ao65 t246.length co65 : Value).ownBlock) ∧ some k_ ≠ (.slice Ao66 t249.length co66 : Value).ownBlock) ∧ some k_ ≠ (.slice Ao67 t258.length co67 : Value).ownBlock) ∧ some k_ ≠ (.slice Ao68 t262.length co68 : Value).ownBlock) ∧ some k_ ≠ (.slice Ao88 t283.length co88 : Value).ownBlock) ∧ some k_ ≠ (.slice Ao98 t288.length co98 : Value).ownBlock)) (n := t270.length) (c := co78) ?_).2.2; exact (by (with_reducible repeat (first | apply Kd.R_alloc | apply Kd.R_drewN | apply Kd.R_drew)); exact (Kd.R_mono (Kd.R_far (Kd.R_far (Kd.R_types HO272.out BK291.out (by decide)) (fun _ hk => hk.2) _) (fun _ hk => hk.2) _) (fun _ h_ => h_.1)))); (case side4 => exact (Kd.R_reads' HO272.out).2.1); (case side5 => refine (Kd.R_reads' (e := 3) (base := w.heap.size) (ok := fun k_ => ((((((some k_ ≠ (.slice Ao78 t270.length co78 : Value).ownBlock ∧ some k_ ≠ (.slice Ao65 t246.length co65 : Value).ownBlock) ∧ some k_ ≠ (.slice Ao66 t249.length co66 : Value).ownBlock) ∧ some k_ ≠ (.slice Ao67 t258.length co67 : Value).ownBlock) ∧ some k_ ≠ (.slice Ao68 t262.length co68 : Value).ownBlock) ∧ some k_ ≠ (.slice Ao88 t283.length co88 : Value).ownBlock) ∧ some k_ ≠ (.slice Ao98 t288.length co98 : Value).ownBlock)) (n := t273.length) (c := co79) ?_).2.2; exact (by (with_reducible repeat (first | apply Kd.R_alloc | apply Kd.R_drewN | apply Kd.R_drew)); exact (Kd.R_mono (Kd.R_far (Kd.R_far (Kd.R_types HO275.out BK291.out (by decide)) (fun _ hk => hk.2) _) (fun _ hk => hk.2) _) (fun _ h_ => h_.1)))); (case side6 => exact (Kd.R_reads' HO275.out).2.1); (case side7 => refine (Kd.R_reads' (e := 3) (base := w.heap.size) (ok := fun k_ => (((((((True ∧ some k_ ≠ (.slice Ao65 t246.length co65 : Value).ownBlock) ∧ some k_ ≠ (.slice Ao66 t249.length co66 : Value).ownBlock) ∧ some k_ ≠ (.slice Ao67 t258.length co67 : Value).ownBlock) ∧ some k_ ≠ (.slice Ao68 t262.length co68 : Value).ownBlock) ∧ some k_ ≠ (.slice Ao78 t270.length co78 : Value).ownBlock) ∧ some k_ ≠ (.slice Ao79 t273.length co79 : Value).ownBlock) ∧ some k_ ≠ (.slice Ao98 t288.length co98 : Value).ownBlock)) (n := t283.length) (c := co88) ?_).2.2; exact (by (with_reducible repeat (first | apply Kd.R_alloc | apply Kd.R_drewN | apply Kd.R_drew)); exact (Kd.R_mono (Kd.R_far (Kd.R_far (Kd.R_types HO285.out BK291.out (by decide)) (fun _ hk => hk.2) _) (fun _ hk => hk.2) _) (fun _ h_ => h_.1)))); (case side8 => exact (Kd.R_reads' HO285.out).2.1); (case side9 => refine (Kd.R_reads' (e := 3) (base := w.heap.size) (ok := fun k_ => (((((((True ∧ some k_ ≠ (.slice Ao65 t246.length co65 : Value).ownBlock) ∧ some k_ ≠ (.slice Ao66 t249.length co66 : Value).ownBlock) ∧ some k_ ≠ (.slice Ao67 t258.length co67 : Value).ownBlock) ∧ some k_ ≠ (.slice Ao68 t262.length co68 : Value).ownBlock) ∧ some k_ ≠ (.slice Ao78 t270.length co78 : Value).ownBlock) ∧ some k_ ≠ (.slice Ao79 t273.length co79 : Value).ownBlock) ∧ some k_ ≠ (.slice Ao88 t283.length co88 : Value).ownBlock)) (n := t288.length) (c := co98) ?_).2.2; exact (by (with_reducible repeat (first | apply Kd.R_alloc | apply Kd.R_drewN | apply Kd.R_drew)); exact (Kd.R_mono (Kd.R_far (Kd.R_far (Kd.R_types HO290.out BK291.out (by decide)) (fun _ hk => hk.2) _) (fun _ hk => hk.2) _) (fun _ h_ => h_.1)))); (case side10 => exact (Kd.R_reads' HO290.out).2.1); rintro e w101 ⟨rfl, hb⟩; refine ⟨_, rfl, ?_⟩; have n0_ := AZ (Kd.S_below (by (with_reducible repeat (first | apply Kd.S_alloc | apply Kd.S_drewN | apply Kd.S_drew)); exact (Kd.S_mono (Kd.S_far (Kd.S_far (Kd.S_types HO245.out BK291.out (by decide)) (fun _ hk => hk.2) _) (fun _ hk => hk.2) _) (fun _ h_ => h_.1))) hb); have n1_ := AZ (Kd.R_below (by (with_reducible repeat (first | apply Kd.R_alloc | apply Kd.R_drewN | apply Kd.R_drew)); exact (Kd.R_mono (Kd.R_far (Kd.R_far (Kd.R_types HO248.out BK291.out (by decide)) (fun _ hk => hk.2) _) (fun _ hk => hk.2) _) (fun _ h_ => h_.1))) hb); have n2_ := AZ (Kd.R_below (by (with_reducible repeat (first | apply Kd.R_alloc | apply Kd.R_drewN | apply Kd.R_drew)); exact (Kd.R_mono (Kd.R_far (Kd.R_far (Kd.R_types HO251.out BK291.out (by decide)) (fun _ hk => hk.2) _) (fun _ hk => hk.2) _) (fun _ h_ => h_.1))) hb); have n3_ := AZ (Kd.R_below (by (with_reducible repeat (first | apply Kd.R_alloc | apply Kd.R_drewN | apply Kd.R_drew)); exact (Kd.R_mono (Kd.R_far (Kd.R_far (Kd.R_types HO260.out BK291.out (by decide)) (fun _ hk => hk.2) _) (fun _ hk => hk.2) _) (fun _ h_ => h_.1))) hb); have n4_ := AZ (Kd.R_below (by (with_reducible repeat (first | apply Kd.R_alloc | apply Kd.R_drewN | apply Kd.R_drew)); exact (Kd.R_mono (Kd.R_far (Kd.R_far (Kd.R_types HO264.out BK291.out (by decide)) (fun _ hk => hk.2) _) (fun _ hk => hk.2) _) (fun _ h_ => h_.1))) hb); have n5_ := AZ (Kd.S_below (by (with_reducible repeat (first | apply Kd.S_alloc | apply Kd.S_drewN | apply Kd.S_drew)); exact (Kd.S_mono (Kd.S_far (Kd.S_far (Kd.S_types HO269.out BK291.out (by decide)) (fun _ hk => hk.2) _) (fun _ hk => hk.2) _) (fun _ h_ => h_.1))) hb); have n6_ := AZ (Kd.R_below (by (with_reducible repeat (first | apply Kd.R_alloc | apply Kd.R_drewN | apply Kd.R_drew)); exact (Kd.R_mono (Kd.R_far (Kd.R_far (Kd.R_types HO272.out BK291.out (by decide)) (fun _ hk => hk.2) _) (fun _ hk => hk.2) _) (fun _ h_ => h_.1))) hb); have n7_ := AZ (Kd.R_below (by (with_reducible repeat (first | apply Kd.R_alloc | apply Kd.R_drewN | apply Kd.R_drew)); exact (Kd.R_mono (Kd.R_far (Kd.R_far (Kd.R_types HO275.out BK291.out (by decide)) (fun _ hk => hk.2) _) (fun _ hk => hk.2) _) (fun _ h_ => h_.1))) hb); have n8_ := AZ (Kd.R_below (by (with_reducible repeat (first | apply Kd.R_alloc | apply Kd.R_drewN | apply Kd.R_drew)); exact (Kd.R_mono (Kd.R_far (Kd.R_far (Kd.R_types HO285.out BK291.out (by decide)) (fun _ hk => hk.2) _) (fun _ hk => hk.2) _) (fun _ h_ => h_.1))) hb); have n9_ := AZ (Kd.R_below (by (with_reducible repeat (first | apply Kd.R_alloc | apply Kd.R_drewN | apply Kd.R_drew)); exact (Kd.R_mono (Kd.R_far (Kd.R_far (Kd.R_types HO290.out BK291.out (by decide)) (fun _ hk => hk.2) _) (fun _ hk => hk.2) _) (fun _ h_ => h_.1))) hb); have n10_ := AZ (blk_below (g := gb237) (o := .cells #[.slice A0_0 l0_0.length c0_0, .slice A0_1 l0_1.length c0_1, .slice A0_2 l0_2.length c0_2, .int .i64 a0_3, .int .i64 a0_4, .int .i64 a0_5, .int .i64 a0_6, .int .i64 a0_7] 27 (0, 0)) (by (with_reducible repeat (first | refine blk_drewN ?_ _ | refine blk_drew ?_ | refine blk_alloc ?_ _)); refine blk_far ?_ NB237_291.out _; (with_reducible repeat (first | refine blk_drewN ?_ _ | refine blk_drew ?_ | refine blk_alloc ?_ _)); refine blk_far ?_ NB237_291.out _; (with_reducible repeat (first | refine blk_drewN ?_ _ | refine blk_drew ?_ | refine blk_alloc ?_ _)); exact BK237.out) hb); have n11_ := AZ (blk_below (g := gb238) (o := .cells #[.int .i64 a1_0, .slice A1_1 l1_1.length c1_1] 29 (0, 0)) (by (with_reducible repeat (first | refine blk_drewN ?_ _ | refine blk_drew ?_ | refine blk_alloc ?_ _)); refine blk_far ?_ NB238_291.out _; (with_reducible repeat (first | refine blk_drewN ?_ _ | refine blk_drew ?_ | refine blk_alloc ?_ _)); refine blk_far ?_ NB238_291.out _; (with_reducible repeat (first | refine blk_drewN ?_ _ | refine blk_drew ?_ | refine blk_alloc ?_ _)); exact BK238.out) hb); have n12_ := AZ (blk_below (g := gb239) (o := .cells #[.int .i64 a2_0, .slice A2_1 l2_1.length c2_1] 29 (0, 0)) (by (with_reducible repeat (first | refine blk_drewN ?_ _ | refine blk_drew ?_ | refine blk_alloc ?_ _)); refine blk_far ?_ NB239_291.out _; (with_reducible repeat (first | refine blk_drewN ?_ _ | refine blk_drew ?_ | refine blk_alloc ?_ _)); refine blk_far ?_ NB239_291.out _; (with_reducible repeat (first | refine blk_drewN ?_ _ | refine blk_drew ?_ | refine blk_alloc ?_ _)); exact BK239.out) hb); have n13_ := AZ (blk_below (g := gb281) (o := .cells #[.slice Ao73 t267.length co73, .slice Ao78 t270.length co78, .slice Ao79 t273.length co79, .int .i64 t276, .int .i64 t277, .int .i64 t278, .int .i64 t279, .int .i64 t280] 36 (0, 0)) (by (with_reducible repeat (first | refine blk_drewN ?_ _ | refine blk_drew ?_ | refine blk_alloc ?_ _)); refine blk_far ?_ NB281_291.out _; (with_reducible repeat (first | refine blk_drewN ?_ _ | refine blk_drew ?_ | refine blk_alloc ?_ _)); refine blk_far ?_ NB281_291.out _; (with_reducible repeat (first | refine blk_drewN ?_ _ | refine blk_drew ?_ | refine blk_alloc ?_ _)); exact BK281.out) hb); have n14_ := AZ (blk_below (g := gb286) (o := .cells #[.int .i64 t282, .slice Ao88 t283.length co88] 38 (0, 0)) (by (with_reducible repeat (first | refine blk_drewN ?_ _ | refine blk_drew ?_ | refine blk_alloc ?_ _)); refine blk_far ?_ NB286_291.out _; (with_reducible repeat (first | refine blk_drewN ?_ _ | refine blk_drew ?_ | refine blk_alloc ?_ _)); refine blk_far ?_ NB286_291.out _; (with_reducible repeat (first | refine blk_drewN ?_ _ | refine blk_drew ?_ | refine blk_alloc ?_ _)); exact BK286.out) hb); have n15_ := AZ (blk_below (g := gb291) (o := .cells #[.int .i64 t287, .slice Ao98 t288.length co98] 38 (0, 0)) (by (with_reducible repeat (first | refine blk_drewN ?_ _ | refine blk_drew ?_ | refine blk_alloc ?_ _)); refine blk_put (cs := #[.int .i64 t287, .slice none 0 0]) ?_ 1 _ rfl; (with_reducible repeat (first | refine blk_drewN ?_ _ | refine blk_drew ?_ | refine blk_alloc ?_ _)); refine blk_put (cs := #[.int .i64 0, .slice none 0 0]) ?_ 0 _ rfl; (with_reducible repeat (first | refine blk_drewN ?_ _ | refine blk_drew ?_ | refine blk_alloc ?_ _)); exact BK291.out) hb); have n16_ := AZ (below_step (bS HB.out) hb); clear HO245; clear HO248; clear HO251; clear HO260; clear HO264; clear HO269; clear HO272; clear HO275; clear HO285; clear HO290; clear BK237; clear BK238; clear BK239; clear BK281; clear BK286; clear BK291; clear HB; have HO245 := n0_; have HO248 := n1_; have HO251 := n2_; have HO260 := n3_; have HO264 := n4_; have HO269 := n5_; have HO272 := n6_; have HO275 := n7_; have HO285 := n8_; have HO290 := n9_; have BK237 := n10_; have BK238 := n11_; have BK239 := n12_; have BK281 := n13_; have BK286 := n14_; have BK291 := n15_; have HB := n16_; clear n0_ n1_ n2_ n3_ n4_ n5_ n6_ n7_ n8_ n9_ n10_ n11_ n12_ n13_ n14_ n15_ n16_; (try clear hb)))
        (try simp only [Act.put, List.setIfInBounds_toArray, List.set_cons_zero, List.set_cons_succ])
        go_cut [60] (fun v60 wc => ∃ (kq : Nat) (x60_46 : Bool), v60 = .bool x60_46 ∧ Aside0 (laws_FnExactFirstApart.j0 kq x60_46 l0_0 l0_1 l0_2 a0_3 a0_4 a0_5 a0_6 a0_7 a1_0 l1_1 a2_0 l2_1 t267 t270 t273 t276 t277 t278 t279 t280 t282 t283 t287 t288 = some r) ∧ Aside0 (kq ≤ k) ∧ Aside0 (Kd.S (Kd.slice 3 (Kd.int .i64)) 23 wc w.heap.size (fun k_ => some k_ ≠ ((.slice Ao78 t270.length co78) : Value).ownBlock ∧ some k_ ≠ ((.slice Ao79 t273.length co79) : Value).ownBlock ∧ some k_ ≠ ((.slice Ao88 t283.length co88) : Value).ownBlock ∧ some k_ ≠ ((.slice Ao98 t288.length co98) : Value).ownBlock) (.slice Ao73 t267.length co73) t267) ∧ Aside0 (Kd.R (Kd.int .i64) 3 wc w.heap.size (fun k_ => some k_ ≠ ((.slice Ao79 t273.length co79) : Value).ownBlock ∧ some k_ ≠ ((.slice Ao88 t283.length co88) : Value).ownBlock ∧ some k_ ≠ ((.slice Ao98 t288.length co98) : Value).ownBlock) (.slice Ao78 t270.length co78) t270) ∧ Aside0 (Kd.R (Kd.int .i64) 3 wc w.heap.size (fun k_ => some k_ ≠ ((.slice Ao78 t270.length co78) : Value).ownBlock ∧ some k_ ≠ ((.slice Ao88 t283.length co88) : Value).ownBlock ∧ some k_ ≠ ((.slice Ao98 t288.length co98) : Value).ownBlock) (.slice Ao79 t273.length co79) t273) ∧ Aside0 (Kd.R (Kd.int .i64) 3 wc w.heap.size (fun k_ => some k_ ≠ ((.slice Ao78 t270.length co78) : Value).ownBlock ∧ some k_ ≠ ((.slice Ao79 t273.length co79) : Value).ownBlock ∧ some k_ ≠ ((.slice Ao98 t288.length co98) : Value).ownBlock) (.slice Ao88 t283.length co88) t283) ∧ Aside0 (Kd.R (Kd.int .i64) 3 wc w.heap.size (fun k_ => some k_ ≠ ((.slice Ao78 t270.length co78) : Value).ownBlock ∧ some k_ ≠ ((.slice Ao79 t273.length co79) : Value).ownBlock ∧ some k_ ≠ ((.slice Ao88 t283.length co88) : Value).ownBlock) (.slice Ao98 t288.length co98) t288) ∧ Aside0 (wc.heap[gb237]? = some (.cells #[(.slice A0_0 l0_0.length c0_0), (.slice A0_1 l0_1.length c0_1), (.slice A0_2 l0_2.length c0_2), .int .i64 a0_3, .int .i64 a0_4, .int .i64 a0_5, .int .i64 a0_6, .int .i64 a0_7] 27 (0, 0))) ∧ Aside0 (wc.heap[gb238]? = some (.cells #[.int .i64 a1_0, (.slice A1_1 l1_1.length c1_1)] 29 (0, 0))) ∧ Aside0 (wc.heap[gb239]? = some (.cells #[.int .i64 a2_0, (.slice A2_1 l2_1.length c2_1)] 29 (0, 0))) ∧ Aside0 (wc.heap[gb281]? = some (.cells #[(.slice Ao73 t267.length co73), (.slice Ao78 t270.length co78), (.slice Ao79 t273.length co79), .int .i64 t276, .int .i64 t277, .int .i64 t278, .int .i64 t279, .int .i64 t280] 36 (0, 0))) ∧ Aside0 (wc.heap[gb286]? = some (.cells #[.int .i64 t282, (.slice Ao88 t283.length co88)] 38 (0, 0))) ∧ Aside0 (wc.heap[gb291]? = some (.cells #[.int .i64 t287, (.slice Ao98 t288.length co98)] 38 (0, 0))) ∧ Aside0 (Below w.heap.size w wc))
        case first =>
          have H := HC47.out
          clear HC47
          by_cases c102 : t292 = t265
          · rw [if_pos c102] at H
            have c102b0 : (t292 == t265) = true := beq_iff_eq.mpr c102
            have c102b1 : (t292 != t265) = false := bne_eq_false_iff_eq.mpr c102
            clear c102
            (first | rw [c102b0] | (simp only [i64_w, i32_w]; rw [c102b0]) | skip)
            have H' := Aside0.mk H
            clear H
            go_wp2
            go_meet
            case rel => exact ⟨_, ((t293 != t266)), (by first | rfl | (simp; done) | (simp [*]; done)), H', ⟨by first | omega | exact Nat.le_refl _⟩, ⟨sS (Kd.S_mono HO269.out (fun _ hk => ⟨hk.1.1.1.1.1.1.1.1, ⟨hk.1.1.1.1.1.1.1.2, ⟨hk.1.2, hk.2⟩⟩⟩))⟩, ⟨rS (Kd.R_mono HO272.out (fun _ hk => ⟨hk.1.1.1.1.1.1, ⟨hk.1.2, hk.2⟩⟩))⟩, ⟨rS (Kd.R_mono HO275.out (fun _ hk => ⟨hk.1.1.1.1.1.1, ⟨hk.1.2, hk.2⟩⟩))⟩, ⟨rS (Kd.R_mono HO285.out (fun _ hk => ⟨hk.1.1.2, ⟨hk.1.2, hk.2⟩⟩))⟩, ⟨rS (Kd.R_mono HO290.out (fun _ hk => ⟨hk.1.1.2, ⟨hk.1.2, hk.2⟩⟩))⟩, ⟨blkS BK237.out⟩, ⟨blkS BK238.out⟩, ⟨blkS BK239.out⟩, ⟨blkS BK281.out⟩, ⟨blkS BK286.out⟩, ⟨blkS BK291.out⟩, ⟨bS HB.out⟩⟩
          · rw [if_neg c102] at H
            have c102b0 : (t292 == t265) = false := beq_eq_false_iff_ne.mpr c102
            have c102b1 : (t292 != t265) = true := bne_iff_ne.mpr c102
            (first | rw [c102b0] | (simp only [i64_w, i32_w]; rw [c102b0]) | skip)
            have H' := Aside0.mk H
            clear H
            go_wp2
            go_meet
            case rel => exact ⟨_, (true), (by first | rfl | (simp; done) | (simp [*]; done)), H', ⟨by first | omega | exact Nat.le_refl _⟩, ⟨sS (Kd.S_mono HO269.out (fun _ hk => ⟨hk.1.1.1.1.1.1.1.1, ⟨hk.1.1.1.1.1.1.1.2, ⟨hk.1.2, hk.2⟩⟩⟩))⟩, ⟨rS (Kd.R_mono HO272.out (fun _ hk => ⟨hk.1.1.1.1.1.1, ⟨hk.1.2, hk.2⟩⟩))⟩, ⟨rS (Kd.R_mono HO275.out (fun _ hk => ⟨hk.1.1.1.1.1.1, ⟨hk.1.2, hk.2⟩⟩))⟩, ⟨rS (Kd.R_mono HO285.out (fun _ hk => ⟨hk.1.1.2, ⟨hk.1.2, hk.2⟩⟩))⟩, ⟨rS (Kd.R_mono HO290.out (fun _ hk => ⟨hk.1.1.2, ⟨hk.1.2, hk.2⟩⟩))⟩, ⟨blkS BK237.out⟩, ⟨blkS BK238.out⟩, ⟨blkS BK239.out⟩, ⟨blkS BK281.out⟩, ⟨blkS BK286.out⟩, ⟨blkS BK291.out⟩, ⟨bS HB.out⟩⟩
        case rest =>
          clear HC47
          try clear c1
          try clear c2
          try clear p2
          try clear c3
          try clear c5
          try clear c5b0
          try clear c7
          try clear c8
          try clear c9
          try clear c10
          try clear c14
          try clear c14b0
          try clear c15
          try clear c16
          try clear c17
          try clear c18
          try clear c19
          try clear c22
          try clear c26
          try clear c26b0
          try clear c30
          try clear c31
          try clear c34
          try clear c51
          try clear c52
          try clear c55
          try clear c74
          try clear c75
          try clear c76
          try clear c83
          try clear c84
          try clear c85
          try clear c86
          try clear c92
          try clear c93
          try clear c94
          try clear c95
          try clear c96
          try clear c102
          try clear c102b0
          try clear c102b1
          try clear hcz100_0
          try clear hcz100_1
          try clear hcz11_0
          try clear hcz11_1
          try clear hcz11_2
          try clear hcz11_3
          try clear hcz11_4
          try clear hcz11_5
          try clear hcz11_6
          try clear hcz11_7
          try clear hcz20_0
          try clear hcz20_1
          try clear hcz20_2
          try clear hcz20_3
          try clear hcz20_4
          try clear hcz20_5
          try clear hcz20_6
          try clear hcz20_7
          try clear hcz23_0
          try clear hcz23_1
          try clear hcz32_0
          try clear hcz32_1
          try clear hcz32_2
          try clear hcz32_3
          try clear hcz32_4
          try clear hcz32_5
          try clear hcz32_6
          try clear hcz32_7
          try clear hcz35_0
          try clear hcz35_1
          try clear hcz37_0
          try clear hcz37_1
          try clear hcz53_0
          try clear hcz53_1
          try clear hcz53_2
          try clear hcz53_3
          try clear hcz53_4
          try clear hcz53_5
          try clear hcz53_6
          try clear hcz53_7
          try clear hcz56_0
          try clear hcz56_1
          try clear hcz58_0
          try clear hcz58_1
          try clear hcz70_0
          try clear hcz70_1
          try clear hcz70_2
          try clear hcz70_3
          try clear hcz70_4
          try clear hcz70_5
          try clear hcz70_6
          try clear hcz70_7
          try clear hcz77_0
          try clear hcz77_1
          try clear hcz77_2
          try clear hcz77_3
          try clear hcz77_4
          try clear hcz77_5
          try clear hcz77_6
          try clear hcz77_7
          try clear hcz80_0
          try clear hcz80_1
          try clear hcz87_0
          try clear hcz87_1
          try clear hcz89_0
          try clear hcz89_1
          try clear hcz97_0
          try clear hcz97_1
          try clear hcz99_0
          try clear hcz99_1
          try clear hcz99_2
          try clear hcz99_3
          try clear hcz99_4
          try clear hcz99_5
          try clear hcz99_6
          try clear hcz99_7
          try clear hfz100_0
          try clear hfz100_1
          try clear hfz11_0
          try clear hfz11_1
          try clear hfz11_2
          try clear hfz11_3
          try clear hfz11_4
          try clear hfz11_5
          try clear hfz11_6
          try clear hfz11_7
          try clear hfz20_0
          try clear hfz20_1
          try clear hfz20_2
          try clear hfz20_3
          try clear hfz20_4
          try clear hfz20_5
          try clear hfz20_6
          try clear hfz20_7
          try clear hfz23_0
          try clear hfz23_1
          try clear hfz32_0
          try clear hfz32_1
          try clear hfz32_2
          try clear hfz32_3
          try clear hfz32_4
          try clear hfz32_5
          try clear hfz32_6
          try clear hfz32_7
          try clear hfz35_0
          try clear hfz35_1
          try clear hfz37_0
          try clear hfz37_1
          try clear hfz53_0
          try clear hfz53_1
          try clear hfz53_2
          try clear hfz53_3
          try clear hfz53_4
          try clear hfz53_5
          try clear hfz53_6
          try clear hfz53_7
          try clear hfz56_0
          try clear hfz56_1
          try clear hfz58_0
          try clear hfz58_1
          try clear hfz70_0
          try clear hfz70_1
          try clear hfz70_2
          try clear hfz70_3
          try clear hfz70_4
          try clear hfz70_5
          try clear hfz70_6
          try clear hfz70_7
          try clear hfz77_0
          try clear hfz77_1
          try clear hfz77_2
          try clear hfz77_3
          try clear hfz77_4
          try clear hfz77_5
          try clear hfz77_6
          try clear hfz77_7
          try clear hfz80_0
          try clear hfz80_1
          try clear hfz87_0
          try clear hfz87_1
          try clear hfz89_0
          try clear hfz89_1
          try clear hfz97_0
          try clear hfz97_1
          try clear hfz99_0
          try clear hfz99_1
          try clear hfz99_2
          try clear hfz99_3
          try clear hfz99_4
          try clear hfz99_5
          try clear hfz99_6
          try clear hfz99_7
          obtain ⟨kq, x60_46, rfl, HA, HJ46, HO_282000, HO_282001, HO_282002, HO_287001, HO_292001, BK237, BK238, BK239, BK281, BK286, BK291, HB⟩ := hcut
          cases kq with
          | zero => exact absurd HA.out (by simp [laws_FnExactFirstApart.j0])
          | succ kj46 =>
            have H := HA.out
            clear HA
            simp only [laws_FnExactFirstApart.j0] at H
            by_cases c103 : x60_46 = true
            · subst c103
              have H1 : (none) = some r := by rw [if_pos rfl] at H; exact H
              clear H
              have H := H1
              clear H1
              exact absurd H (by simp)
            · replace c103 := Bool.eq_false_iff.mpr c103
              subst c103
              have H1 : ((laws_toJob.f kj46 l0_0 l0_1 l0_2 a0_3 a0_4 a0_5 a0_6 a0_7).bind fun bt294 => ((laws_eqJob.f kj46 t267 t270 t273 t276 t277 t278 t279 t280 bt294.1 bt294.2.1 bt294.2.2.1 bt294.2.2.2.1 bt294.2.2.2.2.1 bt294.2.2.2.2.2.1 bt294.2.2.2.2.2.2.1 bt294.2.2.2.2.2.2.2).bind fun t308 => (if t308 = true then ((laws_toPlan.f kj46 a1_0 l1_1).bind fun bt309 => ((laws_eqPlan.f kj46 t282 t283 bt309.1 bt309.2).bind fun t313 => (if t313 = true then ((laws_toPlan.f kj46 a2_0 l2_1).bind fun bt314 => ((laws_eqPlan.f kj46 t287 t288 bt314.1 bt314.2).bind fun t318 => (if t318 = true then (some true) else (none)))) else (none)))) else (none)))) = some r := by rw [if_neg (show ¬ (false = true) by decide)] at H; exact H
              clear H
              have H := H1
              clear H1
              replace H := Option.bind_eq_some_iff.mp H
              obtain ⟨⟨t294, t297, t300, t303, t304, t305, t306, t307⟩, A1040, H⟩ := H
              replace H : ((laws_eqJob.f kj46 t267 t270 t273 t276 t277 t278 t279 t280 t294 t297 t300 t303 t304 t305 t306 t307).bind fun t308 => (if t308 = true then ((laws_toPlan.f kj46 a1_0 l1_1).bind fun bt309 => ((laws_eqPlan.f kj46 t282 t283 bt309.1 bt309.2).bind fun t313 => (if t313 = true then ((laws_toPlan.f kj46 a2_0 l2_1).bind fun bt314 => ((laws_eqPlan.f kj46 t287 t288 bt314.1 bt314.2).bind fun t318 => (if t318 = true then (some true) else (none)))) else (none)))) else (none))) = some r := H
              have A104 := Aside0.mk A1040
              clear A1040
              replace H := Option.bind_eq_some_iff.mp H
              obtain ⟨t308, A1050, H⟩ := H
              replace H : (if t308 = true then ((laws_toPlan.f kj46 a1_0 l1_1).bind fun bt309 => ((laws_eqPlan.f kj46 t282 t283 bt309.1 bt309.2).bind fun t313 => (if t313 = true then ((laws_toPlan.f kj46 a2_0 l2_1).bind fun bt314 => ((laws_eqPlan.f kj46 t287 t288 bt314.1 bt314.2).bind fun t318 => (if t318 = true then (some true) else (none)))) else (none)))) else (none)) = some r := H
              have A105 := Aside0.mk A1050
              clear A1050
              by_cases c106 : t308 = true
              · subst c106
                have H1 : ((laws_toPlan.f kj46 a1_0 l1_1).bind fun bt309 => ((laws_eqPlan.f kj46 t282 t283 bt309.1 bt309.2).bind fun t313 => (if t313 = true then ((laws_toPlan.f kj46 a2_0 l2_1).bind fun bt314 => ((laws_eqPlan.f kj46 t287 t288 bt314.1 bt314.2).bind fun t318 => (if t318 = true then (some true) else (none)))) else (none)))) = some r := by rw [if_pos rfl] at H; exact H
                clear H
                have H := H1
                clear H1
                replace H := Option.bind_eq_some_iff.mp H
                obtain ⟨⟨t309, t310⟩, A1070, H⟩ := H
                replace H : ((laws_eqPlan.f kj46 t282 t283 t309 t310).bind fun t313 => (if t313 = true then ((laws_toPlan.f kj46 a2_0 l2_1).bind fun bt314 => ((laws_eqPlan.f kj46 t287 t288 bt314.1 bt314.2).bind fun t318 => (if t318 = true then (some true) else (none)))) else (none))) = some r := H
                have A107 := Aside0.mk A1070
                clear A1070
                replace H := Option.bind_eq_some_iff.mp H
                obtain ⟨t313, A1080, H⟩ := H
                replace H : (if t313 = true then ((laws_toPlan.f kj46 a2_0 l2_1).bind fun bt314 => ((laws_eqPlan.f kj46 t287 t288 bt314.1 bt314.2).bind fun t318 => (if t318 = true then (some true) else (none)))) else (none)) = some r := H
                have A108 := Aside0.mk A1080
                clear A1080
                by_cases c109 : t313 = true
                · subst c109
                  have H1 : ((laws_toPlan.f kj46 a2_0 l2_1).bind fun bt314 => ((laws_eqPlan.f kj46 t287 t288 bt314.1 bt314.2).bind fun t318 => (if t318 = true then (some true) else (none)))) = some r := by rw [if_pos rfl] at H; exact H
                  clear H
                  have H := H1
                  clear H1
                  replace H := Option.bind_eq_some_iff.mp H
                  obtain ⟨⟨t314, t315⟩, A1100, H⟩ := H
                  replace H : ((laws_eqPlan.f kj46 t287 t288 t314 t315).bind fun t318 => (if t318 = true then (some true) else (none))) = some r := H
                  have A110 := Aside0.mk A1100
                  clear A1100
                  replace H := Option.bind_eq_some_iff.mp H
                  obtain ⟨t318, A1110, H⟩ := H
                  replace H : (if t318 = true then (some true) else (none)) = some r := H
                  have A111 := Aside0.mk A1110
                  clear A1110
                  by_cases c112 : t318 = true
                  · subst c112
                    have H1 : (some true) = some r := by rw [if_pos rfl] at H; exact H
                    clear H
                    have H := H1
                    clear H1
                    obtain rfl := Option.some.inj H
                    try go_wp2
                    have n0_ := AZ (Kd.S_drew HO_282000.out)
                    have n1_ := AZ (Kd.R_drew HO_282001.out)
                    have n2_ := AZ (Kd.R_drew HO_282002.out)
                    have n3_ := AZ (Kd.R_drew HO_287001.out)
                    have n4_ := AZ (Kd.R_drew HO_292001.out)
                    have n5_ := AZ (blk_drew BK237.out)
                    have n6_ := AZ (blk_drew BK238.out)
                    have n7_ := AZ (blk_drew BK239.out)
                    have n8_ := AZ (blk_drew BK281.out)
                    have n9_ := AZ (blk_drew BK286.out)
                    have n10_ := AZ (blk_drew BK291.out)
                    have n11_ := AZ (below_drew1 HB.out)
                    clear HO_282000
                    clear HO_282001
                    clear HO_282002
                    clear HO_287001
                    clear HO_292001
                    clear BK237
                    clear BK238
                    clear BK239
                    clear BK281
                    clear BK286
                    clear BK291
                    clear HB
                    have HO_282000 := n0_
                    have HO_282001 := n1_
                    have HO_282002 := n2_
                    have HO_287001 := n3_
                    have HO_292001 := n4_
                    have BK237 := n5_
                    have BK238 := n6_
                    have BK239 := n7_
                    have BK281 := n8_
                    have BK286 := n9_
                    have BK291 := n10_
                    have HB := n11_
                    clear n0_ n1_ n2_ n3_ n4_ n5_ n6_ n7_ n8_ n9_ n10_ n11_
                    refine start_ (n := 5) (S := fun w' => w'.cell? ⟨gb281, 0, none⟩ = some (.slice Ao73 t267.length co73) ∧ w'.cell? ⟨gb281, 1, none⟩ = some (.slice Ao78 t270.length co78) ∧ w'.cell? ⟨gb281, 2, none⟩ = some (.slice Ao79 t273.length co79) ∧ w'.cell? ⟨gb281, 3, none⟩ = some (.int .i64 t276) ∧ w'.cell? ⟨gb281, 4, none⟩ = some (.int .i64 t277) ∧ w'.cell? ⟨gb281, 5, none⟩ = some (.int .i64 t278) ∧ w'.cell? ⟨gb281, 6, none⟩ = some (.int .i64 t279) ∧ w'.cell? ⟨gb281, 7, none⟩ = some (.int .i64 t280) ∧ w'.cell? ⟨gb237, 0, none⟩ = some (.slice A0_0 l0_0.length c0_0) ∧ w'.cell? ⟨gb237, 1, none⟩ = some (.slice A0_1 l0_1.length c0_1) ∧ w'.cell? ⟨gb237, 2, none⟩ = some (.slice A0_2 l0_2.length c0_2) ∧ w'.cell? ⟨gb237, 3, none⟩ = some (.int .i64 a0_3) ∧ w'.cell? ⟨gb237, 4, none⟩ = some (.int .i64 a0_4) ∧ w'.cell? ⟨gb237, 5, none⟩ = some (.int .i64 a0_5) ∧ w'.cell? ⟨gb237, 6, none⟩ = some (.int .i64 a0_6) ∧ w'.cell? ⟨gb237, 7, none⟩ = some (.int .i64 a0_7)) (ds := []) #[false, false, false, false, false] (by kernel_rfl) rfl rfl ⟨(blk_cell BK281.out 0).trans rfl, (blk_cell BK281.out 1).trans rfl, (blk_cell BK281.out 2).trans rfl, (blk_cell BK281.out 3).trans rfl, (blk_cell BK281.out 4).trans rfl, (blk_cell BK281.out 5).trans rfl, (blk_cell BK281.out 6).trans rfl, (blk_cell BK281.out 7).trans rfl, (blk_cell BK237.out 0).trans rfl, (blk_cell BK237.out 1).trans rfl, (blk_cell BK237.out 2).trans rfl, (blk_cell BK237.out 3).trans rfl, (blk_cell BK237.out 4).trans rfl, (blk_cell BK237.out 5).trans rfl, (blk_cell BK237.out 6).trans rfl, (blk_cell BK237.out 7).trans rfl⟩ (fun hHeld => ?_)
                    generalize wc.drew = w113 at HO_282000 HO_282001 HO_282002 HO_287001 HO_292001 BK237 BK238 BK239 BK281 BK286 BK291 HB hHeld ⊢
                    refine take_ (i := 0) (N := some 61) (v := ?_) (a' := ?_) #[true, false, false, false, false] rfl rfl (by kernel_rfl) (fun _ _ _ h => h) (Or.inl ⟨by rfl, ?_⟩) hHeld ?_ ?_
                    rotate_left
                    · rintro w' ⟨s0, s1, s2, s3, s4, s5, s6, s7, s8, s9, s10, s11, s12, s13, s14, s15⟩
                      go_simp
                      with_reducible rfl
                    rotate_left
                    · simp only [Act.put, List.setIfInBounds_toArray, List.set_cons_zero, List.set_cons_succ, i64_w, i32_w]
                      rfl
                    refine take_ (i := 1) (N := some 62) (v := ?_) (a' := ?_) #[true, true, false, false, false] rfl rfl (by kernel_rfl) (fun _ _ _ h => h) (Or.inl ⟨by rfl, ?_⟩) hHeld ?_ ?_
                    rotate_left
                    · rintro w' ⟨s0, s1, s2, s3, s4, s5, s6, s7, s8, s9, s10, s11, s12, s13, s14, s15⟩
                      go_simp
                      with_reducible rfl
                    rotate_left
                    · simp only [Act.put, List.setIfInBounds_toArray, List.set_cons_zero, List.set_cons_succ, i64_w, i32_w]
                      rfl
                    refine one_ (i := 2) (N := some 63) #[true, true, true, false, false] rfl rfl (by kernel_rfl) (by decide) (fun K hK => ?_)
                    refine goes_ Try.func17 (by kernel_rfl) rfl #[.agg #[.slice A0_0 l0_0.length c0_0, .slice A0_1 l0_1.length c0_1, .slice A0_2 l0_2.length c0_2, .int .i64 a0_3, .int .i64 a0_4, .int .i64 a0_5, .int .i64 a0_6, .int .i64 a0_7]] (by rfl) rfl rfl (by (try simp only [List.map_toArray, List.map_cons, List.map_nil]); first | done | rfl | (simp only [List.length_drop, List.length_take]; rfl)) ?_
                    with_reducible refine (laws_toJob.calls kj46 _ _ l0_0 _ _ l0_1 _ _ l0_2 a0_3 a0_4 a0_5 a0_6 a0_7 t294 t297 t300 t303 t304 t305 t306 t307 _ ?side1 ?side2 ?side3 ?side4 ?side5 ?side6 A104.out).mono ?_
                    (case side1 => exact cS (Kd.C_below HR0_0.out HB.out))
                    (case side2 => exact HC0_0.out)
                    (case side3 => exact cS (Kd.C_below HR0_1.out HB.out))
                    (case side4 => exact HC0_1.out)
                    (case side5 => exact cS (Kd.C_below HR0_2.out HB.out))
                    (case side6 => exact HC0_2.out)
                    rintro e w114 ⟨v295, v298, v301, rfl, ho0, ho1, ho2, hb⟩
                    refine ⟨_, rfl, ?_⟩
                    have n0_ := AZ (Kd.S_mono (Kd.S_told (Kd.S_told (Kd.S_told (Kd.S_old (sS HO_282000.out) hb) (Kd.S_base ho0)) (Kd.R_base ho1)) (Kd.R_base ho2)) (fun _ h_ => h_.1))
                    have n1_ := AZ (Kd.R_mono (Kd.R_told (Kd.R_told (Kd.R_old (rS HO_282001.out) hb) (Kd.R_base ho1)) (Kd.R_base ho2)) (fun _ h_ => h_.1))
                    have n2_ := AZ (Kd.R_mono (Kd.R_told (Kd.R_told (Kd.R_old (rS HO_282002.out) hb) (Kd.R_base ho1)) (Kd.R_base ho2)) (fun _ h_ => h_.1))
                    have n3_ := AZ (Kd.R_mono (Kd.R_told (Kd.R_told (Kd.R_old (rS HO_287001.out) hb) (Kd.R_base ho1)) (Kd.R_base ho2)) (fun _ h_ => h_.1))
                    have n4_ := AZ (Kd.R_mono (Kd.R_told (Kd.R_told (Kd.R_old (rS HO_292001.out) hb) (Kd.R_base ho1)) (Kd.R_base ho2)) (fun _ h_ => h_.1))
                    have n5_ := AZ (Kd.S_lower (Kd.S_new' (Kd.S_new' (Kd.S_new' (Kd.S_new' (Kd.S_new' ho0 (Kd.S_lt (sS HO_282000.out))) (Kd.R_lt (rS HO_282001.out))) (Kd.R_lt (rS HO_282002.out))) (Kd.R_lt (rS HO_287001.out))) (Kd.R_lt (rS HO_292001.out))) (below_size (bS HB.out)))
                    have n6_ := AZ (Kd.R_lower (Kd.R_new' (Kd.R_new' (Kd.R_new' (Kd.R_new' ho1 (Kd.R_lt (rS HO_282001.out))) (Kd.R_lt (rS HO_282002.out))) (Kd.R_lt (rS HO_287001.out))) (Kd.R_lt (rS HO_292001.out))) (below_size (bS HB.out)))
                    have n7_ := AZ (Kd.R_lower (Kd.R_new' (Kd.R_new' (Kd.R_new' (Kd.R_new' ho2 (Kd.R_lt (rS HO_282001.out))) (Kd.R_lt (rS HO_282002.out))) (Kd.R_lt (rS HO_287001.out))) (Kd.R_lt (rS HO_292001.out))) (below_size (bS HB.out)))
                    have n8_ := blkA BK237 hb
                    have n9_ := blkA BK238 hb
                    have n10_ := blkA BK239 hb
                    have n11_ := blkA BK281 hb
                    have n12_ := blkA BK286 hb
                    have n13_ := blkA BK291 hb
                    have n14_ := AZ (below_step (bS HB.out) hb)
                    clear HO_282000
                    clear HO_282001
                    clear HO_282002
                    clear HO_287001
                    clear HO_292001
                    clear BK237
                    clear BK238
                    clear BK239
                    clear BK281
                    clear BK286
                    clear BK291
                    clear HB
                    have HO_282000 := n0_
                    have HO_282001 := n1_
                    have HO_282002 := n2_
                    have HO_287001 := n3_
                    have HO_292001 := n4_
                    have HO296 := n5_
                    have HO299 := n6_
                    have HO302 := n7_
                    have BK237 := n8_
                    have BK238 := n9_
                    have BK239 := n10_
                    have BK281 := n11_
                    have BK286 := n12_
                    have BK291 := n13_
                    have HB := n14_
                    clear n0_ n1_ n2_ n3_ n4_ n5_ n6_ n7_ n8_ n9_ n10_ n11_ n12_ n13_ n14_
                    (try clear hb)
                    (try clear hb2)
                    (try clear hk)
                    (try clear hi)
                    (try clear ho0)
                    (try clear ho1)
                    (try clear ho2)
                    obtain ⟨Ao115, co115, eo115⟩ := Kd.S_slice HO296.out
                    (first | subst eo115 | (injection eo115 with f1_ f2_ f3_; have f4_ := f1_.symm; have f5_ := f3_.symm; clear f1_ f2_ f3_; subst f4_; subst f5_))
                    obtain ⟨Ao116, co116, eo116⟩ := Kd.R_slice HO299.out
                    (first | subst eo116 | (injection eo116 with f1_ f2_ f3_; have f4_ := f1_.symm; have f5_ := f3_.symm; clear f1_ f2_ f3_; subst f4_; subst f5_))
                    obtain ⟨Ao117, co117, eo117⟩ := Kd.R_slice HO302.out
                    (first | subst eo117 | (injection eo117 with f1_ f2_ f3_; have f4_ := f1_.symm; have f5_ := f3_.symm; clear f1_ f2_ f3_; subst f4_; subst f5_))
                    refine hK.out _ _ ⟨(blk_cell BK281.out 0).trans rfl, (blk_cell BK281.out 1).trans rfl, (blk_cell BK281.out 2).trans rfl, (blk_cell BK281.out 3).trans rfl, (blk_cell BK281.out 4).trans rfl, (blk_cell BK281.out 5).trans rfl, (blk_cell BK281.out 6).trans rfl, (blk_cell BK281.out 7).trans rfl, (blk_cell BK237.out 0).trans rfl, (blk_cell BK237.out 1).trans rfl, (blk_cell BK237.out 2).trans rfl, (blk_cell BK237.out 3).trans rfl, (blk_cell BK237.out 4).trans rfl, (blk_cell BK237.out 5).trans rfl, (blk_cell BK237.out 6).trans rfl, (blk_cell BK237.out 7).trans rfl⟩ (fun hHeld => ?_)
                    clear hK K
                    refine norm_ (a' := ?_) ?_ ?_
                    rotate_left
                    · show Act.put _ (some 63) _ = _
                      simp only [Act.put, List.setIfInBounds_toArray, List.set_cons_zero, List.set_cons_succ, i64_w, i32_w]
                      rfl
                    refine one_ (i := 3) (N := some 64) #[true, true, true, true, false] rfl rfl (by kernel_rfl) (by decide) (fun K hK => ?_)
                    refine goes_ Try.func20 (by kernel_rfl) rfl #[.agg #[.slice Ao73 t267.length co73, .slice Ao78 t270.length co78, .slice Ao79 t273.length co79, .int .i64 t276, .int .i64 t277, .int .i64 t278, .int .i64 t279, .int .i64 t280], .agg #[.slice Ao115 t294.length co115, .slice Ao116 t297.length co116, .slice Ao117 t300.length co117, .int .i64 t303, .int .i64 t304, .int .i64 t305, .int .i64 t306, .int .i64 t307]] (by rfl) rfl rfl (by (try simp only [List.map_toArray, List.map_cons, List.map_nil]); first | done | rfl | (simp only [List.length_drop, List.length_take]; rfl)) ?_
                    with_reducible refine (laws_eqJob.calls kj46 _ _ t267 _ _ t270 _ _ t273 t276 t277 t278 t279 t280 _ _ t294 _ _ t297 _ _ t300 t303 t304 t305 t306 t307 true _ ?side1 ?side2 ?side3 ?side4 ?side5 ?side6 ?side7 ?side8 ?side9 ?side10 ?side11 ?side12 A105.out).mono ?_
                    (case side1 => exact cS (Kd.S_reads' HO_282000.out).2.2)
                    (case side2 => exact (Kd.S_reads' HO_282000.out).2.1)
                    (case side3 => exact cS (Kd.R_reads' HO_282001.out).2.2)
                    (case side4 => exact (Kd.R_reads' HO_282001.out).2.1)
                    (case side5 => exact cS (Kd.R_reads' HO_282002.out).2.2)
                    (case side6 => exact (Kd.R_reads' HO_282002.out).2.1)
                    (case side7 => exact cS (Kd.S_reads' HO296.out).2.2)
                    (case side8 => exact (Kd.S_reads' HO296.out).2.1)
                    (case side9 => exact cS (Kd.R_reads' HO299.out).2.2)
                    (case side10 => exact (Kd.R_reads' HO299.out).2.1)
                    (case side11 => exact cS (Kd.R_reads' HO302.out).2.2)
                    (case side12 => exact (Kd.R_reads' HO302.out).2.1)
                    rintro e w118 ⟨rfl, hb⟩
                    refine ⟨_, rfl, ?_⟩
                    have n0_ := AZ (Kd.S_below (sS HO_282000.out) hb)
                    have n1_ := AZ (Kd.R_below (rS HO_282001.out) hb)
                    have n2_ := AZ (Kd.R_below (rS HO_282002.out) hb)
                    have n3_ := AZ (Kd.R_below (rS HO_287001.out) hb)
                    have n4_ := AZ (Kd.R_below (rS HO_292001.out) hb)
                    have n5_ := AZ (Kd.S_below (sS HO296.out) hb)
                    have n6_ := AZ (Kd.R_below (rS HO299.out) hb)
                    have n7_ := AZ (Kd.R_below (rS HO302.out) hb)
                    have n8_ := blkA BK237 hb
                    have n9_ := blkA BK238 hb
                    have n10_ := blkA BK239 hb
                    have n11_ := blkA BK281 hb
                    have n12_ := blkA BK286 hb
                    have n13_ := blkA BK291 hb
                    have n14_ := AZ (below_step (bS HB.out) hb)
                    clear HO_282000
                    clear HO_282001
                    clear HO_282002
                    clear HO_287001
                    clear HO_292001
                    clear HO296
                    clear HO299
                    clear HO302
                    clear BK237
                    clear BK238
                    clear BK239
                    clear BK281
                    clear BK286
                    clear BK291
                    clear HB
                    have HO_282000 := n0_
                    have HO_282001 := n1_
                    have HO_282002 := n2_
                    have HO_287001 := n3_
                    have HO_292001 := n4_
                    have HO296 := n5_
                    have HO299 := n6_
                    have HO302 := n7_
                    have BK237 := n8_
                    have BK238 := n9_
                    have BK239 := n10_
                    have BK281 := n11_
                    have BK286 := n12_
                    have BK291 := n13_
                    have HB := n14_
                    clear n0_ n1_ n2_ n3_ n4_ n5_ n6_ n7_ n8_ n9_ n10_ n11_ n12_ n13_ n14_
                    (try clear hb)
                    (try clear hb2)
                    (try clear hk)
                    (try clear hi)
                    refine hK.out _ _ ⟨(blk_cell BK281.out 0).trans rfl, (blk_cell BK281.out 1).trans rfl, (blk_cell BK281.out 2).trans rfl, (blk_cell BK281.out 3).trans rfl, (blk_cell BK281.out 4).trans rfl, (blk_cell BK281.out 5).trans rfl, (blk_cell BK281.out 6).trans rfl, (blk_cell BK281.out 7).trans rfl, (blk_cell BK237.out 0).trans rfl, (blk_cell BK237.out 1).trans rfl, (blk_cell BK237.out 2).trans rfl, (blk_cell BK237.out 3).trans rfl, (blk_cell BK237.out 4).trans rfl, (blk_cell BK237.out 5).trans rfl, (blk_cell BK237.out 6).trans rfl, (blk_cell BK237.out 7).trans rfl⟩ (fun hHeld => ?_)
                    clear hK K
                    refine norm_ (a' := ?_) ?_ ?_
                    rotate_left
                    · show Act.put _ (some 64) _ = _
                      simp only [Act.put, List.setIfInBounds_toArray, List.set_cons_zero, List.set_cons_succ, i64_w, i32_w]
                      rfl
                    refine pure_ (i := 4) (N := some 65) (v := ?_) (a' := ?_) #[true, true, true, true, true] rfl rfl (by kernel_rfl) (fun _ _ _ h => h) (Or.inl ⟨by rfl, ?_⟩) ?_ ?_
                    rotate_left
                    · intro w'
                      go_simp
                      with_reducible rfl
                    rotate_left
                    · simp only [Act.put, List.setIfInBounds_toArray, List.set_cons_zero, List.set_cons_succ, i64_w, i32_w]
                      rfl
                    refine done_ (by kernel_rfl) ?_
                    try go_wp2
                    have n0_ := AZ (Kd.S_drew HO_282000.out)
                    have n1_ := AZ (Kd.R_drew HO_282001.out)
                    have n2_ := AZ (Kd.R_drew HO_282002.out)
                    have n3_ := AZ (Kd.R_drew HO_287001.out)
                    have n4_ := AZ (Kd.R_drew HO_292001.out)
                    have n5_ := AZ (Kd.S_drew HO296.out)
                    have n6_ := AZ (Kd.R_drew HO299.out)
                    have n7_ := AZ (Kd.R_drew HO302.out)
                    have n8_ := AZ (blk_drew BK237.out)
                    have n9_ := AZ (blk_drew BK238.out)
                    have n10_ := AZ (blk_drew BK239.out)
                    have n11_ := AZ (blk_drew BK281.out)
                    have n12_ := AZ (blk_drew BK286.out)
                    have n13_ := AZ (blk_drew BK291.out)
                    have n14_ := AZ (below_drew1 HB.out)
                    clear HO_282000
                    clear HO_282001
                    clear HO_282002
                    clear HO_287001
                    clear HO_292001
                    clear HO296
                    clear HO299
                    clear HO302
                    clear BK237
                    clear BK238
                    clear BK239
                    clear BK281
                    clear BK286
                    clear BK291
                    clear HB
                    have HO_282000 := n0_
                    have HO_282001 := n1_
                    have HO_282002 := n2_
                    have HO_287001 := n3_
                    have HO_292001 := n4_
                    have HO296 := n5_
                    have HO299 := n6_
                    have HO302 := n7_
                    have BK237 := n8_
                    have BK238 := n9_
                    have BK239 := n10_
                    have BK281 := n11_
                    have BK286 := n12_
                    have BK291 := n13_
                    have HB := n14_
                    clear n0_ n1_ n2_ n3_ n4_ n5_ n6_ n7_ n8_ n9_ n10_ n11_ n12_ n13_ n14_
                    refine start_ (n := 5) (S := fun w' => w'.cell? ⟨gb286, 0, none⟩ = some (.int .i64 t282) ∧ w'.cell? ⟨gb286, 1, none⟩ = some (.slice Ao88 t283.length co88) ∧ w'.cell? ⟨gb238, 0, none⟩ = some (.int .i64 a1_0) ∧ w'.cell? ⟨gb238, 1, none⟩ = some (.slice A1_1 l1_1.length c1_1)) (ds := []) #[false, false, false, false, false] (by kernel_rfl) rfl rfl ⟨(blk_cell BK286.out 0).trans rfl, (blk_cell BK286.out 1).trans rfl, (blk_cell BK238.out 0).trans rfl, (blk_cell BK238.out 1).trans rfl⟩ (fun hHeld => ?_)
                    generalize w118.drew = w119 at HO_282000 HO_282001 HO_282002 HO_287001 HO_292001 HO296 HO299 HO302 BK237 BK238 BK239 BK281 BK286 BK291 HB hHeld ⊢
                    refine take_ (i := 0) (N := some 66) (v := ?_) (a' := ?_) #[true, false, false, false, false] rfl rfl (by kernel_rfl) (fun _ _ _ h => h) (Or.inl ⟨by rfl, ?_⟩) hHeld ?_ ?_
                    rotate_left
                    · rintro w' ⟨s0, s1, s2, s3⟩
                      go_simp
                      with_reducible rfl
                    rotate_left
                    · simp only [Act.put, List.setIfInBounds_toArray, List.set_cons_zero, List.set_cons_succ, i64_w, i32_w]
                      rfl
                    refine take_ (i := 1) (N := some 67) (v := ?_) (a' := ?_) #[true, true, false, false, false] rfl rfl (by kernel_rfl) (fun _ _ _ h => h) (Or.inl ⟨by rfl, ?_⟩) hHeld ?_ ?_
                    rotate_left
                    · rintro w' ⟨s0, s1, s2, s3⟩
                      go_simp
                      with_reducible rfl
                    rotate_left
                    · simp only [Act.put, List.setIfInBounds_toArray, List.set_cons_zero, List.set_cons_succ, i64_w, i32_w]
                      rfl
                    refine one_ (i := 2) (N := some 68) #[true, true, true, false, false] rfl rfl (by kernel_rfl) (by decide) (fun K hK => ?_)
                    refine goes_ Try.func18 (by kernel_rfl) rfl #[.agg #[.int .i64 a1_0, .slice A1_1 l1_1.length c1_1]] (by rfl) rfl rfl (by (try simp only [List.map_toArray, List.map_cons, List.map_nil]); first | done | rfl | (simp only [List.length_drop, List.length_take]; rfl)) ?_
                    with_reducible refine (laws_toPlan.calls kj46 a1_0 _ _ l1_1 t309 t310 _ ?side1 ?side2 A107.out).mono ?_
                    (case side1 => exact cS (Kd.C_below HR1_1.out HB.out))
                    (case side2 => exact HC1_1.out)
                    rintro e w120 ⟨v311, rfl, ho0, hb⟩
                    refine ⟨_, rfl, ?_⟩
                    have n0_ := AZ (Kd.S_elder' (sS HO_282000.out) (Kd.R_base ho0) hb)
                    have n1_ := AZ (Kd.R_elder' (rS HO_282001.out) (Kd.R_base ho0) hb)
                    have n2_ := AZ (Kd.R_elder' (rS HO_282002.out) (Kd.R_base ho0) hb)
                    have n3_ := AZ (Kd.R_elder' (rS HO_287001.out) (Kd.R_base ho0) hb)
                    have n4_ := AZ (Kd.R_elder' (rS HO_292001.out) (Kd.R_base ho0) hb)
                    have n5_ := AZ (Kd.S_elder' (sS HO296.out) (Kd.R_base ho0) hb)
                    have n6_ := AZ (Kd.R_elder' (rS HO299.out) (Kd.R_base ho0) hb)
                    have n7_ := AZ (Kd.R_elder' (rS HO302.out) (Kd.R_base ho0) hb)
                    have n8_ := AZ (Kd.R_lower (Kd.R_new' (Kd.R_new' (Kd.R_new' (Kd.R_new' (Kd.R_new' (Kd.R_new' ho0 (Kd.R_lt (rS HO_282001.out))) (Kd.R_lt (rS HO_282002.out))) (Kd.R_lt (rS HO_287001.out))) (Kd.R_lt (rS HO_292001.out))) (Kd.R_lt (rS HO299.out))) (Kd.R_lt (rS HO302.out))) (below_size (bS HB.out)))
                    have n9_ := blkA BK237 hb
                    have n10_ := blkA BK238 hb
                    have n11_ := blkA BK239 hb
                    have n12_ := blkA BK281 hb
                    have n13_ := blkA BK286 hb
                    have n14_ := blkA BK291 hb
                    have n15_ := AZ (below_step (bS HB.out) hb)
                    clear HO_282000
                    clear HO_282001
                    clear HO_282002
                    clear HO_287001
                    clear HO_292001
                    clear HO296
                    clear HO299
                    clear HO302
                    clear BK237
                    clear BK238
                    clear BK239
                    clear BK281
                    clear BK286
                    clear BK291
                    clear HB
                    have HO_282000 := n0_
                    have HO_282001 := n1_
                    have HO_282002 := n2_
                    have HO_287001 := n3_
                    have HO_292001 := n4_
                    have HO296 := n5_
                    have HO299 := n6_
                    have HO302 := n7_
                    have HO312 := n8_
                    have BK237 := n9_
                    have BK238 := n10_
                    have BK239 := n11_
                    have BK281 := n12_
                    have BK286 := n13_
                    have BK291 := n14_
                    have HB := n15_
                    clear n0_ n1_ n2_ n3_ n4_ n5_ n6_ n7_ n8_ n9_ n10_ n11_ n12_ n13_ n14_ n15_
                    (try clear hb)
                    (try clear hb2)
                    (try clear hk)
                    (try clear hi)
                    (try clear ho0)
                    obtain ⟨Ao121, co121, eo121⟩ := Kd.R_slice HO312.out
                    (first | subst eo121 | (injection eo121 with f1_ f2_ f3_; have f4_ := f1_.symm; have f5_ := f3_.symm; clear f1_ f2_ f3_; subst f4_; subst f5_))
                    refine hK.out _ _ ⟨(blk_cell BK286.out 0).trans rfl, (blk_cell BK286.out 1).trans rfl, (blk_cell BK238.out 0).trans rfl, (blk_cell BK238.out 1).trans rfl⟩ (fun hHeld => ?_)
                    clear hK K
                    refine norm_ (a' := ?_) ?_ ?_
                    rotate_left
                    · show Act.put _ (some 68) _ = _
                      simp only [Act.put, List.setIfInBounds_toArray, List.set_cons_zero, List.set_cons_succ, i64_w, i32_w]
                      rfl
                    refine one_ (i := 3) (N := some 69) #[true, true, true, true, false] rfl rfl (by kernel_rfl) (by decide) (fun K hK => ?_)
                    refine goes_ Try.func21 (by kernel_rfl) rfl #[.agg #[.int .i64 t282, .slice Ao88 t283.length co88], .agg #[.int .i64 t309, .slice Ao121 t310.length co121]] (by rfl) rfl rfl (by (try simp only [List.map_toArray, List.map_cons, List.map_nil]); first | done | rfl | (simp only [List.length_drop, List.length_take]; rfl)) ?_
                    with_reducible refine (laws_eqPlan.calls kj46 t282 _ _ t283 t309 _ _ t310 true _ ?side1 ?side2 ?side3 ?side4 A108.out).mono ?_
                    (case side1 => exact cS (Kd.R_reads' HO_287001.out).2.2)
                    (case side2 => exact (Kd.R_reads' HO_287001.out).2.1)
                    (case side3 => exact cS (Kd.R_reads' HO312.out).2.2)
                    (case side4 => exact (Kd.R_reads' HO312.out).2.1)
                    rintro e w122 ⟨rfl, hb⟩
                    refine ⟨_, rfl, ?_⟩
                    have n0_ := AZ (Kd.S_below (sS HO_282000.out) hb)
                    have n1_ := AZ (Kd.R_below (rS HO_282001.out) hb)
                    have n2_ := AZ (Kd.R_below (rS HO_282002.out) hb)
                    have n3_ := AZ (Kd.R_below (rS HO_287001.out) hb)
                    have n4_ := AZ (Kd.R_below (rS HO_292001.out) hb)
                    have n5_ := AZ (Kd.S_below (sS HO296.out) hb)
                    have n6_ := AZ (Kd.R_below (rS HO299.out) hb)
                    have n7_ := AZ (Kd.R_below (rS HO302.out) hb)
                    have n8_ := AZ (Kd.R_below (rS HO312.out) hb)
                    have n9_ := blkA BK237 hb
                    have n10_ := blkA BK238 hb
                    have n11_ := blkA BK239 hb
                    have n12_ := blkA BK281 hb
                    have n13_ := blkA BK286 hb
                    have n14_ := blkA BK291 hb
                    have n15_ := AZ (below_step (bS HB.out) hb)
                    clear HO_282000
                    clear HO_282001
                    clear HO_282002
                    clear HO_287001
                    clear HO_292001
                    clear HO296
                    clear HO299
                    clear HO302
                    clear HO312
                    clear BK237
                    clear BK238
                    clear BK239
                    clear BK281
                    clear BK286
                    clear BK291
                    clear HB
                    have HO_282000 := n0_
                    have HO_282001 := n1_
                    have HO_282002 := n2_
                    have HO_287001 := n3_
                    have HO_292001 := n4_
                    have HO296 := n5_
                    have HO299 := n6_
                    have HO302 := n7_
                    have HO312 := n8_
                    have BK237 := n9_
                    have BK238 := n10_
                    have BK239 := n11_
                    have BK281 := n12_
                    have BK286 := n13_
                    have BK291 := n14_
                    have HB := n15_
                    clear n0_ n1_ n2_ n3_ n4_ n5_ n6_ n7_ n8_ n9_ n10_ n11_ n12_ n13_ n14_ n15_
                    (try clear hb)
                    (try clear hb2)
                    (try clear hk)
                    (try clear hi)
                    refine hK.out _ _ ⟨(blk_cell BK286.out 0).trans rfl, (blk_cell BK286.out 1).trans rfl, (blk_cell BK238.out 0).trans rfl, (blk_cell BK238.out 1).trans rfl⟩ (fun hHeld => ?_)
                    clear hK K
                    refine norm_ (a' := ?_) ?_ ?_
                    rotate_left
                    · show Act.put _ (some 69) _ = _
                      simp only [Act.put, List.setIfInBounds_toArray, List.set_cons_zero, List.set_cons_succ, i64_w, i32_w]
                      rfl
                    refine pure_ (i := 4) (N := some 70) (v := ?_) (a' := ?_) #[true, true, true, true, true] rfl rfl (by kernel_rfl) (fun _ _ _ h => h) (Or.inl ⟨by rfl, ?_⟩) ?_ ?_
                    rotate_left
                    · intro w'
                      go_simp
                      with_reducible rfl
                    rotate_left
                    · simp only [Act.put, List.setIfInBounds_toArray, List.set_cons_zero, List.set_cons_succ, i64_w, i32_w]
                      rfl
                    refine done_ (by kernel_rfl) ?_
                    try go_wp2
                    have n0_ := AZ (Kd.S_drew HO_282000.out)
                    have n1_ := AZ (Kd.R_drew HO_282001.out)
                    have n2_ := AZ (Kd.R_drew HO_282002.out)
                    have n3_ := AZ (Kd.R_drew HO_287001.out)
                    have n4_ := AZ (Kd.R_drew HO_292001.out)
                    have n5_ := AZ (Kd.S_drew HO296.out)
                    have n6_ := AZ (Kd.R_drew HO299.out)
                    have n7_ := AZ (Kd.R_drew HO302.out)
                    have n8_ := AZ (Kd.R_drew HO312.out)
                    have n9_ := AZ (blk_drew BK237.out)
                    have n10_ := AZ (blk_drew BK238.out)
                    have n11_ := AZ (blk_drew BK239.out)
                    have n12_ := AZ (blk_drew BK281.out)
                    have n13_ := AZ (blk_drew BK286.out)
                    have n14_ := AZ (blk_drew BK291.out)
                    have n15_ := AZ (below_drew1 HB.out)
                    clear HO_282000
                    clear HO_282001
                    clear HO_282002
                    clear HO_287001
                    clear HO_292001
                    clear HO296
                    clear HO299
                    clear HO302
                    clear HO312
                    clear BK237
                    clear BK238
                    clear BK239
                    clear BK281
                    clear BK286
                    clear BK291
                    clear HB
                    have HO_282000 := n0_
                    have HO_282001 := n1_
                    have HO_282002 := n2_
                    have HO_287001 := n3_
                    have HO_292001 := n4_
                    have HO296 := n5_
                    have HO299 := n6_
                    have HO302 := n7_
                    have HO312 := n8_
                    have BK237 := n9_
                    have BK238 := n10_
                    have BK239 := n11_
                    have BK281 := n12_
                    have BK286 := n13_
                    have BK291 := n14_
                    have HB := n15_
                    clear n0_ n1_ n2_ n3_ n4_ n5_ n6_ n7_ n8_ n9_ n10_ n11_ n12_ n13_ n14_ n15_
                    refine start_ (n := 5) (S := fun w' => w'.cell? ⟨gb291, 0, none⟩ = some (.int .i64 t287) ∧ w'.cell? ⟨gb291, 1, none⟩ = some (.slice Ao98 t288.length co98) ∧ w'.cell? ⟨gb239, 0, none⟩ = some (.int .i64 a2_0) ∧ w'.cell? ⟨gb239, 1, none⟩ = some (.slice A2_1 l2_1.length c2_1)) (ds := []) #[false, false, false, false, false] (by kernel_rfl) rfl rfl ⟨(blk_cell BK291.out 0).trans rfl, (blk_cell BK291.out 1).trans rfl, (blk_cell BK239.out 0).trans rfl, (blk_cell BK239.out 1).trans rfl⟩ (fun hHeld => ?_)
                    generalize w122.drew = w123 at HO_282000 HO_282001 HO_282002 HO_287001 HO_292001 HO296 HO299 HO302 HO312 BK237 BK238 BK239 BK281 BK286 BK291 HB hHeld ⊢
                    refine take_ (i := 0) (N := some 71) (v := ?_) (a' := ?_) #[true, false, false, false, false] rfl rfl (by kernel_rfl) (fun _ _ _ h => h) (Or.inl ⟨by rfl, ?_⟩) hHeld ?_ ?_
                    rotate_left
                    · rintro w' ⟨s0, s1, s2, s3⟩
                      go_simp
                      with_reducible rfl
                    rotate_left
                    · simp only [Act.put, List.setIfInBounds_toArray, List.set_cons_zero, List.set_cons_succ, i64_w, i32_w]
                      rfl
                    refine take_ (i := 1) (N := some 72) (v := ?_) (a' := ?_) #[true, true, false, false, false] rfl rfl (by kernel_rfl) (fun _ _ _ h => h) (Or.inl ⟨by rfl, ?_⟩) hHeld ?_ ?_
                    rotate_left
                    · rintro w' ⟨s0, s1, s2, s3⟩
                      go_simp
                      with_reducible rfl
                    rotate_left
                    · simp only [Act.put, List.setIfInBounds_toArray, List.set_cons_zero, List.set_cons_succ, i64_w, i32_w]
                      rfl
                    refine one_ (i := 2) (N := some 73) #[true, true, true, false, false] rfl rfl (by kernel_rfl) (by decide) (fun K hK => ?_)
                    refine goes_ Try.func18 (by kernel_rfl) rfl #[.agg #[.int .i64 a2_0, .slice A2_1 l2_1.length c2_1]] (by rfl) rfl rfl (by (try simp only [List.map_toArray, List.map_cons, List.map_nil]); first | done | rfl | (simp only [List.length_drop, List.length_take]; rfl)) ?_
                    with_reducible refine (laws_toPlan.calls kj46 a2_0 _ _ l2_1 t314 t315 _ ?side1 ?side2 A110.out).mono ?_
                    (case side1 => exact cS (Kd.C_below HR2_1.out HB.out))
                    (case side2 => exact HC2_1.out)
                    rintro e w124 ⟨v316, rfl, ho0, hb⟩
                    refine ⟨_, rfl, ?_⟩
                    have n0_ := AZ (Kd.S_elder' (sS HO_282000.out) (Kd.R_base ho0) hb)
                    have n1_ := AZ (Kd.R_elder' (rS HO_282001.out) (Kd.R_base ho0) hb)
                    have n2_ := AZ (Kd.R_elder' (rS HO_282002.out) (Kd.R_base ho0) hb)
                    have n3_ := AZ (Kd.R_elder' (rS HO_287001.out) (Kd.R_base ho0) hb)
                    have n4_ := AZ (Kd.R_elder' (rS HO_292001.out) (Kd.R_base ho0) hb)
                    have n5_ := AZ (Kd.S_elder' (sS HO296.out) (Kd.R_base ho0) hb)
                    have n6_ := AZ (Kd.R_elder' (rS HO299.out) (Kd.R_base ho0) hb)
                    have n7_ := AZ (Kd.R_elder' (rS HO302.out) (Kd.R_base ho0) hb)
                    have n8_ := AZ (Kd.R_elder' (rS HO312.out) (Kd.R_base ho0) hb)
                    have n9_ := AZ (Kd.R_lower (Kd.R_new' (Kd.R_new' (Kd.R_new' (Kd.R_new' (Kd.R_new' (Kd.R_new' (Kd.R_new' ho0 (Kd.R_lt (rS HO_282001.out))) (Kd.R_lt (rS HO_282002.out))) (Kd.R_lt (rS HO_287001.out))) (Kd.R_lt (rS HO_292001.out))) (Kd.R_lt (rS HO299.out))) (Kd.R_lt (rS HO302.out))) (Kd.R_lt (rS HO312.out))) (below_size (bS HB.out)))
                    have n10_ := blkA BK237 hb
                    have n11_ := blkA BK238 hb
                    have n12_ := blkA BK239 hb
                    have n13_ := blkA BK281 hb
                    have n14_ := blkA BK286 hb
                    have n15_ := blkA BK291 hb
                    have n16_ := AZ (below_step (bS HB.out) hb)
                    clear HO_282000
                    clear HO_282001
                    clear HO_282002
                    clear HO_287001
                    clear HO_292001
                    clear HO296
                    clear HO299
                    clear HO302
                    clear HO312
                    clear BK237
                    clear BK238
                    clear BK239
                    clear BK281
                    clear BK286
                    clear BK291
                    clear HB
                    have HO_282000 := n0_
                    have HO_282001 := n1_
                    have HO_282002 := n2_
                    have HO_287001 := n3_
                    have HO_292001 := n4_
                    have HO296 := n5_
                    have HO299 := n6_
                    have HO302 := n7_
                    have HO312 := n8_
                    have HO317 := n9_
                    have BK237 := n10_
                    have BK238 := n11_
                    have BK239 := n12_
                    have BK281 := n13_
                    have BK286 := n14_
                    have BK291 := n15_
                    have HB := n16_
                    clear n0_ n1_ n2_ n3_ n4_ n5_ n6_ n7_ n8_ n9_ n10_ n11_ n12_ n13_ n14_ n15_ n16_
                    (try clear hb)
                    (try clear hb2)
                    (try clear hk)
                    (try clear hi)
                    (try clear ho0)
                    obtain ⟨Ao125, co125, eo125⟩ := Kd.R_slice HO317.out
                    (first | subst eo125 | (injection eo125 with f1_ f2_ f3_; have f4_ := f1_.symm; have f5_ := f3_.symm; clear f1_ f2_ f3_; subst f4_; subst f5_))
                    refine hK.out _ _ ⟨(blk_cell BK291.out 0).trans rfl, (blk_cell BK291.out 1).trans rfl, (blk_cell BK239.out 0).trans rfl, (blk_cell BK239.out 1).trans rfl⟩ (fun hHeld => ?_)
                    clear hK K
                    refine norm_ (a' := ?_) ?_ ?_
                    rotate_left
                    · show Act.put _ (some 73) _ = _
                      simp only [Act.put, List.setIfInBounds_toArray, List.set_cons_zero, List.set_cons_succ, i64_w, i32_w]
                      rfl
                    refine one_ (i := 3) (N := some 74) #[true, true, true, true, false] rfl rfl (by kernel_rfl) (by decide) (fun K hK => ?_)
                    refine goes_ Try.func21 (by kernel_rfl) rfl #[.agg #[.int .i64 t287, .slice Ao98 t288.length co98], .agg #[.int .i64 t314, .slice Ao125 t315.length co125]] (by rfl) rfl rfl (by (try simp only [List.map_toArray, List.map_cons, List.map_nil]); first | done | rfl | (simp only [List.length_drop, List.length_take]; rfl)) ?_
                    with_reducible refine (laws_eqPlan.calls kj46 t287 _ _ t288 t314 _ _ t315 true _ ?side1 ?side2 ?side3 ?side4 A111.out).mono ?_
                    (case side1 => exact cS (Kd.R_reads' HO_292001.out).2.2)
                    (case side2 => exact (Kd.R_reads' HO_292001.out).2.1)
                    (case side3 => exact cS (Kd.R_reads' HO317.out).2.2)
                    (case side4 => exact (Kd.R_reads' HO317.out).2.1)
                    rintro e w126 ⟨rfl, hb⟩
                    refine ⟨_, rfl, ?_⟩
                    have n0_ := AZ (Kd.S_below (sS HO_282000.out) hb)
                    have n1_ := AZ (Kd.R_below (rS HO_282001.out) hb)
                    have n2_ := AZ (Kd.R_below (rS HO_282002.out) hb)
                    have n3_ := AZ (Kd.R_below (rS HO_287001.out) hb)
                    have n4_ := AZ (Kd.R_below (rS HO_292001.out) hb)
                    have n5_ := AZ (Kd.S_below (sS HO296.out) hb)
                    have n6_ := AZ (Kd.R_below (rS HO299.out) hb)
                    have n7_ := AZ (Kd.R_below (rS HO302.out) hb)
                    have n8_ := AZ (Kd.R_below (rS HO312.out) hb)
                    have n9_ := AZ (Kd.R_below (rS HO317.out) hb)
                    have n10_ := blkA BK237 hb
                    have n11_ := blkA BK238 hb
                    have n12_ := blkA BK239 hb
                    have n13_ := blkA BK281 hb
                    have n14_ := blkA BK286 hb
                    have n15_ := blkA BK291 hb
                    have n16_ := AZ (below_step (bS HB.out) hb)
                    clear HO_282000
                    clear HO_282001
                    clear HO_282002
                    clear HO_287001
                    clear HO_292001
                    clear HO296
                    clear HO299
                    clear HO302
                    clear HO312
                    clear HO317
                    clear BK237
                    clear BK238
                    clear BK239
                    clear BK281
                    clear BK286
                    clear BK291
                    clear HB
                    have HO_282000 := n0_
                    have HO_282001 := n1_
                    have HO_282002 := n2_
                    have HO_287001 := n3_
                    have HO_292001 := n4_
                    have HO296 := n5_
                    have HO299 := n6_
                    have HO302 := n7_
                    have HO312 := n8_
                    have HO317 := n9_
                    have BK237 := n10_
                    have BK238 := n11_
                    have BK239 := n12_
                    have BK281 := n13_
                    have BK286 := n14_
                    have BK291 := n15_
                    have HB := n16_
                    clear n0_ n1_ n2_ n3_ n4_ n5_ n6_ n7_ n8_ n9_ n10_ n11_ n12_ n13_ n14_ n15_ n16_
                    (try clear hb)
                    (try clear hb2)
                    (try clear hk)
                    (try clear hi)
                    refine hK.out _ _ ⟨(blk_cell BK291.out 0).trans rfl, (blk_cell BK291.out 1).trans rfl, (blk_cell BK239.out 0).trans rfl, (blk_cell BK239.out 1).trans rfl⟩ (fun hHeld => ?_)
                    clear hK K
                    refine norm_ (a' := ?_) ?_ ?_
                    rotate_left
                    · show Act.put _ (some 74) _ = _
                      simp only [Act.put, List.setIfInBounds_toArray, List.set_cons_zero, List.set_cons_succ, i64_w, i32_w]
                      rfl
                    refine pure_ (i := 4) (N := some 75) (v := ?_) (a' := ?_) #[true, true, true, true, true] rfl rfl (by kernel_rfl) (fun _ _ _ h => h) (Or.inl ⟨by rfl, ?_⟩) ?_ ?_
                    rotate_left
                    · intro w'
                      go_simp
                      with_reducible rfl
                    rotate_left
                    · simp only [Act.put, List.setIfInBounds_toArray, List.set_cons_zero, List.set_cons_succ, i64_w, i32_w]
                      rfl
                    refine done_ (by kernel_rfl) ?_
                    try go_wp2
                    go_ret
                    exact ⟨by first | rfl | (simp; done) | (simp [*]; done), bS HB.out⟩
                  · replace c112 := Bool.eq_false_iff.mpr c112
                    subst c112
                    have H1 : (none) = some r := by rw [if_neg (show ¬ (false = true) by decide)] at H; exact H
                    clear H
                    have H := H1
                    clear H1
                    exact absurd H (by simp)
                · replace c109 := Bool.eq_false_iff.mpr c109
                  subst c109
                  have H1 : (none) = some r := by rw [if_neg (show ¬ (false = true) by decide)] at H; exact H
                  clear H
                  have H := H1
                  clear H1
                  exact absurd H (by simp)
              · replace c106 := Bool.eq_false_iff.mpr c106
                subst c106
                have H1 : (none) = some r := by rw [if_neg (show ¬ (false = true) by decide)] at H; exact H
                clear H
                have H := H1
                clear H1
                exact absurd H (by simp)

end Go.Proofs.Ytpfjjheognelhaa.PFnExactFirstApart
