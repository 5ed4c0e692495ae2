-- Written by a program of this claim (patch_print.py over the print): no hand has typed it.
import Derived.Test.YtpfjjheognelhaaPFnExactDifferRowsx0
import Derived.Test.YtpfjjheognelhaaPFnExactDifferRowsx1
import Derived.Test.YtpfjjheognelhaaPFnExactDifferRowsx2
import Derived.Test.YtpfjjheognelhaaPFnExactDifferRowsx4
import Derived.Test.YtpfjjheognelhaaPFnExactDifferRowsx7
import Derived.Test.YtpfjjheognelhaaPFnExactDifferRowsx8
namespace Go.Proofs.Ytpfjjheognelhaa.PFnExactDifferRows
open Go.RowKit Go.Proofs.YtpfjjheognelhaaW.PrintWords Go.Proofs.YtpfjjheognelhaaW.PrintLast Go.Proofs.YtpfjjheognelhaaW.PrintMore
attribute [local go_sem] max2_int min2_int max_two min_two max_three min_three max_four min_four   -- for this text's walks alone
set_option linter.unusedVariables false
set_option linter.unusedSimpArgs false

/-! ### laws_FnExactDifferRows: function 5 -/
mutual
def laws_FnExactDifferRows.j0 : Nat → List ByteArray → Bool → List ByteArray → Bool → Bool → ByteArray → Int → List (S133) → ByteArray → Int → List (S133) → ByteArray → Int → List (S81) → ByteArray → Int → List (S81) → Option (Bool)
 | 0, _, _, _, _, _, _, _, _, _, _, _, _, _, _, _, _, _ => none
 | k + 1, x6, x7, x10, x11, x53, x232000, x232001, x232002, x233000, x233001, x233002, x255000, x255001, x255002, x261000, x261001, x261002 => if x53 = true then (none) else ((laws_toReport.f k x232000 x232001 x232002).bind fun bt266 => ((laws_eqReport.f k x255000 x255001 x255002 bt266.1 bt266.2.1 bt266.2.2).bind fun t271 => (if t271 = true then ((laws_toReport.f k x233000 x233001 x233002).bind fun bt272 => ((laws_eqReport.f k x261000 x261001 x261002 bt272.1 bt272.2.1 bt272.2.2).bind fun t277 => (if t277 = true then ((laws_markReport.f k x255000 x255001 x255002 1).bind fun t278 => ((laws_markReport.f k x261000 x261001 x261002 t278).bind fun t279 => (if t279 < 0 then (laws_FnExactDifferRows.j1 k x6 x7 x10 true x232000 x232001 x232002 x233000 x233001 x233002) else ((laws_eqStringS.f k x10 x6).bind fun t280 => (if t280 = true then (laws_FnExactDifferRows.j1 k x6 x7 x10 (x11 != x7) x232000 x232001 x232002 x233000 x233001 x233002) else (laws_FnExactDifferRows.j1 k x6 x7 x10 true x232000 x232001 x232002 x233000 x233001 x233002)))))) else (none)))) else (none))))
def laws_FnExactDifferRows.j1 : Nat → List ByteArray → Bool → List ByteArray → Bool → ByteArray → Int → List (S133) → ByteArray → Int → List (S133) → Option (Bool)
 | 0, _, _, _, _, _, _, _, _, _, _ => none
 | k + 1, x6, x7, x10, x82, x232000, x232001, x232002, x233000, x233001, x233002 => if x82 = true then (none) else ((laws_markStringS.f k x10 1).bind fun bt281 => ((laws_heldStringS.f k bt281.2 1).bind fun t283 => (if t283 < 0 then (none) else (if t283 = bt281.1 then ((laws_toReport.f k x232000 x232001 x232002).bind fun bt284 => ((laws_toReport.f k x233000 x233001 x233002).bind fun bt289 => ((impl_DifferRows.f k bt284.1 bt284.2.1 bt284.2.2 bt289.1 bt289.2.1 bt289.2.2).bind fun bt294 => ((laws_eqStringS.f k bt294.1 x6).bind fun t298 => (if t298 = true then (laws_FnExactDifferRows.j2 k bt281.2 bt281.1 (bt294.2 != x7)) else (laws_FnExactDifferRows.j2 k bt281.2 bt281.1 true)))))) else (none)))))
def laws_FnExactDifferRows.j2 : Nat → List ByteArray → Int → Bool → Option (Bool)
 | 0, _, _, _ => none
 | k + 1, x10, x13, x110 => if x110 = true then (none) else ((laws_heldStringS.f k x10 1).bind fun t299 => (if t299 < 0 then (none) else (if t299 = x13 then (some true) else (none))))
end
def laws_FnExactDifferRows.f (k : Nat) (a0_0 : ByteArray) (a0_1 : Int) (l0_2 : List (S133)) (a1_0 : ByteArray) (a1_1 : Int) (l1_2 : List (S133)) : Option (Bool) := (laws_szReport.f k a0_0 a0_1 l0_2 1048576).bind fun t233 => (if t233 < 0 then (some true) else ((laws_szReport.f k a1_0 a1_1 l1_2 t233).bind fun t234 => (if t234 < 0 then (some true) else ((laws_toReport.f k a0_0 a0_1 l0_2).bind fun bt235 => ((laws_toReport.f k a1_0 a1_1 l1_2).bind fun bt240 => ((spec_DifferRows.f k bt235.1 bt235.2.1 bt235.2.2 bt240.1 bt240.2.1 bt240.2.2).bind fun bt245 => ((laws_toReport.f k a0_0 a0_1 l0_2).bind fun bt249 => ((laws_toReport.f k a1_0 a1_1 l1_2).bind fun bt255 => ((impl_DifferRows.f k bt249.1 bt249.2.1 bt249.2.2 bt255.1 bt255.2.1 bt255.2.2).bind fun bt261 => ((laws_eqStringS.f k bt261.1 bt245.1).bind fun t265 => (if t265 = true then (laws_FnExactDifferRows.j0 k bt245.1 bt245.2 bt261.1 bt261.2 (bt261.2 != bt245.2) a0_0 a0_1 l0_2 a1_0 a1_1 l1_2 bt249.1 bt249.2.1 bt249.2.2 bt255.1 bt255.2.1 bt255.2.2) else (laws_FnExactDifferRows.j0 k bt245.1 bt245.2 bt261.1 bt261.2 true a0_0 a0_1 l0_2 a1_0 a1_1 l1_2 bt249.1 bt249.2.1 bt249.2.2 bt255.1 bt255.2.1 bt255.2.2))))))))))))
def laws_FnExactDifferRows.T8 : Bool × List (List Nat × List Nat) := (true, [([], []), ([0], [0]), ([], []), ([2, 1], [2]), ([1, 3, 3], [1, 3]), ([4], [4]), ([5], [5]), ([5], [5]), ([6, 4, 0, 1, 2, 3, 4, 5, 6], [6]), ([7, 8, 0, 1, 2, 3, 4, 5, 6, 7, 8], [7])])
def laws_FnExactDifferRows.B8 : List Nat := [0, 1, 0, 7, 15, 31, 63, 63, 127, 511]
theorem laws_FnExactDifferRows.tab8 : rtab .any (opsOf Try.f5 8) = laws_FnExactDifferRows.T8 := by kernel_rfl
theorem laws_FnExactDifferRows.bits8 : waitsOk laws_FnExactDifferRows.T8.2 laws_FnExactDifferRows.B8 = true := by kernel_rfl
def laws_FnExactDifferRows.T31 : Bool × List (List Nat × List Nat) := (true, [([], []), ([0], [0]), ([], []), ([2, 1], [2]), ([1, 3, 3], [1, 3]), ([4], [4]), ([5], [5]), ([5], [5]), ([6, 4, 0, 1, 2, 3, 4, 5, 6], [6]), ([7, 8, 0, 1, 2, 3, 4, 5, 6, 7, 8], [7])])
def laws_FnExactDifferRows.B31 : List Nat := [0, 1, 0, 7, 15, 31, 63, 63, 127, 511]
theorem laws_FnExactDifferRows.tab31 : rtab .any (opsOf Try.f5 31) = laws_FnExactDifferRows.T31 := by kernel_rfl
theorem laws_FnExactDifferRows.bits31 : waitsOk laws_FnExactDifferRows.T31.2 laws_FnExactDifferRows.B31 = true := by kernel_rfl
set_option maxHeartbeats 8000000 in
set_option maxRecDepth 100000 in
theorem laws_FnExactDifferRows.calls (k : Nat) (a0_0 : ByteArray) (a0_1 : Int) (A0_2 : Option Addr) (c0_2 : Nat) (l0_2 : List (S133)) (a1_0 : ByteArray) (a1_1 : Int) (A1_2 : Option Addr) (c1_2 : Nat) (l1_2 : List (S133)) (r : Bool) (w : World) (hr0_2 : Kd.C k133 w A0_2 l0_2.length l0_2) (hc0_2 : l0_2.length ≤ c0_2) (hr1_2 : Kd.C k133 w A1_2 l1_2.length l1_2) (hc1_2 : l1_2.length ≤ c1_2) (h : laws_FnExactDifferRows.f k a0_0 a0_1 l0_2 a1_0 a1_1 l1_2 = some r) :
  Calls Try.prog 5 #[.agg #[.string a0_0, .int .i64 a0_1, .slice A0_2 l0_2.length c0_2], .agg #[.string a1_0, .int .i64 a1_1, .slice A1_2 l1_2.length c1_2]] w fun e w' => e = .returned (.bool r) ∧ Below w.heap.size w w' := by
 have hu45 := Try.underlying45
 have hu49 := Try.underlying49
 have HR0_2 := Aside0.mk hr0_2
 have HC0_2 := Aside0.mk hc0_2
 clear hr0_2 hc0_2
 have HR1_2 := Aside0.mk hr1_2
 have HC1_2 := Aside0.mk hc1_2
 clear hr1_2 hc1_2
 have HB := AZ (Below.refl w.heap.size w)
 have H : ((laws_szReport.f k a0_0 a0_1 l0_2 1048576).bind fun t233 => (if t233 < 0 then (some true) else ((laws_szReport.f k a1_0 a1_1 l1_2 t233).bind fun t234 => (if t234 < 0 then (some true) else ((laws_toReport.f k a0_0 a0_1 l0_2).bind fun bt235 => ((laws_toReport.f k a1_0 a1_1 l1_2).bind fun bt240 => ((spec_DifferRows.f k bt235.1 bt235.2.1 bt235.2.2 bt240.1 bt240.2.1 bt240.2.2).bind fun bt245 => ((laws_toReport.f k a0_0 a0_1 l0_2).bind fun bt249 => ((laws_toReport.f k a1_0 a1_1 l1_2).bind fun bt255 => ((impl_DifferRows.f k bt249.1 bt249.2.1 bt249.2.2 bt255.1 bt255.2.1 bt255.2.2).bind fun bt261 => ((laws_eqStringS.f k bt261.1 bt245.1).bind fun t265 => (if t265 = true then (laws_FnExactDifferRows.j0 k bt245.1 bt245.2 bt261.1 bt261.2 (bt261.2 != bt245.2) a0_0 a0_1 l0_2 a1_0 a1_1 l1_2 bt249.1 bt249.2.1 bt249.2.2 bt255.1 bt255.2.1 bt255.2.2) else (laws_FnExactDifferRows.j0 k bt245.1 bt245.2 bt261.1 bt261.2 true a0_0 a0_1 l0_2 a1_0 a1_1 l1_2 bt249.1 bt249.2.1 bt249.2.2 bt255.1 bt255.2.1 bt255.2.2))))))))))))) = some r := h
 clear h
 replace H := Option.bind_eq_some_iff.mp H
 obtain ⟨t233, A30, H⟩ := H
 replace H : (if t233 < 0 then (some true) else ((laws_szReport.f k a1_0 a1_1 l1_2 t233).bind fun t234 => (if t234 < 0 then (some true) else ((laws_toReport.f k a0_0 a0_1 l0_2).bind fun bt235 => ((laws_toReport.f k a1_0 a1_1 l1_2).bind fun bt240 => ((spec_DifferRows.f k bt235.1 bt235.2.1 bt235.2.2 bt240.1 bt240.2.1 bt240.2.2).bind fun bt245 => ((laws_toReport.f k a0_0 a0_1 l0_2).bind fun bt249 => ((laws_toReport.f k a1_0 a1_1 l1_2).bind fun bt255 => ((impl_DifferRows.f k bt249.1 bt249.2.1 bt249.2.2 bt255.1 bt255.2.1 bt255.2.2).bind fun bt261 => ((laws_eqStringS.f k bt261.1 bt245.1).bind fun t265 => (if t265 = true then (laws_FnExactDifferRows.j0 k bt245.1 bt245.2 bt261.1 bt261.2 (bt261.2 != bt245.2) a0_0 a0_1 l0_2 a1_0 a1_1 l1_2 bt249.1 bt249.2.1 bt249.2.2 bt255.1 bt255.2.1 bt255.2.2) else (laws_FnExactDifferRows.j0 k bt245.1 bt245.2 bt261.1 bt261.2 true a0_0 a0_1 l0_2 a1_0 a1_1 l1_2 bt249.1 bt249.2.1 bt249.2.2 bt255.1 bt255.2.1 bt255.2.2)))))))))))) = some r := H
 have A3 := Aside0.mk A30
 clear A30
 by_cases c4 : t233 < 0
 ·rw [if_pos c4] at H
  have c4b0 : decide (t233 < 0) = true := decide_eq_true c4
  clear c4
  obtain rfl := Option.some.inj H
  go_enter Try.func5, Try.ntmps5
  go_wp2_with (first | ((with_reducible refine gate_dst (N := 2) rfl ?_); refine box_event ?hg (N := 2) ?hd (cs := #[.string a0_0, .int .i64 a0_1, .slice A0_2 l0_2.length c0_2]) (t := 45) ?hr ?_; (case hd => rfl); (case hg => rfl); (case hr => first | (go_simp; done) | (go_simp; rfl)); intro gb231 hg w5 hbox hb; have n0_ := AZ (below_step (bS HB.out) hb); have n1_ := AZ (hbox); have n2_ := AZ (geS hg HB.out); have n3_ := AZ (geS hg HB.out); clear HB; have HB := n0_; have BK231 := n1_; have GW231 := n2_; have GE231 := n3_; clear n0_ n1_ n2_ n3_; clear hb hbox hg) | ((with_reducible refine gate_dst (N := 3) rfl ?_); refine box_event ?hg (N := 3) ?hd (cs := #[.string a1_0, .int .i64 a1_1, .slice A1_2 l1_2.length c1_2]) (t := 45) ?hr ?_; (case hd => rfl); (case hg => rfl); (case hr => first | (go_simp; done) | (go_simp; rfl)); intro gb232 hg w6 hbox hb; have n0_ := blkA BK231 hb; have n1_ := AZ (below_step (bS HB.out) hb); have n2_ := AZ (hbox); have n3_ := AZ (geS hg HB.out); have n4_ := AZ (geS hg HB.out); have n5_ := AZ ((by rw [hg]; exact Nat.ne_of_lt (blkL BK231.out) : gb231 ≠ gb232)); have n6_ := AZ ((by rw [hg]; exact Nat.ne_of_gt (blkL BK231.out) : gb232 ≠ gb231)); clear BK231; clear HB; have BK231 := n0_; have HB := n1_; have BK232 := n2_; have GW232 := n3_; have GE232 := n4_; have NB231_232 := n5_; have NB232_231 := n6_; clear n0_ n1_ n2_ n3_ n4_ n5_ n6_; clear hb hbox hg; have hnb7 := NB231_232.out; have hnc7 := NB232_231.out; have hcz8_0 : w6.cell? ⟨gb231, 0, none⟩ = some (.string a0_0) := (blk_cell BK231.out 0).trans rfl; have hcz8_1 : w6.cell? ⟨gb231, 1, none⟩ = some (.int .i64 a0_1) := (blk_cell BK231.out 1).trans rfl; have hcz8_2 : w6.cell? ⟨gb231, 2, none⟩ = some (.slice A0_2 l0_2.length c0_2) := (blk_cell BK231.out 2).trans rfl; have hfz8_0 := blk_frozen BK231.out 0; have hfz8_1 := blk_frozen BK231.out 1; have hfz8_2 := blk_frozen BK231.out 2) | ((with_reducible refine gate_callee (f := 22) rfl ?_); refine gL (some 19) Try.func22 #[.agg #[.string a0_0, .int .i64 a0_1, .slice A0_2 l0_2.length c0_2], .int .i64 1048576] ?_; (with_reducible refine (laws_szReport.calls k a0_0 a0_1 _ _ l0_2 1048576 t233 _ ?side1 ?side2 A3.out).mono ?_); (case side1 => exact cS (Kd.C_below HR0_2.out HB.out)); (case side2 => exact HC0_2.out); rintro e w9 ⟨rfl, hb⟩; refine ⟨_, rfl, ?_⟩; have n0_ := blkA BK231 hb; have n1_ := blkA BK232 hb; have n2_ := AZ (below_step (bS HB.out) hb); clear BK231; clear BK232; clear HB; have BK231 := n0_; have BK232 := n1_; have HB := n2_; clear n0_ n1_ n2_; (try clear hb)))
  go_ret
  exact ⟨by first | rfl | (simp; done) | (simp [*]; done), bS HB.out⟩
 ·rw [if_neg c4] at H
  have c4b0 : decide (t233 < 0) = false := decide_eq_false c4
  clear c4
  replace H := Option.bind_eq_some_iff.mp H
  obtain ⟨t234, A100, H⟩ := H
  replace H : (if t234 < 0 then (some true) else ((laws_toReport.f k a0_0 a0_1 l0_2).bind fun bt235 => ((laws_toReport.f k a1_0 a1_1 l1_2).bind fun bt240 => ((spec_DifferRows.f k bt235.1 bt235.2.1 bt235.2.2 bt240.1 bt240.2.1 bt240.2.2).bind fun bt245 => ((laws_toReport.f k a0_0 a0_1 l0_2).bind fun bt249 => ((laws_toReport.f k a1_0 a1_1 l1_2).bind fun bt255 => ((impl_DifferRows.f k bt249.1 bt249.2.1 bt249.2.2 bt255.1 bt255.2.1 bt255.2.2).bind fun bt261 => ((laws_eqStringS.f k bt261.1 bt245.1).bind fun t265 => (if t265 = true then (laws_FnExactDifferRows.j0 k bt245.1 bt245.2 bt261.1 bt261.2 (bt261.2 != bt245.2) a0_0 a0_1 l0_2 a1_0 a1_1 l1_2 bt249.1 bt249.2.1 bt249.2.2 bt255.1 bt255.2.1 bt255.2.2) else (laws_FnExactDifferRows.j0 k bt245.1 bt245.2 bt261.1 bt261.2 true a0_0 a0_1 l0_2 a1_0 a1_1 l1_2 bt249.1 bt249.2.1 bt249.2.2 bt255.1 bt255.2.1 bt255.2.2)))))))))) = some r := H
  have A10 := Aside0.mk A100
  clear A100
  by_cases c11 : t234 < 0
  ·rw [if_pos c11] at H
   have c11b0 : decide (t234 < 0) = true := decide_eq_true c11
   clear c11
   obtain rfl := Option.some.inj H
   go_enter Try.func5, Try.ntmps5
   go_wp2_with (first | ((with_reducible refine gate_dst (N := 2) rfl ?_); refine box_event ?hg (N := 2) ?hd (cs := #[.string a0_0, .int .i64 a0_1, .slice A0_2 l0_2.length c0_2]) (t := 45) ?hr ?_; (case hd => rfl); (case hg => rfl); (case hr => first | (go_simp; done) | (go_simp; rfl)); intro gb231 hg w12 hbox hb; have n0_ := AZ (below_step (bS HB.out) hb); have n1_ := AZ (hbox); have n2_ := AZ (geS hg HB.out); have n3_ := AZ (geS hg HB.out); clear HB; have HB := n0_; have BK231 := n1_; have GW231 := n2_; have GE231 := n3_; clear n0_ n1_ n2_ n3_; clear hb hbox hg) | ((with_reducible refine gate_dst (N := 3) rfl ?_); refine box_event ?hg (N := 3) ?hd (cs := #[.string a1_0, .int .i64 a1_1, .slice A1_2 l1_2.length c1_2]) (t := 45) ?hr ?_; (case hd => rfl); (case hg => rfl); (case hr => first | (go_simp; done) | (go_simp; rfl)); intro gb232 hg w13 hbox hb; have n0_ := blkA BK231 hb; have n1_ := AZ (below_step (bS HB.out) hb); have n2_ := AZ (hbox); have n3_ := AZ (geS hg HB.out); have n4_ := AZ (geS hg HB.out); have n5_ := AZ ((by rw [hg]; exact Nat.ne_of_lt (blkL BK231.out) : gb231 ≠ gb232)); have n6_ := AZ ((by rw [hg]; exact Nat.ne_of_gt (blkL BK231.out) : gb232 ≠ gb231)); clear BK231; clear HB; have BK231 := n0_; have HB := n1_; have BK232 := n2_; have GW232 := n3_; have GE232 := n4_; have NB231_232 := n5_; have NB232_231 := n6_; clear n0_ n1_ n2_ n3_ n4_ n5_ n6_; clear hb hbox hg; have hnb14 := NB231_232.out; have hnc14 := NB232_231.out; have hcz15_0 : w13.cell? ⟨gb231, 0, none⟩ = some (.string a0_0) := (blk_cell BK231.out 0).trans rfl; have hcz15_1 : w13.cell? ⟨gb231, 1, none⟩ = some (.int .i64 a0_1) := (blk_cell BK231.out 1).trans rfl; have hcz15_2 : w13.cell? ⟨gb231, 2, none⟩ = some (.slice A0_2 l0_2.length c0_2) := (blk_cell BK231.out 2).trans rfl; have hfz15_0 := blk_frozen BK231.out 0; have hfz15_1 := blk_frozen BK231.out 1; have hfz15_2 := blk_frozen BK231.out 2) | ((with_reducible refine gate_callee (f := 22) rfl ?_); refine gL (some 19) Try.func22 #[.agg #[.string a0_0, .int .i64 a0_1, .slice A0_2 l0_2.length c0_2], .int .i64 1048576] ?_; (with_reducible refine (laws_szReport.calls k a0_0 a0_1 _ _ l0_2 1048576 t233 _ ?side1 ?side2 A3.out).mono ?_); (case side1 => exact cS (Kd.C_below HR0_2.out HB.out)); (case side2 => exact HC0_2.out); rintro e w16 ⟨rfl, hb⟩; refine ⟨_, rfl, ?_⟩; have n0_ := blkA BK231 hb; have n1_ := blkA BK232 hb; have n2_ := AZ (below_step (bS HB.out) hb); clear BK231; clear BK232; clear HB; have BK231 := n0_; have BK232 := n1_; have HB := n2_; clear n0_ n1_ n2_; (try clear hb); have hcz17_0 : w16.cell? ⟨gb232, 0, none⟩ = some (.string a1_0) := (blk_cell BK232.out 0).trans rfl; have hcz17_1 : w16.cell? ⟨gb232, 1, none⟩ = some (.int .i64 a1_1) := (blk_cell BK232.out 1).trans rfl; have hcz17_2 : w16.cell? ⟨gb232, 2, none⟩ = some (.slice A1_2 l1_2.length c1_2) := (blk_cell BK232.out 2).trans rfl; have hfz17_0 := blk_frozen BK232.out 0; have hfz17_1 := blk_frozen BK232.out 1; have hfz17_2 := blk_frozen BK232.out 2) | ((with_reducible refine gate_callee (f := 22) rfl ?_); refine gL (some 24) Try.func22 #[.agg #[.string a1_0, .int .i64 a1_1, .slice A1_2 l1_2.length c1_2], .int .i64 t233] ?_; (with_reducible refine (laws_szReport.calls k a1_0 a1_1 _ _ l1_2 t233 t234 _ ?side1 ?side2 A10.out).mono ?_); (case side1 => exact cS (Kd.C_below HR1_2.out HB.out)); (case side2 => exact HC1_2.out); rintro e w18 ⟨rfl, hb⟩; refine ⟨_, rfl, ?_⟩; have n0_ := blkA BK231 hb; have n1_ := blkA BK232 hb; have n2_ := AZ (below_step (bS HB.out) hb); clear BK231; clear BK232; clear HB; have BK231 := n0_; have BK232 := n1_; have HB := n2_; clear n0_ n1_ n2_; (try clear hb)))
   go_ret
   exact ⟨by first | rfl | (simp; done) | (simp [*]; done), bS HB.out⟩
  ·rw [if_neg c11] at H
   have c11b0 : decide (t234 < 0) = false := decide_eq_false c11
   clear c11
   replace H := Option.bind_eq_some_iff.mp H
   obtain ⟨⟨t235, t236, t237⟩, A190, H⟩ := H
   replace H : ((laws_toReport.f k a1_0 a1_1 l1_2).bind fun bt240 => ((spec_DifferRows.f k t235 t236 t237 bt240.1 bt240.2.1 bt240.2.2).bind fun bt245 => ((laws_toReport.f k a0_0 a0_1 l0_2).bind fun bt249 => ((laws_toReport.f k a1_0 a1_1 l1_2).bind fun bt255 => ((impl_DifferRows.f k bt249.1 bt249.2.1 bt249.2.2 bt255.1 bt255.2.1 bt255.2.2).bind fun bt261 => ((laws_eqStringS.f k bt261.1 bt245.1).bind fun t265 => (if t265 = true then (laws_FnExactDifferRows.j0 k bt245.1 bt245.2 bt261.1 bt261.2 (bt261.2 != bt245.2) a0_0 a0_1 l0_2 a1_0 a1_1 l1_2 bt249.1 bt249.2.1 bt249.2.2 bt255.1 bt255.2.1 bt255.2.2) else (laws_FnExactDifferRows.j0 k bt245.1 bt245.2 bt261.1 bt261.2 true a0_0 a0_1 l0_2 a1_0 a1_1 l1_2 bt249.1 bt249.2.1 bt249.2.2 bt255.1 bt255.2.1 bt255.2.2)))))))) = some r := H
   have A19 := Aside0.mk A190
   clear A190
   replace H := Option.bind_eq_some_iff.mp H
   obtain ⟨⟨t240, t241, t242⟩, A200, H⟩ := H
   replace H : ((spec_DifferRows.f k t235 t236 t237 t240 t241 t242).bind fun bt245 => ((laws_toReport.f k a0_0 a0_1 l0_2).bind fun bt249 => ((laws_toReport.f k a1_0 a1_1 l1_2).bind fun bt255 => ((impl_DifferRows.f k bt249.1 bt249.2.1 bt249.2.2 bt255.1 bt255.2.1 bt255.2.2).bind fun bt261 => ((laws_eqStringS.f k bt261.1 bt245.1).bind fun t265 => (if t265 = true then (laws_FnExactDifferRows.j0 k bt245.1 bt245.2 bt261.1 bt261.2 (bt261.2 != bt245.2) a0_0 a0_1 l0_2 a1_0 a1_1 l1_2 bt249.1 bt249.2.1 bt249.2.2 bt255.1 bt255.2.1 bt255.2.2) else (laws_FnExactDifferRows.j0 k bt245.1 bt245.2 bt261.1 bt261.2 true a0_0 a0_1 l0_2 a1_0 a1_1 l1_2 bt249.1 bt249.2.1 bt249.2.2 bt255.1 bt255.2.1 bt255.2.2))))))) = some r := H
   have A20 := Aside0.mk A200
   clear A200
   replace H := Option.bind_eq_some_iff.mp H
   obtain ⟨⟨t245, t248⟩, A210, H⟩ := H
   replace H : ((laws_toReport.f k a0_0 a0_1 l0_2).bind fun bt249 => ((laws_toReport.f k a1_0 a1_1 l1_2).bind fun bt255 => ((impl_DifferRows.f k bt249.1 bt249.2.1 bt249.2.2 bt255.1 bt255.2.1 bt255.2.2).bind fun bt261 => ((laws_eqStringS.f k bt261.1 t245).bind fun t265 => (if t265 = true then (laws_FnExactDifferRows.j0 k t245 t248 bt261.1 bt261.2 (bt261.2 != t248) a0_0 a0_1 l0_2 a1_0 a1_1 l1_2 bt249.1 bt249.2.1 bt249.2.2 bt255.1 bt255.2.1 bt255.2.2) else (laws_FnExactDifferRows.j0 k t245 t248 bt261.1 bt261.2 true a0_0 a0_1 l0_2 a1_0 a1_1 l1_2 bt249.1 bt249.2.1 bt249.2.2 bt255.1 bt255.2.1 bt255.2.2)))))) = some r := H
   have A21 := Aside0.mk A210
   clear A210
   replace H := Option.bind_eq_some_iff.mp H
   obtain ⟨⟨t249, t250, t251⟩, A220, H⟩ := H
   replace H : ((laws_toReport.f k a1_0 a1_1 l1_2).bind fun bt255 => ((impl_DifferRows.f k t249 t250 t251 bt255.1 bt255.2.1 bt255.2.2).bind fun bt261 => ((laws_eqStringS.f k bt261.1 t245).bind fun t265 => (if t265 = true then (laws_FnExactDifferRows.j0 k t245 t248 bt261.1 bt261.2 (bt261.2 != t248) a0_0 a0_1 l0_2 a1_0 a1_1 l1_2 t249 t250 t251 bt255.1 bt255.2.1 bt255.2.2) else (laws_FnExactDifferRows.j0 k t245 t248 bt261.1 bt261.2 true a0_0 a0_1 l0_2 a1_0 a1_1 l1_2 t249 t250 t251 bt255.1 bt255.2.1 bt255.2.2))))) = some r := H
   have A22 := Aside0.mk A220
   clear A220
   replace H := Option.bind_eq_some_iff.mp H
   obtain ⟨⟨t255, t256, t257⟩, A230, H⟩ := H
   replace H : ((impl_DifferRows.f k t249 t250 t251 t255 t256 t257).bind fun bt261 => ((laws_eqStringS.f k bt261.1 t245).bind fun t265 => (if t265 = true then (laws_FnExactDifferRows.j0 k t245 t248 bt261.1 bt261.2 (bt261.2 != t248) a0_0 a0_1 l0_2 a1_0 a1_1 l1_2 t249 t250 t251 t255 t256 t257) else (laws_FnExactDifferRows.j0 k t245 t248 bt261.1 bt261.2 true a0_0 a0_1 l0_2 a1_0 a1_1 l1_2 t249 t250 t251 t255 t256 t257)))) = some r := H
   have A23 := Aside0.mk A230
   clear A230
   replace H := Option.bind_eq_some_iff.mp H
   obtain ⟨⟨t261, t264⟩, A240, H⟩ := H
   replace H : ((laws_eqStringS.f k t261 t245).bind fun t265 => (if t265 = true then (laws_FnExactDifferRows.j0 k t245 t248 t261 t264 (t264 != t248) a0_0 a0_1 l0_2 a1_0 a1_1 l1_2 t249 t250 t251 t255 t256 t257) else (laws_FnExactDifferRows.j0 k t245 t248 t261 t264 true a0_0 a0_1 l0_2 a1_0 a1_1 l1_2 t249 t250 t251 t255 t256 t257))) = some r := H
   have A24 := Aside0.mk A240
   clear A240
   have HC25 := Aside0.mk H
   clear H
   go_enter Try.func5, Try.ntmps5
   try go_wp2_with (first | ((with_reducible refine gate_dst (N := 2) rfl ?_); refine box_event ?hg (N := 2) ?hd (cs := #[.string a0_0, .int .i64 a0_1, .slice A0_2 l0_2.length c0_2]) (t := 45) ?hr ?_; (case hd => rfl); (case hg => rfl); (case hr => first | (go_simp; done) | (go_simp; rfl)); intro gb231 hg w26 hbox hb; have n0_ := AZ (below_step (bS HB.out) hb); have n1_ := AZ (hbox); have n2_ := AZ (geS hg HB.out); have n3_ := AZ (geS hg HB.out); clear HB; have HB := n0_; have BK231 := n1_; have GW231 := n2_; have GE231 := n3_; clear n0_ n1_ n2_ n3_; clear hb hbox hg) | ((with_reducible refine gate_dst (N := 3) rfl ?_); refine box_event ?hg (N := 3) ?hd (cs := #[.string a1_0, .int .i64 a1_1, .slice A1_2 l1_2.length c1_2]) (t := 45) ?hr ?_; (case hd => rfl); (case hg => rfl); (case hr => first | (go_simp; done) | (go_simp; rfl)); intro gb232 hg w27 hbox hb; have n0_ := blkA BK231 hb; have n1_ := AZ (below_step (bS HB.out) hb); have n2_ := AZ (hbox); have n3_ := AZ (geS hg HB.out); have n4_ := AZ (geS hg HB.out); have n5_ := AZ ((by rw [hg]; exact Nat.ne_of_lt (blkL BK231.out) : gb231 ≠ gb232)); have n6_ := AZ ((by rw [hg]; exact Nat.ne_of_gt (blkL BK231.out) : gb232 ≠ gb231)); clear BK231; clear HB; have BK231 := n0_; have HB := n1_; have BK232 := n2_; have GW232 := n3_; have GE232 := n4_; have NB231_232 := n5_; have NB232_231 := n6_; clear n0_ n1_ n2_ n3_ n4_ n5_ n6_; clear hb hbox hg; have hnb28 := NB231_232.out; have hnc28 := NB232_231.out; have hcz29_0 : w27.cell? ⟨gb231, 0, none⟩ = some (.string a0_0) := (blk_cell BK231.out 0).trans rfl; have hcz29_1 : w27.cell? ⟨gb231, 1, none⟩ = some (.int .i64 a0_1) := (blk_cell BK231.out 1).trans rfl; have hcz29_2 : w27.cell? ⟨gb231, 2, none⟩ = some (.slice A0_2 l0_2.length c0_2) := (blk_cell BK231.out 2).trans rfl; have hfz29_0 := blk_frozen BK231.out 0; have hfz29_1 := blk_frozen BK231.out 1; have hfz29_2 := blk_frozen BK231.out 2) | ((with_reducible refine gate_callee (f := 22) rfl ?_); refine gL (some 19) Try.func22 #[.agg #[.string a0_0, .int .i64 a0_1, .slice A0_2 l0_2.length c0_2], .int .i64 1048576] ?_; (with_reducible refine (laws_szReport.calls k a0_0 a0_1 _ _ l0_2 1048576 t233 _ ?side1 ?side2 A3.out).mono ?_); (case side1 => exact cS (Kd.C_below HR0_2.out HB.out)); (case side2 => exact HC0_2.out); rintro e w30 ⟨rfl, hb⟩; refine ⟨_, rfl, ?_⟩; have n0_ := blkA BK231 hb; have n1_ := blkA BK232 hb; have n2_ := AZ (below_step (bS HB.out) hb); clear BK231; clear BK232; clear HB; have BK231 := n0_; have BK232 := n1_; have HB := n2_; clear n0_ n1_ n2_; (try clear hb); have hcz31_0 : w30.cell? ⟨gb232, 0, none⟩ = some (.string a1_0) := (blk_cell BK232.out 0).trans rfl; have hcz31_1 : w30.cell? ⟨gb232, 1, none⟩ = some (.int .i64 a1_1) := (blk_cell BK232.out 1).trans rfl; have hcz31_2 : w30.cell? ⟨gb232, 2, none⟩ = some (.slice A1_2 l1_2.length c1_2) := (blk_cell BK232.out 2).trans rfl; have hfz31_0 := blk_frozen BK232.out 0; have hfz31_1 := blk_frozen BK232.out 1; have hfz31_2 := blk_frozen BK232.out 2) | ((with_reducible refine gate_callee (f := 22) rfl ?_); refine gL (some 24) Try.func22 #[.agg #[.string a1_0, .int .i64 a1_1, .slice A1_2 l1_2.length c1_2], .int .i64 t233] ?_; (with_reducible refine (laws_szReport.calls k a1_0 a1_1 _ _ l1_2 t233 t234 _ ?side1 ?side2 A10.out).mono ?_); (case side1 => exact cS (Kd.C_below HR1_2.out HB.out)); (case side2 => exact HC1_2.out); rintro e w32 ⟨rfl, hb⟩; refine ⟨_, rfl, ?_⟩; have n0_ := blkA BK231 hb; have n1_ := blkA BK232 hb; have n2_ := AZ (below_step (bS HB.out) hb); clear BK231; clear BK232; clear HB; have BK231 := n0_; have BK232 := n1_; have HB := n2_; clear n0_ n1_ n2_; (try clear hb)))
   have n0_ := AZ (blk_drew BK231.out)
   have n1_ := AZ (blk_drew BK232.out)
   have n2_ := AZ (below_drew1 HB.out)
   clear BK231
   clear BK232
   clear HB
   have BK231 := n0_
   have BK232 := n1_
   have HB := n2_
   clear n0_ n1_ n2_
   refine start_ (n := 10) (S := fun w' => w'.cell? ⟨gb231, 0, none⟩ = some (.string a0_0) ∧ w'.cell? ⟨gb231, 1, none⟩ = some (.int .i64 a0_1) ∧ w'.cell? ⟨gb231, 2, none⟩ = some (.slice A0_2 l0_2.length c0_2) ∧ w'.cell? ⟨gb232, 0, none⟩ = some (.string a1_0) ∧ w'.cell? ⟨gb232, 1, none⟩ = some (.int .i64 a1_1) ∧ w'.cell? ⟨gb232, 2, none⟩ = some (.slice A1_2 l1_2.length c1_2)) (ds := []) #[false, false, false, false, false, false, false, false, false, false] (by kernel_rfl) rfl rfl ⟨(blk_cell BK231.out 0).trans rfl, (blk_cell BK231.out 1).trans rfl, (blk_cell BK231.out 2).trans rfl, (blk_cell BK232.out 0).trans rfl, (blk_cell BK232.out 1).trans rfl, (blk_cell BK232.out 2).trans rfl⟩ (fun hHeld => ?_); refine with_tabW laws_FnExactDifferRows.tab8 laws_FnExactDifferRows.bits8 (fun HT_ HW_ => ?_)
   generalize w32.drew = w33 at BK231 BK232 HB hHeld ⊢
   refine take_ (i := 0) (N := some 28) (v := ?_) (a' := ?_) #[true, false, false, false, false, false, false, false, false, false] rfl rfl (take_ofW HT_.out HW_.out (by kernel_rfl)) (fun _ _ _ h => h) (Or.inl ⟨by rfl, ?_⟩) hHeld ?_ ?_
   rotate_left
   ·rintro w' ⟨s0, s1, s2, s3, s4, s5⟩
    go_simp
    with_reducible rfl
   rotate_left
   ·simp only [Act.put, List.setIfInBounds_toArray, List.set_cons_zero, List.set_cons_succ, i64_w, i32_w]
    rfl
   refine take_ (i := 2) (N := some 30) (v := ?_) (a' := ?_) #[true, false, true, false, false, false, false, false, false, false] rfl rfl (take_ofW HT_.out HW_.out (by kernel_rfl)) (fun _ _ _ h => h) (Or.inl ⟨by rfl, ?_⟩) hHeld ?_ ?_
   rotate_left
   ·rintro w' ⟨s0, s1, s2, s3, s4, s5⟩
    go_simp
    with_reducible rfl
   rotate_left
   ·simp only [Act.put, List.setIfInBounds_toArray, List.set_cons_zero, List.set_cons_succ, i64_w, i32_w]
    rfl
   refine one_ (i := 1) (N := some 29) #[true, true, true, false, false, false, false, false, false, false] rfl rfl (one_of HT_.out (by kernel_rfl)) (by decide) (fun K hK => ?_)
   refine goes_ Try.func24 (by kernel_rfl) rfl #[.agg #[.string a0_0, .int .i64 a0_1, .slice A0_2 l0_2.length c0_2]] (by rfl) rfl rfl (by (try simp only [List.map_toArray, List.map_cons, List.map_nil]); first | done | rfl | (simp only [List.length_drop, List.length_take]; rfl)) ?_
   with_reducible refine (laws_toReport.calls k a0_0 a0_1 _ _ l0_2 t235 t236 t237 _ ?side1 ?side2 A19.out).mono ?_
   (case side1 => exact cS (Kd.C_below HR0_2.out HB.out))
   (case side2 => exact HC0_2.out)
   rintro e w34 ⟨v238, rfl, ho0, hb⟩
   refine ⟨_, rfl, ?_⟩
   have n0_ := AZ (Kd.S_lower ho0 (below_size (bS HB.out)))
   have n1_ := blkA BK231 hb
   have n2_ := blkA BK232 hb
   have n3_ := AZ (below_step (bS HB.out) hb)
   clear BK231
   clear BK232
   clear HB
   have HO239 := n0_
   have BK231 := n1_
   have BK232 := n2_
   have HB := n3_
   clear n0_ n1_ n2_ n3_
   (try clear hb)
   (try clear hb2)
   (try clear hk)
   (try clear hi)
   (try clear ho0)
   refine hK.out _ _ ⟨(blk_cell BK231.out 0).trans rfl, (blk_cell BK231.out 1).trans rfl, (blk_cell BK231.out 2).trans rfl, (blk_cell BK232.out 0).trans rfl, (blk_cell BK232.out 1).trans rfl, (blk_cell BK232.out 2).trans rfl⟩ (fun hHeld => ?_)
   clear hK K
   refine norm_ (a' := ?_) ?_ ?_
   rotate_left
   ·show Act.put _ (some 29) _ = _
    simp only [Act.put, List.setIfInBounds_toArray, List.set_cons_zero, List.set_cons_succ, i64_w, i32_w]
    rfl
   refine one_ (i := 3) (N := some 31) #[true, true, true, true, false, false, false, false, false, false] rfl rfl (one_of HT_.out (by kernel_rfl)) (by decide) (fun K hK => ?_)
   refine goes_ Try.func24 (by kernel_rfl) rfl #[.agg #[.string a1_0, .int .i64 a1_1, .slice A1_2 l1_2.length c1_2]] (by rfl) rfl rfl (by (try simp only [List.map_toArray, List.map_cons, List.map_nil]); first | done | rfl | (simp only [List.length_drop, List.length_take]; rfl)) ?_
   with_reducible refine (laws_toReport.calls k a1_0 a1_1 _ _ l1_2 t240 t241 t242 _ ?side1 ?side2 A20.out).mono ?_
   (case side1 => exact cS (Kd.C_below HR1_2.out HB.out))
   (case side2 => exact HC1_2.out)
   rintro e w35 ⟨v243, rfl, ho0, hb⟩
   refine ⟨_, rfl, ?_⟩
   obtain ⟨N36, eN36⟩ := cutN hb
   have n0_ := AZ (Kd.S_elder' ((S_ltN (sS HO239.out) eN36)) (Kd.S_base ho0) hb)
   have n1_ := AZ (Kd.S_lower (Kd.S_new' (S_geN ho0 eN36) (Kd.S_lt (sS HO239.out))) (below_size (bS HB.out)))
   have n2_ := blkA BK231 hb
   have n3_ := blkA BK232 hb
   have n4_ := AZ (below_step (bS HB.out) hb)
   clear HO239
   clear BK231
   clear BK232
   clear HB
   have HO239 := n0_
   have HO244 := n1_
   have BK231 := n2_
   have BK232 := n3_
   have HB := n4_
   clear n0_ n1_ n2_ n3_ n4_
   (try clear hb)
   (try clear hb2)
   (try clear hk)
   (try clear hi)
   (try clear ho0)
   obtain ⟨Ao37, co37, eo37⟩ := Kd.S_slice HO239.out
   (first | subst eo37 | (injection eo37 with f1_ f2_ f3_; have f4_ := f1_.symm; have f5_ := f3_.symm; clear f1_ f2_ f3_; subst f4_; subst f5_))
   obtain ⟨Ao38, co38, eo38⟩ := Kd.S_slice HO244.out
   (first | subst eo38 | (injection eo38 with f1_ f2_ f3_; have f4_ := f1_.symm; have f5_ := f3_.symm; clear f1_ f2_ f3_; subst f4_; subst f5_))
   refine hK.out _ _ ⟨(blk_cell BK231.out 0).trans rfl, (blk_cell BK231.out 1).trans rfl, (blk_cell BK231.out 2).trans rfl, (blk_cell BK232.out 0).trans rfl, (blk_cell BK232.out 1).trans rfl, (blk_cell BK232.out 2).trans rfl⟩ (fun hHeld => ?_)
   clear hK K
   refine norm_ (a' := ?_) ?_ ?_
   rotate_left
   ·show Act.put _ (some 31) _ = _
    simp only [Act.put, List.setIfInBounds_toArray, List.set_cons_zero, List.set_cons_succ, i64_w, i32_w]
    rfl
   refine one_ (i := 4) (N := some 32) #[true, true, true, true, true, false, false, false, false, false] rfl rfl (one_of HT_.out (by kernel_rfl)) (by decide) (fun K hK => ?_)
   refine goes_ Try.func29 (by kernel_rfl) rfl #[.agg #[.string t235, .int .i64 t236, .slice Ao37 t237.length co37], .agg #[.string t240, .int .i64 t241, .slice Ao38 t242.length co38]] (by rfl) rfl rfl (by (try simp only [List.map_toArray, List.map_cons, List.map_nil]); first | done | rfl | (simp only [List.length_drop, List.length_take]; rfl)) ?_
   with_reducible refine (spec_DifferRows.calls k t235 t236 _ _ t237 t240 t241 _ _ t242 t245 t248 _ ?side1 ?side2 ?side3 ?side4 A21.out).mono ?_
   (case side1 => exact cS (Kd.S_reads' HO239.out).2.2)
   (case side2 => exact (Kd.S_reads' HO239.out).2.1)
   (case side3 => exact cS (Kd.S_reads' HO244.out).2.2)
   (case side4 => exact (Kd.S_reads' HO244.out).2.1)
   rintro e w39 ⟨v246, rfl, ho0, hb⟩
   refine ⟨_, rfl, ?_⟩
   have n0_ := AZ (Kd.S_below (sS HO239.out) hb)
   have n1_ := AZ (Kd.S_below (sS HO244.out) hb)
   have n2_ := AZ (Kd.R_lower ho0 (below_size (bS HB.out)))
   have n3_ := blkA BK231 hb
   have n4_ := blkA BK232 hb
   have n5_ := AZ (below_step (bS HB.out) hb)
   clear HO239
   clear HO244
   clear BK231
   clear BK232
   clear HB
   have HO239 := n0_
   have HO244 := n1_
   have HO247 := n2_
   have BK231 := n3_
   have BK232 := n4_
   have HB := n5_
   clear n0_ n1_ n2_ n3_ n4_ n5_
   (try clear hb)
   (try clear hb2)
   (try clear hk)
   (try clear hi)
   (try clear ho0)
   refine hK.out _ _ ⟨(blk_cell BK231.out 0).trans rfl, (blk_cell BK231.out 1).trans rfl, (blk_cell BK231.out 2).trans rfl, (blk_cell BK232.out 0).trans rfl, (blk_cell BK232.out 1).trans rfl, (blk_cell BK232.out 2).trans rfl⟩ (fun hHeld => ?_)
   clear hK K
   refine norm_ (a' := ?_) ?_ ?_
   rotate_left
   ·show Act.put _ (some 32) _ = _
    simp only [Act.put, List.setIfInBounds_toArray, List.set_cons_zero, List.set_cons_succ, i64_w, i32_w]
    rfl
   refine pure_ (i := 5) (N := some 27) (v := ?_) (a' := ?_) #[true, true, true, true, true, true, false, false, false, false] rfl rfl (any_of HT_.out (by kernel_rfl)) (fun _ _ _ h => h) (Or.inl ⟨by rfl, ?_⟩) ?_ ?_
   rotate_left
   ·intro w'
    go_simp
    with_reducible rfl
   rotate_left
   ·simp only [Act.put, List.setIfInBounds_toArray, List.set_cons_zero, List.set_cons_succ, i64_w, i32_w]
    rfl
   refine pure_ (i := 6) (N := some 33) (v := ?_) (a' := ?_) #[true, true, true, true, true, true, true, false, false, false] rfl rfl (any_of HT_.out (by kernel_rfl)) (fun _ _ _ h => h) (Or.inl ⟨by rfl, ?_⟩) ?_ ?_
   rotate_left
   ·intro w'
    go_simp
    with_reducible rfl
   rotate_left
   ·simp only [Act.put, List.setIfInBounds_toArray, List.set_cons_zero, List.set_cons_succ, i64_w, i32_w]
    rfl
   refine pure_ (i := 7) (N := some 34) (v := ?_) (a' := ?_) #[true, true, true, true, true, true, true, true, false, false] rfl rfl (any_of HT_.out (by kernel_rfl)) (fun _ _ _ h => h) (Or.inl ⟨by rfl, ?_⟩) ?_ ?_
   rotate_left
   ·intro w'
    go_simp
    with_reducible rfl
   rotate_left
   ·simp only [Act.put, List.setIfInBounds_toArray, List.set_cons_zero, List.set_cons_succ, i64_w, i32_w]
    rfl
   refine pure_ (i := 8) (N := some 6) (v := ?_) (a' := ?_) #[true, true, true, true, true, true, true, true, true, false] rfl rfl (any_of HT_.out (by kernel_rfl)) (fun _ _ _ h => h) (Or.inl ⟨by rfl, ?_⟩) ?_ ?_
   rotate_left
   ·intro w'
    go_simp
    with_reducible rfl
   rotate_left
   ·simp only [Act.put, List.setIfInBounds_toArray, List.set_cons_zero, List.set_cons_succ, i64_w, i32_w]
    rfl
   refine pure_ (i := 9) (N := some 7) (v := ?_) (a' := ?_) #[true, true, true, true, true, true, true, true, true, true] rfl rfl (any_of HT_.out (by kernel_rfl)) (fun _ _ _ h => h) (Or.inl ⟨by rfl, ?_⟩) ?_ ?_
   rotate_left
   ·intro w'
    go_simp
    with_reducible rfl
   rotate_left
   ·simp only [Act.put, List.setIfInBounds_toArray, List.set_cons_zero, List.set_cons_succ, i64_w, i32_w]
    rfl
   refine done_ (done_of HT_.out (by kernel_rfl)) ?_
   have hcz40_0 : w39.cell? ⟨gb231, 0, none⟩ = some (.string a0_0) := (blk_cell BK231.out 0).trans rfl
   have hcz40_1 : w39.cell? ⟨gb231, 1, none⟩ = some (.int .i64 a0_1) := (blk_cell BK231.out 1).trans rfl
   have hcz40_2 : w39.cell? ⟨gb231, 2, none⟩ = some (.slice A0_2 l0_2.length c0_2) := (blk_cell BK231.out 2).trans rfl
   have hfz40_0 := blk_frozen BK231.out 0
   have hfz40_1 := blk_frozen BK231.out 1
   have hfz40_2 := blk_frozen BK231.out 2
   go_upto_region 12 with (first | ((with_reducible refine gate_callee (f := 24) rfl ?_); refine gL (some 36) Try.func24 #[.agg #[.string a0_0, .int .i64 a0_1, .slice A0_2 l0_2.length c0_2]] ?_; (with_reducible refine (laws_toReport.calls k a0_0 a0_1 _ _ l0_2 t249 t250 t251 _ ?side1 ?side2 A22.out).mono ?_); (case side1 => exact cS (Kd.C_below HR0_2.out HB.out)); (case side2 => exact HC0_2.out); rintro e w41 ⟨v252, rfl, ho0, hb⟩; refine ⟨_, rfl, ?_⟩; obtain ⟨N42, eN42⟩ := cutN hb; have n0_ := AZ (Kd.S_elder' ((S_ltN (sS HO239.out) eN42)) (Kd.S_base ho0) hb); have n1_ := AZ (Kd.S_elder' ((S_ltN (sS HO244.out) eN42)) (Kd.S_base ho0) hb); have n2_ := AZ (Kd.R_below (rS HO247.out) hb); have n3_ := AZ (Kd.S_lower (Kd.S_new' (Kd.S_new' (S_geN ho0 eN42) (Kd.S_lt (sS HO239.out))) (Kd.S_lt (sS HO244.out))) (below_size (bS HB.out))); have n4_ := blkA BK231 hb; have n5_ := blkA BK232 hb; have n6_ := AZ (below_step (bS HB.out) hb); clear HO239; clear HO244; clear HO247; clear BK231; clear BK232; clear HB; have HO239 := n0_; have HO244 := n1_; have HO247 := n2_; have HO253 := n3_; have BK231 := n4_; have BK232 := n5_; have HB := n6_; clear n0_ n1_ n2_ n3_ n4_ n5_ n6_; (try clear hb ho0)) | ((with_reducible refine gate_dst (N := 8) rfl ?_); refine box_event ?hg (N := 8) ?hd (cs := #[.string (⟨#[]⟩ : ByteArray), .int .i64 0, .slice none 0 0]) (t := 49) ?hr ?_; (case hd => rfl); (case hg => rfl); (case hr => first | (go_simp; done) | (go_simp; rfl)); intro gb254 hg w43 hbox hb; have n0_ := AZ (Kd.S_below (sS HO239.out) hb); have n1_ := AZ (Kd.S_below (sS HO244.out) hb); have n2_ := AZ (Kd.R_below (rS HO247.out) hb); have n3_ := AZ (Kd.S_below (sS HO253.out) hb); have n4_ := blkA BK231 hb; have n5_ := blkA BK232 hb; have n6_ := AZ (below_step (bS HB.out) hb); have n7_ := AZ (hbox); have n8_ := AZ (geS hg HB.out); have n9_ := AZ (geS hg HB.out); have n10_ := AZ ((by rw [hg]; exact Nat.ne_of_lt (blkL BK231.out) : gb231 ≠ gb254)); have n11_ := AZ ((by rw [hg]; exact Nat.ne_of_gt (blkL BK231.out) : gb254 ≠ gb231)); have n12_ := AZ ((by rw [hg]; exact Nat.ne_of_lt (blkL BK232.out) : gb232 ≠ gb254)); have n13_ := AZ ((by rw [hg]; exact Nat.ne_of_gt (blkL BK232.out) : gb254 ≠ gb232)); clear HO239; clear HO244; clear HO247; clear HO253; clear BK231; clear BK232; clear HB; have HO239 := n0_; have HO244 := n1_; have HO247 := n2_; have HO253 := n3_; have BK231 := n4_; have BK232 := n5_; have HB := n6_; have BK254 := n7_; have GW254 := n8_; have GE254 := n9_; have NB231_254 := n10_; have NB254_231 := n11_; have NB232_254 := n12_; have NB254_232 := n13_; clear n0_ n1_ n2_ n3_ n4_ n5_ n6_ n7_ n8_ n9_ n10_ n11_ n12_ n13_; clear hb hbox hg; have hnb44 := NB254_231.out; have hnc44 := NB231_254.out; have hnb45 := NB254_232.out; have hnc45 := NB232_254.out; have hcz46_0 : w43.cell? ⟨gb254, 0, none⟩ = some (.string (⟨#[]⟩ : ByteArray)) := (blk_cell BK254.out 0).trans rfl; have hcz46_1 : w43.cell? ⟨gb254, 1, none⟩ = some (.int .i64 0) := (blk_cell BK254.out 1).trans rfl; have hcz46_2 : w43.cell? ⟨gb254, 2, none⟩ = some (.slice none 0 0) := (blk_cell BK254.out 2).trans rfl; have hfz46_0 := blk_frozen BK254.out 0; have hfz46_1 := blk_frozen BK254.out 1; have hfz46_2 := blk_frozen BK254.out 2; obtain ⟨Ao47, co47, eo47⟩ := Kd.S_slice HO253.out; subst eo47; have hcz48_0 : w43.cell? ⟨gb232, 0, none⟩ = some (.string a1_0) := (blk_cell BK232.out 0).trans rfl; have hcz48_1 : w43.cell? ⟨gb232, 1, none⟩ = some (.int .i64 a1_1) := (blk_cell BK232.out 1).trans rfl; have hcz48_2 : w43.cell? ⟨gb232, 2, none⟩ = some (.slice A1_2 l1_2.length c1_2) := (blk_cell BK232.out 2).trans rfl; have hfz48_0 := blk_frozen BK232.out 0; have hfz48_1 := blk_frozen BK232.out 1; have hfz48_2 := blk_frozen BK232.out 2) | ((with_reducible refine gate_callee (f := 24) rfl ?_); refine gL (some 38) Try.func24 #[.agg #[.string a1_0, .int .i64 a1_1, .slice A1_2 l1_2.length c1_2]] ?_; (with_reducible refine (laws_toReport.calls k a1_0 a1_1 _ _ l1_2 t255 t256 t257 _ ?side1 ?side2 A23.out).mono ?_); (case side1 => exact Kd.C_below HR1_2.out (bS HB.out)); (case side2 => exact HC1_2.out); rintro e w49 ⟨v258, rfl, ho0, hb⟩; refine ⟨_, rfl, ?_⟩; obtain ⟨N50, eN50⟩ := cutN hb; have n0_ := AZ (Kd.S_elder' ((S_ltN (by (with_reducible repeat (first | apply Kd.S_alloc | apply Kd.S_drewN | apply Kd.S_drew)); exact (Kd.S_mono (Kd.S_far (Kd.S_far (Kd.S_far (Kd.S_types HO239.out BK254.out (by decide)) (fun _ hk => hk.2) _) (fun _ hk => hk.2) _) (fun _ hk => hk.2) _) (fun _ h_ => h_.1))) eN50)) (Kd.S_base ho0) hb); have n1_ := AZ (Kd.S_elder' ((S_ltN (by (with_reducible repeat (first | apply Kd.S_alloc | apply Kd.S_drewN | apply Kd.S_drew)); exact (Kd.S_mono (Kd.S_far (Kd.S_far (Kd.S_far (Kd.S_types HO244.out BK254.out (by decide)) (fun _ hk => hk.2) _) (fun _ hk => hk.2) _) (fun _ hk => hk.2) _) (fun _ h_ => h_.1))) eN50)) (Kd.S_base ho0) hb); have n2_ := AZ (Kd.R_below (by (with_reducible repeat (first | apply Kd.R_alloc | apply Kd.R_drewN | apply Kd.R_drew)); exact (Kd.R_mono (Kd.R_far (Kd.R_far (Kd.R_far (Kd.R_types HO247.out BK254.out (by decide)) (fun _ hk => hk.2) _) (fun _ hk => hk.2) _) (fun _ hk => hk.2) _) (fun _ h_ => h_.1))) hb); have n3_ := AZ (Kd.S_elder' ((S_ltN (by (with_reducible repeat (first | apply Kd.S_alloc | apply Kd.S_drewN | apply Kd.S_drew)); exact (Kd.S_mono (Kd.S_far (Kd.S_far (Kd.S_far (Kd.S_types HO253.out BK254.out (by decide)) (fun _ hk => hk.2) _) (fun _ hk => hk.2) _) (fun _ hk => hk.2) _) (fun _ h_ => h_.1))) eN50)) (Kd.S_base ho0) hb); have n4_ := AZ (Kd.S_lower (Kd.S_new' (Kd.S_new' (Kd.S_new' (S_geN ho0 eN50) (Kd.S_lt (by (with_reducible repeat (first | apply Kd.S_alloc | apply Kd.S_drewN | apply Kd.S_drew)); exact (Kd.S_mono (Kd.S_far (Kd.S_far (Kd.S_far (Kd.S_types HO239.out BK254.out (by decide)) (fun _ hk => hk.2) _) (fun _ hk => hk.2) _) (fun _ hk => hk.2) _) (fun _ h_ => h_.1))))) (Kd.S_lt (by (with_reducible repeat (first | apply Kd.S_alloc | apply Kd.S_drewN | apply Kd.S_drew)); exact (Kd.S_mono (Kd.S_far (Kd.S_far (Kd.S_far (Kd.S_types HO244.out BK254.out (by decide)) (fun _ hk => hk.2) _) (fun _ hk => hk.2) _) (fun _ hk => hk.2) _) (fun _ h_ => h_.1))))) (Kd.S_lt (by (with_reducible repeat (first | apply Kd.S_alloc | apply Kd.S_drewN | apply Kd.S_drew)); exact (Kd.S_mono (Kd.S_far (Kd.S_far (Kd.S_far (Kd.S_types HO253.out BK254.out (by decide)) (fun _ hk => hk.2) _) (fun _ hk => hk.2) _) (fun _ hk => hk.2) _) (fun _ h_ => h_.1))))) (below_size (bS HB.out))); have n5_ := AZ (blk_below (g := gb231) (o := .cells #[.string a0_0, .int .i64 a0_1, .slice A0_2 l0_2.length c0_2] 45 (0, 0)) (by (with_reducible repeat (first | refine blk_drewN ?_ _ | refine blk_drew ?_ | refine blk_alloc ?_ _)); refine blk_far ?_ NB231_254.out _; (with_reducible repeat (first | refine blk_drewN ?_ _ | refine blk_drew ?_ | refine blk_alloc ?_ _)); refine blk_far ?_ NB231_254.out _; (with_reducible repeat (first | refine blk_drewN ?_ _ | refine blk_drew ?_ | refine blk_alloc ?_ _)); refine blk_far ?_ NB231_254.out _; (with_reducible repeat (first | refine blk_drewN ?_ _ | refine blk_drew ?_ | refine blk_alloc ?_ _)); exact BK231.out) hb); have n6_ := AZ (blk_below (g := gb232) (o := .cells #[.string a1_0, .int .i64 a1_1, .slice A1_2 l1_2.length c1_2] 45 (0, 0)) (by (with_reducible repeat (first | refine blk_drewN ?_ _ | refine blk_drew ?_ | refine blk_alloc ?_ _)); refine blk_far ?_ NB232_254.out _; (with_reducible repeat (first | refine blk_drewN ?_ _ | refine blk_drew ?_ | refine blk_alloc ?_ _)); refine blk_far ?_ NB232_254.out _; (with_reducible repeat (first | refine blk_drewN ?_ _ | refine blk_drew ?_ | refine blk_alloc ?_ _)); refine blk_far ?_ NB232_254.out _; (with_reducible repeat (first | refine blk_drewN ?_ _ | refine blk_drew ?_ | refine blk_alloc ?_ _)); exact BK232.out) hb); have n7_ := AZ (blk_below (g := gb254) (o := .cells #[.string t249, .int .i64 t250, .slice Ao47 t251.length co47] 49 (0, 0)) (by (with_reducible repeat (first | refine blk_drewN ?_ _ | refine blk_drew ?_ | refine blk_alloc ?_ _)); refine blk_put (cs := #[.string t249, .int .i64 t250, .slice none 0 0]) ?_ 2 _ rfl; (with_reducible repeat (first | refine blk_drewN ?_ _ | refine blk_drew ?_ | refine blk_alloc ?_ _)); refine blk_put (cs := #[.string t249, .int .i64 0, .slice none 0 0]) ?_ 1 _ rfl; (with_reducible repeat (first | refine blk_drewN ?_ _ | refine blk_drew ?_ | refine blk_alloc ?_ _)); refine blk_put (cs := #[.string (⟨#[]⟩ : ByteArray), .int .i64 0, .slice none 0 0]) ?_ 0 _ rfl; (with_reducible repeat (first | refine blk_drewN ?_ _ | refine blk_drew ?_ | refine blk_alloc ?_ _)); exact BK254.out) hb); have n8_ := AZ (below_step (bS HB.out) hb); clear HO239; clear HO244; clear HO247; clear HO253; clear BK231; clear BK232; clear BK254; clear HB; have HO239 := n0_; have HO244 := n1_; have HO247 := n2_; have HO253 := n3_; have HO259 := n4_; have BK231 := n5_; have BK232 := n6_; have BK254 := n7_; have HB := n8_; clear n0_ n1_ n2_ n3_ n4_ n5_ n6_ n7_ n8_; (try clear hb ho0)) | ((with_reducible refine gate_dst (N := 9) rfl ?_); refine box_event ?hg (N := 9) ?hd (cs := #[.string (⟨#[]⟩ : ByteArray), .int .i64 0, .slice none 0 0]) (t := 49) ?hr ?_; (case hd => rfl); (case hg => rfl); (case hr => first | (go_simp; done) | (go_simp; rfl)); intro gb260 hg w51 hbox hb; have n0_ := AZ (Kd.S_below (sS HO239.out) hb); have n1_ := AZ (Kd.S_below (sS HO244.out) hb); have n2_ := AZ (Kd.R_below (rS HO247.out) hb); have n3_ := AZ (Kd.S_below (sS HO253.out) hb); have n4_ := AZ (Kd.S_below (sS HO259.out) hb); have n5_ := blkA BK231 hb; have n6_ := blkA BK232 hb; have n7_ := blkA BK254 hb; have n8_ := AZ (below_step (bS HB.out) hb); have n9_ := AZ (hbox); have n10_ := AZ (geS hg HB.out); have n11_ := AZ (geS hg HB.out); have n12_ := AZ ((by rw [hg]; exact Nat.ne_of_lt (blkL BK231.out) : gb231 ≠ gb260)); have n13_ := AZ ((by rw [hg]; exact Nat.ne_of_gt (blkL BK231.out) : gb260 ≠ gb231)); have n14_ := AZ ((by rw [hg]; exact Nat.ne_of_lt (blkL BK232.out) : gb232 ≠ gb260)); have n15_ := AZ ((by rw [hg]; exact Nat.ne_of_gt (blkL BK232.out) : gb260 ≠ gb232)); have n16_ := AZ ((by rw [hg]; exact Nat.ne_of_lt (blkL BK254.out) : gb254 ≠ gb260)); have n17_ := AZ ((by rw [hg]; exact Nat.ne_of_gt (blkL BK254.out) : gb260 ≠ gb254)); clear HO239; clear HO244; clear HO247; clear HO253; clear HO259; clear BK231; clear BK232; clear BK254; clear HB; have HO239 := n0_; have HO244 := n1_; have HO247 := n2_; have HO253 := n3_; have HO259 := n4_; have BK231 := n5_; have BK232 := n6_; have BK254 := n7_; have HB := n8_; have BK260 := n9_; have GW260 := n10_; have GE260 := n11_; have NB231_260 := n12_; have NB260_231 := n13_; have NB232_260 := n14_; have NB260_232 := n15_; have NB254_260 := n16_; have NB260_254 := n17_; clear n0_ n1_ n2_ n3_ n4_ n5_ n6_ n7_ n8_ n9_ n10_ n11_ n12_ n13_ n14_ n15_ n16_ n17_; clear hb hbox hg; have hnb52 := NB260_231.out; have hnc52 := NB231_260.out; have hnb53 := NB260_232.out; have hnc53 := NB232_260.out; have hnb54 := NB260_254.out; have hnc54 := NB254_260.out; have hcz55_0 : w51.cell? ⟨gb260, 0, none⟩ = some (.string (⟨#[]⟩ : ByteArray)) := (blk_cell BK260.out 0).trans rfl; have hcz55_1 : w51.cell? ⟨gb260, 1, none⟩ = some (.int .i64 0) := (blk_cell BK260.out 1).trans rfl; have hcz55_2 : w51.cell? ⟨gb260, 2, none⟩ = some (.slice none 0 0) := (blk_cell BK260.out 2).trans rfl; have hfz55_0 := blk_frozen BK260.out 0; have hfz55_1 := blk_frozen BK260.out 1; have hfz55_2 := blk_frozen BK260.out 2; obtain ⟨Ao56, co56, eo56⟩ := Kd.S_slice HO259.out; subst eo56; have hcz57_0 : w51.cell? ⟨gb254, 0, none⟩ = some (.string t249) := (blk_cell BK254.out 0).trans rfl; have hcz57_1 : w51.cell? ⟨gb254, 1, none⟩ = some (.int .i64 t250) := (blk_cell BK254.out 1).trans rfl; have hcz57_2 : w51.cell? ⟨gb254, 2, none⟩ = some (.slice Ao47 t251.length co47) := (blk_cell BK254.out 2).trans rfl; have hfz57_0 := blk_frozen BK254.out 0; have hfz57_1 := blk_frozen BK254.out 1; have hfz57_2 := blk_frozen BK254.out 2) | ((with_reducible refine gate_callee (f := 30) rfl ?_); refine gL (some 42) Try.func30 #[.agg #[.string t249, .int .i64 t250, .slice Ao47 t251.length co47], .agg #[.string t255, .int .i64 t256, .slice Ao56 t257.length co56]] ?_; (with_reducible refine (impl_DifferRows.calls k t249 t250 _ _ t251 t255 t256 _ _ t257 t261 t264 _ ?side1 ?side2 ?side3 ?side4 A24.out).mono ?_); (case side1 => refine (Kd.S_reads' (e := 81) (base := w.heap.size) (ok := fun k_ => (((((True ∧ N42 ≤ k_) ∧ some k_ ≠ (.slice Ao37 t237.length co37 : Value).ownBlock) ∧ some k_ ≠ (.slice Ao38 t242.length co38 : Value).ownBlock) ∧ k_ < N50) ∧ some k_ ≠ (.slice Ao56 t257.length co56 : Value).ownBlock)) (n := t251.length) (c := co47) ?_).2.2; exact (by (with_reducible repeat (first | apply Kd.S_alloc | apply Kd.S_drewN | apply Kd.S_drew)); exact (Kd.S_mono (Kd.S_far (Kd.S_far (Kd.S_far (Kd.S_types HO253.out BK260.out (by decide)) (fun _ hk => hk.2) _) (fun _ hk => hk.2) _) (fun _ hk => hk.2) _) (fun _ h_ => h_.1)))); (case side2 => exact (Kd.S_reads' HO253.out).2.1); (case side3 => refine (Kd.S_reads' (e := 81) (base := w.heap.size) (ok := fun k_ => ((((True ∧ N50 ≤ k_) ∧ some k_ ≠ (.slice Ao37 t237.length co37 : Value).ownBlock) ∧ some k_ ≠ (.slice Ao38 t242.length co38 : Value).ownBlock) ∧ some k_ ≠ (.slice Ao47 t251.length co47 : Value).ownBlock)) (n := t257.length) (c := co56) ?_).2.2; exact (by (with_reducible repeat (first | apply Kd.S_alloc | apply Kd.S_drewN | apply Kd.S_drew)); exact (Kd.S_mono (Kd.S_far (Kd.S_far (Kd.S_far (Kd.S_types HO259.out BK260.out (by decide)) (fun _ hk => hk.2) _) (fun _ hk => hk.2) _) (fun _ hk => hk.2) _) (fun _ h_ => h_.1)))); (case side4 => exact (Kd.S_reads' HO259.out).2.1); rintro e w58 ⟨v262, rfl, ho0, hb⟩; refine ⟨_, rfl, ?_⟩; have n0_ := AZ (Kd.S_below (by (with_reducible repeat (first | apply Kd.S_alloc | apply Kd.S_drewN | apply Kd.S_drew)); exact (Kd.S_mono (Kd.S_far (Kd.S_far (Kd.S_far (Kd.S_types HO239.out BK260.out (by decide)) (fun _ hk => hk.2) _) (fun _ hk => hk.2) _) (fun _ hk => hk.2) _) (fun _ h_ => h_.1))) hb); have n1_ := AZ (Kd.S_below (by (with_reducible repeat (first | apply Kd.S_alloc | apply Kd.S_drewN | apply Kd.S_drew)); exact (Kd.S_mono (Kd.S_far (Kd.S_far (Kd.S_far (Kd.S_types HO244.out BK260.out (by decide)) (fun _ hk => hk.2) _) (fun _ hk => hk.2) _) (fun _ hk => hk.2) _) (fun _ h_ => h_.1))) hb); have n2_ := AZ (Kd.R_elder' (by (with_reducible repeat (first | apply Kd.R_alloc | apply Kd.R_drewN | apply Kd.R_drew)); exact (Kd.R_mono (Kd.R_far (Kd.R_far (Kd.R_far (Kd.R_types HO247.out BK260.out (by decide)) (fun _ hk => hk.2) _) (fun _ hk => hk.2) _) (fun _ hk => hk.2) _) (fun _ h_ => h_.1))) (Kd.R_base ho0) hb); have n3_ := AZ (Kd.S_below (by (with_reducible repeat (first | apply Kd.S_alloc | apply Kd.S_drewN | apply Kd.S_drew)); exact (Kd.S_mono (Kd.S_far (Kd.S_far (Kd.S_far (Kd.S_types HO253.out BK260.out (by decide)) (fun _ hk => hk.2) _) (fun _ hk => hk.2) _) (fun _ hk => hk.2) _) (fun _ h_ => h_.1))) hb); have n4_ := AZ (Kd.S_below (by (with_reducible repeat (first | apply Kd.S_alloc | apply Kd.S_drewN | apply Kd.S_drew)); exact (Kd.S_mono (Kd.S_far (Kd.S_far (Kd.S_far (Kd.S_types HO259.out BK260.out (by decide)) (fun _ hk => hk.2) _) (fun _ hk => hk.2) _) (fun _ hk => hk.2) _) (fun _ h_ => h_.1))) hb); have n5_ := AZ (Kd.R_lower (Kd.R_new' ho0 (Kd.R_lt (by (with_reducible repeat (first | apply Kd.R_alloc | apply Kd.R_drewN | apply Kd.R_drew)); exact (Kd.R_mono (Kd.R_far (Kd.R_far (Kd.R_far (Kd.R_types HO247.out BK260.out (by decide)) (fun _ hk => hk.2) _) (fun _ hk => hk.2) _) (fun _ hk => hk.2) _) (fun _ h_ => h_.1))))) (below_size (bS HB.out))); have n6_ := AZ (blk_below (g := gb231) (o := .cells #[.string a0_0, .int .i64 a0_1, .slice A0_2 l0_2.length c0_2] 45 (0, 0)) (by (with_reducible repeat (first | refine blk_drewN ?_ _ | refine blk_drew ?_ | refine blk_alloc ?_ _)); refine blk_far ?_ NB231_260.out _; (with_reducible repeat (first | refine blk_drewN ?_ _ | refine blk_drew ?_ | refine blk_alloc ?_ _)); refine blk_far ?_ NB231_260.out _; (with_reducible repeat (first | refine blk_drewN ?_ _ | refine blk_drew ?_ | refine blk_alloc ?_ _)); refine blk_far ?_ NB231_260.out _; (with_reducible repeat (first | refine blk_drewN ?_ _ | refine blk_drew ?_ | refine blk_alloc ?_ _)); exact BK231.out) hb); have n7_ := AZ (blk_below (g := gb232) (o := .cells #[.string a1_0, .int .i64 a1_1, .slice A1_2 l1_2.length c1_2] 45 (0, 0)) (by (with_reducible repeat (first | refine blk_drewN ?_ _ | refine blk_drew ?_ | refine blk_alloc ?_ _)); refine blk_far ?_ NB232_260.out _; (with_reducible repeat (first | refine blk_drewN ?_ _ | refine blk_drew ?_ | refine blk_alloc ?_ _)); refine blk_far ?_ NB232_260.out _; (with_reducible repeat (first | refine blk_drewN ?_ _ | refine blk_drew ?_ | refine blk_alloc ?_ _)); refine blk_far ?_ NB232_260.out _; (with_reducible repeat (first | refine blk_drewN ?_ _ | refine blk_drew ?_ | refine blk_alloc ?_ _)); exact BK232.out) hb); have n8_ := AZ (blk_below (g := gb254) (o := .cells #[.string t249, .int .i64 t250, .slice Ao47 t251.length co47] 49 (0, 0)) (by (with_reducible repeat (first | refine blk_drewN ?_ _ | refine blk_drew ?_ | refine blk_alloc ?_ _)); refine blk_far ?_ NB254_260.out _; (with_reducible repeat (first | refine blk_drewN ?_ _ | refine blk_drew ?_ | refine blk_alloc ?_ _)); refine blk_far ?_ NB254_260.out _; (with_reducible repeat (first | refine blk_drewN ?_ _ | refine blk_drew ?_ | refine blk_alloc ?_ _)); refine blk_far ?_ NB254_260.out _; (with_reducible repeat (first | refine blk_drewN ?_ _ | refine blk_drew ?_ | refine blk_alloc ?_ _)); exact BK254.out) hb); have n9_ := AZ (blk_below (g := gb260) (o := .cells #[.string t255, .int .i64 t256, .slice Ao56 t257.length co56] 49 (0, 0)) (by (with_reducible repeat (first | refine blk_drewN ?_ _ | refine blk_drew ?_ | refine blk_alloc ?_ _)); refine blk_put (cs := #[.string t255, .int .i64 t256, .slice none 0 0]) ?_ 2 _ rfl; (with_reducible repeat (first | refine blk_drewN ?_ _ | refine blk_drew ?_ | refine blk_alloc ?_ _)); refine blk_put (cs := #[.string t255, .int .i64 0, .slice none 0 0]) ?_ 1 _ rfl; (with_reducible repeat (first | refine blk_drewN ?_ _ | refine blk_drew ?_ | refine blk_alloc ?_ _)); refine blk_put (cs := #[.string (⟨#[]⟩ : ByteArray), .int .i64 0, .slice none 0 0]) ?_ 0 _ rfl; (with_reducible repeat (first | refine blk_drewN ?_ _ | refine blk_drew ?_ | refine blk_alloc ?_ _)); exact BK260.out) hb); have n10_ := AZ (below_step (bS HB.out) hb); clear HO239; clear HO244; clear HO247; clear HO253; clear HO259; clear BK231; clear BK232; clear BK254; clear BK260; clear HB; have HO239 := n0_; have HO244 := n1_; have HO247 := n2_; have HO253 := n3_; have HO259 := n4_; have HO263 := n5_; have BK231 := n6_; have BK232 := n7_; have BK254 := n8_; have BK260 := n9_; have HB := n10_; clear n0_ n1_ n2_ n3_ n4_ n5_ n6_ n7_ n8_ n9_ n10_; (try clear hb ho0)))
   (try simp only [Act.put, List.setIfInBounds_toArray, List.set_cons_zero, List.set_cons_succ])
   go_cut [53] (fun v53 wc => ∃ (kq : Nat) (x53_24 : Bool), v53 = .bool x53_24 ∧ Aside0 (laws_FnExactDifferRows.j0 kq t245 t248 t261 t264 x53_24 a0_0 a0_1 l0_2 a1_0 a1_1 l1_2 t249 t250 t251 t255 t256 t257 = some r) ∧ Aside0 (kq ≤ k) ∧ Aside0 (Kd.R Kd.string 9 wc w.heap.size (fun k_ => some k_ ≠ (v262 : Value).ownBlock) v246 t245) ∧ Aside0 (Kd.R Kd.string 9 wc w.heap.size (fun k_ => some k_ ≠ (v246 : Value).ownBlock) v262 t261) ∧ Aside0 (Kd.S k81 81 wc w.heap.size (fun k_ => some k_ ≠ ((.slice Ao56 t257.length co56) : Value).ownBlock ∧ N42 ≤ k_ ∧ k_ < N50) (.slice Ao47 t251.length co47) t251) ∧ Aside0 (Kd.S k81 81 wc w.heap.size (fun k_ => some k_ ≠ ((.slice Ao47 t251.length co47) : Value).ownBlock ∧ N50 ≤ k_) (.slice Ao56 t257.length co56) t257) ∧ Aside0 (wc.heap[gb231]? = some (.cells #[.string a0_0, .int .i64 a0_1, (.slice A0_2 l0_2.length c0_2)] 45 (0, 0))) ∧ Aside0 (wc.heap[gb232]? = some (.cells #[.string a1_0, .int .i64 a1_1, (.slice A1_2 l1_2.length c1_2)] 45 (0, 0))) ∧ Aside0 (wc.heap[gb254]? = some (.cells #[.string t249, .int .i64 t250, (.slice Ao47 t251.length co47)] 49 (0, 0))) ∧ Aside0 (wc.heap[gb260]? = some (.cells #[.string t255, .int .i64 t256, (.slice Ao56 t257.length co56)] 49 (0, 0))) ∧ Aside0 (Below w.heap.size w wc))
   case first =>
    have H := HC25.out
    clear HC25
    replace H := Option.bind_eq_some_iff.mp H
    obtain ⟨t265, A590, H⟩ := H
    replace H : (if t265 = true then (laws_FnExactDifferRows.j0 k t245 t248 t261 t264 (t264 != t248) a0_0 a0_1 l0_2 a1_0 a1_1 l1_2 t249 t250 t251 t255 t256 t257) else (laws_FnExactDifferRows.j0 k t245 t248 t261 t264 true a0_0 a0_1 l0_2 a1_0 a1_1 l1_2 t249 t250 t251 t255 t256 t257)) = some r := H
    have A59 := Aside0.mk A590
    clear A590
    by_cases c60 : t265 = true
    ·subst c60
     have H1 : (laws_FnExactDifferRows.j0 k t245 t248 t261 t264 (t264 != t248) a0_0 a0_1 l0_2 a1_0 a1_1 l1_2 t249 t250 t251 t255 t256 t257) = some r := by rw [if_pos rfl] at H; exact H
     clear H
     have H := H1
     clear H1
     have H' := Aside0.mk H
     clear H
     obtain ⟨Ao61, co61, eo61⟩ := Kd.R_slice HO263.out
     subst eo61
     obtain ⟨Ao62, co62, eo62⟩ := Kd.R_slice HO247.out
     subst eo62
     go_wp2_with (first | ((with_reducible refine gate_callee (f := 31) rfl ?_); refine gL (some 47) Try.func31 #[.slice Ao61 t261.length co61, .slice Ao62 t245.length co62] ?_; (with_reducible refine (laws_eqStringS.calls k _ _ t261 _ _ t245 true _ ?side1 ?side2 ?side3 ?side4 A59.out).mono ?_); (case side1 => exact cS (Kd.R_reads' HO263.out).2.2); (case side2 => exact (Kd.R_reads' HO263.out).2.1); (case side3 => exact cS (Kd.R_reads' HO247.out).2.2); (case side4 => exact (Kd.R_reads' HO247.out).2.1); rintro e w' ⟨rfl, ⟨nd, rfl⟩⟩; refine ⟨_, rfl, ?_⟩))
     go_meet
     case rel => exact ⟨_, ((t264 != t248)), (by first | rfl | (simp; done) | (simp [*]; done)), H', ⟨by first | omega | exact Nat.le_refl _⟩, ⟨rS (Kd.R_mono HO247.out (fun _ hk => hk.2))⟩, ⟨rS (Kd.R_mono HO263.out (fun _ hk => hk.2))⟩, ⟨sS (Kd.S_mono HO253.out (fun _ hk => ⟨hk.2, ⟨hk.1.1.1.1.2, hk.1.2⟩⟩))⟩, ⟨sS (Kd.S_mono HO259.out (fun _ hk => ⟨hk.2, hk.1.1.1.2⟩))⟩, ⟨blkS BK231.out⟩, ⟨blkS BK232.out⟩, ⟨blkS BK254.out⟩, ⟨blkS BK260.out⟩, ⟨bS HB.out⟩⟩
    ·replace c60 := Bool.eq_false_iff.mpr c60
     subst c60
     have H1 : (laws_FnExactDifferRows.j0 k t245 t248 t261 t264 true a0_0 a0_1 l0_2 a1_0 a1_1 l1_2 t249 t250 t251 t255 t256 t257) = some r := by rw [if_neg (show ¬ (false = true) by decide)] at H; exact H
     clear H
     have H := H1
     clear H1
     have H' := Aside0.mk H
     clear H
     obtain ⟨Ao63, co63, eo63⟩ := Kd.R_slice HO263.out
     subst eo63
     obtain ⟨Ao64, co64, eo64⟩ := Kd.R_slice HO247.out
     subst eo64
     go_wp2_with (first | ((with_reducible refine gate_callee (f := 31) rfl ?_); refine gL (some 47) Try.func31 #[.slice Ao63 t261.length co63, .slice Ao64 t245.length co64] ?_; (with_reducible refine (laws_eqStringS.calls k _ _ t261 _ _ t245 false _ ?side1 ?side2 ?side3 ?side4 A59.out).mono ?_); (case side1 => exact cS (Kd.R_reads' HO263.out).2.2); (case side2 => exact (Kd.R_reads' HO263.out).2.1); (case side3 => exact cS (Kd.R_reads' HO247.out).2.2); (case side4 => exact (Kd.R_reads' HO247.out).2.1); rintro e w' ⟨rfl, ⟨nd, rfl⟩⟩; refine ⟨_, rfl, ?_⟩))
     go_meet
     case rel => exact ⟨_, (true), (by first | rfl | (simp; done) | (simp [*]; done)), H', ⟨by first | omega | exact Nat.le_refl _⟩, ⟨rS (Kd.R_mono HO247.out (fun _ hk => hk.2))⟩, ⟨rS (Kd.R_mono HO263.out (fun _ hk => hk.2))⟩, ⟨sS (Kd.S_mono HO253.out (fun _ hk => ⟨hk.2, ⟨hk.1.1.1.1.2, hk.1.2⟩⟩))⟩, ⟨sS (Kd.S_mono HO259.out (fun _ hk => ⟨hk.2, hk.1.1.1.2⟩))⟩, ⟨blkS BK231.out⟩, ⟨blkS BK232.out⟩, ⟨blkS BK254.out⟩, ⟨blkS BK260.out⟩, ⟨bS HB.out⟩⟩
   case rest =>
    clear HC25
    try clear c1
    try clear c2
    try clear p2
    try clear c3
    try clear c4
    try clear c4b0
    try clear c5
    try clear c6
    try clear c7
    try clear c11
    try clear c11b0
    try clear c14
    try clear c22
    try clear c24
    try clear c28
    try clear c29
    try clear c30
    try clear c31
    try clear c44
    try clear c45
    try clear c52
    try clear c53
    try clear c54
    try clear c60
    try clear hcz15_0
    try clear hcz15_1
    try clear hcz15_2
    try clear hcz17_0
    try clear hcz17_1
    try clear hcz17_2
    try clear hcz29_0
    try clear hcz29_1
    try clear hcz29_2
    try clear hcz31_0
    try clear hcz31_1
    try clear hcz31_2
    try clear hcz40_0
    try clear hcz40_1
    try clear hcz40_2
    try clear hcz46_0
    try clear hcz46_1
    try clear hcz46_2
    try clear hcz48_0
    try clear hcz48_1
    try clear hcz48_2
    try clear hcz55_0
    try clear hcz55_1
    try clear hcz55_2
    try clear hcz57_0
    try clear hcz57_1
    try clear hcz57_2
    try clear hcz8_0
    try clear hcz8_1
    try clear hcz8_2
    try clear hfz15_0
    try clear hfz15_1
    try clear hfz15_2
    try clear hfz17_0
    try clear hfz17_1
    try clear hfz17_2
    try clear hfz29_0
    try clear hfz29_1
    try clear hfz29_2
    try clear hfz31_0
    try clear hfz31_1
    try clear hfz31_2
    try clear hfz40_0
    try clear hfz40_1
    try clear hfz40_2
    try clear hfz46_0
    try clear hfz46_1
    try clear hfz46_2
    try clear hfz48_0
    try clear hfz48_1
    try clear hfz48_2
    try clear hfz55_0
    try clear hfz55_1
    try clear hfz55_2
    try clear hfz57_0
    try clear hfz57_1
    try clear hfz57_2
    try clear hfz8_0
    try clear hfz8_1
    try clear hfz8_2
    obtain ⟨kq, x53_24, rfl, HA, HJ24, HO_6, HO_10, HO_255002, HO_261002, BK231, BK232, BK254, BK260, HB⟩ := hcut
    cases kq with
    | zero => exact absurd HA.out (by simp [laws_FnExactDifferRows.j0])
    | succ kj24 =>
     have H := HA.out
     clear HA
     simp only [laws_FnExactDifferRows.j0] at H
     by_cases c65 : x53_24 = true
     ·subst c65
      have H1 : (none) = some r := by rw [if_pos rfl] at H; exact H
      clear H
      have H := H1
      clear H1
      exact absurd H (by simp)
     ·replace c65 := Bool.eq_false_iff.mpr c65
      subst c65
      have H1 : ((laws_toReport.f kj24 a0_0 a0_1 l0_2).bind fun bt266 => ((laws_eqReport.f kj24 t249 t250 t251 bt266.1 bt266.2.1 bt266.2.2).bind fun t271 => (if t271 = true then ((laws_toReport.f kj24 a1_0 a1_1 l1_2).bind fun bt272 => ((laws_eqReport.f kj24 t255 t256 t257 bt272.1 bt272.2.1 bt272.2.2).bind fun t277 => (if t277 = true then ((laws_markReport.f kj24 t249 t250 t251 1).bind fun t278 => ((laws_markReport.f kj24 t255 t256 t257 t278).bind fun t279 => (if t279 < 0 then (laws_FnExactDifferRows.j1 kj24 t245 t248 t261 true a0_0 a0_1 l0_2 a1_0 a1_1 l1_2) else ((laws_eqStringS.f kj24 t261 t245).bind fun t280 => (if t280 = true then (laws_FnExactDifferRows.j1 kj24 t245 t248 t261 (t264 != t248) a0_0 a0_1 l0_2 a1_0 a1_1 l1_2) else (laws_FnExactDifferRows.j1 kj24 t245 t248 t261 true a0_0 a0_1 l0_2 a1_0 a1_1 l1_2)))))) else (none)))) else (none)))) = some r := by rw [if_neg (show ¬ (false = true) by decide)] at H; exact H
      clear H
      have H := H1
      clear H1
      replace H := Option.bind_eq_some_iff.mp H
      obtain ⟨⟨t266, t267, t268⟩, A660, H⟩ := H
      replace H : ((laws_eqReport.f kj24 t249 t250 t251 t266 t267 t268).bind fun t271 => (if t271 = true then ((laws_toReport.f kj24 a1_0 a1_1 l1_2).bind fun bt272 => ((laws_eqReport.f kj24 t255 t256 t257 bt272.1 bt272.2.1 bt272.2.2).bind fun t277 => (if t277 = true then ((laws_markReport.f kj24 t249 t250 t251 1).bind fun t278 => ((laws_markReport.f kj24 t255 t256 t257 t278).bind fun t279 => (if t279 < 0 then (laws_FnExactDifferRows.j1 kj24 t245 t248 t261 true a0_0 a0_1 l0_2 a1_0 a1_1 l1_2) else ((laws_eqStringS.f kj24 t261 t245).bind fun t280 => (if t280 = true then (laws_FnExactDifferRows.j1 kj24 t245 t248 t261 (t264 != t248) a0_0 a0_1 l0_2 a1_0 a1_1 l1_2) else (laws_FnExactDifferRows.j1 kj24 t245 t248 t261 true a0_0 a0_1 l0_2 a1_0 a1_1 l1_2)))))) else (none)))) else (none))) = some r := H
      have A66 := Aside0.mk A660
      clear A660
      replace H := Option.bind_eq_some_iff.mp H
      obtain ⟨t271, A670, H⟩ := H
      replace H : (if t271 = true then ((laws_toReport.f kj24 a1_0 a1_1 l1_2).bind fun bt272 => ((laws_eqReport.f kj24 t255 t256 t257 bt272.1 bt272.2.1 bt272.2.2).bind fun t277 => (if t277 = true then ((laws_markReport.f kj24 t249 t250 t251 1).bind fun t278 => ((laws_markReport.f kj24 t255 t256 t257 t278).bind fun t279 => (if t279 < 0 then (laws_FnExactDifferRows.j1 kj24 t245 t248 t261 true a0_0 a0_1 l0_2 a1_0 a1_1 l1_2) else ((laws_eqStringS.f kj24 t261 t245).bind fun t280 => (if t280 = true then (laws_FnExactDifferRows.j1 kj24 t245 t248 t261 (t264 != t248) a0_0 a0_1 l0_2 a1_0 a1_1 l1_2) else (laws_FnExactDifferRows.j1 kj24 t245 t248 t261 true a0_0 a0_1 l0_2 a1_0 a1_1 l1_2)))))) else (none)))) else (none)) = some r := H
      have A67 := Aside0.mk A670
      clear A670
      by_cases c68 : t271 = true
      ·subst c68
       have H1 : ((laws_toReport.f kj24 a1_0 a1_1 l1_2).bind fun bt272 => ((laws_eqReport.f kj24 t255 t256 t257 bt272.1 bt272.2.1 bt272.2.2).bind fun t277 => (if t277 = true then ((laws_markReport.f kj24 t249 t250 t251 1).bind fun t278 => ((laws_markReport.f kj24 t255 t256 t257 t278).bind fun t279 => (if t279 < 0 then (laws_FnExactDifferRows.j1 kj24 t245 t248 t261 true a0_0 a0_1 l0_2 a1_0 a1_1 l1_2) else ((laws_eqStringS.f kj24 t261 t245).bind fun t280 => (if t280 = true then (laws_FnExactDifferRows.j1 kj24 t245 t248 t261 (t264 != t248) a0_0 a0_1 l0_2 a1_0 a1_1 l1_2) else (laws_FnExactDifferRows.j1 kj24 t245 t248 t261 true a0_0 a0_1 l0_2 a1_0 a1_1 l1_2)))))) else (none)))) = some r := by rw [if_pos rfl] at H; exact H
       clear H
       have H := H1
       clear H1
       replace H := Option.bind_eq_some_iff.mp H
       obtain ⟨⟨t272, t273, t274⟩, A690, H⟩ := H
       replace H : ((laws_eqReport.f kj24 t255 t256 t257 t272 t273 t274).bind fun t277 => (if t277 = true then ((laws_markReport.f kj24 t249 t250 t251 1).bind fun t278 => ((laws_markReport.f kj24 t255 t256 t257 t278).bind fun t279 => (if t279 < 0 then (laws_FnExactDifferRows.j1 kj24 t245 t248 t261 true a0_0 a0_1 l0_2 a1_0 a1_1 l1_2) else ((laws_eqStringS.f kj24 t261 t245).bind fun t280 => (if t280 = true then (laws_FnExactDifferRows.j1 kj24 t245 t248 t261 (t264 != t248) a0_0 a0_1 l0_2 a1_0 a1_1 l1_2) else (laws_FnExactDifferRows.j1 kj24 t245 t248 t261 true a0_0 a0_1 l0_2 a1_0 a1_1 l1_2)))))) else (none))) = some r := H
       have A69 := Aside0.mk A690
       clear A690
       replace H := Option.bind_eq_some_iff.mp H
       obtain ⟨t277, A700, H⟩ := H
       replace H : (if t277 = true then ((laws_markReport.f kj24 t249 t250 t251 1).bind fun t278 => ((laws_markReport.f kj24 t255 t256 t257 t278).bind fun t279 => (if t279 < 0 then (laws_FnExactDifferRows.j1 kj24 t245 t248 t261 true a0_0 a0_1 l0_2 a1_0 a1_1 l1_2) else ((laws_eqStringS.f kj24 t261 t245).bind fun t280 => (if t280 = true then (laws_FnExactDifferRows.j1 kj24 t245 t248 t261 (t264 != t248) a0_0 a0_1 l0_2 a1_0 a1_1 l1_2) else (laws_FnExactDifferRows.j1 kj24 t245 t248 t261 true a0_0 a0_1 l0_2 a1_0 a1_1 l1_2)))))) else (none)) = some r := H
       have A70 := Aside0.mk A700
       clear A700
       by_cases c71 : t277 = true
       ·subst c71
        have H1 : ((laws_markReport.f kj24 t249 t250 t251 1).bind fun t278 => ((laws_markReport.f kj24 t255 t256 t257 t278).bind fun t279 => (if t279 < 0 then (laws_FnExactDifferRows.j1 kj24 t245 t248 t261 true a0_0 a0_1 l0_2 a1_0 a1_1 l1_2) else ((laws_eqStringS.f kj24 t261 t245).bind fun t280 => (if t280 = true then (laws_FnExactDifferRows.j1 kj24 t245 t248 t261 (t264 != t248) a0_0 a0_1 l0_2 a1_0 a1_1 l1_2) else (laws_FnExactDifferRows.j1 kj24 t245 t248 t261 true a0_0 a0_1 l0_2 a1_0 a1_1 l1_2)))))) = some r := by rw [if_pos rfl] at H; exact H
        clear H
        have H := H1
        clear H1
        replace H := Option.bind_eq_some_iff.mp H
        obtain ⟨t278, A720, H⟩ := H
        replace H : ((laws_markReport.f kj24 t255 t256 t257 t278).bind fun t279 => (if t279 < 0 then (laws_FnExactDifferRows.j1 kj24 t245 t248 t261 true a0_0 a0_1 l0_2 a1_0 a1_1 l1_2) else ((laws_eqStringS.f kj24 t261 t245).bind fun t280 => (if t280 = true then (laws_FnExactDifferRows.j1 kj24 t245 t248 t261 (t264 != t248) a0_0 a0_1 l0_2 a1_0 a1_1 l1_2) else (laws_FnExactDifferRows.j1 kj24 t245 t248 t261 true a0_0 a0_1 l0_2 a1_0 a1_1 l1_2))))) = some r := H
        have A72 := Aside0.mk A720
        clear A720
        replace H := Option.bind_eq_some_iff.mp H
        obtain ⟨t279, A730, H⟩ := H
        replace H : (if t279 < 0 then (laws_FnExactDifferRows.j1 kj24 t245 t248 t261 true a0_0 a0_1 l0_2 a1_0 a1_1 l1_2) else ((laws_eqStringS.f kj24 t261 t245).bind fun t280 => (if t280 = true then (laws_FnExactDifferRows.j1 kj24 t245 t248 t261 (t264 != t248) a0_0 a0_1 l0_2 a1_0 a1_1 l1_2) else (laws_FnExactDifferRows.j1 kj24 t245 t248 t261 true a0_0 a0_1 l0_2 a1_0 a1_1 l1_2)))) = some r := H
        have A73 := Aside0.mk A730
        clear A730
        have HC74 := Aside0.mk H
        clear H
        try go_wp2
        have n0_ := AZ (Kd.R_drew HO_6.out)
        have n1_ := AZ (Kd.R_drew HO_10.out)
        have n2_ := AZ (Kd.S_drew HO_255002.out)
        have n3_ := AZ (Kd.S_drew HO_261002.out)
        have n4_ := AZ (blk_drew BK231.out)
        have n5_ := AZ (blk_drew BK232.out)
        have n6_ := AZ (blk_drew BK254.out)
        have n7_ := AZ (blk_drew BK260.out)
        have n8_ := AZ (below_drew1 HB.out)
        clear HO_6
        clear HO_10
        clear HO_255002
        clear HO_261002
        clear BK231
        clear BK232
        clear BK254
        clear BK260
        clear HB
        have HO_6 := n0_
        have HO_10 := n1_
        have HO_255002 := n2_
        have HO_261002 := n3_
        have BK231 := n4_
        have BK232 := n5_
        have BK254 := n6_
        have BK260 := n7_
        have HB := n8_
        clear n0_ n1_ n2_ n3_ n4_ n5_ n6_ n7_ n8_
        refine start_ (n := 5) (S := fun w' => w'.cell? ⟨gb254, 0, none⟩ = some (.string t249) ∧ w'.cell? ⟨gb254, 1, none⟩ = some (.int .i64 t250) ∧ w'.cell? ⟨gb254, 2, none⟩ = some (.slice Ao47 t251.length co47) ∧ w'.cell? ⟨gb231, 0, none⟩ = some (.string a0_0) ∧ w'.cell? ⟨gb231, 1, none⟩ = some (.int .i64 a0_1) ∧ w'.cell? ⟨gb231, 2, none⟩ = some (.slice A0_2 l0_2.length c0_2)) (ds := []) #[false, false, false, false, false] (by kernel_rfl) rfl rfl ⟨(blk_cell BK254.out 0).trans rfl, (blk_cell BK254.out 1).trans rfl, (blk_cell BK254.out 2).trans rfl, (blk_cell BK231.out 0).trans rfl, (blk_cell BK231.out 1).trans rfl, (blk_cell BK231.out 2).trans rfl⟩ (fun hHeld => ?_)
        generalize wc.drew = w75 at HO_6 HO_10 HO_255002 HO_261002 BK231 BK232 BK254 BK260 HB hHeld ⊢
        refine take_ (i := 0) (N := some 54) (v := ?_) (a' := ?_) #[true, false, false, false, false] rfl rfl (by kernel_rfl) (fun _ _ _ h => h) (Or.inl ⟨by rfl, ?_⟩) hHeld ?_ ?_
        rotate_left
        ·rintro w' ⟨s0, s1, s2, s3, s4, s5⟩
         go_simp
         with_reducible rfl
        rotate_left
        ·simp only [Act.put, List.setIfInBounds_toArray, List.set_cons_zero, List.set_cons_succ, i64_w, i32_w]
         rfl
        refine take_ (i := 1) (N := some 55) (v := ?_) (a' := ?_) #[true, true, false, false, false] rfl rfl (by kernel_rfl) (fun _ _ _ h => h) (Or.inl ⟨by rfl, ?_⟩) hHeld ?_ ?_
        rotate_left
        ·rintro w' ⟨s0, s1, s2, s3, s4, s5⟩
         go_simp
         with_reducible rfl
        rotate_left
        ·simp only [Act.put, List.setIfInBounds_toArray, List.set_cons_zero, List.set_cons_succ, i64_w, i32_w]
         rfl
        refine one_ (i := 2) (N := some 56) #[true, true, true, false, false] rfl rfl (by kernel_rfl) (by decide) (fun K hK => ?_)
        refine goes_ Try.func24 (by kernel_rfl) rfl #[.agg #[.string a0_0, .int .i64 a0_1, .slice A0_2 l0_2.length c0_2]] (by rfl) rfl rfl (by (try simp only [List.map_toArray, List.map_cons, List.map_nil]); first | done | rfl | (simp only [List.length_drop, List.length_take]; rfl)) ?_
        with_reducible refine (laws_toReport.calls kj24 a0_0 a0_1 _ _ l0_2 t266 t267 t268 _ ?side1 ?side2 A66.out).mono ?_
        (case side1 => exact cS (Kd.C_below HR0_2.out HB.out))
        (case side2 => exact HC0_2.out)
        rintro e w76 ⟨v269, rfl, ho0, hb⟩
        refine ⟨_, rfl, ?_⟩
        obtain ⟨N77, eN77⟩ := cutN hb
        have n0_ := AZ (Kd.R_below (rS HO_6.out) hb)
        have n1_ := AZ (Kd.R_below (rS HO_10.out) hb)
        have n2_ := AZ (Kd.S_elder' ((S_ltN (sS HO_255002.out) eN77)) (Kd.S_base ho0) hb)
        have n3_ := AZ (Kd.S_elder' ((S_ltN (sS HO_261002.out) eN77)) (Kd.S_base ho0) hb)
        have n4_ := AZ (Kd.S_lower (Kd.S_new' (Kd.S_new' (S_geN ho0 eN77) (Kd.S_lt (sS HO_255002.out))) (Kd.S_lt (sS HO_261002.out))) (below_size (bS HB.out)))
        have n5_ := blkA BK231 hb
        have n6_ := blkA BK232 hb
        have n7_ := blkA BK254 hb
        have n8_ := blkA BK260 hb
        have n9_ := AZ (below_step (bS HB.out) hb)
        clear HO_6
        clear HO_10
        clear HO_255002
        clear HO_261002
        clear BK231
        clear BK232
        clear BK254
        clear BK260
        clear HB
        have HO_6 := n0_
        have HO_10 := n1_
        have HO_255002 := n2_
        have HO_261002 := n3_
        have HO270 := n4_
        have BK231 := n5_
        have BK232 := n6_
        have BK254 := n7_
        have BK260 := n8_
        have HB := n9_
        clear n0_ n1_ n2_ n3_ n4_ n5_ n6_ n7_ n8_ n9_
        (try clear hb)
        (try clear hb2)
        (try clear hk)
        (try clear hi)
        (try clear ho0)
        obtain ⟨Ao78, co78, eo78⟩ := Kd.S_slice HO270.out
        (first | subst eo78 | (injection eo78 with f1_ f2_ f3_; have f4_ := f1_.symm; have f5_ := f3_.symm; clear f1_ f2_ f3_; subst f4_; subst f5_))
        refine hK.out _ _ ⟨(blk_cell BK254.out 0).trans rfl, (blk_cell BK254.out 1).trans rfl, (blk_cell BK254.out 2).trans rfl, (blk_cell BK231.out 0).trans rfl, (blk_cell BK231.out 1).trans rfl, (blk_cell BK231.out 2).trans rfl⟩ (fun hHeld => ?_)
        clear hK K
        refine norm_ (a' := ?_) ?_ ?_
        rotate_left
        ·show Act.put _ (some 56) _ = _
         simp only [Act.put, List.setIfInBounds_toArray, List.set_cons_zero, List.set_cons_succ, i64_w, i32_w]
         rfl
        refine one_ (i := 3) (N := some 57) #[true, true, true, true, false] rfl rfl (by kernel_rfl) (by decide) (fun K hK => ?_)
        refine goes_ Try.func26 (by kernel_rfl) rfl #[.agg #[.string t249, .int .i64 t250, .slice Ao47 t251.length co47], .agg #[.string t266, .int .i64 t267, .slice Ao78 t268.length co78]] (by rfl) rfl rfl (by (try simp only [List.map_toArray, List.map_cons, List.map_nil]); first | done | rfl | (simp only [List.length_drop, List.length_take]; rfl)) ?_
        with_reducible refine (laws_eqReport.calls kj24 t249 t250 _ _ t251 t266 t267 _ _ t268 true _ ?side1 ?side2 ?side3 ?side4 A67.out).mono ?_
        (case side1 => exact cS (Kd.S_reads' HO_255002.out).2.2)
        (case side2 => exact (Kd.S_reads' HO_255002.out).2.1)
        (case side3 => exact cS (Kd.S_reads' HO270.out).2.2)
        (case side4 => exact (Kd.S_reads' HO270.out).2.1)
        rintro e w79 ⟨rfl, hb⟩
        refine ⟨_, rfl, ?_⟩
        have n0_ := AZ (Kd.R_below (rS HO_6.out) hb)
        have n1_ := AZ (Kd.R_below (rS HO_10.out) hb)
        have n2_ := AZ (Kd.S_below (sS HO_255002.out) hb)
        have n3_ := AZ (Kd.S_below (sS HO_261002.out) hb)
        have n4_ := AZ (Kd.S_below (sS HO270.out) hb)
        have n5_ := blkA BK231 hb
        have n6_ := blkA BK232 hb
        have n7_ := blkA BK254 hb
        have n8_ := blkA BK260 hb
        have n9_ := AZ (below_step (bS HB.out) hb)
        clear HO_6
        clear HO_10
        clear HO_255002
        clear HO_261002
        clear HO270
        clear BK231
        clear BK232
        clear BK254
        clear BK260
        clear HB
        have HO_6 := n0_
        have HO_10 := n1_
        have HO_255002 := n2_
        have HO_261002 := n3_
        have HO270 := n4_
        have BK231 := n5_
        have BK232 := n6_
        have BK254 := n7_
        have BK260 := n8_
        have HB := n9_
        clear n0_ n1_ n2_ n3_ n4_ n5_ n6_ n7_ n8_ n9_
        (try clear hb)
        (try clear hb2)
        (try clear hk)
        (try clear hi)
        refine hK.out _ _ ⟨(blk_cell BK254.out 0).trans rfl, (blk_cell BK254.out 1).trans rfl, (blk_cell BK254.out 2).trans rfl, (blk_cell BK231.out 0).trans rfl, (blk_cell BK231.out 1).trans rfl, (blk_cell BK231.out 2).trans rfl⟩ (fun hHeld => ?_)
        clear hK K
        refine norm_ (a' := ?_) ?_ ?_
        rotate_left
        ·show Act.put _ (some 57) _ = _
         simp only [Act.put, List.setIfInBounds_toArray, List.set_cons_zero, List.set_cons_succ, i64_w, i32_w]
         rfl
        refine pure_ (i := 4) (N := some 58) (v := ?_) (a' := ?_) #[true, true, true, true, true] rfl rfl (by kernel_rfl) (fun _ _ _ h => h) (Or.inl ⟨by rfl, ?_⟩) ?_ ?_
        rotate_left
        ·intro w'
         go_simp
         with_reducible rfl
        rotate_left
        ·simp only [Act.put, List.setIfInBounds_toArray, List.set_cons_zero, List.set_cons_succ, i64_w, i32_w]
         rfl
        refine done_ (by kernel_rfl) ?_
        try go_wp2
        have n0_ := AZ (Kd.R_drew HO_6.out)
        have n1_ := AZ (Kd.R_drew HO_10.out)
        have n2_ := AZ (Kd.S_drew HO_255002.out)
        have n3_ := AZ (Kd.S_drew HO_261002.out)
        have n4_ := AZ (Kd.S_drew HO270.out)
        have n5_ := AZ (blk_drew BK231.out)
        have n6_ := AZ (blk_drew BK232.out)
        have n7_ := AZ (blk_drew BK254.out)
        have n8_ := AZ (blk_drew BK260.out)
        have n9_ := AZ (below_drew1 HB.out)
        clear HO_6
        clear HO_10
        clear HO_255002
        clear HO_261002
        clear HO270
        clear BK231
        clear BK232
        clear BK254
        clear BK260
        clear HB
        have HO_6 := n0_
        have HO_10 := n1_
        have HO_255002 := n2_
        have HO_261002 := n3_
        have HO270 := n4_
        have BK231 := n5_
        have BK232 := n6_
        have BK254 := n7_
        have BK260 := n8_
        have HB := n9_
        clear n0_ n1_ n2_ n3_ n4_ n5_ n6_ n7_ n8_ n9_
        refine start_ (n := 5) (S := fun w' => w'.cell? ⟨gb260, 0, none⟩ = some (.string t255) ∧ w'.cell? ⟨gb260, 1, none⟩ = some (.int .i64 t256) ∧ w'.cell? ⟨gb260, 2, none⟩ = some (.slice Ao56 t257.length co56) ∧ w'.cell? ⟨gb232, 0, none⟩ = some (.string a1_0) ∧ w'.cell? ⟨gb232, 1, none⟩ = some (.int .i64 a1_1) ∧ w'.cell? ⟨gb232, 2, none⟩ = some (.slice A1_2 l1_2.length c1_2)) (ds := []) #[false, false, false, false, false] (by kernel_rfl) rfl rfl ⟨(blk_cell BK260.out 0).trans rfl, (blk_cell BK260.out 1).trans rfl, (blk_cell BK260.out 2).trans rfl, (blk_cell BK232.out 0).trans rfl, (blk_cell BK232.out 1).trans rfl, (blk_cell BK232.out 2).trans rfl⟩ (fun hHeld => ?_)
        generalize w79.drew = w80 at HO_6 HO_10 HO_255002 HO_261002 HO270 BK231 BK232 BK254 BK260 HB hHeld ⊢
        refine take_ (i := 0) (N := some 59) (v := ?_) (a' := ?_) #[true, false, false, false, false] rfl rfl (by kernel_rfl) (fun _ _ _ h => h) (Or.inl ⟨by rfl, ?_⟩) hHeld ?_ ?_
        rotate_left
        ·rintro w' ⟨s0, s1, s2, s3, s4, s5⟩
         go_simp
         with_reducible rfl
        rotate_left
        ·simp only [Act.put, List.setIfInBounds_toArray, List.set_cons_zero, List.set_cons_succ, i64_w, i32_w]
         rfl
        refine take_ (i := 1) (N := some 60) (v := ?_) (a' := ?_) #[true, true, false, false, false] rfl rfl (by kernel_rfl) (fun _ _ _ h => h) (Or.inl ⟨by rfl, ?_⟩) hHeld ?_ ?_
        rotate_left
        ·rintro w' ⟨s0, s1, s2, s3, s4, s5⟩
         go_simp
         with_reducible rfl
        rotate_left
        ·simp only [Act.put, List.setIfInBounds_toArray, List.set_cons_zero, List.set_cons_succ, i64_w, i32_w]
         rfl
        refine one_ (i := 2) (N := some 61) #[true, true, true, false, false] rfl rfl (by kernel_rfl) (by decide) (fun K hK => ?_)
        refine goes_ Try.func24 (by kernel_rfl) rfl #[.agg #[.string a1_0, .int .i64 a1_1, .slice A1_2 l1_2.length c1_2]] (by rfl) rfl rfl (by (try simp only [List.map_toArray, List.map_cons, List.map_nil]); first | done | rfl | (simp only [List.length_drop, List.length_take]; rfl)) ?_
        with_reducible refine (laws_toReport.calls kj24 a1_0 a1_1 _ _ l1_2 t272 t273 t274 _ ?side1 ?side2 A69.out).mono ?_
        (case side1 => exact cS (Kd.C_below HR1_2.out HB.out))
        (case side2 => exact HC1_2.out)
        rintro e w81 ⟨v275, rfl, ho0, hb⟩
        refine ⟨_, rfl, ?_⟩
        obtain ⟨N82, eN82⟩ := cutN hb
        have n0_ := AZ (Kd.R_below (rS HO_6.out) hb)
        have n1_ := AZ (Kd.R_below (rS HO_10.out) hb)
        have n2_ := AZ (Kd.S_elder' ((S_ltN (sS HO_255002.out) eN82)) (Kd.S_base ho0) hb)
        have n3_ := AZ (Kd.S_elder' ((S_ltN (sS HO_261002.out) eN82)) (Kd.S_base ho0) hb)
        have n4_ := AZ (Kd.S_elder' ((S_ltN (sS HO270.out) eN82)) (Kd.S_base ho0) hb)
        have n5_ := AZ (Kd.S_lower (Kd.S_new' (Kd.S_new' (Kd.S_new' (S_geN ho0 eN82) (Kd.S_lt (sS HO_255002.out))) (Kd.S_lt (sS HO_261002.out))) (Kd.S_lt (sS HO270.out))) (below_size (bS HB.out)))
        have n6_ := blkA BK231 hb
        have n7_ := blkA BK232 hb
        have n8_ := blkA BK254 hb
        have n9_ := blkA BK260 hb
        have n10_ := AZ (below_step (bS HB.out) hb)
        clear HO_6
        clear HO_10
        clear HO_255002
        clear HO_261002
        clear HO270
        clear BK231
        clear BK232
        clear BK254
        clear BK260
        clear HB
        have HO_6 := n0_
        have HO_10 := n1_
        have HO_255002 := n2_
        have HO_261002 := n3_
        have HO270 := n4_
        have HO276 := n5_
        have BK231 := n6_
        have BK232 := n7_
        have BK254 := n8_
        have BK260 := n9_
        have HB := n10_
        clear n0_ n1_ n2_ n3_ n4_ n5_ n6_ n7_ n8_ n9_ n10_
        (try clear hb)
        (try clear hb2)
        (try clear hk)
        (try clear hi)
        (try clear ho0)
        obtain ⟨Ao83, co83, eo83⟩ := Kd.S_slice HO276.out
        (first | subst eo83 | (injection eo83 with f1_ f2_ f3_; have f4_ := f1_.symm; have f5_ := f3_.symm; clear f1_ f2_ f3_; subst f4_; subst f5_))
        refine hK.out _ _ ⟨(blk_cell BK260.out 0).trans rfl, (blk_cell BK260.out 1).trans rfl, (blk_cell BK260.out 2).trans rfl, (blk_cell BK232.out 0).trans rfl, (blk_cell BK232.out 1).trans rfl, (blk_cell BK232.out 2).trans rfl⟩ (fun hHeld => ?_)
        clear hK K
        refine norm_ (a' := ?_) ?_ ?_
        rotate_left
        ·show Act.put _ (some 61) _ = _
         simp only [Act.put, List.setIfInBounds_toArray, List.set_cons_zero, List.set_cons_succ, i64_w, i32_w]
         rfl
        refine one_ (i := 3) (N := some 62) #[true, true, true, true, false] rfl rfl (by kernel_rfl) (by decide) (fun K hK => ?_)
        refine goes_ Try.func26 (by kernel_rfl) rfl #[.agg #[.string t255, .int .i64 t256, .slice Ao56 t257.length co56], .agg #[.string t272, .int .i64 t273, .slice Ao83 t274.length co83]] (by rfl) rfl rfl (by (try simp only [List.map_toArray, List.map_cons, List.map_nil]); first | done | rfl | (simp only [List.length_drop, List.length_take]; rfl)) ?_
        with_reducible refine (laws_eqReport.calls kj24 t255 t256 _ _ t257 t272 t273 _ _ t274 true _ ?side1 ?side2 ?side3 ?side4 A70.out).mono ?_
        (case side1 => exact cS (Kd.S_reads' HO_261002.out).2.2)
        (case side2 => exact (Kd.S_reads' HO_261002.out).2.1)
        (case side3 => exact cS (Kd.S_reads' HO276.out).2.2)
        (case side4 => exact (Kd.S_reads' HO276.out).2.1)
        rintro e w84 ⟨rfl, hb⟩
        refine ⟨_, rfl, ?_⟩
        have n0_ := AZ (Kd.R_below (rS HO_6.out) hb)
        have n1_ := AZ (Kd.R_below (rS HO_10.out) hb)
        have n2_ := AZ (Kd.S_below (sS HO_255002.out) hb)
        have n3_ := AZ (Kd.S_below (sS HO_261002.out) hb)
        have n4_ := AZ (Kd.S_below (sS HO270.out) hb)
        have n5_ := AZ (Kd.S_below (sS HO276.out) hb)
        have n6_ := blkA BK231 hb
        have n7_ := blkA BK232 hb
        have n8_ := blkA BK254 hb
        have n9_ := blkA BK260 hb
        have n10_ := AZ (below_step (bS HB.out) hb)
        clear HO_6
        clear HO_10
        clear HO_255002
        clear HO_261002
        clear HO270
        clear HO276
        clear BK231
        clear BK232
        clear BK254
        clear BK260
        clear HB
        have HO_6 := n0_
        have HO_10 := n1_
        have HO_255002 := n2_
        have HO_261002 := n3_
        have HO270 := n4_
        have HO276 := n5_
        have BK231 := n6_
        have BK232 := n7_
        have BK254 := n8_
        have BK260 := n9_
        have HB := n10_
        clear n0_ n1_ n2_ n3_ n4_ n5_ n6_ n7_ n8_ n9_ n10_
        (try clear hb)
        (try clear hb2)
        (try clear hk)
        (try clear hi)
        refine hK.out _ _ ⟨(blk_cell BK260.out 0).trans rfl, (blk_cell BK260.out 1).trans rfl, (blk_cell BK260.out 2).trans rfl, (blk_cell BK232.out 0).trans rfl, (blk_cell BK232.out 1).trans rfl, (blk_cell BK232.out 2).trans rfl⟩ (fun hHeld => ?_)
        clear hK K
        refine norm_ (a' := ?_) ?_ ?_
        rotate_left
        ·show Act.put _ (some 62) _ = _
         simp only [Act.put, List.setIfInBounds_toArray, List.set_cons_zero, List.set_cons_succ, i64_w, i32_w]
         rfl
        refine pure_ (i := 4) (N := some 63) (v := ?_) (a' := ?_) #[true, true, true, true, true] rfl rfl (by kernel_rfl) (fun _ _ _ h => h) (Or.inl ⟨by rfl, ?_⟩) ?_ ?_
        rotate_left
        ·intro w'
         go_simp
         with_reducible rfl
        rotate_left
        ·simp only [Act.put, List.setIfInBounds_toArray, List.set_cons_zero, List.set_cons_succ, i64_w, i32_w]
         rfl
        refine done_ (by kernel_rfl) ?_
        have hnb85 := NB254_231.out
        have hnc85 := NB231_254.out
        have hnb86 := NB254_232.out
        have hnc86 := NB232_254.out
        have hnb87 := NB254_260.out
        have hnc87 := NB260_254.out
        have hcz88_0 : w84.cell? ⟨gb254, 0, none⟩ = some (.string t249) := (blk_cell BK254.out 0).trans rfl
        have hcz88_1 : w84.cell? ⟨gb254, 1, none⟩ = some (.int .i64 t250) := (blk_cell BK254.out 1).trans rfl
        have hcz88_2 : w84.cell? ⟨gb254, 2, none⟩ = some (.slice Ao47 t251.length co47) := (blk_cell BK254.out 2).trans rfl
        have hfz88_0 := blk_frozen BK254.out 0
        have hfz88_1 := blk_frozen BK254.out 1
        have hfz88_2 := blk_frozen BK254.out 2
        go_upto_region 21 with (first | ((with_reducible refine gate_callee (f := 27) rfl ?_); refine gL (some 66) Try.func27 #[.agg #[.string t249, .int .i64 t250, .slice Ao47 t251.length co47], .int .i64 1] ?_; (with_reducible refine (laws_markReport.calls kj24 t249 t250 ?P89 (.slice Ao47 t251.length co47) t251 1 t278 w _ ?side1 ?side2 ?side3 A72.out).mono ?_); (case side1 => repeat (first | (with_reducible first | exact HB.out | apply below_alloc | apply pw_below_drewN | apply below_drew1 | refine below_set ?_ GE231.out | refine below_set ?_ GE232.out | refine below_set ?_ GE254.out | refine below_set ?_ GE260.out) | exact HB.out)); (case side2 => exact Kd.S_bound (HO_255002.out)); (case side3 => exact fun k_ hk_ => hk_.2.2.1); rintro e w90 ⟨rfl, hb, hkp⟩; refine ⟨_, rfl, ?_⟩; have n0_ := AZ (Kd.R_mono (Kd.R_kept (Kd.R_tight rfl (HO_6.out)) hkp (fun k_ e_ hs_ => (typed_absurd ((hs_).2.2.2) (Kd.R_typed (HO_6.out) k_ (e_).symm) (by decide)))) (fun k_ e_ => (HO_6.out).1 k_ e_.symm)); have n1_ := AZ (Kd.R_mono (Kd.R_kept (Kd.R_tight rfl (HO_10.out)) hkp (fun k_ e_ hs_ => (typed_absurd ((hs_).2.2.2) (Kd.R_typed (HO_10.out) k_ (e_).symm) (by decide)))) (fun k_ e_ => (HO_10.out).1 k_ e_.symm)); have n2_ := AZ (Kd.S_mono (Kd.S_kept (Kd.S_bound (HO_261002.out)) hkp (fun k_ ho_ hs_ => (Nat.lt_irrefl _ (Nat.lt_of_lt_of_le ((hs_).1.1.1.1.1.2.2) ((ho_).1.1.1.1.1.2))))) (fun _ h_ => h_.1)); have n3_ := AZ (blk_kept (g := gb231) (o := .cells #[.string a0_0, .int .i64 a0_1, .slice A0_2 l0_2.length c0_2] 45 (0, 0)) (blkS BK231.out) hkp (fun hs_ => (typed_absurd ((hs_).2.2.2) ⟨_, blkS BK231.out⟩ (by decide)))); have n4_ := AZ (blk_kept (g := gb232) (o := .cells #[.string a1_0, .int .i64 a1_1, .slice A1_2 l1_2.length c1_2] 45 (0, 0)) (blkS BK232.out) hkp (fun hs_ => (typed_absurd ((hs_).2.2.2) ⟨_, blkS BK232.out⟩ (by decide)))); have n5_ := AZ (blk_kept (g := gb254) (o := .cells #[.string t249, .int .i64 t250, .slice Ao47 t251.length co47] 49 (0, 0)) (blkS BK254.out) hkp (fun hs_ => (typed_absurd ((hs_).2.2.2) ⟨_, blkS BK254.out⟩ (by decide)))); have n6_ := AZ (blk_kept (g := gb260) (o := .cells #[.string t255, .int .i64 t256, .slice Ao56 t257.length co56] 49 (0, 0)) (blkS BK260.out) hkp (fun hs_ => (typed_absurd ((hs_).2.2.2) ⟨_, blkS BK260.out⟩ (by decide)))); have n7_ := AZ (Kd.S_mono (Kd.S_kept (Kd.S_bound (HO270.out)) hkp (fun k_ ho_ hs_ => (Nat.lt_irrefl _ (Nat.lt_of_lt_of_le ((hs_).1.1.1.1.2) ((ho_).1.1.1.1.1.2))))) (fun _ h_ => h_.1)); have n8_ := AZ (Kd.S_mono (Kd.S_kept (Kd.S_bound (HO276.out)) hkp (fun k_ ho_ hs_ => (Nat.lt_irrefl _ (Nat.lt_of_lt_of_le ((hs_).1.1.2) ((ho_).1.1.1.1.2))))) (fun _ h_ => h_.1)); have n9_ := AZ (hb); clear HO_6; clear HO_10; clear HO_261002; clear BK231; clear BK232; clear BK254; clear BK260; clear HO270; clear HO276; clear HB; clear HO_255002; have HO_6 := n0_; have HO_10 := n1_; have HO_261002 := n2_; have BK231 := n3_; have BK232 := n4_; have BK254 := n5_; have BK260 := n6_; have HO270 := n7_; have HO276 := n8_; have HB := n9_; clear n0_ n1_ n2_ n3_ n4_ n5_ n6_ n7_ n8_ n9_; (try clear hb hkp); have hnb91 := NB260_231.out; have hnc91 := NB231_260.out; have hnb92 := NB260_232.out; have hnc92 := NB232_260.out; have hcz93_0 : w90.cell? ⟨gb260, 0, none⟩ = some (.string t255) := (blk_cell BK260.out 0).trans rfl; have hcz93_1 : w90.cell? ⟨gb260, 1, none⟩ = some (.int .i64 t256) := (blk_cell BK260.out 1).trans rfl; have hcz93_2 : w90.cell? ⟨gb260, 2, none⟩ = some (.slice Ao56 t257.length co56) := (blk_cell BK260.out 2).trans rfl; have hfz93_0 := blk_frozen BK260.out 0; have hfz93_1 := blk_frozen BK260.out 1; have hfz93_2 := blk_frozen BK260.out 2) | ((with_reducible refine gate_callee (f := 27) rfl ?_); refine gL (some 69) Try.func27 #[.agg #[.string t255, .int .i64 t256, .slice Ao56 t257.length co56], .int .i64 t278] ?_; (with_reducible refine (laws_markReport.calls kj24 t255 t256 ?P94 (.slice Ao56 t257.length co56) t257 t278 t279 w _ ?side1 ?side2 ?side3 A73.out).mono ?_); (case side1 => repeat (first | (with_reducible first | exact HB.out | apply below_alloc | apply pw_below_drewN | apply below_drew1 | refine below_set ?_ GE231.out | refine below_set ?_ GE232.out | refine below_set ?_ GE254.out | refine below_set ?_ GE260.out) | exact HB.out)); (case side2 => exact Kd.S_bound (HO_261002.out)); (case side3 => exact fun k_ hk_ => hk_.2.2.1); rintro e w95 ⟨rfl, hb, hkp⟩; refine ⟨_, rfl, ?_⟩; have n0_ := AZ (Kd.R_mono (Kd.R_kept (Kd.R_tight rfl (HO_6.out)) hkp (fun k_ e_ hs_ => (typed_absurd ((hs_).2.2.2) (Kd.R_typed (HO_6.out) k_ (e_).symm) (by decide)))) (fun k_ e_ => (HO_6.out).1 k_ e_.symm)); have n1_ := AZ (Kd.R_mono (Kd.R_kept (Kd.R_tight rfl (HO_10.out)) hkp (fun k_ e_ hs_ => (typed_absurd ((hs_).2.2.2) (Kd.R_typed (HO_10.out) k_ (e_).symm) (by decide)))) (fun k_ e_ => (HO_10.out).1 k_ e_.symm)); have n2_ := AZ (blk_kept (g := gb231) (o := .cells #[.string a0_0, .int .i64 a0_1, .slice A0_2 l0_2.length c0_2] 45 (0, 0)) (blkS BK231.out) hkp (fun hs_ => (typed_absurd ((hs_).2.2.2) ⟨_, blkS BK231.out⟩ (by decide)))); have n3_ := AZ (blk_kept (g := gb232) (o := .cells #[.string a1_0, .int .i64 a1_1, .slice A1_2 l1_2.length c1_2] 45 (0, 0)) (blkS BK232.out) hkp (fun hs_ => (typed_absurd ((hs_).2.2.2) ⟨_, blkS BK232.out⟩ (by decide)))); have n4_ := AZ (blk_kept (g := gb254) (o := .cells #[.string t249, .int .i64 t250, .slice Ao47 t251.length co47] 49 (0, 0)) (blkS BK254.out) hkp (fun hs_ => (typed_absurd ((hs_).2.2.2) ⟨_, blkS BK254.out⟩ (by decide)))); have n5_ := AZ (blk_kept (g := gb260) (o := .cells #[.string t255, .int .i64 t256, .slice Ao56 t257.length co56] 49 (0, 0)) (blkS BK260.out) hkp (fun hs_ => (typed_absurd ((hs_).2.2.2) ⟨_, blkS BK260.out⟩ (by decide)))); have n6_ := AZ (Kd.S_mono (Kd.S_kept (Kd.S_bound (HO270.out)) hkp (fun k_ ho_ hs_ => (Nat.lt_irrefl _ (Nat.lt_of_lt_of_le ((hs_).1.1.1.1.2) ((ho_).1.1.1.1.1.2))))) (fun _ h_ => h_.1)); have n7_ := AZ (Kd.S_mono (Kd.S_kept (Kd.S_bound (HO276.out)) hkp (fun k_ ho_ hs_ => (Nat.lt_irrefl _ (Nat.lt_of_lt_of_le ((hs_).1.1.2) ((ho_).1.1.1.1.2))))) (fun _ h_ => h_.1)); have n8_ := AZ (hb); clear HO_6; clear HO_10; clear BK231; clear BK232; clear BK254; clear BK260; clear HO270; clear HO276; clear HB; clear HO_261002; have HO_6 := n0_; have HO_10 := n1_; have BK231 := n2_; have BK232 := n3_; have BK254 := n4_; have BK260 := n5_; have HO270 := n6_; have HO276 := n7_; have HB := n8_; clear n0_ n1_ n2_ n3_ n4_ n5_ n6_ n7_ n8_; (try clear hb hkp)))
        (try simp only [Act.put, List.setIfInBounds_toArray, List.set_cons_zero, List.set_cons_succ])
        go_cut [82] (fun v82 wc => ∃ (kq : Nat) (x82_73 : Bool), v82 = .bool x82_73 ∧ Aside0 (laws_FnExactDifferRows.j1 kq t245 t248 t261 x82_73 a0_0 a0_1 l0_2 a1_0 a1_1 l1_2 = some r) ∧ Aside0 (kq ≤ kj24) ∧ Aside0 (Kd.R Kd.string 9 wc w.heap.size (fun k_ => some k_ ≠ (v262 : Value).ownBlock) v246 t245) ∧ Aside0 (Kd.R Kd.string 9 wc w.heap.size (fun k_ => some k_ ≠ (v246 : Value).ownBlock) v262 t261) ∧ Aside0 (wc.heap[gb231]? = some (.cells #[.string a0_0, .int .i64 a0_1, (.slice A0_2 l0_2.length c0_2)] 45 (0, 0))) ∧ Aside0 (wc.heap[gb232]? = some (.cells #[.string a1_0, .int .i64 a1_1, (.slice A1_2 l1_2.length c1_2)] 45 (0, 0))) ∧ Aside0 (Below w.heap.size w wc))
        case first =>
         have H := HC74.out
         clear HC74
         by_cases c96 : t279 < 0
         ·rw [if_pos c96] at H
          have c96b0 : decide (t279 < 0) = true := decide_eq_true c96
          clear c96
          (first | rw [c96b0] | (simp only [i64_w, i32_w]; rw [c96b0]) | skip)
          have H' := Aside0.mk H
          clear H
          go_wp2
          go_meet
          case rel => exact ⟨_, (true), (by first | rfl | (simp; done) | (simp [*]; done)), H', ⟨by have := HJ24.out; first | omega | exact Nat.le_refl _⟩, ⟨rS HO_6.out⟩, ⟨rS HO_10.out⟩, ⟨blkS BK231.out⟩, ⟨blkS BK232.out⟩, ⟨bS HB.out⟩⟩
         ·rw [if_neg c96] at H
          have c96b0 : decide (t279 < 0) = false := decide_eq_false c96
          clear c96
          (first | rw [c96b0] | (simp only [i64_w, i32_w]; rw [c96b0]) | skip)
          replace H := Option.bind_eq_some_iff.mp H
          obtain ⟨t280, A970, H⟩ := H
          replace H : (if t280 = true then (laws_FnExactDifferRows.j1 kj24 t245 t248 t261 (t264 != t248) a0_0 a0_1 l0_2 a1_0 a1_1 l1_2) else (laws_FnExactDifferRows.j1 kj24 t245 t248 t261 true a0_0 a0_1 l0_2 a1_0 a1_1 l1_2)) = some r := H
          have A97 := Aside0.mk A970
          clear A970
          by_cases c98 : t280 = true
          ·subst c98
           have H1 : (laws_FnExactDifferRows.j1 kj24 t245 t248 t261 (t264 != t248) a0_0 a0_1 l0_2 a1_0 a1_1 l1_2) = some r := by rw [if_pos rfl] at H; exact H
           clear H
           have H := H1
           clear H1
           have H' := Aside0.mk H
           clear H
           obtain ⟨Ao99, co99, eo99⟩ := Kd.R_slice HO_10.out
           subst eo99
           obtain ⟨Ao100, co100, eo100⟩ := Kd.R_slice HO_6.out
           subst eo100
           go_wp2_with (first | (go_at_call 31; (with_reducible refine (laws_eqStringS.calls kj24 _ _ t261 _ _ t245 true _ ?side1 ?side2 ?side3 ?side4 A97.out).mono ?_); (case side1 => exact cS (Kd.R_reads' HO_10.out).2.2); (case side2 => exact (Kd.R_reads' HO_10.out).2.1); (case side3 => exact cS (Kd.R_reads' HO_6.out).2.2); (case side4 => exact (Kd.R_reads' HO_6.out).2.1); rintro e w' ⟨rfl, ⟨nd, rfl⟩⟩))
           go_meet
           case rel => exact ⟨_, ((t264 != t248)), (by first | rfl | (simp; done) | (simp [*]; done)), H', ⟨by have := HJ24.out; first | omega | exact Nat.le_refl _⟩, ⟨rS HO_6.out⟩, ⟨rS HO_10.out⟩, ⟨blkS BK231.out⟩, ⟨blkS BK232.out⟩, ⟨bS HB.out⟩⟩
          ·replace c98 := Bool.eq_false_iff.mpr c98
           subst c98
           have H1 : (laws_FnExactDifferRows.j1 kj24 t245 t248 t261 true a0_0 a0_1 l0_2 a1_0 a1_1 l1_2) = some r := by rw [if_neg (show ¬ (false = true) by decide)] at H; exact H
           clear H
           have H := H1
           clear H1
           have H' := Aside0.mk H
           clear H
           obtain ⟨Ao101, co101, eo101⟩ := Kd.R_slice HO_10.out
           subst eo101
           obtain ⟨Ao102, co102, eo102⟩ := Kd.R_slice HO_6.out
           subst eo102
           go_wp2_with (first | (go_at_call 31; (with_reducible refine (laws_eqStringS.calls kj24 _ _ t261 _ _ t245 false _ ?side1 ?side2 ?side3 ?side4 A97.out).mono ?_); (case side1 => exact cS (Kd.R_reads' HO_10.out).2.2); (case side2 => exact (Kd.R_reads' HO_10.out).2.1); (case side3 => exact cS (Kd.R_reads' HO_6.out).2.2); (case side4 => exact (Kd.R_reads' HO_6.out).2.1); rintro e w' ⟨rfl, ⟨nd, rfl⟩⟩))
           go_meet
           case rel => exact ⟨_, (true), (by first | rfl | (simp; done) | (simp [*]; done)), H', ⟨by have := HJ24.out; first | omega | exact Nat.le_refl _⟩, ⟨rS HO_6.out⟩, ⟨rS HO_10.out⟩, ⟨blkS BK231.out⟩, ⟨blkS BK232.out⟩, ⟨bS HB.out⟩⟩
        case rest =>
         clear HC74
         try clear c1
         try clear c2
         try clear p2
         try clear c3
         try clear c4
         try clear c4b0
         try clear c5
         try clear c6
         try clear c7
         try clear c8
         try clear c9
         try clear c11
         try clear c11b0
         try clear c14
         try clear c22
         try clear c24
         try clear c26
         try clear c27
         try clear c28
         try clear c29
         try clear c30
         try clear c31
         try clear c44
         try clear c45
         try clear c52
         try clear c53
         try clear c54
         try clear c60
         try clear c65
         try clear c68
         try clear c71
         try clear c85
         try clear c86
         try clear c87
         try clear c91
         try clear c92
         try clear c96
         try clear c96b0
         try clear c98
         try clear hcz15_0
         try clear hcz15_1
         try clear hcz15_2
         try clear hcz17_0
         try clear hcz17_1
         try clear hcz17_2
         try clear hcz29_0
         try clear hcz29_1
         try clear hcz29_2
         try clear hcz31_0
         try clear hcz31_1
         try clear hcz31_2
         try clear hcz40_0
         try clear hcz40_1
         try clear hcz40_2
         try clear hcz46_0
         try clear hcz46_1
         try clear hcz46_2
         try clear hcz48_0
         try clear hcz48_1
         try clear hcz48_2
         try clear hcz55_0
         try clear hcz55_1
         try clear hcz55_2
         try clear hcz57_0
         try clear hcz57_1
         try clear hcz57_2
         try clear hcz88_0
         try clear hcz88_1
         try clear hcz88_2
         try clear hcz8_0
         try clear hcz8_1
         try clear hcz8_2
         try clear hcz93_0
         try clear hcz93_1
         try clear hcz93_2
         try clear hfz15_0
         try clear hfz15_1
         try clear hfz15_2
         try clear hfz17_0
         try clear hfz17_1
         try clear hfz17_2
         try clear hfz29_0
         try clear hfz29_1
         try clear hfz29_2
         try clear hfz31_0
         try clear hfz31_1
         try clear hfz31_2
         try clear hfz40_0
         try clear hfz40_1
         try clear hfz40_2
         try clear hfz46_0
         try clear hfz46_1
         try clear hfz46_2
         try clear hfz48_0
         try clear hfz48_1
         try clear hfz48_2
         try clear hfz55_0
         try clear hfz55_1
         try clear hfz55_2
         try clear hfz57_0
         try clear hfz57_1
         try clear hfz57_2
         try clear hfz88_0
         try clear hfz88_1
         try clear hfz88_2
         try clear hfz8_0
         try clear hfz8_1
         try clear hfz8_2
         try clear hfz93_0
         try clear hfz93_1
         try clear hfz93_2
         try clear p2
         obtain ⟨kq, x82_73, rfl, HA, HJ73, HO_6, HO_10, BK231, BK232, HB⟩ := hcut
         cases kq with
         | zero => exact absurd HA.out (by simp [laws_FnExactDifferRows.j1])
         | succ kj73 =>
          have H := HA.out
          clear HA
          simp only [laws_FnExactDifferRows.j1] at H
          by_cases c103 : x82_73 = true
          ·subst c103
           have H1 : (none) = some r := by rw [if_pos rfl] at H; exact H
           clear H
           have H := H1
           clear H1
           exact absurd H (by simp)
          ·replace c103 := Bool.eq_false_iff.mpr c103
           subst c103
           have H1 : ((laws_markStringS.f kj73 t261 1).bind fun bt281 => ((laws_heldStringS.f kj73 bt281.2 1).bind fun t283 => (if t283 < 0 then (none) else (if t283 = bt281.1 then ((laws_toReport.f kj73 a0_0 a0_1 l0_2).bind fun bt284 => ((laws_toReport.f kj73 a1_0 a1_1 l1_2).bind fun bt289 => ((impl_DifferRows.f kj73 bt284.1 bt284.2.1 bt284.2.2 bt289.1 bt289.2.1 bt289.2.2).bind fun bt294 => ((laws_eqStringS.f kj73 bt294.1 t245).bind fun t298 => (if t298 = true then (laws_FnExactDifferRows.j2 kj73 bt281.2 bt281.1 (bt294.2 != t248)) else (laws_FnExactDifferRows.j2 kj73 bt281.2 bt281.1 true)))))) else (none))))) = some r := by rw [if_neg (show ¬ (false = true) by decide)] at H; exact H
           clear H
           have H := H1
           clear H1
           replace H := Option.bind_eq_some_iff.mp H
           obtain ⟨⟨t281, t282⟩, A1040, H⟩ := H
           replace H : ((laws_heldStringS.f kj73 t282 1).bind fun t283 => (if t283 < 0 then (none) else (if t283 = t281 then ((laws_toReport.f kj73 a0_0 a0_1 l0_2).bind fun bt284 => ((laws_toReport.f kj73 a1_0 a1_1 l1_2).bind fun bt289 => ((impl_DifferRows.f kj73 bt284.1 bt284.2.1 bt284.2.2 bt289.1 bt289.2.1 bt289.2.2).bind fun bt294 => ((laws_eqStringS.f kj73 bt294.1 t245).bind fun t298 => (if t298 = true then (laws_FnExactDifferRows.j2 kj73 t282 t281 (bt294.2 != t248)) else (laws_FnExactDifferRows.j2 kj73 t282 t281 true)))))) else (none)))) = some r := H
           have A104 := Aside0.mk A1040
           clear A1040
           replace H := Option.bind_eq_some_iff.mp H
           obtain ⟨t283, A1050, H⟩ := H
           replace H : (if t283 < 0 then (none) else (if t283 = t281 then ((laws_toReport.f kj73 a0_0 a0_1 l0_2).bind fun bt284 => ((laws_toReport.f kj73 a1_0 a1_1 l1_2).bind fun bt289 => ((impl_DifferRows.f kj73 bt284.1 bt284.2.1 bt284.2.2 bt289.1 bt289.2.1 bt289.2.2).bind fun bt294 => ((laws_eqStringS.f kj73 bt294.1 t245).bind fun t298 => (if t298 = true then (laws_FnExactDifferRows.j2 kj73 t282 t281 (bt294.2 != t248)) else (laws_FnExactDifferRows.j2 kj73 t282 t281 true)))))) else (none))) = some r := H
           have A105 := Aside0.mk A1050
           clear A1050
           by_cases c106 : t283 < 0
           ·rw [if_pos c106] at H
            exact absurd H (by simp)
           ·rw [if_neg c106] at H
            have c106b0 : decide (t283 < 0) = false := decide_eq_false c106
            clear c106
            by_cases c107 : t283 = t281
            ·rw [if_pos c107] at H
             have c107b0 : (t283 == t281) = true := beq_iff_eq.mpr c107
             have c107b1 : (t283 != t281) = false := bne_eq_false_iff_eq.mpr c107
             clear c107
             replace H := Option.bind_eq_some_iff.mp H
             obtain ⟨⟨t284, t285, t286⟩, A1080, H⟩ := H
             replace H : ((laws_toReport.f kj73 a1_0 a1_1 l1_2).bind fun bt289 => ((impl_DifferRows.f kj73 t284 t285 t286 bt289.1 bt289.2.1 bt289.2.2).bind fun bt294 => ((laws_eqStringS.f kj73 bt294.1 t245).bind fun t298 => (if t298 = true then (laws_FnExactDifferRows.j2 kj73 t282 t281 (bt294.2 != t248)) else (laws_FnExactDifferRows.j2 kj73 t282 t281 true))))) = some r := H
             have A108 := Aside0.mk A1080
             clear A1080
             replace H := Option.bind_eq_some_iff.mp H
             obtain ⟨⟨t289, t290, t291⟩, A1090, H⟩ := H
             replace H : ((impl_DifferRows.f kj73 t284 t285 t286 t289 t290 t291).bind fun bt294 => ((laws_eqStringS.f kj73 bt294.1 t245).bind fun t298 => (if t298 = true then (laws_FnExactDifferRows.j2 kj73 t282 t281 (bt294.2 != t248)) else (laws_FnExactDifferRows.j2 kj73 t282 t281 true)))) = some r := H
             have A109 := Aside0.mk A1090
             clear A1090
             replace H := Option.bind_eq_some_iff.mp H
             obtain ⟨⟨t294, t297⟩, A1100, H⟩ := H
             replace H : ((laws_eqStringS.f kj73 t294 t245).bind fun t298 => (if t298 = true then (laws_FnExactDifferRows.j2 kj73 t282 t281 (t297 != t248)) else (laws_FnExactDifferRows.j2 kj73 t282 t281 true))) = some r := H
             have A110 := Aside0.mk A1100
             clear A1100
             have HC111 := Aside0.mk H
             clear H
             obtain ⟨Ao112, co112, eo112⟩ := Kd.R_slice HO_10.out
             subst eo112
             try go_wp2_with (first | ((with_reducible refine gate_callee (f := 32) rfl ?_); refine gL (some 85) Try.func32 #[.slice Ao112 t261.length co112, .int .i64 1] ?_; (with_reducible refine (laws_markStringS.calls kj73 (fun k_ => some k_ = (.slice Ao112 t261.length co112 : Value).ownBlock) (.slice Ao112 t261.length co112) t261 1 t281 t282 w _ ?side1 ?side2 A104.out).mono ?_); (case side1 => repeat (first | (with_reducible first | exact HB.out | apply below_alloc | apply pw_below_drewN | apply below_drew1 | refine below_set ?_ GE231.out | refine below_set ?_ GE232.out) | exact HB.out)); (case side2 => exact Kd.R_tight rfl HO_10.out); rintro e w113 ⟨rfl, hy0, hb, hkp⟩; refine ⟨_, rfl, ?_⟩; have n0_ := AZ (Kd.R_mono (ok' := fun k_ => some k_ ≠ (.slice Ao112 t261.length co112 : Value).ownBlock) (Kd.R_keptB (HO_6.out) hkp (fun k_ hk_ hs_ => (hk_) hs_)) (fun k_ hk_ => hk_.1)); have n1_ := AZ (Kd.R_reok rfl hy0 (fun k_ e_ => HO_10.out.1 k_ e_)); have n2_ := AZ (blk_kept (blkS BK231.out) hkp (fun hs_ => (fun e_ => (Kd.R_ne HO_10.out BK231.out (by decide)) e_) hs_)); have n3_ := AZ (blk_kept (blkS BK232.out) hkp (fun hs_ => (fun e_ => (Kd.R_ne HO_10.out BK232.out (by decide)) e_) hs_)); have n4_ := AZ (hb); clear HO_6; clear HO_10; clear BK231; clear BK232; clear HB; have HO_6 := n0_; have HO_10 := n1_; have BK231 := n2_; have BK232 := n3_; have HB := n4_; clear n0_ n1_ n2_ n3_ n4_; (try clear hb); (try clear hkp); (try clear hy0)) | ((with_reducible refine gate_callee (f := 33) rfl ?_); refine goesL_ (some 88) rfl rfl Try.func33 (by kernel_rfl) rfl #[.slice Ao112 t282.length co112, .int .i64 1] rfl (by (try simp only [List.map_toArray, List.map_cons, List.map_nil]); first | done | (rw [show t282.length = t261.length from (Kd.R_reads' HO_10.out).1.symm] <;> rfl) | rfl | (simp only [List.length_drop, List.length_take]; rfl)) ?_; (with_reducible refine (laws_heldStringS.calls kj73 _ _ t282 1 t283 _ ?side1 ?side2 A105.out).mono ?_); (case side1 => exact cS (Kd.R_reads' HO_10.out).2.2); (case side2 => rw [show t282.length = t261.length from (Kd.R_reads' HO_10.out).1.symm]; exact (Kd.R_reads' HO_10.out).2.1); rintro e w114 ⟨rfl, hb⟩; refine ⟨_, rfl, ?_⟩; have n0_ := AZ (Kd.R_below (rS HO_6.out) hb); have n1_ := AZ (Kd.R_below (rS HO_10.out) hb); have n2_ := blkA BK231 hb; have n3_ := blkA BK232 hb; have n4_ := AZ (below_step (bS HB.out) hb); clear HO_6; clear HO_10; clear BK231; clear BK232; clear HB; have HO_6 := n0_; have HO_10 := n1_; have BK231 := n2_; have BK232 := n3_; have HB := n4_; clear n0_ n1_ n2_ n3_ n4_; (try clear hb)))
             have n0_ := AZ (Kd.R_drew HO_6.out)
             have n1_ := AZ (Kd.R_drew HO_10.out)
             have n2_ := AZ (blk_drew BK231.out)
             have n3_ := AZ (blk_drew BK232.out)
             have n4_ := AZ (below_drew1 HB.out)
             clear HO_6
             clear HO_10
             clear BK231
             clear BK232
             clear HB
             have HO_6 := n0_
             have HO_10 := n1_
             have BK231 := n2_
             have BK232 := n3_
             have HB := n4_
             clear n0_ n1_ n2_ n3_ n4_
             refine start_ (n := 10) (S := fun w' => w'.cell? ⟨gb231, 0, none⟩ = some (.string a0_0) ∧ w'.cell? ⟨gb231, 1, none⟩ = some (.int .i64 a0_1) ∧ w'.cell? ⟨gb231, 2, none⟩ = some (.slice A0_2 l0_2.length c0_2) ∧ w'.cell? ⟨gb232, 0, none⟩ = some (.string a1_0) ∧ w'.cell? ⟨gb232, 1, none⟩ = some (.int .i64 a1_1) ∧ w'.cell? ⟨gb232, 2, none⟩ = some (.slice A1_2 l1_2.length c1_2)) (ds := []) #[false, false, false, false, false, false, false, false, false, false] (by kernel_rfl) rfl rfl ⟨(blk_cell BK231.out 0).trans rfl, (blk_cell BK231.out 1).trans rfl, (blk_cell BK231.out 2).trans rfl, (blk_cell BK232.out 0).trans rfl, (blk_cell BK232.out 1).trans rfl, (blk_cell BK232.out 2).trans rfl⟩ (fun hHeld => ?_); refine with_tabW laws_FnExactDifferRows.tab31 laws_FnExactDifferRows.bits31 (fun HT_ HW_ => ?_)
             generalize w114.drew = w115 at HO_6 HO_10 BK231 BK232 HB hHeld ⊢
             refine take_ (i := 0) (N := some 95) (v := ?_) (a' := ?_) #[true, false, false, false, false, false, false, false, false, false] rfl rfl (take_ofW HT_.out HW_.out (by kernel_rfl)) (fun _ _ _ h => h) (Or.inl ⟨by rfl, ?_⟩) hHeld ?_ ?_
             rotate_left
             ·rintro w' ⟨s0, s1, s2, s3, s4, s5⟩
              go_simp
              with_reducible rfl
             rotate_left
             ·simp only [Act.put, List.setIfInBounds_toArray, List.set_cons_zero, List.set_cons_succ, i64_w, i32_w]
              rfl
             refine take_ (i := 2) (N := some 97) (v := ?_) (a' := ?_) #[true, false, true, false, false, false, false, false, false, false] rfl rfl (take_ofW HT_.out HW_.out (by kernel_rfl)) (fun _ _ _ h => h) (Or.inl ⟨by rfl, ?_⟩) hHeld ?_ ?_
             rotate_left
             ·rintro w' ⟨s0, s1, s2, s3, s4, s5⟩
              go_simp
              with_reducible rfl
             rotate_left
             ·simp only [Act.put, List.setIfInBounds_toArray, List.set_cons_zero, List.set_cons_succ, i64_w, i32_w]
              rfl
             refine one_ (i := 1) (N := some 96) #[true, true, true, false, false, false, false, false, false, false] rfl rfl (one_of HT_.out (by kernel_rfl)) (by decide) (fun K hK => ?_)
             refine goes_ Try.func24 (by kernel_rfl) rfl #[.agg #[.string a0_0, .int .i64 a0_1, .slice A0_2 l0_2.length c0_2]] (by rfl) rfl rfl (by (try simp only [List.map_toArray, List.map_cons, List.map_nil]); first | done | rfl | (simp only [List.length_drop, List.length_take]; rfl)) ?_
             with_reducible refine (laws_toReport.calls kj73 a0_0 a0_1 _ _ l0_2 t284 t285 t286 _ ?side1 ?side2 A108.out).mono ?_
             (case side1 => exact cS (Kd.C_below HR0_2.out HB.out))
             (case side2 => exact HC0_2.out)
             rintro e w116 ⟨v287, rfl, ho0, hb⟩
             refine ⟨_, rfl, ?_⟩
             have n0_ := AZ (Kd.R_below (rS HO_6.out) hb)
             have n1_ := AZ (Kd.R_below (rS HO_10.out) hb)
             have n2_ := AZ (Kd.S_lower ho0 (below_size (bS HB.out)))
             have n3_ := blkA BK231 hb
             have n4_ := blkA BK232 hb
             have n5_ := AZ (below_step (bS HB.out) hb)
             clear HO_6
             clear HO_10
             clear BK231
             clear BK232
             clear HB
             have HO_6 := n0_
             have HO_10 := n1_
             have HO288 := n2_
             have BK231 := n3_
             have BK232 := n4_
             have HB := n5_
             clear n0_ n1_ n2_ n3_ n4_ n5_
             (try clear hb)
             (try clear hb2)
             (try clear hk)
             (try clear hi)
             (try clear ho0)
             refine hK.out _ _ ⟨(blk_cell BK231.out 0).trans rfl, (blk_cell BK231.out 1).trans rfl, (blk_cell BK231.out 2).trans rfl, (blk_cell BK232.out 0).trans rfl, (blk_cell BK232.out 1).trans rfl, (blk_cell BK232.out 2).trans rfl⟩ (fun hHeld => ?_)
             clear hK K
             refine norm_ (a' := ?_) ?_ ?_
             rotate_left
             ·show Act.put _ (some 96) _ = _
              simp only [Act.put, List.setIfInBounds_toArray, List.set_cons_zero, List.set_cons_succ, i64_w, i32_w]
              rfl
             refine one_ (i := 3) (N := some 98) #[true, true, true, true, false, false, false, false, false, false] rfl rfl (one_of HT_.out (by kernel_rfl)) (by decide) (fun K hK => ?_)
             refine goes_ Try.func24 (by kernel_rfl) rfl #[.agg #[.string a1_0, .int .i64 a1_1, .slice A1_2 l1_2.length c1_2]] (by rfl) rfl rfl (by (try simp only [List.map_toArray, List.map_cons, List.map_nil]); first | done | rfl | (simp only [List.length_drop, List.length_take]; rfl)) ?_
             with_reducible refine (laws_toReport.calls kj73 a1_0 a1_1 _ _ l1_2 t289 t290 t291 _ ?side1 ?side2 A109.out).mono ?_
             (case side1 => exact cS (Kd.C_below HR1_2.out HB.out))
             (case side2 => exact HC1_2.out)
             rintro e w117 ⟨v292, rfl, ho0, hb⟩
             refine ⟨_, rfl, ?_⟩
             obtain ⟨N118, eN118⟩ := cutN hb
             have n0_ := AZ (Kd.R_below (rS HO_6.out) hb)
             have n1_ := AZ (Kd.R_below (rS HO_10.out) hb)
             have n2_ := AZ (Kd.S_elder' ((S_ltN (sS HO288.out) eN118)) (Kd.S_base ho0) hb)
             have n3_ := AZ (Kd.S_lower (Kd.S_new' (S_geN ho0 eN118) (Kd.S_lt (sS HO288.out))) (below_size (bS HB.out)))
             have n4_ := blkA BK231 hb
             have n5_ := blkA BK232 hb
             have n6_ := AZ (below_step (bS HB.out) hb)
             clear HO_6
             clear HO_10
             clear HO288
             clear BK231
             clear BK232
             clear HB
             have HO_6 := n0_
             have HO_10 := n1_
             have HO288 := n2_
             have HO293 := n3_
             have BK231 := n4_
             have BK232 := n5_
             have HB := n6_
             clear n0_ n1_ n2_ n3_ n4_ n5_ n6_
             (try clear hb)
             (try clear hb2)
             (try clear hk)
             (try clear hi)
             (try clear ho0)
             obtain ⟨Ao119, co119, eo119⟩ := Kd.S_slice HO288.out
             (first | subst eo119 | (injection eo119 with f1_ f2_ f3_; have f4_ := f1_.symm; have f5_ := f3_.symm; clear f1_ f2_ f3_; subst f4_; subst f5_))
             obtain ⟨Ao120, co120, eo120⟩ := Kd.S_slice HO293.out
             (first | subst eo120 | (injection eo120 with f1_ f2_ f3_; have f4_ := f1_.symm; have f5_ := f3_.symm; clear f1_ f2_ f3_; subst f4_; subst f5_))
             refine hK.out _ _ ⟨(blk_cell BK231.out 0).trans rfl, (blk_cell BK231.out 1).trans rfl, (blk_cell BK231.out 2).trans rfl, (blk_cell BK232.out 0).trans rfl, (blk_cell BK232.out 1).trans rfl, (blk_cell BK232.out 2).trans rfl⟩ (fun hHeld => ?_)
             clear hK K
             refine norm_ (a' := ?_) ?_ ?_
             rotate_left
             ·show Act.put _ (some 98) _ = _
              simp only [Act.put, List.setIfInBounds_toArray, List.set_cons_zero, List.set_cons_succ, i64_w, i32_w]
              rfl
             refine one_ (i := 4) (N := some 99) #[true, true, true, true, true, false, false, false, false, false] rfl rfl (one_of HT_.out (by kernel_rfl)) (by decide) (fun K hK => ?_)
             refine goes_ Try.func30 (by kernel_rfl) rfl #[.agg #[.string t284, .int .i64 t285, .slice Ao119 t286.length co119], .agg #[.string t289, .int .i64 t290, .slice Ao120 t291.length co120]] (by rfl) rfl rfl (by (try simp only [List.map_toArray, List.map_cons, List.map_nil]); first | done | rfl | (simp only [List.length_drop, List.length_take]; rfl)) ?_
             with_reducible refine (impl_DifferRows.calls kj73 t284 t285 _ _ t286 t289 t290 _ _ t291 t294 t297 _ ?side1 ?side2 ?side3 ?side4 A110.out).mono ?_
             (case side1 => exact cS (Kd.S_reads' HO288.out).2.2)
             (case side2 => exact (Kd.S_reads' HO288.out).2.1)
             (case side3 => exact cS (Kd.S_reads' HO293.out).2.2)
             (case side4 => exact (Kd.S_reads' HO293.out).2.1)
             rintro e w121 ⟨v295, rfl, ho0, hb⟩
             refine ⟨_, rfl, ?_⟩
             have n0_ := AZ (Kd.R_elder' (rS HO_6.out) (Kd.R_base ho0) hb)
             have n1_ := AZ (Kd.R_elder' (rS HO_10.out) (Kd.R_base ho0) hb)
             have n2_ := AZ (Kd.S_below (sS HO288.out) hb)
             have n3_ := AZ (Kd.S_below (sS HO293.out) hb)
             have n4_ := AZ (Kd.R_lower (Kd.R_new' (Kd.R_new' ho0 (Kd.R_lt (rS HO_6.out))) (Kd.R_lt (rS HO_10.out))) (below_size (bS HB.out)))
             have n5_ := blkA BK231 hb
             have n6_ := blkA BK232 hb
             have n7_ := AZ (below_step (bS HB.out) hb)
             clear HO_6
             clear HO_10
             clear HO288
             clear HO293
             clear BK231
             clear BK232
             clear HB
             have HO_6 := n0_
             have HO_10 := n1_
             have HO288 := n2_
             have HO293 := n3_
             have HO296 := n4_
             have BK231 := n5_
             have BK232 := n6_
             have HB := n7_
             clear n0_ n1_ n2_ n3_ n4_ n5_ n6_ n7_
             (try clear hb)
             (try clear hb2)
             (try clear hk)
             (try clear hi)
             (try clear ho0)
             refine hK.out _ _ ⟨(blk_cell BK231.out 0).trans rfl, (blk_cell BK231.out 1).trans rfl, (blk_cell BK231.out 2).trans rfl, (blk_cell BK232.out 0).trans rfl, (blk_cell BK232.out 1).trans rfl, (blk_cell BK232.out 2).trans rfl⟩ (fun hHeld => ?_)
             clear hK K
             refine norm_ (a' := ?_) ?_ ?_
             rotate_left
             ·show Act.put _ (some 99) _ = _
              simp only [Act.put, List.setIfInBounds_toArray, List.set_cons_zero, List.set_cons_succ, i64_w, i32_w]
              rfl
             refine pure_ (i := 5) (N := some 94) (v := ?_) (a' := ?_) #[true, true, true, true, true, true, false, false, false, false] rfl rfl (any_of HT_.out (by kernel_rfl)) (fun _ _ _ h => h) (Or.inl ⟨by rfl, ?_⟩) ?_ ?_
             rotate_left
             ·intro w'
              go_simp
              with_reducible rfl
             rotate_left
             ·simp only [Act.put, List.setIfInBounds_toArray, List.set_cons_zero, List.set_cons_succ, i64_w, i32_w]
              rfl
             refine pure_ (i := 6) (N := some 100) (v := ?_) (a' := ?_) #[true, true, true, true, true, true, true, false, false, false] rfl rfl (any_of HT_.out (by kernel_rfl)) (fun _ _ _ h => h) (Or.inl ⟨by rfl, ?_⟩) ?_ ?_
             rotate_left
             ·intro w'
              go_simp
              with_reducible rfl
             rotate_left
             ·simp only [Act.put, List.setIfInBounds_toArray, List.set_cons_zero, List.set_cons_succ, i64_w, i32_w]
              rfl
             refine pure_ (i := 7) (N := some 101) (v := ?_) (a' := ?_) #[true, true, true, true, true, true, true, true, false, false] rfl rfl (any_of HT_.out (by kernel_rfl)) (fun _ _ _ h => h) (Or.inl ⟨by rfl, ?_⟩) ?_ ?_
             rotate_left
             ·intro w'
              go_simp
              with_reducible rfl
             rotate_left
             ·simp only [Act.put, List.setIfInBounds_toArray, List.set_cons_zero, List.set_cons_succ, i64_w, i32_w]
              rfl
             refine pure_ (i := 8) (N := some 15) (v := ?_) (a' := ?_) #[true, true, true, true, true, true, true, true, true, false] rfl rfl (any_of HT_.out (by kernel_rfl)) (fun _ _ _ h => h) (Or.inl ⟨by rfl, ?_⟩) ?_ ?_
             rotate_left
             ·intro w'
              go_simp
              with_reducible rfl
             rotate_left
             ·simp only [Act.put, List.setIfInBounds_toArray, List.set_cons_zero, List.set_cons_succ, i64_w, i32_w]
              rfl
             refine pure_ (i := 9) (N := some 16) (v := ?_) (a' := ?_) #[true, true, true, true, true, true, true, true, true, true] rfl rfl (any_of HT_.out (by kernel_rfl)) (fun _ _ _ h => h) (Or.inl ⟨by rfl, ?_⟩) ?_ ?_
             rotate_left
             ·intro w'
              go_simp
              with_reducible rfl
             rotate_left
             ·simp only [Act.put, List.setIfInBounds_toArray, List.set_cons_zero, List.set_cons_succ, i64_w, i32_w]
              rfl
             refine done_ (done_of HT_.out (by kernel_rfl)) ?_
             go_upto_region 32 with (fail)
             go_cut [110] (fun v110 wc => ∃ (kq : Nat) (x110_110 : Bool), v110 = .bool x110_110 ∧ Aside0 (laws_FnExactDifferRows.j2 kq t282 t281 x110_110 = some r) ∧ Aside0 (kq ≤ kj73) ∧ Aside0 (Kd.R Kd.string 9 wc w.heap.size (fun _ => True) (.slice Ao112 t261.length co112) t282) ∧ Aside0 (wc.heap[gb231]? = some (.cells #[.string a0_0, .int .i64 a0_1, (.slice A0_2 l0_2.length c0_2)] 45 (0, 0))) ∧ Aside0 (wc.heap[gb232]? = some (.cells #[.string a1_0, .int .i64 a1_1, (.slice A1_2 l1_2.length c1_2)] 45 (0, 0))) ∧ Aside0 (Below w.heap.size w wc))
             case first =>
              have H := HC111.out
              clear HC111
              replace H := Option.bind_eq_some_iff.mp H
              obtain ⟨t298, A1220, H⟩ := H
              replace H : (if t298 = true then (laws_FnExactDifferRows.j2 kj73 t282 t281 (t297 != t248)) else (laws_FnExactDifferRows.j2 kj73 t282 t281 true)) = some r := H
              have A122 := Aside0.mk A1220
              clear A1220
              by_cases c123 : t298 = true
              ·subst c123
               have H1 : (laws_FnExactDifferRows.j2 kj73 t282 t281 (t297 != t248)) = some r := by rw [if_pos rfl] at H; exact H
               clear H
               have H := H1
               clear H1
               have H' := Aside0.mk H
               clear H
               obtain ⟨Ao124, co124, eo124⟩ := Kd.R_slice HO296.out
               subst eo124
               obtain ⟨Ao125, co125, eo125⟩ := Kd.R_slice HO_6.out
               subst eo125
               go_wp2_with (first | ((with_reducible refine gate_callee (f := 31) rfl ?_); refine gL (some 104) Try.func31 #[.slice Ao124 t294.length co124, .slice Ao125 t245.length co125] ?_; (with_reducible refine (laws_eqStringS.calls kj73 _ _ t294 _ _ t245 true _ ?side1 ?side2 ?side3 ?side4 A122.out).mono ?_); (case side1 => exact cS (Kd.R_reads' HO296.out).2.2); (case side2 => exact (Kd.R_reads' HO296.out).2.1); (case side3 => exact cS (Kd.R_reads' HO_6.out).2.2); (case side4 => exact (Kd.R_reads' HO_6.out).2.1); rintro e w' ⟨rfl, ⟨nd, rfl⟩⟩; refine ⟨_, rfl, ?_⟩))
               go_meet
               case rel => exact ⟨_, ((t297 != t248)), (by first | rfl | (simp; done) | (simp [*]; done)), H', ⟨by have := HJ24.out; have := HJ73.out; first | omega | exact Nat.le_refl _⟩, ⟨rS (Kd.R_mono HO_10.out (fun _ hk => trivial))⟩, ⟨blkS BK231.out⟩, ⟨blkS BK232.out⟩, ⟨bS HB.out⟩⟩
              ·replace c123 := Bool.eq_false_iff.mpr c123
               subst c123
               have H1 : (laws_FnExactDifferRows.j2 kj73 t282 t281 true) = some r := by rw [if_neg (show ¬ (false = true) by decide)] at H; exact H
               clear H
               have H := H1
               clear H1
               have H' := Aside0.mk H
               clear H
               obtain ⟨Ao126, co126, eo126⟩ := Kd.R_slice HO296.out
               subst eo126
               obtain ⟨Ao127, co127, eo127⟩ := Kd.R_slice HO_6.out
               subst eo127
               go_wp2_with (first | ((with_reducible refine gate_callee (f := 31) rfl ?_); refine gL (some 104) Try.func31 #[.slice Ao126 t294.length co126, .slice Ao127 t245.length co127] ?_; (with_reducible refine (laws_eqStringS.calls kj73 _ _ t294 _ _ t245 false _ ?side1 ?side2 ?side3 ?side4 A122.out).mono ?_); (case side1 => exact cS (Kd.R_reads' HO296.out).2.2); (case side2 => exact (Kd.R_reads' HO296.out).2.1); (case side3 => exact cS (Kd.R_reads' HO_6.out).2.2); (case side4 => exact (Kd.R_reads' HO_6.out).2.1); rintro e w' ⟨rfl, ⟨nd, rfl⟩⟩; refine ⟨_, rfl, ?_⟩))
               go_meet
               case rel => exact ⟨_, (true), (by first | rfl | (simp; done) | (simp [*]; done)), H', ⟨by have := HJ24.out; have := HJ73.out; first | omega | exact Nat.le_refl _⟩, ⟨rS (Kd.R_mono HO_10.out (fun _ hk => trivial))⟩, ⟨blkS BK231.out⟩, ⟨blkS BK232.out⟩, ⟨bS HB.out⟩⟩
             case rest =>
              clear HC111
              try clear c1
              try clear c2
              try clear p2
              try clear c3
              try clear c4
              try clear c4b0
              try clear c5
              try clear c6
              try clear c7
              try clear c8
              try clear c9
              try clear c10
              try clear c11
              try clear c11b0
              try clear c12
              try clear c14
              try clear c22
              try clear c24
              try clear c26
              try clear c27
              try clear c28
              try clear c29
              try clear c30
              try clear c31
              try clear c32
              try clear c33
              try clear c44
              try clear c45
              try clear c52
              try clear c53
              try clear c54
              try clear c60
              try clear c65
              try clear c68
              try clear c71
              try clear c85
              try clear c86
              try clear c87
              try clear c91
              try clear c92
              try clear c96
              try clear c96b0
              try clear c98
              try clear c103
              try clear c106
              try clear c106b0
              try clear c107
              try clear c107b0
              try clear c107b1
              try clear c123
              try clear hcz15_0
              try clear hcz15_1
              try clear hcz15_2
              try clear hcz17_0
              try clear hcz17_1
              try clear hcz17_2
              try clear hcz29_0
              try clear hcz29_1
              try clear hcz29_2
              try clear hcz31_0
              try clear hcz31_1
              try clear hcz31_2
              try clear hcz40_0
              try clear hcz40_1
              try clear hcz40_2
              try clear hcz46_0
              try clear hcz46_1
              try clear hcz46_2
              try clear hcz48_0
              try clear hcz48_1
              try clear hcz48_2
              try clear hcz55_0
              try clear hcz55_1
              try clear hcz55_2
              try clear hcz57_0
              try clear hcz57_1
              try clear hcz57_2
              try clear hcz88_0
              try clear hcz88_1
              try clear hcz88_2
              try clear hcz8_0
              try clear hcz8_1
              try clear hcz8_2
              try clear hcz93_0
              try clear hcz93_1
              try clear hcz93_2
              try clear hfz15_0
              try clear hfz15_1
              try clear hfz15_2
              try clear hfz17_0
              try clear hfz17_1
              try clear hfz17_2
              try clear hfz29_0
              try clear hfz29_1
              try clear hfz29_2
              try clear hfz31_0
              try clear hfz31_1
              try clear hfz31_2
              try clear hfz40_0
              try clear hfz40_1
              try clear hfz40_2
              try clear hfz46_0
              try clear hfz46_1
              try clear hfz46_2
              try clear hfz48_0
              try clear hfz48_1
              try clear hfz48_2
              try clear hfz55_0
              try clear hfz55_1
              try clear hfz55_2
              try clear hfz57_0
              try clear hfz57_1
              try clear hfz57_2
              try clear hfz88_0
              try clear hfz88_1
              try clear hfz88_2
              try clear hfz8_0
              try clear hfz8_1
              try clear hfz8_2
              try clear hfz93_0
              try clear hfz93_1
              try clear hfz93_2
              try clear p2
              obtain ⟨kq, x110_110, rfl, HA, HJ110, HO_10, BK231, BK232, HB⟩ := hcut
              have hl10_110 := (Kd.R_reads' HO_10.out).1
              rw [hl10_110] at HO_10
              (try simp only [hl10_110])
              (try simp only [hl10_110] at BK231)
              (try simp only [hl10_110] at BK232)
              cases kq with
              | zero => exact absurd HA.out (by simp [laws_FnExactDifferRows.j2])
              | succ kj110 =>
               have H := HA.out
               clear HA
               simp only [laws_FnExactDifferRows.j2] at H
               by_cases c128 : x110_110 = true
               ·subst c128
                have H1 : (none) = some r := by rw [if_pos rfl] at H; exact H
                clear H
                have H := H1
                clear H1
                exact absurd H (by simp)
               ·replace c128 := Bool.eq_false_iff.mpr c128
                subst c128
                have H1 : ((laws_heldStringS.f kj110 t282 1).bind fun t299 => (if t299 < 0 then (none) else (if t299 = t281 then (some true) else (none)))) = some r := by rw [if_neg (show ¬ (false = true) by decide)] at H; exact H
                clear H
                have H := H1
                clear H1
                replace H := Option.bind_eq_some_iff.mp H
                obtain ⟨t299, A1290, H⟩ := H
                replace H : (if t299 < 0 then (none) else (if t299 = t281 then (some true) else (none))) = some r := H
                have A129 := Aside0.mk A1290
                clear A1290
                by_cases c130 : t299 < 0
                ·rw [if_pos c130] at H
                 exact absurd H (by simp)
                ·rw [if_neg c130] at H
                 have c130b0 : decide (t299 < 0) = false := decide_eq_false c130
                 clear c130
                 by_cases c131 : t299 = t281
                 ·rw [if_pos c131] at H
                  have c131b0 : (t299 == t281) = true := beq_iff_eq.mpr c131
                  have c131b1 : (t299 != t281) = false := bne_eq_false_iff_eq.mpr c131
                  clear c131
                  obtain rfl := Option.some.inj H
                  go_wp2_with (first | ((with_reducible refine gate_callee (f := 33) rfl ?_); refine gL (some 113) Try.func33 #[.slice Ao112 t282.length co112, .int .i64 1] ?_; (with_reducible refine (laws_heldStringS.calls kj110 _ _ t282 1 t299 _ ?side1 ?side2 A129.out).mono ?_); (case side1 => exact cS (Kd.R_reads' HO_10.out).2.2); (case side2 => exact (Kd.R_reads' HO_10.out).2.1); rintro e w132 ⟨rfl, hb⟩; refine ⟨_, rfl, ?_⟩; have n0_ := AZ (Kd.R_below (rS HO_10.out) hb); have n1_ := blkA BK231 hb; have n2_ := blkA BK232 hb; have n3_ := AZ (below_step (bS HB.out) hb); clear HO_10; clear BK231; clear BK232; clear HB; have HO_10 := n0_; have BK231 := n1_; have BK232 := n2_; have HB := n3_; clear n0_ n1_ n2_ n3_; (try clear hb)))
                  go_ret
                  exact ⟨by first | rfl | (simp; done) | (simp [*]; done), bS HB.out⟩
                 ·rw [if_neg c131] at H
                  exact absurd H (by simp)
            ·rw [if_neg c107] at H
             exact absurd H (by simp)
       ·replace c71 := Bool.eq_false_iff.mpr c71
        subst c71
        have H1 : (none) = some r := by rw [if_neg (show ¬ (false = true) by decide)] at H; exact H
        clear H
        have H := H1
        clear H1
        exact absurd H (by simp)
      ·replace c68 := Bool.eq_false_iff.mpr c68
       subst c68
       have H1 : (none) = some r := by rw [if_neg (show ¬ (false = true) by decide)] at H; exact H
       clear H
       have H := H1
       clear H1
       exact absurd H (by simp)

end Go.Proofs.Ytpfjjheognelhaa.PFnExactDifferRows
