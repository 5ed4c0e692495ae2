-- Written by a program of this claim (patch_print.py over the print): no hand has typed it.
import Derived.Test.YtoaefflonebgkaaPFnExactSumRowx0
import Derived.Test.YtoaefflonebgkaaPFnExactSumRowx1
import Derived.Test.YtoaefflonebgkaaPFnExactSumRowx2
import Derived.Test.YtoaefflonebgkaaPFnExactSumRowx3
import Derived.Test.YtoaefflonebgkaaPFnExactSumRowx4
import Derived.Test.YtoaefflonebgkaaPFnExactSumRowx7
namespace Go.Proofs.Ytoaefflonebgkaa.PFnExactSumRow
open Go.RowKit Go.Proofs.YtoaefflonebgkaaW.PrintWords Go.Proofs.YtoaefflonebgkaaW.PrintLast Go.Proofs.YtoaefflonebgkaaW.PrintMore
attribute [local go_sem] max2_int min2_int max_two min_two max_three min_three max_four min_four   -- for this text's walks alone
set_option linter.unusedVariables false
set_option linter.unusedSimpArgs false

/-! ### laws_FnExactSumRow: function 11 -/
mutual
def laws_FnExactSumRow.j0 : Nat → Bool → Bool → Bool → ByteArray → Int → List (S84) → ByteArray → List Int → ByteArray → Int → List (S58) → ByteArray → List Int → Option (Bool)
  | 0, _, _, _, _, _, _, _, _, _, _, _, _, _ => none
  | k + 1, x5, x8, x40, x210000, x210001, x210002, x222000, x222001, x228000, x228001, x228002, x234000, x234001 => if x40 = true then (none) else ((laws_toReport.f k x210000 x210001 x210002).bind fun bt235 => ((laws_eqReport.f k x228000 x228001 x228002 bt235.1 bt235.2.1 bt235.2.2).bind fun t240 => (if t240 = true then ((laws_markReport.f k x228000 x228001 x228002 1).bind fun t241 => (if t241 < 0 then (laws_FnExactSumRow.j1 k x5 true x210000 x210001 x210002 x222000 x222001 x234000 x234001) else ((laws_eqRow.f k x234000 x234001 x222000 x222001).bind fun t242 => (if t242 = true then (laws_FnExactSumRow.j1 k x5 (x8 != x5) x210000 x210001 x210002 x222000 x222001 x234000 x234001) else (laws_FnExactSumRow.j1 k x5 true x210000 x210001 x210002 x222000 x222001 x234000 x234001))))) else (none))))
def laws_FnExactSumRow.j1 : Nat → Bool → Bool → ByteArray → Int → List (S84) → ByteArray → List Int → ByteArray → List Int → Option (Bool)
  | 0, _, _, _, _, _, _, _, _, _ => none
  | k + 1, x5, x61, x210000, x210001, x210002, x222000, x222001, x234000, x234001 => if x61 = true then (none) else ((laws_markRow.f k x234000 x234001 1).bind fun bt243 => ((laws_heldRow.f k x234000 bt243.2 1).bind fun t245 => (if t245 < 0 then (none) else (if t245 = bt243.1 then ((laws_toReport.f k x210000 x210001 x210002).bind fun bt246 => ((impl_SumRow.f k bt246.1 bt246.2.1 bt246.2.2).bind fun bt251 => ((laws_eqRow.f k bt251.1 bt251.2.1 x222000 x222001).bind fun t257 => (if t257 = true then (laws_FnExactSumRow.j2 k bt243.1 (bt251.2.2 != x5) x234000 bt243.2) else (laws_FnExactSumRow.j2 k bt243.1 true x234000 bt243.2))))) else (none)))))
def laws_FnExactSumRow.j2 : Nat → Int → Bool → ByteArray → List Int → Option (Bool)
  | 0, _, _, _, _ => none
  | k + 1, x10, x87, x234000, x234001 => if x87 = true then (none) else ((laws_heldRow.f k x234000 x234001 1).bind fun t258 => (if t258 < 0 then (none) else (if t258 = x10 then (some true) else (none))))
end
def laws_FnExactSumRow.f (k : Nat) (a0_0 : ByteArray) (a0_1 : Int) (l0_2 : List (S84)) : Option (Bool) := (laws_szReport.f k a0_0 a0_1 l0_2 1048576).bind fun t210 => (if t210 < 0 then (some true) else ((laws_toReport.f k a0_0 a0_1 l0_2).bind fun bt211 => ((spec_SumRow.f k bt211.1 bt211.2.1 bt211.2.2).bind fun bt216 => ((laws_toReport.f k a0_0 a0_1 l0_2).bind fun bt222 => ((impl_SumRow.f k bt222.1 bt222.2.1 bt222.2.2).bind fun bt228 => ((laws_eqRow.f k bt228.1 bt228.2.1 bt216.1 bt216.2.1).bind fun t234 => (if t234 = true then (laws_FnExactSumRow.j0 k bt216.2.2 bt228.2.2 (bt228.2.2 != bt216.2.2) a0_0 a0_1 l0_2 bt216.1 bt216.2.1 bt222.1 bt222.2.1 bt222.2.2 bt228.1 bt228.2.1) else (laws_FnExactSumRow.j0 k bt216.2.2 bt228.2.2 true a0_0 a0_1 l0_2 bt216.1 bt216.2.1 bt222.1 bt222.2.1 bt222.2.2 bt228.1 bt228.2.1))))))))
set_option maxHeartbeats 8000000 in
set_option maxRecDepth 100000 in
theorem laws_FnExactSumRow.calls (k : Nat) (a0_0 : ByteArray) (a0_1 : Int) (A0_2 : Option Addr) (c0_2 : Nat) (l0_2 : List (S84)) (r : Bool) (w : World) (hr0_2 : Kd.C k84 w A0_2 l0_2.length l0_2) (hc0_2 : l0_2.length ≤ c0_2) (h : laws_FnExactSumRow.f k a0_0 a0_1 l0_2 = some r) :
    Calls Try.prog 11 #[.agg #[.string a0_0, .int .i64 a0_1, .slice A0_2 l0_2.length c0_2]] w fun e w' => e = .returned (.bool r) ∧ Below w.heap.size w w' := by
  have hu45 := Try.underlying45
  have hu58 := Try.underlying58
  have hu50 := Try.underlying50
  have HR0_2 := Aside0.mk hr0_2
  have HC0_2 := Aside0.mk hc0_2
  clear hr0_2 hc0_2
  have HB := AZ (Below.refl w.heap.size w)
  have H : ((laws_szReport.f k a0_0 a0_1 l0_2 1048576).bind fun t210 => (if t210 < 0 then (some true) else ((laws_toReport.f k a0_0 a0_1 l0_2).bind fun bt211 => ((spec_SumRow.f k bt211.1 bt211.2.1 bt211.2.2).bind fun bt216 => ((laws_toReport.f k a0_0 a0_1 l0_2).bind fun bt222 => ((impl_SumRow.f k bt222.1 bt222.2.1 bt222.2.2).bind fun bt228 => ((laws_eqRow.f k bt228.1 bt228.2.1 bt216.1 bt216.2.1).bind fun t234 => (if t234 = true then (laws_FnExactSumRow.j0 k bt216.2.2 bt228.2.2 (bt228.2.2 != bt216.2.2) a0_0 a0_1 l0_2 bt216.1 bt216.2.1 bt222.1 bt222.2.1 bt222.2.2 bt228.1 bt228.2.1) else (laws_FnExactSumRow.j0 k bt216.2.2 bt228.2.2 true a0_0 a0_1 l0_2 bt216.1 bt216.2.1 bt222.1 bt222.2.1 bt222.2.2 bt228.1 bt228.2.1))))))))) = some r := h
  clear h
  replace H := Option.bind_eq_some_iff.mp H
  obtain ⟨t210, A20, H⟩ := H
  replace H : (if t210 < 0 then (some true) else ((laws_toReport.f k a0_0 a0_1 l0_2).bind fun bt211 => ((spec_SumRow.f k bt211.1 bt211.2.1 bt211.2.2).bind fun bt216 => ((laws_toReport.f k a0_0 a0_1 l0_2).bind fun bt222 => ((impl_SumRow.f k bt222.1 bt222.2.1 bt222.2.2).bind fun bt228 => ((laws_eqRow.f k bt228.1 bt228.2.1 bt216.1 bt216.2.1).bind fun t234 => (if t234 = true then (laws_FnExactSumRow.j0 k bt216.2.2 bt228.2.2 (bt228.2.2 != bt216.2.2) a0_0 a0_1 l0_2 bt216.1 bt216.2.1 bt222.1 bt222.2.1 bt222.2.2 bt228.1 bt228.2.1) else (laws_FnExactSumRow.j0 k bt216.2.2 bt228.2.2 true a0_0 a0_1 l0_2 bt216.1 bt216.2.1 bt222.1 bt222.2.1 bt222.2.2 bt228.1 bt228.2.1)))))))) = some r := H
  have A2 := Aside0.mk A20
  clear A20
  by_cases c3 : t210 < 0
  · rw [if_pos c3] at H
    have c3b0 : decide (t210 < 0) = true := decide_eq_true c3
    clear c3
    obtain rfl := Option.some.inj H
    go_enter Try.func11, Try.ntmps11
    go_wp2_with (first | ((with_reducible refine gate_dst (N := 1) rfl ?_); refine box_event ?hg (N := 1) ?hd (cs := #[.string a0_0, .int .i64 a0_1, .slice A0_2 l0_2.length c0_2]) (t := 45) ?hr ?_; (case hd => rfl); (case hg => rfl); (case hr => first | (go_simp; done) | (go_simp; rfl)); intro gb209 hg w4 hbox hb; have n0_ := AZ (below_step (bS HB.out) hb); have n1_ := AZ (hbox); have n2_ := AZ (geS hg HB.out); have n3_ := AZ (geS hg HB.out); clear HB; have HB := n0_; have BK209 := n1_; have GW209 := n2_; have GE209 := n3_; clear n0_ n1_ n2_ n3_; clear hb hbox hg; have hcz5_0 : w4.cell? ⟨gb209, 0, none⟩ = some (.string a0_0) := (blk_cell BK209.out 0).trans rfl; have hcz5_1 : w4.cell? ⟨gb209, 1, none⟩ = some (.int .i64 a0_1) := (blk_cell BK209.out 1).trans rfl; have hcz5_2 : w4.cell? ⟨gb209, 2, none⟩ = some (.slice A0_2 l0_2.length c0_2) := (blk_cell BK209.out 2).trans rfl; have hfz5_0 := blk_frozen BK209.out 0; have hfz5_1 := blk_frozen BK209.out 1; have hfz5_2 := blk_frozen BK209.out 2) | ((with_reducible refine gate_callee (f := 33) rfl ?_); refine gL (some 16) Try.func33 #[.agg #[.string a0_0, .int .i64 a0_1, .slice A0_2 l0_2.length c0_2], .int .i64 1048576] ?_; (with_reducible refine (laws_szReport.calls k a0_0 a0_1 _ _ l0_2 1048576 t210 _ ?side1 ?side2 A2.out).mono ?_); (case side1 => exact cS (Kd.C_below HR0_2.out HB.out)); (case side2 => exact HC0_2.out); rintro e w6 ⟨rfl, hb⟩; refine ⟨_, rfl, ?_⟩; have n0_ := blkA BK209 hb; have n1_ := AZ (below_step (bS HB.out) hb); clear BK209; clear HB; have BK209 := n0_; have HB := n1_; clear n0_ n1_; (try clear hb)))
    go_ret
    exact ⟨by first | rfl | (simp; done) | (simp [*]; done), bS HB.out⟩
  · rw [if_neg c3] at H
    have c3b0 : decide (t210 < 0) = false := decide_eq_false c3
    clear c3
    replace H := Option.bind_eq_some_iff.mp H
    obtain ⟨⟨t211, t212, t213⟩, A70, H⟩ := H
    replace H : ((spec_SumRow.f k t211 t212 t213).bind fun bt216 => ((laws_toReport.f k a0_0 a0_1 l0_2).bind fun bt222 => ((impl_SumRow.f k bt222.1 bt222.2.1 bt222.2.2).bind fun bt228 => ((laws_eqRow.f k bt228.1 bt228.2.1 bt216.1 bt216.2.1).bind fun t234 => (if t234 = true then (laws_FnExactSumRow.j0 k bt216.2.2 bt228.2.2 (bt228.2.2 != bt216.2.2) a0_0 a0_1 l0_2 bt216.1 bt216.2.1 bt222.1 bt222.2.1 bt222.2.2 bt228.1 bt228.2.1) else (laws_FnExactSumRow.j0 k bt216.2.2 bt228.2.2 true a0_0 a0_1 l0_2 bt216.1 bt216.2.1 bt222.1 bt222.2.1 bt222.2.2 bt228.1 bt228.2.1)))))) = some r := H
    have A7 := Aside0.mk A70
    clear A70
    replace H := Option.bind_eq_some_iff.mp H
    obtain ⟨⟨t216, t217, t220⟩, A80, H⟩ := H
    replace H : ((laws_toReport.f k a0_0 a0_1 l0_2).bind fun bt222 => ((impl_SumRow.f k bt222.1 bt222.2.1 bt222.2.2).bind fun bt228 => ((laws_eqRow.f k bt228.1 bt228.2.1 t216 t217).bind fun t234 => (if t234 = true then (laws_FnExactSumRow.j0 k t220 bt228.2.2 (bt228.2.2 != t220) a0_0 a0_1 l0_2 t216 t217 bt222.1 bt222.2.1 bt222.2.2 bt228.1 bt228.2.1) else (laws_FnExactSumRow.j0 k t220 bt228.2.2 true a0_0 a0_1 l0_2 t216 t217 bt222.1 bt222.2.1 bt222.2.2 bt228.1 bt228.2.1))))) = some r := H
    have A8 := Aside0.mk A80
    clear A80
    replace H := Option.bind_eq_some_iff.mp H
    obtain ⟨⟨t222, t223, t224⟩, A90, H⟩ := H
    replace H : ((impl_SumRow.f k t222 t223 t224).bind fun bt228 => ((laws_eqRow.f k bt228.1 bt228.2.1 t216 t217).bind fun t234 => (if t234 = true then (laws_FnExactSumRow.j0 k t220 bt228.2.2 (bt228.2.2 != t220) a0_0 a0_1 l0_2 t216 t217 t222 t223 t224 bt228.1 bt228.2.1) else (laws_FnExactSumRow.j0 k t220 bt228.2.2 true a0_0 a0_1 l0_2 t216 t217 t222 t223 t224 bt228.1 bt228.2.1)))) = some r := H
    have A9 := Aside0.mk A90
    clear A90
    replace H := Option.bind_eq_some_iff.mp H
    obtain ⟨⟨t228, t229, t232⟩, A100, H⟩ := H
    replace H : ((laws_eqRow.f k t228 t229 t216 t217).bind fun t234 => (if t234 = true then (laws_FnExactSumRow.j0 k t220 t232 (t232 != t220) a0_0 a0_1 l0_2 t216 t217 t222 t223 t224 t228 t229) else (laws_FnExactSumRow.j0 k t220 t232 true a0_0 a0_1 l0_2 t216 t217 t222 t223 t224 t228 t229))) = some r := H
    have A10 := Aside0.mk A100
    clear A100
    have HC11 := Aside0.mk H
    clear H
    go_enter Try.func11, Try.ntmps11
    go_upto_region 8 with (first | ((with_reducible refine gate_dst (N := 1) rfl ?_); refine box_event ?hg (N := 1) ?hd (cs := #[.string a0_0, .int .i64 a0_1, .slice A0_2 l0_2.length c0_2]) (t := 45) ?hr ?_; (case hd => rfl); (case hg => rfl); (case hr => first | (go_simp; done) | (go_simp; rfl)); intro gb209 hg w12 hbox hb; have n0_ := AZ (below_step (bS HB.out) hb); have n1_ := AZ (hbox); have n2_ := AZ (geS hg HB.out); have n3_ := AZ (geS hg HB.out); clear HB; have HB := n0_; have BK209 := n1_; have GW209 := n2_; have GE209 := n3_; clear n0_ n1_ n2_ n3_; clear hb hbox hg; have hcz13_0 : w12.cell? ⟨gb209, 0, none⟩ = some (.string a0_0) := (blk_cell BK209.out 0).trans rfl; have hcz13_1 : w12.cell? ⟨gb209, 1, none⟩ = some (.int .i64 a0_1) := (blk_cell BK209.out 1).trans rfl; have hcz13_2 : w12.cell? ⟨gb209, 2, none⟩ = some (.slice A0_2 l0_2.length c0_2) := (blk_cell BK209.out 2).trans rfl; have hfz13_0 := blk_frozen BK209.out 0; have hfz13_1 := blk_frozen BK209.out 1; have hfz13_2 := blk_frozen BK209.out 2) | ((with_reducible refine gate_callee (f := 33) rfl ?_); refine gL (some 16) Try.func33 #[.agg #[.string a0_0, .int .i64 a0_1, .slice A0_2 l0_2.length c0_2], .int .i64 1048576] ?_; (with_reducible refine (laws_szReport.calls k a0_0 a0_1 _ _ l0_2 1048576 t210 _ ?side1 ?side2 A2.out).mono ?_); (case side1 => exact cS (Kd.C_below HR0_2.out HB.out)); (case side2 => exact HC0_2.out); rintro e w14 ⟨rfl, hb⟩; refine ⟨_, rfl, ?_⟩; have n0_ := blkA BK209 hb; have n1_ := AZ (below_step (bS HB.out) hb); clear BK209; clear HB; have BK209 := n0_; have HB := n1_; clear n0_ n1_; (try clear hb); have hcz15_0 : w14.cell? ⟨gb209, 0, none⟩ = some (.string a0_0) := (blk_cell BK209.out 0).trans rfl; have hcz15_1 : w14.cell? ⟨gb209, 1, none⟩ = some (.int .i64 a0_1) := (blk_cell BK209.out 1).trans rfl; have hcz15_2 : w14.cell? ⟨gb209, 2, none⟩ = some (.slice A0_2 l0_2.length c0_2) := (blk_cell BK209.out 2).trans rfl; have hfz15_0 := blk_frozen BK209.out 0; have hfz15_1 := blk_frozen BK209.out 1; have hfz15_2 := blk_frozen BK209.out 2) | ((with_reducible refine gate_callee (f := 35) rfl ?_); refine gL (some 21) Try.func35 #[.agg #[.string a0_0, .int .i64 a0_1, .slice A0_2 l0_2.length c0_2]] ?_; (with_reducible refine (laws_toReport.calls k a0_0 a0_1 _ _ l0_2 t211 t212 t213 _ ?side1 ?side2 A7.out).mono ?_); (case side1 => exact cS (Kd.C_below HR0_2.out HB.out)); (case side2 => exact HC0_2.out); rintro e w16 ⟨v214, rfl, ho0, hb⟩; refine ⟨_, rfl, ?_⟩; have n0_ := AZ (Kd.S_lower ho0 (below_size (bS HB.out))); have n1_ := blkA BK209 hb; have n2_ := AZ (below_step (bS HB.out) hb); clear BK209; clear HB; have HO215 := n0_; have BK209 := n1_; have HB := n2_; clear n0_ n1_ n2_; (try clear hb ho0); obtain ⟨Ao17, co17, eo17⟩ := Kd.S_slice HO215.out; subst eo17) | ((with_reducible refine gate_callee (f := 46) rfl ?_); refine gL (some 22) Try.func46 #[.agg #[.string t211, .int .i64 t212, .slice Ao17 t213.length co17]] ?_; (with_reducible refine (spec_SumRow.calls k t211 t212 _ _ t213 t216 t217 t220 _ ?side1 ?side2 A8.out).mono ?_); (case side1 => exact cS (Kd.S_reads' HO215.out).2.2); (case side2 => exact (Kd.S_reads' HO215.out).2.1); rintro e w18 ⟨v218, rfl, ho0, hb⟩; refine ⟨_, rfl, ?_⟩; have n0_ := AZ (Kd.S_elder' (sS HO215.out) (Kd.R_base ho0) hb); have n1_ := AZ (Kd.R_lower ho0 (below_size (bS HB.out))); have n2_ := blkA BK209 hb; have n3_ := AZ (below_step (bS HB.out) hb); clear HO215; clear BK209; clear HB; have HO215 := n0_; have HO219 := n1_; have BK209 := n2_; have HB := n3_; clear n0_ n1_ n2_ n3_; (try clear hb ho0)) | ((with_reducible refine gate_dst (N := 4) rfl ?_); refine box_event ?hg (N := 4) ?hd (cs := #[.string (⟨#[]⟩ : ByteArray), .slice none 0 0]) (t := 58) ?hr ?_; (case hd => rfl); (case hg => rfl); (case hr => first | (go_simp; done) | (go_simp; rfl)); intro gb221 hg w19 hbox hb; have n0_ := AZ (Kd.S_below (Kd.S_elderB (sS HO215.out) gb221 (Nat.le_of_eq hg.symm)) hb); have n1_ := AZ (Kd.R_below (rS HO219.out) hb); have n2_ := blkA BK209 hb; have n3_ := AZ (below_step (bS HB.out) hb); have n4_ := AZ (hbox); have n5_ := AZ (geS hg HB.out); have n6_ := AZ (geS hg HB.out); have n7_ := AZ ((by rw [hg]; exact Nat.ne_of_lt (blkL BK209.out) : gb209 ≠ gb221)); have n8_ := AZ ((by rw [hg]; exact Nat.ne_of_gt (blkL BK209.out) : gb221 ≠ gb209)); clear HO215; clear HO219; clear BK209; clear HB; have HO215 := n0_; have HO219 := n1_; have BK209 := n2_; have HB := n3_; have BK221 := n4_; have GW221 := n5_; have GE221 := n6_; have NB209_221 := n7_; have NB221_209 := n8_; clear n0_ n1_ n2_ n3_ n4_ n5_ n6_ n7_ n8_; clear hb hbox hg; have hnb20 := NB221_209.out; have hnc20 := NB209_221.out; have hcz21_0 : w19.cell? ⟨gb221, 0, none⟩ = some (.string (⟨#[]⟩ : ByteArray)) := (blk_cell BK221.out 0).trans rfl; have hcz21_1 : w19.cell? ⟨gb221, 1, none⟩ = some (.slice none 0 0) := (blk_cell BK221.out 1).trans rfl; have hfz21_0 := blk_frozen BK221.out 0; have hfz21_1 := blk_frozen BK221.out 1; obtain ⟨Ao22, co22, eo22⟩ := Kd.R_slice HO219.out; subst eo22; have hcz23_0 : w19.cell? ⟨gb209, 0, none⟩ = some (.string a0_0) := (blk_cell BK209.out 0).trans rfl; have hcz23_1 : w19.cell? ⟨gb209, 1, none⟩ = some (.int .i64 a0_1) := (blk_cell BK209.out 1).trans rfl; have hcz23_2 : w19.cell? ⟨gb209, 2, none⟩ = some (.slice A0_2 l0_2.length c0_2) := (blk_cell BK209.out 2).trans rfl; have hfz23_0 := blk_frozen BK209.out 0; have hfz23_1 := blk_frozen BK209.out 1; have hfz23_2 := blk_frozen BK209.out 2) | ((with_reducible refine gate_callee (f := 35) rfl ?_); refine gL (some 26) Try.func35 #[.agg #[.string a0_0, .int .i64 a0_1, .slice A0_2 l0_2.length c0_2]] ?_; (with_reducible refine (laws_toReport.calls k a0_0 a0_1 _ _ l0_2 t222 t223 t224 _ ?side1 ?side2 A9.out).mono ?_); (case side1 => exact Kd.C_below HR0_2.out (bS HB.out)); (case side2 => exact HC0_2.out); rintro e w24 ⟨v225, rfl, ho0, hb⟩; refine ⟨_, rfl, ?_⟩; have n0_ := AZ (Kd.S_elder' (by (with_reducible repeat (first | apply Kd.S_alloc | apply Kd.S_drewN | apply Kd.S_drew)); exact (Kd.S_mono (Kd.S_far (Kd.S_far (Kd.S_mono HO215.out (fun k_ hk => (⟨hk, hk.2⟩ : _ ∧ k_ ≠ gb221))) (fun _ hk => hk.2) _) (fun _ hk => hk.2) _) (fun _ h_ => h_.1))) (Kd.S_base ho0) hb); have n1_ := AZ (Kd.R_below (by (with_reducible repeat (first | apply Kd.R_alloc | apply Kd.R_drewN | apply Kd.R_drew)); exact (Kd.R_mono (Kd.R_far (Kd.R_far (Kd.R_types HO219.out BK221.out (by decide)) (fun _ hk => hk.2) _) (fun _ hk => hk.2) _) (fun _ h_ => h_.1))) hb); have n2_ := AZ (Kd.S_lower (Kd.S_newB (Kd.S_new' (Kd.S_new' ho0 (Kd.S_lt (by (with_reducible repeat (first | apply Kd.S_alloc | apply Kd.S_drewN | apply Kd.S_drew)); exact (Kd.S_mono (Kd.S_far (Kd.S_far (Kd.S_mono HO215.out (fun k_ hk => (⟨hk, hk.2⟩ : _ ∧ k_ ≠ gb221))) (fun _ hk => hk.2) _) (fun _ hk => hk.2) _) (fun _ h_ => h_.1))))) (Kd.R_lt (by (with_reducible repeat (first | apply Kd.R_alloc | apply Kd.R_drewN | apply Kd.R_drew)); exact (Kd.R_mono (Kd.R_far (Kd.R_far (Kd.R_types HO219.out BK221.out (by decide)) (fun _ hk => hk.2) _) (fun _ hk => hk.2) _) (fun _ h_ => h_.1))))) (g := gb221) (o := .cells #[.string t216, .slice Ao22 t217.length co22] 58 (0, 0)) (by (with_reducible repeat (first | refine blk_drewN ?_ _ | refine blk_drew ?_ | refine blk_alloc ?_ _)); refine blk_put (cs := #[.string t216, .slice none 0 0]) ?_ 1 _ rfl; (with_reducible repeat (first | refine blk_drewN ?_ _ | refine blk_drew ?_ | refine blk_alloc ?_ _)); refine blk_put (cs := #[.string (⟨#[]⟩ : ByteArray), .slice none 0 0]) ?_ 0 _ rfl; (with_reducible repeat (first | refine blk_drewN ?_ _ | refine blk_drew ?_ | refine blk_alloc ?_ _)); exact BK221.out)) (below_size (bS HB.out))); have n3_ := AZ (blk_below (g := gb209) (o := .cells #[.string a0_0, .int .i64 a0_1, .slice A0_2 l0_2.length c0_2] 45 (0, 0)) (by (with_reducible repeat (first | refine blk_drewN ?_ _ | refine blk_drew ?_ | refine blk_alloc ?_ _)); refine blk_far ?_ NB209_221.out _; (with_reducible repeat (first | refine blk_drewN ?_ _ | refine blk_drew ?_ | refine blk_alloc ?_ _)); refine blk_far ?_ NB209_221.out _; (with_reducible repeat (first | refine blk_drewN ?_ _ | refine blk_drew ?_ | refine blk_alloc ?_ _)); exact BK209.out) hb); have n4_ := AZ (blk_below (g := gb221) (o := .cells #[.string t216, .slice Ao22 t217.length co22] 58 (0, 0)) (by (with_reducible repeat (first | refine blk_drewN ?_ _ | refine blk_drew ?_ | refine blk_alloc ?_ _)); refine blk_put (cs := #[.string t216, .slice none 0 0]) ?_ 1 _ rfl; (with_reducible repeat (first | refine blk_drewN ?_ _ | refine blk_drew ?_ | refine blk_alloc ?_ _)); refine blk_put (cs := #[.string (⟨#[]⟩ : ByteArray), .slice none 0 0]) ?_ 0 _ rfl; (with_reducible repeat (first | refine blk_drewN ?_ _ | refine blk_drew ?_ | refine blk_alloc ?_ _)); exact BK221.out) hb); have n5_ := AZ (below_step (bS HB.out) hb); clear HO215; clear HO219; clear BK209; clear BK221; clear HB; have HO215 := n0_; have HO219 := n1_; have HO226 := n2_; have BK209 := n3_; have BK221 := n4_; have HB := n5_; clear n0_ n1_ n2_ n3_ n4_ n5_; (try clear hb ho0)) | ((with_reducible refine gate_dst (N := 6) rfl ?_); refine box_event ?hg (N := 6) ?hd (cs := #[.string (⟨#[]⟩ : ByteArray), .int .i64 0, .slice none 0 0]) (t := 50) ?hr ?_; (case hd => rfl); (case hg => rfl); (case hr => first | (go_simp; done) | (go_simp; rfl)); intro gb227 hg w25 hbox hb; have n0_ := AZ (Kd.S_below (sS HO215.out) hb); have n1_ := AZ (Kd.R_below (rS HO219.out) hb); have n2_ := AZ (Kd.S_below (sS HO226.out) hb); have n3_ := blkA BK209 hb; have n4_ := blkA BK221 hb; have n5_ := AZ (below_step (bS HB.out) hb); have n6_ := AZ (hbox); have n7_ := AZ (geS hg HB.out); have n8_ := AZ (geS hg HB.out); have n9_ := AZ ((by rw [hg]; exact Nat.ne_of_lt (blkL BK209.out) : gb209 ≠ gb227)); have n10_ := AZ ((by rw [hg]; exact Nat.ne_of_gt (blkL BK209.out) : gb227 ≠ gb209)); have n11_ := AZ ((by rw [hg]; exact Nat.ne_of_lt (blkL BK221.out) : gb221 ≠ gb227)); have n12_ := AZ ((by rw [hg]; exact Nat.ne_of_gt (blkL BK221.out) : gb227 ≠ gb221)); clear HO215; clear HO219; clear HO226; clear BK209; clear BK221; clear HB; have HO215 := n0_; have HO219 := n1_; have HO226 := n2_; have BK209 := n3_; have BK221 := n4_; have HB := n5_; have BK227 := n6_; have GW227 := n7_; have GE227 := n8_; have NB209_227 := n9_; have NB227_209 := n10_; have NB221_227 := n11_; have NB227_221 := n12_; clear n0_ n1_ n2_ n3_ n4_ n5_ n6_ n7_ n8_ n9_ n10_ n11_ n12_; clear hb hbox hg; have hnb26 := NB227_209.out; have hnc26 := NB209_227.out; have hnb27 := NB227_221.out; have hnc27 := NB221_227.out; have hcz28_0 : w25.cell? ⟨gb227, 0, none⟩ = some (.string (⟨#[]⟩ : ByteArray)) := (blk_cell BK227.out 0).trans rfl; have hcz28_1 : w25.cell? ⟨gb227, 1, none⟩ = some (.int .i64 0) := (blk_cell BK227.out 1).trans rfl; have hcz28_2 : w25.cell? ⟨gb227, 2, none⟩ = some (.slice none 0 0) := (blk_cell BK227.out 2).trans rfl; have hfz28_0 := blk_frozen BK227.out 0; have hfz28_1 := blk_frozen BK227.out 1; have hfz28_2 := blk_frozen BK227.out 2; obtain ⟨Ao29, co29, eo29⟩ := Kd.S_slice HO226.out; subst eo29) | ((with_reducible refine gate_callee (f := 47) rfl ?_); refine gL (some 29) Try.func47 #[.agg #[.string t222, .int .i64 t223, .slice Ao29 t224.length co29]] ?_; (with_reducible refine (impl_SumRow.calls k t222 t223 _ _ t224 t228 t229 t232 _ ?side1 ?side2 A10.out).mono ?_); (case side1 => refine (Kd.S_reads' (e := 58) (base := w.heap.size) (ok := fun k_ => (((True ∧ some k_ ≠ (.slice Ao17 t213.length co17 : Value).ownBlock) ∧ some k_ ≠ (.slice Ao22 t217.length co22 : Value).ownBlock) ∧ k_ ≠ gb221)) (n := t224.length) (c := co29) ?_).2.2; exact (by (with_reducible repeat (first | apply Kd.S_alloc | apply Kd.S_drewN | apply Kd.S_drew)); exact (Kd.S_mono (Kd.S_far (Kd.S_far (Kd.S_far (Kd.S_types HO226.out BK227.out (by decide)) (fun _ hk => hk.2) _) (fun _ hk => hk.2) _) (fun _ hk => hk.2) _) (fun _ h_ => h_.1)))); (case side2 => exact (Kd.S_reads' HO226.out).2.1); rintro e w30 ⟨v230, rfl, ho0, hb⟩; refine ⟨_, rfl, ?_⟩; have n0_ := AZ (Kd.S_elder' (by (with_reducible repeat (first | apply Kd.S_alloc | apply Kd.S_drewN | apply Kd.S_drew)); exact (Kd.S_mono (Kd.S_far (Kd.S_far (Kd.S_far (Kd.S_types HO215.out BK227.out (by decide)) (fun _ hk => hk.2) _) (fun _ hk => hk.2) _) (fun _ hk => hk.2) _) (fun _ h_ => h_.1))) (Kd.R_base ho0) hb); have n1_ := AZ (Kd.R_elder' (by (with_reducible repeat (first | apply Kd.R_alloc | apply Kd.R_drewN | apply Kd.R_drew)); exact (Kd.R_mono (Kd.R_far (Kd.R_far (Kd.R_far (Kd.R_types HO219.out BK227.out (by decide)) (fun _ hk => hk.2) _) (fun _ hk => hk.2) _) (fun _ hk => hk.2) _) (fun _ h_ => h_.1))) (Kd.R_base ho0) hb); have n2_ := AZ (Kd.S_elder' (by (with_reducible repeat (first | apply Kd.S_alloc | apply Kd.S_drewN | apply Kd.S_drew)); exact (Kd.S_mono (Kd.S_far (Kd.S_far (Kd.S_far (Kd.S_types HO226.out BK227.out (by decide)) (fun _ hk => hk.2) _) (fun _ hk => hk.2) _) (fun _ hk => hk.2) _) (fun _ h_ => h_.1))) (Kd.R_base ho0) hb); have n3_ := AZ (Kd.R_lower (Kd.R_new' ho0 (Kd.R_lt (by (with_reducible repeat (first | apply Kd.R_alloc | apply Kd.R_drewN | apply Kd.R_drew)); exact (Kd.R_mono (Kd.R_far (Kd.R_far (Kd.R_far (Kd.R_types HO219.out BK227.out (by decide)) (fun _ hk => hk.2) _) (fun _ hk => hk.2) _) (fun _ hk => hk.2) _) (fun _ h_ => h_.1))))) (below_size (bS HB.out))); have n4_ := AZ (blk_below (g := gb209) (o := .cells #[.string a0_0, .int .i64 a0_1, .slice A0_2 l0_2.length c0_2] 45 (0, 0)) (by (with_reducible repeat (first | refine blk_drewN ?_ _ | refine blk_drew ?_ | refine blk_alloc ?_ _)); refine blk_far ?_ NB209_227.out _; (with_reducible repeat (first | refine blk_drewN ?_ _ | refine blk_drew ?_ | refine blk_alloc ?_ _)); refine blk_far ?_ NB209_227.out _; (with_reducible repeat (first | refine blk_drewN ?_ _ | refine blk_drew ?_ | refine blk_alloc ?_ _)); refine blk_far ?_ NB209_227.out _; (with_reducible repeat (first | refine blk_drewN ?_ _ | refine blk_drew ?_ | refine blk_alloc ?_ _)); exact BK209.out) hb); have n5_ := AZ (blk_below (g := gb221) (o := .cells #[.string t216, .slice Ao22 t217.length co22] 58 (0, 0)) (by (with_reducible repeat (first | refine blk_drewN ?_ _ | refine blk_drew ?_ | refine blk_alloc ?_ _)); refine blk_far ?_ NB221_227.out _; (with_reducible repeat (first | refine blk_drewN ?_ _ | refine blk_drew ?_ | refine blk_alloc ?_ _)); refine blk_far ?_ NB221_227.out _; (with_reducible repeat (first | refine blk_drewN ?_ _ | refine blk_drew ?_ | refine blk_alloc ?_ _)); refine blk_far ?_ NB221_227.out _; (with_reducible repeat (first | refine blk_drewN ?_ _ | refine blk_drew ?_ | refine blk_alloc ?_ _)); exact BK221.out) hb); have n6_ := AZ (blk_below (g := gb227) (o := .cells #[.string t222, .int .i64 t223, .slice Ao29 t224.length co29] 50 (0, 0)) (by (with_reducible repeat (first | refine blk_drewN ?_ _ | refine blk_drew ?_ | refine blk_alloc ?_ _)); refine blk_put (cs := #[.string t222, .int .i64 t223, .slice none 0 0]) ?_ 2 _ rfl; (with_reducible repeat (first | refine blk_drewN ?_ _ | refine blk_drew ?_ | refine blk_alloc ?_ _)); refine blk_put (cs := #[.string t222, .int .i64 0, .slice none 0 0]) ?_ 1 _ rfl; (with_reducible repeat (first | refine blk_drewN ?_ _ | refine blk_drew ?_ | refine blk_alloc ?_ _)); refine blk_put (cs := #[.string (⟨#[]⟩ : ByteArray), .int .i64 0, .slice none 0 0]) ?_ 0 _ rfl; (with_reducible repeat (first | refine blk_drewN ?_ _ | refine blk_drew ?_ | refine blk_alloc ?_ _)); exact BK227.out) hb); have n7_ := AZ (below_step (bS HB.out) hb); clear HO215; clear HO219; clear HO226; clear BK209; clear BK221; clear BK227; clear HB; have HO215 := n0_; have HO219 := n1_; have HO226 := n2_; have HO231 := n3_; have BK209 := n4_; have BK221 := n5_; have BK227 := n6_; have HB := n7_; clear n0_ n1_ n2_ n3_ n4_ n5_ n6_ n7_; (try clear hb ho0)) | ((with_reducible refine gate_dst (N := 7) rfl ?_); refine box_event ?hg (N := 7) ?hd (cs := #[.string (⟨#[]⟩ : ByteArray), .slice none 0 0]) (t := 58) ?hr ?_; (case hd => rfl); (case hg => rfl); (case hr => first | (go_simp; done) | (go_simp; rfl)); intro gb233 hg w31 hbox hb; have n0_ := AZ (Kd.S_below (Kd.S_elderB (sS HO215.out) gb233 (Nat.le_of_eq hg.symm)) hb); have n1_ := AZ (Kd.R_below (rS HO219.out) hb); have n2_ := AZ (Kd.S_below (Kd.S_elderB (sS HO226.out) gb233 (Nat.le_of_eq hg.symm)) hb); have n3_ := AZ (Kd.R_below (rS HO231.out) hb); have n4_ := blkA BK209 hb; have n5_ := blkA BK221 hb; have n6_ := blkA BK227 hb; have n7_ := AZ (below_step (bS HB.out) hb); have n8_ := AZ (hbox); have n9_ := AZ (geS hg HB.out); have n10_ := AZ (geS hg HB.out); have n11_ := AZ ((by rw [hg]; exact Nat.ne_of_lt (blkL BK209.out) : gb209 ≠ gb233)); have n12_ := AZ ((by rw [hg]; exact Nat.ne_of_gt (blkL BK209.out) : gb233 ≠ gb209)); have n13_ := AZ ((by rw [hg]; exact Nat.ne_of_lt (blkL BK221.out) : gb221 ≠ gb233)); have n14_ := AZ ((by rw [hg]; exact Nat.ne_of_gt (blkL BK221.out) : gb233 ≠ gb221)); have n15_ := AZ ((by rw [hg]; exact Nat.ne_of_lt (blkL BK227.out) : gb227 ≠ gb233)); have n16_ := AZ ((by rw [hg]; exact Nat.ne_of_gt (blkL BK227.out) : gb233 ≠ gb227)); clear HO215; clear HO219; clear HO226; clear HO231; clear BK209; clear BK221; clear BK227; clear HB; have HO215 := n0_; have HO219 := n1_; have HO226 := n2_; have HO231 := n3_; have BK209 := n4_; have BK221 := n5_; have BK227 := n6_; have HB := n7_; have BK233 := n8_; have GW233 := n9_; have GE233 := n10_; have NB209_233 := n11_; have NB233_209 := n12_; have NB221_233 := n13_; have NB233_221 := n14_; have NB227_233 := n15_; have NB233_227 := n16_; clear n0_ n1_ n2_ n3_ n4_ n5_ n6_ n7_ n8_ n9_ n10_ n11_ n12_ n13_ n14_ n15_ n16_; clear hb hbox hg; have hnb32 := NB233_209.out; have hnc32 := NB209_233.out; have hnb33 := NB233_221.out; have hnc33 := NB221_233.out; have hnb34 := NB233_227.out; have hnc34 := NB227_233.out; have hcz35_0 : w31.cell? ⟨gb233, 0, none⟩ = some (.string (⟨#[]⟩ : ByteArray)) := (blk_cell BK233.out 0).trans rfl; have hcz35_1 : w31.cell? ⟨gb233, 1, none⟩ = some (.slice none 0 0) := (blk_cell BK233.out 1).trans rfl; have hfz35_0 := blk_frozen BK233.out 0; have hfz35_1 := blk_frozen BK233.out 1; obtain ⟨Ao36, co36, eo36⟩ := Kd.R_slice HO231.out; subst eo36))
    (try simp only [Act.put, List.setIfInBounds_toArray, List.set_cons_zero, List.set_cons_succ])
    go_cut [40] (fun v40 wc => ∃ (kq : Nat) (x40_10 : Bool), v40 = .bool x40_10 ∧ Aside0 (laws_FnExactSumRow.j0 kq t220 t232 x40_10 a0_0 a0_1 l0_2 t216 t217 t222 t223 t224 t228 t229 = some r) ∧ Aside0 (kq ≤ k) ∧ Aside0 (Kd.R (Kd.int .i64) 3 wc w.heap.size (fun k_ => some k_ ≠ ((.slice Ao36 t229.length co36) : Value).ownBlock) (.slice Ao22 t217.length co22) t217) ∧ Aside0 (Kd.S k58 58 wc w.heap.size (fun k_ => some k_ ≠ ((.slice Ao22 t217.length co22) : Value).ownBlock ∧ some k_ ≠ ((.slice Ao36 t229.length co36) : Value).ownBlock ∧ k_ ≠ gb221 ∧ k_ ≠ gb233) (.slice Ao29 t224.length co29) t224) ∧ Aside0 (Kd.R (Kd.int .i64) 3 wc w.heap.size (fun k_ => some k_ ≠ ((.slice Ao22 t217.length co22) : Value).ownBlock) (.slice Ao36 t229.length co36) t229) ∧ Aside0 (wc.heap[gb209]? = some (.cells #[.string a0_0, .int .i64 a0_1, (.slice A0_2 l0_2.length c0_2)] 45 (0, 0))) ∧ Aside0 (wc.heap[gb221]? = some (.cells #[.string t216, (.slice Ao22 t217.length co22)] 58 (0, 0))) ∧ Aside0 (wc.heap[gb227]? = some (.cells #[.string t222, .int .i64 t223, (.slice Ao29 t224.length co29)] 50 (0, 0))) ∧ Aside0 (wc.heap[gb233]? = some (.cells #[.string t228, (.slice Ao36 t229.length co36)] 58 (0, 0))) ∧ Aside0 (Below w.heap.size w wc))
    case first =>
      have H := HC11.out
      clear HC11
      replace H := Option.bind_eq_some_iff.mp H
      obtain ⟨t234, A370, H⟩ := H
      replace H : (if t234 = true then (laws_FnExactSumRow.j0 k t220 t232 (t232 != t220) a0_0 a0_1 l0_2 t216 t217 t222 t223 t224 t228 t229) else (laws_FnExactSumRow.j0 k t220 t232 true a0_0 a0_1 l0_2 t216 t217 t222 t223 t224 t228 t229)) = some r := H
      have A37 := Aside0.mk A370
      clear A370
      by_cases c38 : t234 = true
      · subst c38
        have H1 : (laws_FnExactSumRow.j0 k t220 t232 (t232 != t220) a0_0 a0_1 l0_2 t216 t217 t222 t223 t224 t228 t229) = some r := by rw [if_pos rfl] at H; exact H
        clear H
        have H := H1
        clear H1
        have H' := Aside0.mk H
        clear H
        have hnb39 := NB233_209.out
        have hnc39 := NB209_233.out
        have hnb40 := NB233_221.out
        have hnc40 := NB221_233.out
        have hnb41 := NB233_227.out
        have hnc41 := NB227_233.out
        have hcz42_0 : w31.cell? ⟨gb233, 0, none⟩ = some (.string (⟨#[]⟩ : ByteArray)) := (blk_cell BK233.out 0).trans rfl
        have hcz42_1 : w31.cell? ⟨gb233, 1, none⟩ = some (.slice none 0 0) := (blk_cell BK233.out 1).trans rfl
        have hfz42_0 := blk_frozen BK233.out 0
        have hfz42_1 := blk_frozen BK233.out 1
        have hnb43 := NB221_209.out
        have hnc43 := NB209_221.out
        have hnb44 := NB221_227.out
        have hnc44 := NB227_221.out
        have hcz45_0 : w31.cell? ⟨gb221, 0, none⟩ = some (.string t216) := (blk_cell BK221.out 0).trans rfl
        have hcz45_1 : w31.cell? ⟨gb221, 1, none⟩ = some (.slice Ao22 t217.length co22) := (blk_cell BK221.out 1).trans rfl
        have hfz45_0 := blk_frozen BK221.out 0
        have hfz45_1 := blk_frozen BK221.out 1
        go_wp2_with (first | ((with_reducible refine gate_callee (f := 43) rfl ?_); refine gL (some 34) Try.func43 #[.agg #[.string t228, .slice Ao36 t229.length co36], .agg #[.string t216, .slice Ao22 t217.length co22]] ?_; (with_reducible refine (laws_eqRow.calls k t228 _ _ t229 t216 _ _ t217 true _ ?side1 ?side2 ?side3 ?side4 A37.out).mono ?_); (case side1 => refine (Kd.R_reads' (e := 3) (base := w.heap.size) (ok := fun k_ => (True ∧ some k_ ≠ (.slice Ao22 t217.length co22 : Value).ownBlock)) (n := t229.length) (c := co36) ?_).2.2; exact (by (with_reducible repeat (first | apply Kd.R_alloc | apply Kd.R_drewN | apply Kd.R_drew)); exact (Kd.R_mono (Kd.R_far (Kd.R_far (Kd.R_types HO231.out BK233.out (by decide)) (fun _ hk => hk.2) _) (fun _ hk => hk.2) _) (fun _ h_ => h_.1)))); (case side2 => exact (Kd.R_reads' HO231.out).2.1); (case side3 => refine (Kd.R_reads' (e := 3) (base := w.heap.size) (ok := fun k_ => (True ∧ some k_ ≠ (.slice Ao36 t229.length co36 : Value).ownBlock)) (n := t217.length) (c := co22) ?_).2.2; exact (by (with_reducible repeat (first | apply Kd.R_alloc | apply Kd.R_drewN | apply Kd.R_drew)); exact (Kd.R_mono (Kd.R_far (Kd.R_far (Kd.R_types HO219.out BK233.out (by decide)) (fun _ hk => hk.2) _) (fun _ hk => hk.2) _) (fun _ h_ => h_.1)))); (case side4 => exact (Kd.R_reads' HO219.out).2.1); rintro e w46 ⟨rfl, hb⟩; refine ⟨_, rfl, ?_⟩; have n0_ := AZ (Kd.S_below (by (with_reducible repeat (first | apply Kd.S_alloc | apply Kd.S_drewN | apply Kd.S_drew)); exact (Kd.S_mono (Kd.S_far (Kd.S_far (Kd.S_mono HO215.out (fun k_ hk => (⟨hk, hk.2⟩ : _ ∧ k_ ≠ gb233))) (fun _ hk => hk.2) _) (fun _ hk => hk.2) _) (fun _ h_ => h_.1))) hb); have n1_ := AZ (Kd.R_below (by (with_reducible repeat (first | apply Kd.R_alloc | apply Kd.R_drewN | apply Kd.R_drew)); exact (Kd.R_mono (Kd.R_far (Kd.R_far (Kd.R_types HO219.out BK233.out (by decide)) (fun _ hk => hk.2) _) (fun _ hk => hk.2) _) (fun _ h_ => h_.1))) hb); have n2_ := AZ (Kd.S_below (by (with_reducible repeat (first | apply Kd.S_alloc | apply Kd.S_drewN | apply Kd.S_drew)); exact (Kd.S_mono (Kd.S_far (Kd.S_far (Kd.S_mono HO226.out (fun k_ hk => (⟨hk, hk.2⟩ : _ ∧ k_ ≠ gb233))) (fun _ hk => hk.2) _) (fun _ hk => hk.2) _) (fun _ h_ => h_.1))) hb); have n3_ := AZ (Kd.R_below (by (with_reducible repeat (first | apply Kd.R_alloc | apply Kd.R_drewN | apply Kd.R_drew)); exact (Kd.R_mono (Kd.R_far (Kd.R_far (Kd.R_types HO231.out BK233.out (by decide)) (fun _ hk => hk.2) _) (fun _ hk => hk.2) _) (fun _ h_ => h_.1))) hb); have n4_ := AZ (blk_below (g := gb209) (o := .cells #[.string a0_0, .int .i64 a0_1, .slice A0_2 l0_2.length c0_2] 45 (0, 0)) (by (with_reducible repeat (first | refine blk_drewN ?_ _ | refine blk_drew ?_ | refine blk_alloc ?_ _)); refine blk_far ?_ NB209_233.out _; (with_reducible repeat (first | refine blk_drewN ?_ _ | refine blk_drew ?_ | refine blk_alloc ?_ _)); refine blk_far ?_ NB209_233.out _; (with_reducible repeat (first | refine blk_drewN ?_ _ | refine blk_drew ?_ | refine blk_alloc ?_ _)); exact BK209.out) hb); have n5_ := AZ (blk_below (g := gb221) (o := .cells #[.string t216, .slice Ao22 t217.length co22] 58 (0, 0)) (by (with_reducible repeat (first | refine blk_drewN ?_ _ | refine blk_drew ?_ | refine blk_alloc ?_ _)); refine blk_far ?_ NB221_233.out _; (with_reducible repeat (first | refine blk_drewN ?_ _ | refine blk_drew ?_ | refine blk_alloc ?_ _)); refine blk_far ?_ NB221_233.out _; (with_reducible repeat (first | refine blk_drewN ?_ _ | refine blk_drew ?_ | refine blk_alloc ?_ _)); exact BK221.out) hb); have n6_ := AZ (blk_below (g := gb227) (o := .cells #[.string t222, .int .i64 t223, .slice Ao29 t224.length co29] 50 (0, 0)) (by (with_reducible repeat (first | refine blk_drewN ?_ _ | refine blk_drew ?_ | refine blk_alloc ?_ _)); refine blk_far ?_ NB227_233.out _; (with_reducible repeat (first | refine blk_drewN ?_ _ | refine blk_drew ?_ | refine blk_alloc ?_ _)); refine blk_far ?_ NB227_233.out _; (with_reducible repeat (first | refine blk_drewN ?_ _ | refine blk_drew ?_ | refine blk_alloc ?_ _)); exact BK227.out) hb); have n7_ := AZ (blk_below (g := gb233) (o := .cells #[.string t228, .slice Ao36 t229.length co36] 58 (0, 0)) (by (with_reducible repeat (first | refine blk_drewN ?_ _ | refine blk_drew ?_ | refine blk_alloc ?_ _)); refine blk_put (cs := #[.string t228, .slice none 0 0]) ?_ 1 _ rfl; (with_reducible repeat (first | refine blk_drewN ?_ _ | refine blk_drew ?_ | refine blk_alloc ?_ _)); refine blk_put (cs := #[.string (⟨#[]⟩ : ByteArray), .slice none 0 0]) ?_ 0 _ rfl; (with_reducible repeat (first | refine blk_drewN ?_ _ | refine blk_drew ?_ | refine blk_alloc ?_ _)); exact BK233.out) hb); have n8_ := AZ (below_step (bS HB.out) hb); clear HO215; clear HO219; clear HO226; clear HO231; clear BK209; clear BK221; clear BK227; clear BK233; clear HB; have HO215 := n0_; have HO219 := n1_; have HO226 := n2_; have HO231 := n3_; have BK209 := n4_; have BK221 := n5_; have BK227 := n6_; have BK233 := n7_; have HB := n8_; clear n0_ n1_ n2_ n3_ n4_ n5_ n6_ n7_ n8_; (try clear hb)))
        go_meet
        case rel => exact ⟨_, ((t232 != t220)), (by first | rfl | (simp; done) | (simp [*]; done)), H', ⟨by first | omega | exact Nat.le_refl _⟩, ⟨rS (Kd.R_mono HO219.out (fun _ hk => hk.2))⟩, ⟨sS (Kd.S_mono HO226.out (fun _ hk => ⟨hk.1.1.1.2, ⟨hk.1.2, ⟨hk.1.1.2, hk.2⟩⟩⟩))⟩, ⟨rS (Kd.R_mono HO231.out (fun _ hk => hk.2))⟩, ⟨blkS BK209.out⟩, ⟨blkS BK221.out⟩, ⟨blkS BK227.out⟩, ⟨blkS BK233.out⟩, ⟨bS HB.out⟩⟩
      · replace c38 := Bool.eq_false_iff.mpr c38
        subst c38
        have H1 : (laws_FnExactSumRow.j0 k t220 t232 true a0_0 a0_1 l0_2 t216 t217 t222 t223 t224 t228 t229) = some r := by rw [if_neg (show ¬ (false = true) by decide)] at H; exact H
        clear H
        have H := H1
        clear H1
        have H' := Aside0.mk H
        clear H
        have hnb47 := NB233_209.out
        have hnc47 := NB209_233.out
        have hnb48 := NB233_221.out
        have hnc48 := NB221_233.out
        have hnb49 := NB233_227.out
        have hnc49 := NB227_233.out
        have hcz50_0 : w31.cell? ⟨gb233, 0, none⟩ = some (.string (⟨#[]⟩ : ByteArray)) := (blk_cell BK233.out 0).trans rfl
        have hcz50_1 : w31.cell? ⟨gb233, 1, none⟩ = some (.slice none 0 0) := (blk_cell BK233.out 1).trans rfl
        have hfz50_0 := blk_frozen BK233.out 0
        have hfz50_1 := blk_frozen BK233.out 1
        have hnb51 := NB221_209.out
        have hnc51 := NB209_221.out
        have hnb52 := NB221_227.out
        have hnc52 := NB227_221.out
        have hcz53_0 : w31.cell? ⟨gb221, 0, none⟩ = some (.string t216) := (blk_cell BK221.out 0).trans rfl
        have hcz53_1 : w31.cell? ⟨gb221, 1, none⟩ = some (.slice Ao22 t217.length co22) := (blk_cell BK221.out 1).trans rfl
        have hfz53_0 := blk_frozen BK221.out 0
        have hfz53_1 := blk_frozen BK221.out 1
        go_wp2_with (first | ((with_reducible refine gate_callee (f := 43) rfl ?_); refine gL (some 34) Try.func43 #[.agg #[.string t228, .slice Ao36 t229.length co36], .agg #[.string t216, .slice Ao22 t217.length co22]] ?_; (with_reducible refine (laws_eqRow.calls k t228 _ _ t229 t216 _ _ t217 false _ ?side1 ?side2 ?side3 ?side4 A37.out).mono ?_); (case side1 => refine (Kd.R_reads' (e := 3) (base := w.heap.size) (ok := fun k_ => (True ∧ some k_ ≠ (.slice Ao22 t217.length co22 : Value).ownBlock)) (n := t229.length) (c := co36) ?_).2.2; exact (by (with_reducible repeat (first | apply Kd.R_alloc | apply Kd.R_drewN | apply Kd.R_drew)); exact (Kd.R_mono (Kd.R_far (Kd.R_far (Kd.R_types HO231.out BK233.out (by decide)) (fun _ hk => hk.2) _) (fun _ hk => hk.2) _) (fun _ h_ => h_.1)))); (case side2 => exact (Kd.R_reads' HO231.out).2.1); (case side3 => refine (Kd.R_reads' (e := 3) (base := w.heap.size) (ok := fun k_ => (True ∧ some k_ ≠ (.slice Ao36 t229.length co36 : Value).ownBlock)) (n := t217.length) (c := co22) ?_).2.2; exact (by (with_reducible repeat (first | apply Kd.R_alloc | apply Kd.R_drewN | apply Kd.R_drew)); exact (Kd.R_mono (Kd.R_far (Kd.R_far (Kd.R_types HO219.out BK233.out (by decide)) (fun _ hk => hk.2) _) (fun _ hk => hk.2) _) (fun _ h_ => h_.1)))); (case side4 => exact (Kd.R_reads' HO219.out).2.1); rintro e w54 ⟨rfl, hb⟩; refine ⟨_, rfl, ?_⟩; have n0_ := AZ (Kd.S_below (by (with_reducible repeat (first | apply Kd.S_alloc | apply Kd.S_drewN | apply Kd.S_drew)); exact (Kd.S_mono (Kd.S_far (Kd.S_far (Kd.S_mono HO215.out (fun k_ hk => (⟨hk, hk.2⟩ : _ ∧ k_ ≠ gb233))) (fun _ hk => hk.2) _) (fun _ hk => hk.2) _) (fun _ h_ => h_.1))) hb); have n1_ := AZ (Kd.R_below (by (with_reducible repeat (first | apply Kd.R_alloc | apply Kd.R_drewN | apply Kd.R_drew)); exact (Kd.R_mono (Kd.R_far (Kd.R_far (Kd.R_types HO219.out BK233.out (by decide)) (fun _ hk => hk.2) _) (fun _ hk => hk.2) _) (fun _ h_ => h_.1))) hb); have n2_ := AZ (Kd.S_below (by (with_reducible repeat (first | apply Kd.S_alloc | apply Kd.S_drewN | apply Kd.S_drew)); exact (Kd.S_mono (Kd.S_far (Kd.S_far (Kd.S_mono HO226.out (fun k_ hk => (⟨hk, hk.2⟩ : _ ∧ k_ ≠ gb233))) (fun _ hk => hk.2) _) (fun _ hk => hk.2) _) (fun _ h_ => h_.1))) hb); have n3_ := AZ (Kd.R_below (by (with_reducible repeat (first | apply Kd.R_alloc | apply Kd.R_drewN | apply Kd.R_drew)); exact (Kd.R_mono (Kd.R_far (Kd.R_far (Kd.R_types HO231.out BK233.out (by decide)) (fun _ hk => hk.2) _) (fun _ hk => hk.2) _) (fun _ h_ => h_.1))) hb); have n4_ := AZ (blk_below (g := gb209) (o := .cells #[.string a0_0, .int .i64 a0_1, .slice A0_2 l0_2.length c0_2] 45 (0, 0)) (by (with_reducible repeat (first | refine blk_drewN ?_ _ | refine blk_drew ?_ | refine blk_alloc ?_ _)); refine blk_far ?_ NB209_233.out _; (with_reducible repeat (first | refine blk_drewN ?_ _ | refine blk_drew ?_ | refine blk_alloc ?_ _)); refine blk_far ?_ NB209_233.out _; (with_reducible repeat (first | refine blk_drewN ?_ _ | refine blk_drew ?_ | refine blk_alloc ?_ _)); exact BK209.out) hb); have n5_ := AZ (blk_below (g := gb221) (o := .cells #[.string t216, .slice Ao22 t217.length co22] 58 (0, 0)) (by (with_reducible repeat (first | refine blk_drewN ?_ _ | refine blk_drew ?_ | refine blk_alloc ?_ _)); refine blk_far ?_ NB221_233.out _; (with_reducible repeat (first | refine blk_drewN ?_ _ | refine blk_drew ?_ | refine blk_alloc ?_ _)); refine blk_far ?_ NB221_233.out _; (with_reducible repeat (first | refine blk_drewN ?_ _ | refine blk_drew ?_ | refine blk_alloc ?_ _)); exact BK221.out) hb); have n6_ := AZ (blk_below (g := gb227) (o := .cells #[.string t222, .int .i64 t223, .slice Ao29 t224.length co29] 50 (0, 0)) (by (with_reducible repeat (first | refine blk_drewN ?_ _ | refine blk_drew ?_ | refine blk_alloc ?_ _)); refine blk_far ?_ NB227_233.out _; (with_reducible repeat (first | refine blk_drewN ?_ _ | refine blk_drew ?_ | refine blk_alloc ?_ _)); refine blk_far ?_ NB227_233.out _; (with_reducible repeat (first | refine blk_drewN ?_ _ | refine blk_drew ?_ | refine blk_alloc ?_ _)); exact BK227.out) hb); have n7_ := AZ (blk_below (g := gb233) (o := .cells #[.string t228, .slice Ao36 t229.length co36] 58 (0, 0)) (by (with_reducible repeat (first | refine blk_drewN ?_ _ | refine blk_drew ?_ | refine blk_alloc ?_ _)); refine blk_put (cs := #[.string t228, .slice none 0 0]) ?_ 1 _ rfl; (with_reducible repeat (first | refine blk_drewN ?_ _ | refine blk_drew ?_ | refine blk_alloc ?_ _)); refine blk_put (cs := #[.string (⟨#[]⟩ : ByteArray), .slice none 0 0]) ?_ 0 _ rfl; (with_reducible repeat (first | refine blk_drewN ?_ _ | refine blk_drew ?_ | refine blk_alloc ?_ _)); exact BK233.out) hb); have n8_ := AZ (below_step (bS HB.out) hb); clear HO215; clear HO219; clear HO226; clear HO231; clear BK209; clear BK221; clear BK227; clear BK233; clear HB; have HO215 := n0_; have HO219 := n1_; have HO226 := n2_; have HO231 := n3_; have BK209 := n4_; have BK221 := n5_; have BK227 := n6_; have BK233 := n7_; have HB := n8_; clear n0_ n1_ n2_ n3_ n4_ n5_ n6_ n7_ n8_; (try clear hb)))
        go_meet
        case rel => exact ⟨_, (true), (by first | rfl | (simp; done) | (simp [*]; done)), H', ⟨by first | omega | exact Nat.le_refl _⟩, ⟨rS (Kd.R_mono HO219.out (fun _ hk => hk.2))⟩, ⟨sS (Kd.S_mono HO226.out (fun _ hk => ⟨hk.1.1.1.2, ⟨hk.1.2, ⟨hk.1.1.2, hk.2⟩⟩⟩))⟩, ⟨rS (Kd.R_mono HO231.out (fun _ hk => hk.2))⟩, ⟨blkS BK209.out⟩, ⟨blkS BK221.out⟩, ⟨blkS BK227.out⟩, ⟨blkS BK233.out⟩, ⟨bS HB.out⟩⟩
    case rest =>
      clear HC11
      try clear c1
      try clear c2
      try clear p2
      try clear c3
      try clear c3b0
      try clear c4
      try clear c5
      try clear c11
      try clear c20
      try clear c26
      try clear c27
      try clear c32
      try clear c33
      try clear c34
      try clear c35
      try clear c38
      try clear c39
      try clear c40
      try clear c41
      try clear c43
      try clear c44
      try clear c46
      try clear c47
      try clear c48
      try clear c49
      try clear c51
      try clear c52
      try clear hcz13_0
      try clear hcz13_1
      try clear hcz13_2
      try clear hcz15_0
      try clear hcz15_1
      try clear hcz15_2
      try clear hcz21_0
      try clear hcz21_1
      try clear hcz23_0
      try clear hcz23_1
      try clear hcz23_2
      try clear hcz28_0
      try clear hcz28_1
      try clear hcz28_2
      try clear hcz35_0
      try clear hcz35_1
      try clear hcz42_0
      try clear hcz42_1
      try clear hcz45_0
      try clear hcz45_1
      try clear hcz50_0
      try clear hcz50_1
      try clear hcz53_0
      try clear hcz53_1
      try clear hcz5_0
      try clear hcz5_1
      try clear hcz5_2
      try clear hfz13_0
      try clear hfz13_1
      try clear hfz13_2
      try clear hfz15_0
      try clear hfz15_1
      try clear hfz15_2
      try clear hfz21_0
      try clear hfz21_1
      try clear hfz23_0
      try clear hfz23_1
      try clear hfz23_2
      try clear hfz28_0
      try clear hfz28_1
      try clear hfz28_2
      try clear hfz35_0
      try clear hfz35_1
      try clear hfz42_0
      try clear hfz42_1
      try clear hfz45_0
      try clear hfz45_1
      try clear hfz50_0
      try clear hfz50_1
      try clear hfz53_0
      try clear hfz53_1
      try clear hfz5_0
      try clear hfz5_1
      try clear hfz5_2
      obtain ⟨kq, x40_10, rfl, HA, HJ10, HO_222001, HO_228002, HO_234001, BK209, BK221, BK227, BK233, HB⟩ := hcut
      cases kq with
      | zero => exact absurd HA.out (by simp [laws_FnExactSumRow.j0])
      | succ kj10 =>
        have H := HA.out
        clear HA
        simp only [laws_FnExactSumRow.j0] at H
        by_cases c55 : x40_10 = true
        · subst c55
          have H1 : (none) = some r := by rw [if_pos rfl] at H; exact H
          clear H
          have H := H1
          clear H1
          exact absurd H (by simp)
        · replace c55 := Bool.eq_false_iff.mpr c55
          subst c55
          have H1 : ((laws_toReport.f kj10 a0_0 a0_1 l0_2).bind fun bt235 => ((laws_eqReport.f kj10 t222 t223 t224 bt235.1 bt235.2.1 bt235.2.2).bind fun t240 => (if t240 = true then ((laws_markReport.f kj10 t222 t223 t224 1).bind fun t241 => (if t241 < 0 then (laws_FnExactSumRow.j1 kj10 t220 true a0_0 a0_1 l0_2 t216 t217 t228 t229) else ((laws_eqRow.f kj10 t228 t229 t216 t217).bind fun t242 => (if t242 = true then (laws_FnExactSumRow.j1 kj10 t220 (t232 != t220) a0_0 a0_1 l0_2 t216 t217 t228 t229) else (laws_FnExactSumRow.j1 kj10 t220 true a0_0 a0_1 l0_2 t216 t217 t228 t229))))) else (none)))) = some r := by rw [if_neg (show ¬ (false = true) by decide)] at H; exact H
          clear H
          have H := H1
          clear H1
          replace H := Option.bind_eq_some_iff.mp H
          obtain ⟨⟨t235, t236, t237⟩, A560, H⟩ := H
          replace H : ((laws_eqReport.f kj10 t222 t223 t224 t235 t236 t237).bind fun t240 => (if t240 = true then ((laws_markReport.f kj10 t222 t223 t224 1).bind fun t241 => (if t241 < 0 then (laws_FnExactSumRow.j1 kj10 t220 true a0_0 a0_1 l0_2 t216 t217 t228 t229) else ((laws_eqRow.f kj10 t228 t229 t216 t217).bind fun t242 => (if t242 = true then (laws_FnExactSumRow.j1 kj10 t220 (t232 != t220) a0_0 a0_1 l0_2 t216 t217 t228 t229) else (laws_FnExactSumRow.j1 kj10 t220 true a0_0 a0_1 l0_2 t216 t217 t228 t229))))) else (none))) = some r := H
          have A56 := Aside0.mk A560
          clear A560
          replace H := Option.bind_eq_some_iff.mp H
          obtain ⟨t240, A570, H⟩ := H
          replace H : (if t240 = true then ((laws_markReport.f kj10 t222 t223 t224 1).bind fun t241 => (if t241 < 0 then (laws_FnExactSumRow.j1 kj10 t220 true a0_0 a0_1 l0_2 t216 t217 t228 t229) else ((laws_eqRow.f kj10 t228 t229 t216 t217).bind fun t242 => (if t242 = true then (laws_FnExactSumRow.j1 kj10 t220 (t232 != t220) a0_0 a0_1 l0_2 t216 t217 t228 t229) else (laws_FnExactSumRow.j1 kj10 t220 true a0_0 a0_1 l0_2 t216 t217 t228 t229))))) else (none)) = some r := H
          have A57 := Aside0.mk A570
          clear A570
          by_cases c58 : t240 = true
          · subst c58
            have H1 : ((laws_markReport.f kj10 t222 t223 t224 1).bind fun t241 => (if t241 < 0 then (laws_FnExactSumRow.j1 kj10 t220 true a0_0 a0_1 l0_2 t216 t217 t228 t229) else ((laws_eqRow.f kj10 t228 t229 t216 t217).bind fun t242 => (if t242 = true then (laws_FnExactSumRow.j1 kj10 t220 (t232 != t220) a0_0 a0_1 l0_2 t216 t217 t228 t229) else (laws_FnExactSumRow.j1 kj10 t220 true a0_0 a0_1 l0_2 t216 t217 t228 t229))))) = some r := by rw [if_pos rfl] at H; exact H
            clear H
            have H := H1
            clear H1
            replace H := Option.bind_eq_some_iff.mp H
            obtain ⟨t241, A590, H⟩ := H
            replace H : (if t241 < 0 then (laws_FnExactSumRow.j1 kj10 t220 true a0_0 a0_1 l0_2 t216 t217 t228 t229) else ((laws_eqRow.f kj10 t228 t229 t216 t217).bind fun t242 => (if t242 = true then (laws_FnExactSumRow.j1 kj10 t220 (t232 != t220) a0_0 a0_1 l0_2 t216 t217 t228 t229) else (laws_FnExactSumRow.j1 kj10 t220 true a0_0 a0_1 l0_2 t216 t217 t228 t229)))) = some r := H
            have A59 := Aside0.mk A590
            clear A590
            have HC60 := Aside0.mk H
            clear H
            try go_wp2
            have n0_ := AZ (Kd.R_drew HO_222001.out)
            have n1_ := AZ (Kd.S_drew HO_228002.out)
            have n2_ := AZ (Kd.R_drew HO_234001.out)
            have n3_ := AZ (blk_drew BK209.out)
            have n4_ := AZ (blk_drew BK221.out)
            have n5_ := AZ (blk_drew BK227.out)
            have n6_ := AZ (blk_drew BK233.out)
            have n7_ := AZ (below_drew1 HB.out)
            clear HO_222001
            clear HO_228002
            clear HO_234001
            clear BK209
            clear BK221
            clear BK227
            clear BK233
            clear HB
            have HO_222001 := n0_
            have HO_228002 := n1_
            have HO_234001 := n2_
            have BK209 := n3_
            have BK221 := n4_
            have BK227 := n5_
            have BK233 := n6_
            have HB := n7_
            clear n0_ n1_ n2_ n3_ n4_ n5_ n6_ n7_
            refine start_ (n := 5) (S := fun w' => w'.cell? ⟨gb227, 0, none⟩ = some (.string t222) ∧ w'.cell? ⟨gb227, 1, none⟩ = some (.int .i64 t223) ∧ w'.cell? ⟨gb227, 2, none⟩ = some (.slice Ao29 t224.length co29) ∧ w'.cell? ⟨gb209, 0, none⟩ = some (.string a0_0) ∧ w'.cell? ⟨gb209, 1, none⟩ = some (.int .i64 a0_1) ∧ w'.cell? ⟨gb209, 2, none⟩ = some (.slice A0_2 l0_2.length c0_2)) (ds := []) #[false, false, false, false, false] (by kernel_rfl) rfl rfl ⟨(blk_cell BK227.out 0).trans rfl, (blk_cell BK227.out 1).trans rfl, (blk_cell BK227.out 2).trans rfl, (blk_cell BK209.out 0).trans rfl, (blk_cell BK209.out 1).trans rfl, (blk_cell BK209.out 2).trans rfl⟩ (fun hHeld => ?_)
            generalize wc.drew = w61 at HO_222001 HO_228002 HO_234001 BK209 BK221 BK227 BK233 HB hHeld ⊢
            refine take_ (i := 0) (N := some 41) (v := ?_) (a' := ?_) #[true, false, false, false, false] rfl rfl (by kernel_rfl) (fun _ _ _ h => h) (Or.inl ⟨by rfl, ?_⟩) hHeld ?_ ?_
            rotate_left
            · rintro w' ⟨s0, s1, s2, s3, s4, s5⟩
              go_simp
              with_reducible rfl
            rotate_left
            · simp only [Act.put, List.setIfInBounds_toArray, List.set_cons_zero, List.set_cons_succ, i64_w, i32_w]
              rfl
            refine take_ (i := 1) (N := some 42) (v := ?_) (a' := ?_) #[true, true, false, false, false] rfl rfl (by kernel_rfl) (fun _ _ _ h => h) (Or.inl ⟨by rfl, ?_⟩) hHeld ?_ ?_
            rotate_left
            · rintro w' ⟨s0, s1, s2, s3, s4, s5⟩
              go_simp
              with_reducible rfl
            rotate_left
            · simp only [Act.put, List.setIfInBounds_toArray, List.set_cons_zero, List.set_cons_succ, i64_w, i32_w]
              rfl
            refine one_ (i := 2) (N := some 43) #[true, true, true, false, false] rfl rfl (by kernel_rfl) (by decide) (fun K hK => ?_)
            refine goes_ Try.func35 (by kernel_rfl) rfl #[.agg #[.string a0_0, .int .i64 a0_1, .slice A0_2 l0_2.length c0_2]] (by rfl) rfl rfl (by (try simp only [List.map_toArray, List.map_cons, List.map_nil]); first | done | rfl | (simp only [List.length_drop, List.length_take]; rfl)) ?_
            with_reducible refine (laws_toReport.calls kj10 a0_0 a0_1 _ _ l0_2 t235 t236 t237 _ ?side1 ?side2 A56.out).mono ?_
            (case side1 => exact cS (Kd.C_below HR0_2.out HB.out))
            (case side2 => exact HC0_2.out)
            rintro e w62 ⟨v238, rfl, ho0, hb⟩
            refine ⟨_, rfl, ?_⟩
            have n0_ := AZ (Kd.R_below (rS HO_222001.out) hb)
            have n1_ := AZ (Kd.S_elder' (sS HO_228002.out) (Kd.S_base ho0) hb)
            have n2_ := AZ (Kd.R_below (rS HO_234001.out) hb)
            have n3_ := AZ (Kd.S_lower (Kd.S_newB (Kd.S_newB (Kd.S_new' (Kd.S_new' (Kd.S_new' ho0 (Kd.R_lt (rS HO_222001.out))) (Kd.S_lt (sS HO_228002.out))) (Kd.R_lt (rS HO_234001.out))) (g := gb221) (o := .cells #[.string t216, .slice Ao22 t217.length co22] 58 (0, 0)) (blkS BK221.out)) (g := gb233) (o := .cells #[.string t228, .slice Ao36 t229.length co36] 58 (0, 0)) (blkS BK233.out)) (below_size (bS HB.out)))
            have n4_ := blkA BK209 hb
            have n5_ := blkA BK221 hb
            have n6_ := blkA BK227 hb
            have n7_ := blkA BK233 hb
            have n8_ := AZ (below_step (bS HB.out) hb)
            clear HO_222001
            clear HO_228002
            clear HO_234001
            clear BK209
            clear BK221
            clear BK227
            clear BK233
            clear HB
            have HO_222001 := n0_
            have HO_228002 := n1_
            have HO_234001 := n2_
            have HO239 := n3_
            have BK209 := n4_
            have BK221 := n5_
            have BK227 := n6_
            have BK233 := n7_
            have HB := n8_
            clear n0_ n1_ n2_ n3_ n4_ n5_ n6_ n7_ n8_
            (try clear hb)
            (try clear hb2)
            (try clear hk)
            (try clear hi)
            (try clear ho0)
            obtain ⟨Ao63, co63, eo63⟩ := Kd.S_slice HO239.out
            (first | subst eo63 | (injection eo63 with f1_ f2_ f3_; have f4_ := f1_.symm; have f5_ := f3_.symm; clear f1_ f2_ f3_; subst f4_; subst f5_))
            refine hK.out _ _ ⟨(blk_cell BK227.out 0).trans rfl, (blk_cell BK227.out 1).trans rfl, (blk_cell BK227.out 2).trans rfl, (blk_cell BK209.out 0).trans rfl, (blk_cell BK209.out 1).trans rfl, (blk_cell BK209.out 2).trans rfl⟩ (fun hHeld => ?_)
            clear hK K
            refine norm_ (a' := ?_) ?_ ?_
            rotate_left
            · show Act.put _ (some 43) _ = _
              simp only [Act.put, List.setIfInBounds_toArray, List.set_cons_zero, List.set_cons_succ, i64_w, i32_w]
              rfl
            refine one_ (i := 3) (N := some 44) #[true, true, true, true, false] rfl rfl (by kernel_rfl) (by decide) (fun K hK => ?_)
            refine goes_ Try.func37 (by kernel_rfl) rfl #[.agg #[.string t222, .int .i64 t223, .slice Ao29 t224.length co29], .agg #[.string t235, .int .i64 t236, .slice Ao63 t237.length co63]] (by rfl) rfl rfl (by (try simp only [List.map_toArray, List.map_cons, List.map_nil]); first | done | rfl | (simp only [List.length_drop, List.length_take]; rfl)) ?_
            with_reducible refine (laws_eqReport.calls kj10 t222 t223 _ _ t224 t235 t236 _ _ t237 true _ ?side1 ?side2 ?side3 ?side4 A57.out).mono ?_
            (case side1 => exact cS (Kd.S_reads' HO_228002.out).2.2)
            (case side2 => exact (Kd.S_reads' HO_228002.out).2.1)
            (case side3 => exact cS (Kd.S_reads' HO239.out).2.2)
            (case side4 => exact (Kd.S_reads' HO239.out).2.1)
            rintro e w64 ⟨rfl, hb⟩
            refine ⟨_, rfl, ?_⟩
            have n0_ := AZ (Kd.R_below (rS HO_222001.out) hb)
            have n1_ := AZ (Kd.S_below (sS HO_228002.out) hb)
            have n2_ := AZ (Kd.R_below (rS HO_234001.out) hb)
            have n3_ := AZ (Kd.S_below (sS HO239.out) hb)
            have n4_ := blkA BK209 hb
            have n5_ := blkA BK221 hb
            have n6_ := blkA BK227 hb
            have n7_ := blkA BK233 hb
            have n8_ := AZ (below_step (bS HB.out) hb)
            clear HO_222001
            clear HO_228002
            clear HO_234001
            clear HO239
            clear BK209
            clear BK221
            clear BK227
            clear BK233
            clear HB
            have HO_222001 := n0_
            have HO_228002 := n1_
            have HO_234001 := n2_
            have HO239 := n3_
            have BK209 := n4_
            have BK221 := n5_
            have BK227 := n6_
            have BK233 := n7_
            have HB := n8_
            clear n0_ n1_ n2_ n3_ n4_ n5_ n6_ n7_ n8_
            (try clear hb)
            (try clear hb2)
            (try clear hk)
            (try clear hi)
            refine hK.out _ _ ⟨(blk_cell BK227.out 0).trans rfl, (blk_cell BK227.out 1).trans rfl, (blk_cell BK227.out 2).trans rfl, (blk_cell BK209.out 0).trans rfl, (blk_cell BK209.out 1).trans rfl, (blk_cell BK209.out 2).trans rfl⟩ (fun hHeld => ?_)
            clear hK K
            refine norm_ (a' := ?_) ?_ ?_
            rotate_left
            · show Act.put _ (some 44) _ = _
              simp only [Act.put, List.setIfInBounds_toArray, List.set_cons_zero, List.set_cons_succ, i64_w, i32_w]
              rfl
            refine pure_ (i := 4) (N := some 45) (v := ?_) (a' := ?_) #[true, true, true, true, true] rfl rfl (by kernel_rfl) (fun _ _ _ h => h) (Or.inl ⟨by rfl, ?_⟩) ?_ ?_
            rotate_left
            · intro w'
              go_simp
              with_reducible rfl
            rotate_left
            · simp only [Act.put, List.setIfInBounds_toArray, List.set_cons_zero, List.set_cons_succ, i64_w, i32_w]
              rfl
            refine done_ (by kernel_rfl) ?_
            have hnb65 := NB227_209.out
            have hnc65 := NB209_227.out
            have hnb66 := NB227_221.out
            have hnc66 := NB221_227.out
            have hnb67 := NB227_233.out
            have hnc67 := NB233_227.out
            have hcz68_0 : w64.cell? ⟨gb227, 0, none⟩ = some (.string t222) := (blk_cell BK227.out 0).trans rfl
            have hcz68_1 : w64.cell? ⟨gb227, 1, none⟩ = some (.int .i64 t223) := (blk_cell BK227.out 1).trans rfl
            have hcz68_2 : w64.cell? ⟨gb227, 2, none⟩ = some (.slice Ao29 t224.length co29) := (blk_cell BK227.out 2).trans rfl
            have hfz68_0 := blk_frozen BK227.out 0
            have hfz68_1 := blk_frozen BK227.out 1
            have hfz68_2 := blk_frozen BK227.out 2
            go_upto_region 14 with (first | ((with_reducible refine gate_callee (f := 40) rfl ?_); refine gL (some 48) Try.func40 #[.agg #[.string t222, .int .i64 t223, .slice Ao29 t224.length co29], .int .i64 1] ?_; (with_reducible refine (laws_markReport.calls kj10 t222 t223 ?P1 (.slice Ao29 t224.length co29) t224 1 t241 w _ ?side1 ?side2 ?side3 A59.out).mono ?_); (case side1 => repeat (first | (with_reducible first | exact HB.out | apply below_alloc | apply pw_below_drewN | apply below_drew1 | refine below_set ?_ GE209.out | refine below_set ?_ GE221.out | refine below_set ?_ GE227.out | refine below_set ?_ GE233.out) | exact HB.out)); (case side2 => exact Kd.S_bound (HO_228002.out)); (case side3 => exact fun k_ hk_ => hk_.2.2.1); rintro e w69 ⟨rfl, hb, hkp⟩; refine ⟨_, rfl, ?_⟩; have n0_ := AZ (Kd.R_mono (Kd.R_kept (Kd.R_tight rfl (HO_222001.out)) hkp (fun k_ e_ hs_ => (((hs_).1.1.1) e_))) (fun k_ e_ => (HO_222001.out).1 k_ e_.symm)); have n1_ := AZ (Kd.R_mono (Kd.R_kept (Kd.R_tight rfl (HO_234001.out)) hkp (fun k_ e_ hs_ => (((hs_).1.1.2.1) e_))) (fun k_ e_ => (HO_234001.out).1 k_ e_.symm)); have n2_ := AZ (blk_kept (g := gb209) (o := .cells #[.string a0_0, .int .i64 a0_1, .slice A0_2 l0_2.length c0_2] 45 (0, 0)) (blkS BK209.out) hkp (fun hs_ => (typed_absurd ((hs_).2.2.2) ⟨_, blkS BK209.out⟩ (by decide)))); have n3_ := AZ (blk_kept (g := gb221) (o := .cells #[.string t216, .slice Ao22 t217.length co22] 58 (0, 0)) (blkS BK221.out) hkp (fun hs_ => (((hs_).1.1.2.2.1) rfl))); have n4_ := AZ (blk_kept (g := gb227) (o := .cells #[.string t222, .int .i64 t223, .slice Ao29 t224.length co29] 50 (0, 0)) (blkS BK227.out) hkp (fun hs_ => (typed_absurd ((hs_).2.2.2) ⟨_, blkS BK227.out⟩ (by decide)))); have n5_ := AZ (blk_kept (g := gb233) (o := .cells #[.string t228, .slice Ao36 t229.length co36] 58 (0, 0)) (blkS BK233.out) hkp (fun hs_ => (((hs_).1.1.2.2.2) rfl))); have n6_ := AZ (hb); clear HO_222001; clear HO_234001; clear BK209; clear BK221; clear BK227; clear BK233; clear HB; clear HO_228002; clear HO239; have HO_222001 := n0_; have HO_234001 := n1_; have BK209 := n2_; have BK221 := n3_; have BK227 := n4_; have BK233 := n5_; have HB := n6_; clear n0_ n1_ n2_ n3_ n4_ n5_ n6_; (try clear hb hkp)))
            (try simp only [Act.put, List.setIfInBounds_toArray, List.set_cons_zero, List.set_cons_succ])
            go_cut [61] (fun v61 wc => ∃ (kq : Nat) (x61_59 : Bool), v61 = .bool x61_59 ∧ Aside0 (laws_FnExactSumRow.j1 kq t220 x61_59 a0_0 a0_1 l0_2 t216 t217 t228 t229 = some r) ∧ Aside0 (kq ≤ kj10) ∧ Aside0 (Kd.R (Kd.int .i64) 3 wc w.heap.size (fun k_ => some k_ ≠ ((.slice Ao36 t229.length co36) : Value).ownBlock) (.slice Ao22 t217.length co22) t217) ∧ Aside0 (Kd.R (Kd.int .i64) 3 wc w.heap.size (fun k_ => some k_ ≠ ((.slice Ao22 t217.length co22) : Value).ownBlock) (.slice Ao36 t229.length co36) t229) ∧ Aside0 (wc.heap[gb209]? = some (.cells #[.string a0_0, .int .i64 a0_1, (.slice A0_2 l0_2.length c0_2)] 45 (0, 0))) ∧ Aside0 (wc.heap[gb221]? = some (.cells #[.string t216, (.slice Ao22 t217.length co22)] 58 (0, 0))) ∧ Aside0 (wc.heap[gb233]? = some (.cells #[.string t228, (.slice Ao36 t229.length co36)] 58 (0, 0))) ∧ Aside0 (Below w.heap.size w wc))
            case first =>
              have H := HC60.out
              clear HC60
              by_cases c70 : t241 < 0
              · rw [if_pos c70] at H
                have c70b0 : decide (t241 < 0) = true := decide_eq_true c70
                clear c70
                (first | rw [c70b0] | (simp only [i64_w, i32_w]; rw [c70b0]) | skip)
                have H' := Aside0.mk H
                clear H
                go_wp2
                go_meet
                case rel => exact ⟨_, (true), (by first | rfl | (simp; done) | (simp [*]; done)), H', ⟨by have := HJ10.out; first | omega | exact Nat.le_refl _⟩, ⟨rS HO_222001.out⟩, ⟨rS HO_234001.out⟩, ⟨blkS BK209.out⟩, ⟨blkS BK221.out⟩, ⟨blkS BK233.out⟩, ⟨bS HB.out⟩⟩
              · rw [if_neg c70] at H
                have c70b0 : decide (t241 < 0) = false := decide_eq_false c70
                clear c70
                (first | rw [c70b0] | (simp only [i64_w, i32_w]; rw [c70b0]) | skip)
                replace H := Option.bind_eq_some_iff.mp H
                obtain ⟨t242, A710, H⟩ := H
                replace H : (if t242 = true then (laws_FnExactSumRow.j1 kj10 t220 (t232 != t220) a0_0 a0_1 l0_2 t216 t217 t228 t229) else (laws_FnExactSumRow.j1 kj10 t220 true a0_0 a0_1 l0_2 t216 t217 t228 t229)) = some r := H
                have A71 := Aside0.mk A710
                clear A710
                by_cases c72 : t242 = true
                · subst c72
                  have H1 : (laws_FnExactSumRow.j1 kj10 t220 (t232 != t220) a0_0 a0_1 l0_2 t216 t217 t228 t229) = some r := by rw [if_pos rfl] at H; exact H
                  clear H
                  have H := H1
                  clear H1
                  have H' := Aside0.mk H
                  clear H
                  have hnb73 := NB233_209.out
                  have hnc73 := NB209_233.out
                  have hnb74 := NB233_221.out
                  have hnc74 := NB221_233.out
                  have hnb75 := NB233_227.out
                  have hnc75 := NB227_233.out
                  have hcz76_0 : w69.cell? ⟨gb233, 0, none⟩ = some (.string t228) := (blk_cell BK233.out 0).trans rfl
                  have hcz76_1 : w69.cell? ⟨gb233, 1, none⟩ = some (.slice Ao36 t229.length co36) := (blk_cell BK233.out 1).trans rfl
                  have hfz76_0 := blk_frozen BK233.out 0
                  have hfz76_1 := blk_frozen BK233.out 1
                  have hnb77 := NB221_209.out
                  have hnc77 := NB209_221.out
                  have hnb78 := NB221_227.out
                  have hnc78 := NB227_221.out
                  have hcz79_0 : w69.cell? ⟨gb221, 0, none⟩ = some (.string t216) := (blk_cell BK221.out 0).trans rfl
                  have hcz79_1 : w69.cell? ⟨gb221, 1, none⟩ = some (.slice Ao22 t217.length co22) := (blk_cell BK221.out 1).trans rfl
                  have hfz79_0 := blk_frozen BK221.out 0
                  have hfz79_1 := blk_frozen BK221.out 1
                  go_wp2_with (first | (go_at_call 43; (with_reducible refine (laws_eqRow.calls kj10 t228 _ _ t229 t216 _ _ t217 true _ ?side1 ?side2 ?side3 ?side4 A71.out).mono ?_); (case side1 => exact cS (Kd.R_reads' HO_234001.out).2.2); (case side2 => exact (Kd.R_reads' HO_234001.out).2.1); (case side3 => exact cS (Kd.R_reads' HO_222001.out).2.2); (case side4 => exact (Kd.R_reads' HO_222001.out).2.1); rintro e w80 ⟨rfl, hb⟩; have n0_ := AZ (Kd.R_below (rS HO_222001.out) hb); have n1_ := AZ (Kd.R_below (rS HO_234001.out) hb); have n2_ := blkA BK209 hb; have n3_ := blkA BK221 hb; have n4_ := blkA BK227 hb; have n5_ := blkA BK233 hb; have n6_ := AZ (below_step (bS HB.out) hb); clear HO_222001; clear HO_234001; clear BK209; clear BK221; clear BK227; clear BK233; clear HB; have HO_222001 := n0_; have HO_234001 := n1_; have BK209 := n2_; have BK221 := n3_; have BK227 := n4_; have BK233 := n5_; have HB := n6_; clear n0_ n1_ n2_ n3_ n4_ n5_ n6_; (try clear hb)))
                  go_meet
                  case rel => exact ⟨_, ((t232 != t220)), (by first | rfl | (simp; done) | (simp [*]; done)), H', ⟨by have := HJ10.out; first | omega | exact Nat.le_refl _⟩, ⟨rS HO_222001.out⟩, ⟨rS HO_234001.out⟩, ⟨blkS BK209.out⟩, ⟨blkS BK221.out⟩, ⟨blkS BK233.out⟩, ⟨bS HB.out⟩⟩
                · replace c72 := Bool.eq_false_iff.mpr c72
                  subst c72
                  have H1 : (laws_FnExactSumRow.j1 kj10 t220 true a0_0 a0_1 l0_2 t216 t217 t228 t229) = some r := by rw [if_neg (show ¬ (false = true) by decide)] at H; exact H
                  clear H
                  have H := H1
                  clear H1
                  have H' := Aside0.mk H
                  clear H
                  have hnb81 := NB233_209.out
                  have hnc81 := NB209_233.out
                  have hnb82 := NB233_221.out
                  have hnc82 := NB221_233.out
                  have hnb83 := NB233_227.out
                  have hnc83 := NB227_233.out
                  have hcz84_0 : w69.cell? ⟨gb233, 0, none⟩ = some (.string t228) := (blk_cell BK233.out 0).trans rfl
                  have hcz84_1 : w69.cell? ⟨gb233, 1, none⟩ = some (.slice Ao36 t229.length co36) := (blk_cell BK233.out 1).trans rfl
                  have hfz84_0 := blk_frozen BK233.out 0
                  have hfz84_1 := blk_frozen BK233.out 1
                  have hnb85 := NB221_209.out
                  have hnc85 := NB209_221.out
                  have hnb86 := NB221_227.out
                  have hnc86 := NB227_221.out
                  have hcz87_0 : w69.cell? ⟨gb221, 0, none⟩ = some (.string t216) := (blk_cell BK221.out 0).trans rfl
                  have hcz87_1 : w69.cell? ⟨gb221, 1, none⟩ = some (.slice Ao22 t217.length co22) := (blk_cell BK221.out 1).trans rfl
                  have hfz87_0 := blk_frozen BK221.out 0
                  have hfz87_1 := blk_frozen BK221.out 1
                  go_wp2_with (first | (go_at_call 43; (with_reducible refine (laws_eqRow.calls kj10 t228 _ _ t229 t216 _ _ t217 false _ ?side1 ?side2 ?side3 ?side4 A71.out).mono ?_); (case side1 => exact cS (Kd.R_reads' HO_234001.out).2.2); (case side2 => exact (Kd.R_reads' HO_234001.out).2.1); (case side3 => exact cS (Kd.R_reads' HO_222001.out).2.2); (case side4 => exact (Kd.R_reads' HO_222001.out).2.1); rintro e w88 ⟨rfl, hb⟩; have n0_ := AZ (Kd.R_below (rS HO_222001.out) hb); have n1_ := AZ (Kd.R_below (rS HO_234001.out) hb); have n2_ := blkA BK209 hb; have n3_ := blkA BK221 hb; have n4_ := blkA BK227 hb; have n5_ := blkA BK233 hb; have n6_ := AZ (below_step (bS HB.out) hb); clear HO_222001; clear HO_234001; clear BK209; clear BK221; clear BK227; clear BK233; clear HB; have HO_222001 := n0_; have HO_234001 := n1_; have BK209 := n2_; have BK221 := n3_; have BK227 := n4_; have BK233 := n5_; have HB := n6_; clear n0_ n1_ n2_ n3_ n4_ n5_ n6_; (try clear hb)))
                  go_meet
                  case rel => exact ⟨_, (true), (by first | rfl | (simp; done) | (simp [*]; done)), H', ⟨by have := HJ10.out; first | omega | exact Nat.le_refl _⟩, ⟨rS HO_222001.out⟩, ⟨rS HO_234001.out⟩, ⟨blkS BK209.out⟩, ⟨blkS BK221.out⟩, ⟨blkS BK233.out⟩, ⟨bS HB.out⟩⟩
            case rest =>
              clear HC60
              try clear c1
              try clear c2
              try clear p2
              try clear c3
              try clear c3b0
              try clear c4
              try clear c5
              try clear c6
              try clear c7
              try clear c8
              try clear c11
              try clear c20
              try clear c26
              try clear c27
              try clear c32
              try clear c33
              try clear c34
              try clear c35
              try clear c37
              try clear c38
              try clear c39
              try clear c40
              try clear c41
              try clear c43
              try clear c44
              try clear c46
              try clear c47
              try clear c48
              try clear c49
              try clear c51
              try clear c52
              try clear c55
              try clear c58
              try clear c65
              try clear c66
              try clear c67
              try clear c70
              try clear c70b0
              try clear c72
              try clear c73
              try clear c74
              try clear c75
              try clear c77
              try clear c78
              try clear c81
              try clear c82
              try clear c83
              try clear c85
              try clear c86
              try clear hcz13_0
              try clear hcz13_1
              try clear hcz13_2
              try clear hcz15_0
              try clear hcz15_1
              try clear hcz15_2
              try clear hcz21_0
              try clear hcz21_1
              try clear hcz23_0
              try clear hcz23_1
              try clear hcz23_2
              try clear hcz28_0
              try clear hcz28_1
              try clear hcz28_2
              try clear hcz35_0
              try clear hcz35_1
              try clear hcz42_0
              try clear hcz42_1
              try clear hcz45_0
              try clear hcz45_1
              try clear hcz50_0
              try clear hcz50_1
              try clear hcz53_0
              try clear hcz53_1
              try clear hcz5_0
              try clear hcz5_1
              try clear hcz5_2
              try clear hcz68_0
              try clear hcz68_1
              try clear hcz68_2
              try clear hcz76_0
              try clear hcz76_1
              try clear hcz79_0
              try clear hcz79_1
              try clear hcz84_0
              try clear hcz84_1
              try clear hcz87_0
              try clear hcz87_1
              try clear hfz13_0
              try clear hfz13_1
              try clear hfz13_2
              try clear hfz15_0
              try clear hfz15_1
              try clear hfz15_2
              try clear hfz21_0
              try clear hfz21_1
              try clear hfz23_0
              try clear hfz23_1
              try clear hfz23_2
              try clear hfz28_0
              try clear hfz28_1
              try clear hfz28_2
              try clear hfz35_0
              try clear hfz35_1
              try clear hfz42_0
              try clear hfz42_1
              try clear hfz45_0
              try clear hfz45_1
              try clear hfz50_0
              try clear hfz50_1
              try clear hfz53_0
              try clear hfz53_1
              try clear hfz5_0
              try clear hfz5_1
              try clear hfz5_2
              try clear hfz68_0
              try clear hfz68_1
              try clear hfz68_2
              try clear hfz76_0
              try clear hfz76_1
              try clear hfz79_0
              try clear hfz79_1
              try clear hfz84_0
              try clear hfz84_1
              try clear hfz87_0
              try clear hfz87_1
              try clear p2
              obtain ⟨kq, x61_59, rfl, HA, HJ59, HO_222001, HO_234001, BK209, BK221, BK233, HB⟩ := hcut
              cases kq with
              | zero => exact absurd HA.out (by simp [laws_FnExactSumRow.j1])
              | succ kj59 =>
                have H := HA.out
                clear HA
                simp only [laws_FnExactSumRow.j1] at H
                by_cases c89 : x61_59 = true
                · subst c89
                  have H1 : (none) = some r := by rw [if_pos rfl] at H; exact H
                  clear H
                  have H := H1
                  clear H1
                  exact absurd H (by simp)
                · replace c89 := Bool.eq_false_iff.mpr c89
                  subst c89
                  have H1 : ((laws_markRow.f kj59 t228 t229 1).bind fun bt243 => ((laws_heldRow.f kj59 t228 bt243.2 1).bind fun t245 => (if t245 < 0 then (none) else (if t245 = bt243.1 then ((laws_toReport.f kj59 a0_0 a0_1 l0_2).bind fun bt246 => ((impl_SumRow.f kj59 bt246.1 bt246.2.1 bt246.2.2).bind fun bt251 => ((laws_eqRow.f kj59 bt251.1 bt251.2.1 t216 t217).bind fun t257 => (if t257 = true then (laws_FnExactSumRow.j2 kj59 bt243.1 (bt251.2.2 != t220) t228 bt243.2) else (laws_FnExactSumRow.j2 kj59 bt243.1 true t228 bt243.2))))) else (none))))) = some r := by rw [if_neg (show ¬ (false = true) by decide)] at H; exact H
                  clear H
                  have H := H1
                  clear H1
                  replace H := Option.bind_eq_some_iff.mp H
                  obtain ⟨⟨t243, t244⟩, A900, H⟩ := H
                  replace H : ((laws_heldRow.f kj59 t228 t244 1).bind fun t245 => (if t245 < 0 then (none) else (if t245 = t243 then ((laws_toReport.f kj59 a0_0 a0_1 l0_2).bind fun bt246 => ((impl_SumRow.f kj59 bt246.1 bt246.2.1 bt246.2.2).bind fun bt251 => ((laws_eqRow.f kj59 bt251.1 bt251.2.1 t216 t217).bind fun t257 => (if t257 = true then (laws_FnExactSumRow.j2 kj59 t243 (bt251.2.2 != t220) t228 t244) else (laws_FnExactSumRow.j2 kj59 t243 true t228 t244))))) else (none)))) = some r := H
                  have A90 := Aside0.mk A900
                  clear A900
                  replace H := Option.bind_eq_some_iff.mp H
                  obtain ⟨t245, A910, H⟩ := H
                  replace H : (if t245 < 0 then (none) else (if t245 = t243 then ((laws_toReport.f kj59 a0_0 a0_1 l0_2).bind fun bt246 => ((impl_SumRow.f kj59 bt246.1 bt246.2.1 bt246.2.2).bind fun bt251 => ((laws_eqRow.f kj59 bt251.1 bt251.2.1 t216 t217).bind fun t257 => (if t257 = true then (laws_FnExactSumRow.j2 kj59 t243 (bt251.2.2 != t220) t228 t244) else (laws_FnExactSumRow.j2 kj59 t243 true t228 t244))))) else (none))) = some r := H
                  have A91 := Aside0.mk A910
                  clear A910
                  by_cases c92 : t245 < 0
                  · rw [if_pos c92] at H
                    exact absurd H (by simp)
                  · rw [if_neg c92] at H
                    have c92b0 : decide (t245 < 0) = false := decide_eq_false c92
                    clear c92
                    by_cases c93 : t245 = t243
                    · rw [if_pos c93] at H
                      have c93b0 : (t245 == t243) = true := beq_iff_eq.mpr c93
                      have c93b1 : (t245 != t243) = false := bne_eq_false_iff_eq.mpr c93
                      clear c93
                      replace H := Option.bind_eq_some_iff.mp H
                      obtain ⟨⟨t246, t247, t248⟩, A940, H⟩ := H
                      replace H : ((impl_SumRow.f kj59 t246 t247 t248).bind fun bt251 => ((laws_eqRow.f kj59 bt251.1 bt251.2.1 t216 t217).bind fun t257 => (if t257 = true then (laws_FnExactSumRow.j2 kj59 t243 (bt251.2.2 != t220) t228 t244) else (laws_FnExactSumRow.j2 kj59 t243 true t228 t244)))) = some r := H
                      have A94 := Aside0.mk A940
                      clear A940
                      replace H := Option.bind_eq_some_iff.mp H
                      obtain ⟨⟨t251, t252, t255⟩, A950, H⟩ := H
                      replace H : ((laws_eqRow.f kj59 t251 t252 t216 t217).bind fun t257 => (if t257 = true then (laws_FnExactSumRow.j2 kj59 t243 (t255 != t220) t228 t244) else (laws_FnExactSumRow.j2 kj59 t243 true t228 t244))) = some r := H
                      have A95 := Aside0.mk A950
                      clear A950
                      have HC96 := Aside0.mk H
                      clear H
                      have hnb97 := NB233_209.out
                      have hnc97 := NB209_233.out
                      have hnb98 := NB233_221.out
                      have hnc98 := NB221_233.out
                      have hcz99_0 : wc.cell? ⟨gb233, 0, none⟩ = some (.string t228) := (blk_cell BK233.out 0).trans rfl
                      have hcz99_1 : wc.cell? ⟨gb233, 1, none⟩ = some (.slice Ao36 t229.length co36) := (blk_cell BK233.out 1).trans rfl
                      have hfz99_0 := blk_frozen BK233.out 0
                      have hfz99_1 := blk_frozen BK233.out 1
                      go_upto_region 25 with (first | ((with_reducible refine gate_callee (f := 44) rfl ?_); refine gL (some 64) Try.func44 #[.agg #[.string t228, .slice Ao36 t229.length co36], .int .i64 1] ?_; (with_reducible refine (laws_markRow.calls kj59 t228 (fun k_ => some k_ = (.slice Ao36 t229.length co36 : Value).ownBlock) (.slice Ao36 t229.length co36) t229 1 t243 t244 w _ ?side1 ?side2 A90.out).mono ?_); (case side1 => repeat (first | (with_reducible first | exact HB.out | apply below_alloc | apply pw_below_drewN | apply below_drew1 | refine below_set ?_ GE209.out | refine below_set ?_ GE221.out | refine below_set ?_ GE233.out) | exact HB.out)); (case side2 => exact Kd.R_tight rfl HO_234001.out); rintro e w100 ⟨rfl, hy0, hb, hkp⟩; refine ⟨_, rfl, ?_⟩; have n0_ := AZ (Kd.R_mono (ok' := fun k_ => some k_ ≠ (.slice Ao36 t229.length co36 : Value).ownBlock) (Kd.R_keptB (HO_222001.out) hkp (fun k_ hk_ hs_ => (hk_) hs_)) (fun k_ hk_ => hk_.1)); have n1_ := AZ (Kd.R_reok rfl hy0 (fun k_ e_ => HO_234001.out.1 k_ e_)); have n2_ := AZ (blk_kept (blkS BK209.out) hkp (fun hs_ => (fun e_ => (Kd.R_ne HO_234001.out BK209.out (by decide)) e_) hs_)); have n3_ := AZ (blk_kept (blkS BK221.out) hkp (fun hs_ => (fun e_ => (Kd.R_ne HO_234001.out BK221.out (by decide)) e_) hs_)); have n4_ := AZ (blk_kept (blkS BK233.out) hkp (fun hs_ => (fun e_ => (Kd.R_ne HO_234001.out BK233.out (by decide)) e_) hs_)); have n5_ := AZ (hb); clear HO_222001; clear HO_234001; clear BK209; clear BK221; clear BK233; clear HB; have HO_222001 := n0_; have HO_234001 := n1_; have BK209 := n2_; have BK221 := n3_; have BK233 := n4_; have HB := n5_; clear n0_ n1_ n2_ n3_ n4_ n5_; (try clear hb); (try clear hkp); (try clear hy0); have hcz101_0 : w100.cell? ⟨gb233, 0, none⟩ = some (.string t228) := (blk_cell BK233.out 0).trans rfl; have hcz101_1 : w100.cell? ⟨gb233, 1, none⟩ = some (.slice Ao36 t229.length co36) := (blk_cell BK233.out 1).trans rfl; have hfz101_0 := blk_frozen BK233.out 0; have hfz101_1 := blk_frozen BK233.out 1) | ((with_reducible refine gate_callee (f := 45) rfl ?_); refine goesL_ (some 67) rfl rfl Try.func45 (by kernel_rfl) rfl #[.agg #[.string t228, .slice Ao36 t244.length co36], .int .i64 1] rfl (by (try simp only [List.map_toArray, List.map_cons, List.map_nil]); first | done | (rw [show t244.length = t229.length from (Kd.R_reads' HO_234001.out).1.symm] <;> rfl) | rfl | (simp only [List.length_drop, List.length_take]; rfl)) ?_; (with_reducible refine (laws_heldRow.calls kj59 t228 _ _ t244 1 t245 _ ?side1 ?side2 A91.out).mono ?_); (case side1 => exact cS (Kd.R_reads' HO_234001.out).2.2); (case side2 => rw [show t244.length = t229.length from (Kd.R_reads' HO_234001.out).1.symm]; exact (Kd.R_reads' HO_234001.out).2.1); rintro e w102 ⟨rfl, hb⟩; refine ⟨_, rfl, ?_⟩; have n0_ := AZ (Kd.R_below (rS HO_222001.out) hb); have n1_ := AZ (Kd.R_below (rS HO_234001.out) hb); have n2_ := blkA BK209 hb; have n3_ := blkA BK221 hb; have n4_ := blkA BK233 hb; have n5_ := AZ (below_step (bS HB.out) hb); clear HO_222001; clear HO_234001; clear BK209; clear BK221; clear BK233; clear HB; have HO_222001 := n0_; have HO_234001 := n1_; have BK209 := n2_; have BK221 := n3_; have BK233 := n4_; have HB := n5_; clear n0_ n1_ n2_ n3_ n4_ n5_; (try clear hb); have hnb103 := NB209_221.out; have hnc103 := NB221_209.out; have hcz104_0 : w102.cell? ⟨gb209, 0, none⟩ = some (.string a0_0) := (blk_cell BK209.out 0).trans rfl; have hcz104_1 : w102.cell? ⟨gb209, 1, none⟩ = some (.int .i64 a0_1) := (blk_cell BK209.out 1).trans rfl; have hcz104_2 : w102.cell? ⟨gb209, 2, none⟩ = some (.slice A0_2 l0_2.length c0_2) := (blk_cell BK209.out 2).trans rfl; have hfz104_0 := blk_frozen BK209.out 0; have hfz104_1 := blk_frozen BK209.out 1; have hfz104_2 := blk_frozen BK209.out 2) | ((with_reducible refine gate_callee (f := 35) rfl ?_); refine gL (some 75) Try.func35 #[.agg #[.string a0_0, .int .i64 a0_1, .slice A0_2 l0_2.length c0_2]] ?_; (with_reducible refine (laws_toReport.calls kj59 a0_0 a0_1 _ _ l0_2 t246 t247 t248 _ ?side1 ?side2 A94.out).mono ?_); (case side1 => exact cS (Kd.C_below HR0_2.out HB.out)); (case side2 => exact HC0_2.out); rintro e w105 ⟨v249, rfl, ho0, hb⟩; refine ⟨_, rfl, ?_⟩; have n0_ := AZ (Kd.R_below (rS HO_222001.out) hb); have n1_ := AZ (Kd.R_below (rS HO_234001.out) hb); have n2_ := AZ (Kd.S_lower (Kd.S_newB (Kd.S_newB (Kd.S_new' (Kd.S_new' ho0 (Kd.R_lt (rS HO_222001.out))) (Kd.R_lt (rS HO_234001.out))) (g := gb221) (o := .cells #[.string t216, .slice Ao22 t217.length co22] 58 (0, 0)) (blkS BK221.out)) (g := gb233) (o := .cells #[.string t228, .slice Ao36 t229.length co36] 58 (0, 0)) (blkS BK233.out)) (below_size (bS HB.out))); have n3_ := blkA BK209 hb; have n4_ := blkA BK221 hb; have n5_ := blkA BK233 hb; have n6_ := AZ (below_step (bS HB.out) hb); clear HO_222001; clear HO_234001; clear BK209; clear BK221; clear BK233; clear HB; have HO_222001 := n0_; have HO_234001 := n1_; have HO250 := n2_; have BK209 := n3_; have BK221 := n4_; have BK233 := n5_; have HB := n6_; clear n0_ n1_ n2_ n3_ n4_ n5_ n6_; (try clear hb ho0); obtain ⟨Ao106, co106, eo106⟩ := Kd.S_slice HO250.out; subst eo106) | ((with_reducible refine gate_callee (f := 47) rfl ?_); refine gL (some 76) Try.func47 #[.agg #[.string t246, .int .i64 t247, .slice Ao106 t248.length co106]] ?_; (with_reducible refine (impl_SumRow.calls kj59 t246 t247 _ _ t248 t251 t252 t255 _ ?side1 ?side2 A95.out).mono ?_); (case side1 => exact cS (Kd.S_reads' HO250.out).2.2); (case side2 => exact (Kd.S_reads' HO250.out).2.1); rintro e w107 ⟨v253, rfl, ho0, hb⟩; refine ⟨_, rfl, ?_⟩; have n0_ := AZ (Kd.R_elder' (rS HO_222001.out) (Kd.R_base ho0) hb); have n1_ := AZ (Kd.R_elder' (rS HO_234001.out) (Kd.R_base ho0) hb); have n2_ := AZ (Kd.S_elder' (sS HO250.out) (Kd.R_base ho0) hb); have n3_ := AZ (Kd.R_lower (Kd.R_new' (Kd.R_new' ho0 (Kd.R_lt (rS HO_222001.out))) (Kd.R_lt (rS HO_234001.out))) (below_size (bS HB.out))); have n4_ := blkA BK209 hb; have n5_ := blkA BK221 hb; have n6_ := blkA BK233 hb; have n7_ := AZ (below_step (bS HB.out) hb); clear HO_222001; clear HO_234001; clear HO250; clear BK209; clear BK221; clear BK233; clear HB; have HO_222001 := n0_; have HO_234001 := n1_; have HO250 := n2_; have HO254 := n3_; have BK209 := n4_; have BK221 := n5_; have BK233 := n6_; have HB := n7_; clear n0_ n1_ n2_ n3_ n4_ n5_ n6_ n7_; (try clear hb ho0)) | ((with_reducible refine gate_dst (N := 12) rfl ?_); refine box_event ?hg (N := 12) ?hd (cs := #[.string (⟨#[]⟩ : ByteArray), .slice none 0 0]) (t := 58) ?hr ?_; (case hd => rfl); (case hg => rfl); (case hr => first | (go_simp; done) | (go_simp; rfl)); intro gb256 hg w108 hbox hb; have n0_ := AZ (Kd.R_below (rS HO_222001.out) hb); have n1_ := AZ (Kd.R_below (rS HO_234001.out) hb); have n2_ := AZ (Kd.S_below (Kd.S_elderB (sS HO250.out) gb256 (Nat.le_of_eq hg.symm)) hb); have n3_ := AZ (Kd.R_below (rS HO254.out) hb); have n4_ := blkA BK209 hb; have n5_ := blkA BK221 hb; have n6_ := blkA BK233 hb; have n7_ := AZ (below_step (bS HB.out) hb); have n8_ := AZ (hbox); have n9_ := AZ (geS hg HB.out); have n10_ := AZ (geS hg HB.out); have n11_ := AZ ((by rw [hg]; exact Nat.ne_of_lt (blkL BK209.out) : gb209 ≠ gb256)); have n12_ := AZ ((by rw [hg]; exact Nat.ne_of_gt (blkL BK209.out) : gb256 ≠ gb209)); have n13_ := AZ ((by rw [hg]; exact Nat.ne_of_lt (blkL BK221.out) : gb221 ≠ gb256)); have n14_ := AZ ((by rw [hg]; exact Nat.ne_of_gt (blkL BK221.out) : gb256 ≠ gb221)); have n15_ := AZ ((by rw [hg]; exact Nat.ne_of_lt (blkL BK233.out) : gb233 ≠ gb256)); have n16_ := AZ ((by rw [hg]; exact Nat.ne_of_gt (blkL BK233.out) : gb256 ≠ gb233)); clear HO_222001; clear HO_234001; clear HO250; clear HO254; clear BK209; clear BK221; clear BK233; clear HB; have HO_222001 := n0_; have HO_234001 := n1_; have HO250 := n2_; have HO254 := n3_; have BK209 := n4_; have BK221 := n5_; have BK233 := n6_; have HB := n7_; have BK256 := n8_; have GW256 := n9_; have GE256 := n10_; have NB209_256 := n11_; have NB256_209 := n12_; have NB221_256 := n13_; have NB256_221 := n14_; have NB233_256 := n15_; have NB256_233 := n16_; clear n0_ n1_ n2_ n3_ n4_ n5_ n6_ n7_ n8_ n9_ n10_ n11_ n12_ n13_ n14_ n15_ n16_; clear hb hbox hg; have hnb109 := NB256_209.out; have hnc109 := NB209_256.out; have hnb110 := NB256_221.out; have hnc110 := NB221_256.out; have hnb111 := NB256_233.out; have hnc111 := NB233_256.out; have hcz112_0 : w108.cell? ⟨gb256, 0, none⟩ = some (.string (⟨#[]⟩ : ByteArray)) := (blk_cell BK256.out 0).trans rfl; have hcz112_1 : w108.cell? ⟨gb256, 1, none⟩ = some (.slice none 0 0) := (blk_cell BK256.out 1).trans rfl; have hfz112_0 := blk_frozen BK256.out 0; have hfz112_1 := blk_frozen BK256.out 1; obtain ⟨Ao113, co113, eo113⟩ := Kd.R_slice HO254.out; subst eo113))
                      (try simp only [Act.put, List.setIfInBounds_toArray, List.set_cons_zero, List.set_cons_succ])
                      go_cut [87] (fun v87 wc => ∃ (kq : Nat) (x87_95 : Bool), v87 = .bool x87_95 ∧ Aside0 (laws_FnExactSumRow.j2 kq t243 x87_95 t228 t244 = some r) ∧ Aside0 (kq ≤ kj59) ∧ Aside0 (Kd.R (Kd.int .i64) 3 wc w.heap.size (fun k_ => some k_ ≠ ((.slice Ao36 t229.length co36) : Value).ownBlock ∧ some k_ ≠ ((.slice Ao113 t252.length co113) : Value).ownBlock) (.slice Ao22 t217.length co22) t217) ∧ Aside0 (Kd.R (Kd.int .i64) 3 wc w.heap.size (fun k_ => some k_ ≠ ((.slice Ao22 t217.length co22) : Value).ownBlock ∧ some k_ ≠ ((.slice Ao113 t252.length co113) : Value).ownBlock) (.slice Ao36 t229.length co36) t244) ∧ Aside0 (Kd.R (Kd.int .i64) 3 wc w.heap.size (fun k_ => some k_ ≠ ((.slice Ao22 t217.length co22) : Value).ownBlock ∧ some k_ ≠ ((.slice Ao36 t229.length co36) : Value).ownBlock) (.slice Ao113 t252.length co113) t252) ∧ Aside0 (wc.heap[gb209]? = some (.cells #[.string a0_0, .int .i64 a0_1, (.slice A0_2 l0_2.length c0_2)] 45 (0, 0))) ∧ Aside0 (wc.heap[gb221]? = some (.cells #[.string t216, (.slice Ao22 t217.length co22)] 58 (0, 0))) ∧ Aside0 (wc.heap[gb233]? = some (.cells #[.string t228, (.slice Ao36 t229.length co36)] 58 (0, 0))) ∧ Aside0 (wc.heap[gb256]? = some (.cells #[.string t251, (.slice Ao113 t252.length co113)] 58 (0, 0))) ∧ Aside0 (Below w.heap.size w wc))
                      case first =>
                        have H := HC96.out
                        clear HC96
                        replace H := Option.bind_eq_some_iff.mp H
                        obtain ⟨t257, A1140, H⟩ := H
                        replace H : (if t257 = true then (laws_FnExactSumRow.j2 kj59 t243 (t255 != t220) t228 t244) else (laws_FnExactSumRow.j2 kj59 t243 true t228 t244)) = some r := H
                        have A114 := Aside0.mk A1140
                        clear A1140
                        by_cases c115 : t257 = true
                        · subst c115
                          have H1 : (laws_FnExactSumRow.j2 kj59 t243 (t255 != t220) t228 t244) = some r := by rw [if_pos rfl] at H; exact H
                          clear H
                          have H := H1
                          clear H1
                          have H' := Aside0.mk H
                          clear H
                          have hnb116 := NB256_209.out
                          have hnc116 := NB209_256.out
                          have hnb117 := NB256_221.out
                          have hnc117 := NB221_256.out
                          have hnb118 := NB256_233.out
                          have hnc118 := NB233_256.out
                          have hcz119_0 : w108.cell? ⟨gb256, 0, none⟩ = some (.string (⟨#[]⟩ : ByteArray)) := (blk_cell BK256.out 0).trans rfl
                          have hcz119_1 : w108.cell? ⟨gb256, 1, none⟩ = some (.slice none 0 0) := (blk_cell BK256.out 1).trans rfl
                          have hfz119_0 := blk_frozen BK256.out 0
                          have hfz119_1 := blk_frozen BK256.out 1
                          have hnb120 := NB221_209.out
                          have hnc120 := NB209_221.out
                          have hnb121 := NB221_233.out
                          have hnc121 := NB233_221.out
                          have hcz122_0 : w108.cell? ⟨gb221, 0, none⟩ = some (.string t216) := (blk_cell BK221.out 0).trans rfl
                          have hcz122_1 : w108.cell? ⟨gb221, 1, none⟩ = some (.slice Ao22 t217.length co22) := (blk_cell BK221.out 1).trans rfl
                          have hfz122_0 := blk_frozen BK221.out 0
                          have hfz122_1 := blk_frozen BK221.out 1
                          go_wp2_with (first | ((with_reducible refine gate_callee (f := 43) rfl ?_); refine gL (some 81) Try.func43 #[.agg #[.string t251, .slice Ao113 t252.length co113], .agg #[.string t216, .slice Ao22 t217.length co22]] ?_; (with_reducible refine (laws_eqRow.calls kj59 t251 _ _ t252 t216 _ _ t217 true _ ?side1 ?side2 ?side3 ?side4 A114.out).mono ?_); (case side1 => refine (Kd.R_reads' (e := 3) (base := w.heap.size) (ok := fun k_ => ((True ∧ some k_ ≠ (.slice Ao22 t217.length co22 : Value).ownBlock) ∧ some k_ ≠ (.slice Ao36 t229.length co36 : Value).ownBlock)) (n := t252.length) (c := co113) ?_).2.2; exact (by (with_reducible repeat (first | apply Kd.R_alloc | apply Kd.R_drewN | apply Kd.R_drew)); exact (Kd.R_mono (Kd.R_far (Kd.R_far (Kd.R_types HO254.out BK256.out (by decide)) (fun _ hk => hk.2) _) (fun _ hk => hk.2) _) (fun _ h_ => h_.1)))); (case side2 => exact (Kd.R_reads' HO254.out).2.1); (case side3 => refine (Kd.R_reads' (e := 3) (base := w.heap.size) (ok := fun k_ => (some k_ ≠ (.slice Ao36 t229.length co36 : Value).ownBlock ∧ some k_ ≠ (.slice Ao113 t252.length co113 : Value).ownBlock)) (n := t217.length) (c := co22) ?_).2.2; exact (by (with_reducible repeat (first | apply Kd.R_alloc | apply Kd.R_drewN | apply Kd.R_drew)); exact (Kd.R_mono (Kd.R_far (Kd.R_far (Kd.R_types HO_222001.out BK256.out (by decide)) (fun _ hk => hk.2) _) (fun _ hk => hk.2) _) (fun _ h_ => h_.1)))); (case side4 => exact (Kd.R_reads' HO_222001.out).2.1); rintro e w123 ⟨rfl, hb⟩; refine ⟨_, rfl, ?_⟩; have n0_ := AZ (Kd.R_below (by (with_reducible repeat (first | apply Kd.R_alloc | apply Kd.R_drewN | apply Kd.R_drew)); exact (Kd.R_mono (Kd.R_far (Kd.R_far (Kd.R_types HO_222001.out BK256.out (by decide)) (fun _ hk => hk.2) _) (fun _ hk => hk.2) _) (fun _ h_ => h_.1))) hb); have n1_ := AZ (Kd.R_below (by (with_reducible repeat (first | apply Kd.R_alloc | apply Kd.R_drewN | apply Kd.R_drew)); exact (Kd.R_mono (Kd.R_far (Kd.R_far (Kd.R_types HO_234001.out BK256.out (by decide)) (fun _ hk => hk.2) _) (fun _ hk => hk.2) _) (fun _ h_ => h_.1))) hb); have n2_ := AZ (Kd.S_below (by (with_reducible repeat (first | apply Kd.S_alloc | apply Kd.S_drewN | apply Kd.S_drew)); exact (Kd.S_mono (Kd.S_far (Kd.S_far (Kd.S_mono HO250.out (fun k_ hk => (⟨hk, hk.2⟩ : _ ∧ k_ ≠ gb256))) (fun _ hk => hk.2) _) (fun _ hk => hk.2) _) (fun _ h_ => h_.1))) hb); have n3_ := AZ (Kd.R_below (by (with_reducible repeat (first | apply Kd.R_alloc | apply Kd.R_drewN | apply Kd.R_drew)); exact (Kd.R_mono (Kd.R_far (Kd.R_far (Kd.R_types HO254.out BK256.out (by decide)) (fun _ hk => hk.2) _) (fun _ hk => hk.2) _) (fun _ h_ => h_.1))) hb); have n4_ := AZ (blk_below (g := gb209) (o := .cells #[.string a0_0, .int .i64 a0_1, .slice A0_2 l0_2.length c0_2] 45 (0, 0)) (by (with_reducible repeat (first | refine blk_drewN ?_ _ | refine blk_drew ?_ | refine blk_alloc ?_ _)); refine blk_far ?_ NB209_256.out _; (with_reducible repeat (first | refine blk_drewN ?_ _ | refine blk_drew ?_ | refine blk_alloc ?_ _)); refine blk_far ?_ NB209_256.out _; (with_reducible repeat (first | refine blk_drewN ?_ _ | refine blk_drew ?_ | refine blk_alloc ?_ _)); exact BK209.out) hb); have n5_ := AZ (blk_below (g := gb221) (o := .cells #[.string t216, .slice Ao22 t217.length co22] 58 (0, 0)) (by (with_reducible repeat (first | refine blk_drewN ?_ _ | refine blk_drew ?_ | refine blk_alloc ?_ _)); refine blk_far ?_ NB221_256.out _; (with_reducible repeat (first | refine blk_drewN ?_ _ | refine blk_drew ?_ | refine blk_alloc ?_ _)); refine blk_far ?_ NB221_256.out _; (with_reducible repeat (first | refine blk_drewN ?_ _ | refine blk_drew ?_ | refine blk_alloc ?_ _)); exact BK221.out) hb); have n6_ := AZ (blk_below (g := gb233) (o := .cells #[.string t228, .slice Ao36 t229.length co36] 58 (0, 0)) (by (with_reducible repeat (first | refine blk_drewN ?_ _ | refine blk_drew ?_ | refine blk_alloc ?_ _)); refine blk_far ?_ NB233_256.out _; (with_reducible repeat (first | refine blk_drewN ?_ _ | refine blk_drew ?_ | refine blk_alloc ?_ _)); refine blk_far ?_ NB233_256.out _; (with_reducible repeat (first | refine blk_drewN ?_ _ | refine blk_drew ?_ | refine blk_alloc ?_ _)); exact BK233.out) hb); have n7_ := AZ (blk_below (g := gb256) (o := .cells #[.string t251, .slice Ao113 t252.length co113] 58 (0, 0)) (by (with_reducible repeat (first | refine blk_drewN ?_ _ | refine blk_drew ?_ | refine blk_alloc ?_ _)); refine blk_put (cs := #[.string t251, .slice none 0 0]) ?_ 1 _ rfl; (with_reducible repeat (first | refine blk_drewN ?_ _ | refine blk_drew ?_ | refine blk_alloc ?_ _)); refine blk_put (cs := #[.string (⟨#[]⟩ : ByteArray), .slice none 0 0]) ?_ 0 _ rfl; (with_reducible repeat (first | refine blk_drewN ?_ _ | refine blk_drew ?_ | refine blk_alloc ?_ _)); exact BK256.out) hb); have n8_ := AZ (below_step (bS HB.out) hb); clear HO_222001; clear HO_234001; clear HO250; clear HO254; clear BK209; clear BK221; clear BK233; clear BK256; clear HB; have HO_222001 := n0_; have HO_234001 := n1_; have HO250 := n2_; have HO254 := n3_; have BK209 := n4_; have BK221 := n5_; have BK233 := n6_; have BK256 := n7_; have HB := n8_; clear n0_ n1_ n2_ n3_ n4_ n5_ n6_ n7_ n8_; (try clear hb)))
                          go_meet
                          case rel => exact ⟨_, ((t255 != t220)), (by first | rfl | (simp; done) | (simp [*]; done)), H', ⟨by have := HJ10.out; have := HJ59.out; first | omega | exact Nat.le_refl _⟩, ⟨rS HO_222001.out⟩, ⟨rS HO_234001.out⟩, ⟨rS (Kd.R_mono HO254.out (fun _ hk => ⟨hk.1.2, hk.2⟩))⟩, ⟨blkS BK209.out⟩, ⟨blkS BK221.out⟩, ⟨blkS BK233.out⟩, ⟨blkS BK256.out⟩, ⟨bS HB.out⟩⟩
                        · replace c115 := Bool.eq_false_iff.mpr c115
                          subst c115
                          have H1 : (laws_FnExactSumRow.j2 kj59 t243 true t228 t244) = some r := by rw [if_neg (show ¬ (false = true) by decide)] at H; exact H
                          clear H
                          have H := H1
                          clear H1
                          have H' := Aside0.mk H
                          clear H
                          have hnb124 := NB256_209.out
                          have hnc124 := NB209_256.out
                          have hnb125 := NB256_221.out
                          have hnc125 := NB221_256.out
                          have hnb126 := NB256_233.out
                          have hnc126 := NB233_256.out
                          have hcz127_0 : w108.cell? ⟨gb256, 0, none⟩ = some (.string (⟨#[]⟩ : ByteArray)) := (blk_cell BK256.out 0).trans rfl
                          have hcz127_1 : w108.cell? ⟨gb256, 1, none⟩ = some (.slice none 0 0) := (blk_cell BK256.out 1).trans rfl
                          have hfz127_0 := blk_frozen BK256.out 0
                          have hfz127_1 := blk_frozen BK256.out 1
                          have hnb128 := NB221_209.out
                          have hnc128 := NB209_221.out
                          have hnb129 := NB221_233.out
                          have hnc129 := NB233_221.out
                          have hcz130_0 : w108.cell? ⟨gb221, 0, none⟩ = some (.string t216) := (blk_cell BK221.out 0).trans rfl
                          have hcz130_1 : w108.cell? ⟨gb221, 1, none⟩ = some (.slice Ao22 t217.length co22) := (blk_cell BK221.out 1).trans rfl
                          have hfz130_0 := blk_frozen BK221.out 0
                          have hfz130_1 := blk_frozen BK221.out 1
                          go_wp2_with (first | ((with_reducible refine gate_callee (f := 43) rfl ?_); refine gL (some 81) Try.func43 #[.agg #[.string t251, .slice Ao113 t252.length co113], .agg #[.string t216, .slice Ao22 t217.length co22]] ?_; (with_reducible refine (laws_eqRow.calls kj59 t251 _ _ t252 t216 _ _ t217 false _ ?side1 ?side2 ?side3 ?side4 A114.out).mono ?_); (case side1 => refine (Kd.R_reads' (e := 3) (base := w.heap.size) (ok := fun k_ => ((True ∧ some k_ ≠ (.slice Ao22 t217.length co22 : Value).ownBlock) ∧ some k_ ≠ (.slice Ao36 t229.length co36 : Value).ownBlock)) (n := t252.length) (c := co113) ?_).2.2; exact (by (with_reducible repeat (first | apply Kd.R_alloc | apply Kd.R_drewN | apply Kd.R_drew)); exact (Kd.R_mono (Kd.R_far (Kd.R_far (Kd.R_types HO254.out BK256.out (by decide)) (fun _ hk => hk.2) _) (fun _ hk => hk.2) _) (fun _ h_ => h_.1)))); (case side2 => exact (Kd.R_reads' HO254.out).2.1); (case side3 => refine (Kd.R_reads' (e := 3) (base := w.heap.size) (ok := fun k_ => (some k_ ≠ (.slice Ao36 t229.length co36 : Value).ownBlock ∧ some k_ ≠ (.slice Ao113 t252.length co113 : Value).ownBlock)) (n := t217.length) (c := co22) ?_).2.2; exact (by (with_reducible repeat (first | apply Kd.R_alloc | apply Kd.R_drewN | apply Kd.R_drew)); exact (Kd.R_mono (Kd.R_far (Kd.R_far (Kd.R_types HO_222001.out BK256.out (by decide)) (fun _ hk => hk.2) _) (fun _ hk => hk.2) _) (fun _ h_ => h_.1)))); (case side4 => exact (Kd.R_reads' HO_222001.out).2.1); rintro e w131 ⟨rfl, hb⟩; refine ⟨_, rfl, ?_⟩; have n0_ := AZ (Kd.R_below (by (with_reducible repeat (first | apply Kd.R_alloc | apply Kd.R_drewN | apply Kd.R_drew)); exact (Kd.R_mono (Kd.R_far (Kd.R_far (Kd.R_types HO_222001.out BK256.out (by decide)) (fun _ hk => hk.2) _) (fun _ hk => hk.2) _) (fun _ h_ => h_.1))) hb); have n1_ := AZ (Kd.R_below (by (with_reducible repeat (first | apply Kd.R_alloc | apply Kd.R_drewN | apply Kd.R_drew)); exact (Kd.R_mono (Kd.R_far (Kd.R_far (Kd.R_types HO_234001.out BK256.out (by decide)) (fun _ hk => hk.2) _) (fun _ hk => hk.2) _) (fun _ h_ => h_.1))) hb); have n2_ := AZ (Kd.S_below (by (with_reducible repeat (first | apply Kd.S_alloc | apply Kd.S_drewN | apply Kd.S_drew)); exact (Kd.S_mono (Kd.S_far (Kd.S_far (Kd.S_mono HO250.out (fun k_ hk => (⟨hk, hk.2⟩ : _ ∧ k_ ≠ gb256))) (fun _ hk => hk.2) _) (fun _ hk => hk.2) _) (fun _ h_ => h_.1))) hb); have n3_ := AZ (Kd.R_below (by (with_reducible repeat (first | apply Kd.R_alloc | apply Kd.R_drewN | apply Kd.R_drew)); exact (Kd.R_mono (Kd.R_far (Kd.R_far (Kd.R_types HO254.out BK256.out (by decide)) (fun _ hk => hk.2) _) (fun _ hk => hk.2) _) (fun _ h_ => h_.1))) hb); have n4_ := AZ (blk_below (g := gb209) (o := .cells #[.string a0_0, .int .i64 a0_1, .slice A0_2 l0_2.length c0_2] 45 (0, 0)) (by (with_reducible repeat (first | refine blk_drewN ?_ _ | refine blk_drew ?_ | refine blk_alloc ?_ _)); refine blk_far ?_ NB209_256.out _; (with_reducible repeat (first | refine blk_drewN ?_ _ | refine blk_drew ?_ | refine blk_alloc ?_ _)); refine blk_far ?_ NB209_256.out _; (with_reducible repeat (first | refine blk_drewN ?_ _ | refine blk_drew ?_ | refine blk_alloc ?_ _)); exact BK209.out) hb); have n5_ := AZ (blk_below (g := gb221) (o := .cells #[.string t216, .slice Ao22 t217.length co22] 58 (0, 0)) (by (with_reducible repeat (first | refine blk_drewN ?_ _ | refine blk_drew ?_ | refine blk_alloc ?_ _)); refine blk_far ?_ NB221_256.out _; (with_reducible repeat (first | refine blk_drewN ?_ _ | refine blk_drew ?_ | refine blk_alloc ?_ _)); refine blk_far ?_ NB221_256.out _; (with_reducible repeat (first | refine blk_drewN ?_ _ | refine blk_drew ?_ | refine blk_alloc ?_ _)); exact BK221.out) hb); have n6_ := AZ (blk_below (g := gb233) (o := .cells #[.string t228, .slice Ao36 t229.length co36] 58 (0, 0)) (by (with_reducible repeat (first | refine blk_drewN ?_ _ | refine blk_drew ?_ | refine blk_alloc ?_ _)); refine blk_far ?_ NB233_256.out _; (with_reducible repeat (first | refine blk_drewN ?_ _ | refine blk_drew ?_ | refine blk_alloc ?_ _)); refine blk_far ?_ NB233_256.out _; (with_reducible repeat (first | refine blk_drewN ?_ _ | refine blk_drew ?_ | refine blk_alloc ?_ _)); exact BK233.out) hb); have n7_ := AZ (blk_below (g := gb256) (o := .cells #[.string t251, .slice Ao113 t252.length co113] 58 (0, 0)) (by (with_reducible repeat (first | refine blk_drewN ?_ _ | refine blk_drew ?_ | refine blk_alloc ?_ _)); refine blk_put (cs := #[.string t251, .slice none 0 0]) ?_ 1 _ rfl; (with_reducible repeat (first | refine blk_drewN ?_ _ | refine blk_drew ?_ | refine blk_alloc ?_ _)); refine blk_put (cs := #[.string (⟨#[]⟩ : ByteArray), .slice none 0 0]) ?_ 0 _ rfl; (with_reducible repeat (first | refine blk_drewN ?_ _ | refine blk_drew ?_ | refine blk_alloc ?_ _)); exact BK256.out) hb); have n8_ := AZ (below_step (bS HB.out) hb); clear HO_222001; clear HO_234001; clear HO250; clear HO254; clear BK209; clear BK221; clear BK233; clear BK256; clear HB; have HO_222001 := n0_; have HO_234001 := n1_; have HO250 := n2_; have HO254 := n3_; have BK209 := n4_; have BK221 := n5_; have BK233 := n6_; have BK256 := n7_; have HB := n8_; clear n0_ n1_ n2_ n3_ n4_ n5_ n6_ n7_ n8_; (try clear hb)))
                          go_meet
                          case rel => exact ⟨_, (true), (by first | rfl | (simp; done) | (simp [*]; done)), H', ⟨by have := HJ10.out; have := HJ59.out; first | omega | exact Nat.le_refl _⟩, ⟨rS HO_222001.out⟩, ⟨rS HO_234001.out⟩, ⟨rS (Kd.R_mono HO254.out (fun _ hk => ⟨hk.1.2, hk.2⟩))⟩, ⟨blkS BK209.out⟩, ⟨blkS BK221.out⟩, ⟨blkS BK233.out⟩, ⟨blkS BK256.out⟩, ⟨bS HB.out⟩⟩
                      case rest =>
                        clear HC96
                        try clear c1
                        try clear c2
                        try clear p2
                        try clear c3
                        try clear c3b0
                        try clear c4
                        try clear c5
                        try clear c6
                        try clear c7
                        try clear c8
                        try clear c9
                        try clear c10
                        try clear c11
                        try clear c12
                        try clear c20
                        try clear c26
                        try clear c27
                        try clear c32
                        try clear c33
                        try clear c34
                        try clear c35
                        try clear c37
                        try clear c38
                        try clear c39
                        try clear c40
                        try clear c41
                        try clear c43
                        try clear c44
                        try clear c45
                        try clear c46
                        try clear c47
                        try clear c48
                        try clear c49
                        try clear c51
                        try clear c52
                        try clear c55
                        try clear c58
                        try clear c65
                        try clear c66
                        try clear c67
                        try clear c70
                        try clear c70b0
                        try clear c72
                        try clear c73
                        try clear c74
                        try clear c75
                        try clear c77
                        try clear c78
                        try clear c81
                        try clear c82
                        try clear c83
                        try clear c85
                        try clear c86
                        try clear c89
                        try clear c92
                        try clear c92b0
                        try clear c93
                        try clear c93b0
                        try clear c93b1
                        try clear c97
                        try clear c98
                        try clear c103
                        try clear c109
                        try clear c110
                        try clear c111
                        try clear c115
                        try clear c116
                        try clear c117
                        try clear c118
                        try clear c120
                        try clear c121
                        try clear c124
                        try clear c125
                        try clear c126
                        try clear c128
                        try clear c129
                        try clear hcz101_0
                        try clear hcz101_1
                        try clear hcz104_0
                        try clear hcz104_1
                        try clear hcz104_2
                        try clear hcz112_0
                        try clear hcz112_1
                        try clear hcz119_0
                        try clear hcz119_1
                        try clear hcz122_0
                        try clear hcz122_1
                        try clear hcz127_0
                        try clear hcz127_1
                        try clear hcz130_0
                        try clear hcz130_1
                        try clear hcz13_0
                        try clear hcz13_1
                        try clear hcz13_2
                        try clear hcz15_0
                        try clear hcz15_1
                        try clear hcz15_2
                        try clear hcz21_0
                        try clear hcz21_1
                        try clear hcz23_0
                        try clear hcz23_1
                        try clear hcz23_2
                        try clear hcz28_0
                        try clear hcz28_1
                        try clear hcz28_2
                        try clear hcz35_0
                        try clear hcz35_1
                        try clear hcz42_0
                        try clear hcz42_1
                        try clear hcz45_0
                        try clear hcz45_1
                        try clear hcz50_0
                        try clear hcz50_1
                        try clear hcz53_0
                        try clear hcz53_1
                        try clear hcz5_0
                        try clear hcz5_1
                        try clear hcz5_2
                        try clear hcz68_0
                        try clear hcz68_1
                        try clear hcz68_2
                        try clear hcz76_0
                        try clear hcz76_1
                        try clear hcz79_0
                        try clear hcz79_1
                        try clear hcz84_0
                        try clear hcz84_1
                        try clear hcz87_0
                        try clear hcz87_1
                        try clear hcz99_0
                        try clear hcz99_1
                        try clear hfz101_0
                        try clear hfz101_1
                        try clear hfz104_0
                        try clear hfz104_1
                        try clear hfz104_2
                        try clear hfz112_0
                        try clear hfz112_1
                        try clear hfz119_0
                        try clear hfz119_1
                        try clear hfz122_0
                        try clear hfz122_1
                        try clear hfz127_0
                        try clear hfz127_1
                        try clear hfz130_0
                        try clear hfz130_1
                        try clear hfz13_0
                        try clear hfz13_1
                        try clear hfz13_2
                        try clear hfz15_0
                        try clear hfz15_1
                        try clear hfz15_2
                        try clear hfz21_0
                        try clear hfz21_1
                        try clear hfz23_0
                        try clear hfz23_1
                        try clear hfz23_2
                        try clear hfz28_0
                        try clear hfz28_1
                        try clear hfz28_2
                        try clear hfz35_0
                        try clear hfz35_1
                        try clear hfz42_0
                        try clear hfz42_1
                        try clear hfz45_0
                        try clear hfz45_1
                        try clear hfz50_0
                        try clear hfz50_1
                        try clear hfz53_0
                        try clear hfz53_1
                        try clear hfz5_0
                        try clear hfz5_1
                        try clear hfz5_2
                        try clear hfz68_0
                        try clear hfz68_1
                        try clear hfz68_2
                        try clear hfz76_0
                        try clear hfz76_1
                        try clear hfz79_0
                        try clear hfz79_1
                        try clear hfz84_0
                        try clear hfz84_1
                        try clear hfz87_0
                        try clear hfz87_1
                        try clear hfz99_0
                        try clear hfz99_1
                        try clear p2
                        obtain ⟨kq, x87_95, rfl, HA, HJ95, HO_222001, HO_234001, HO_257001, BK209, BK221, BK233, BK256, HB⟩ := hcut
                        have hl234001_95 := (Kd.R_reads' HO_234001.out).1
                        rw [hl234001_95] at HO_234001
                        (try simp only [hl234001_95])
                        (try simp only [hl234001_95] at BK209)
                        (try simp only [hl234001_95] at BK221)
                        (try simp only [hl234001_95] at BK233)
                        (try simp only [hl234001_95] at BK256)
                        (try simp only [hl234001_95] at HO_222001)
                        (try simp only [hl234001_95] at HO_257001)
                        cases kq with
                        | zero => exact absurd HA.out (by simp [laws_FnExactSumRow.j2])
                        | succ kj95 =>
                          have H := HA.out
                          clear HA
                          simp only [laws_FnExactSumRow.j2] at H
                          by_cases c132 : x87_95 = true
                          · subst c132
                            have H1 : (none) = some r := by rw [if_pos rfl] at H; exact H
                            clear H
                            have H := H1
                            clear H1
                            exact absurd H (by simp)
                          · replace c132 := Bool.eq_false_iff.mpr c132
                            subst c132
                            have H1 : ((laws_heldRow.f kj95 t228 t244 1).bind fun t258 => (if t258 < 0 then (none) else (if t258 = t243 then (some true) else (none)))) = some r := by rw [if_neg (show ¬ (false = true) by decide)] at H; exact H
                            clear H
                            have H := H1
                            clear H1
                            replace H := Option.bind_eq_some_iff.mp H
                            obtain ⟨t258, A1330, H⟩ := H
                            replace H : (if t258 < 0 then (none) else (if t258 = t243 then (some true) else (none))) = some r := H
                            have A133 := Aside0.mk A1330
                            clear A1330
                            by_cases c134 : t258 < 0
                            · rw [if_pos c134] at H
                              exact absurd H (by simp)
                            · rw [if_neg c134] at H
                              have c134b0 : decide (t258 < 0) = false := decide_eq_false c134
                              clear c134
                              by_cases c135 : t258 = t243
                              · rw [if_pos c135] at H
                                have c135b0 : (t258 == t243) = true := beq_iff_eq.mpr c135
                                have c135b1 : (t258 != t243) = false := bne_eq_false_iff_eq.mpr c135
                                clear c135
                                obtain rfl := Option.some.inj H
                                have hnb136 := NB233_209.out
                                have hnc136 := NB209_233.out
                                have hnb137 := NB233_221.out
                                have hnc137 := NB221_233.out
                                have hnb138 := NB233_256.out
                                have hnc138 := NB256_233.out
                                have hcz139_0 : wc.cell? ⟨gb233, 0, none⟩ = some (.string t228) := (blk_cell BK233.out 0).trans rfl
                                have hcz139_1 : wc.cell? ⟨gb233, 1, none⟩ = some (.slice Ao36 t244.length co36) := (blk_cell BK233.out 1).trans rfl
                                have hfz139_0 := blk_frozen BK233.out 0
                                have hfz139_1 := blk_frozen BK233.out 1
                                go_wp2_with (first | ((with_reducible refine gate_callee (f := 45) rfl ?_); refine gL (some 90) Try.func45 #[.agg #[.string t228, .slice Ao36 t244.length co36], .int .i64 1] ?_; (with_reducible refine (laws_heldRow.calls kj95 t228 _ _ t244 1 t258 _ ?side1 ?side2 A133.out).mono ?_); (case side1 => exact cS (Kd.R_reads' HO_234001.out).2.2); (case side2 => exact (Kd.R_reads' HO_234001.out).2.1); rintro e w140 ⟨rfl, hb⟩; refine ⟨_, rfl, ?_⟩; have n0_ := AZ (Kd.R_below (rS HO_222001.out) hb); have n1_ := AZ (Kd.R_below (rS HO_234001.out) hb); have n2_ := AZ (Kd.R_below (rS HO_257001.out) hb); have n3_ := blkA BK209 hb; have n4_ := blkA BK221 hb; have n5_ := blkA BK233 hb; have n6_ := blkA BK256 hb; have n7_ := AZ (below_step (bS HB.out) hb); clear HO_222001; clear HO_234001; clear HO_257001; clear BK209; clear BK221; clear BK233; clear BK256; clear HB; have HO_222001 := n0_; have HO_234001 := n1_; have HO_257001 := n2_; have BK209 := n3_; have BK221 := n4_; have BK233 := n5_; have BK256 := n6_; have HB := n7_; clear n0_ n1_ n2_ n3_ n4_ n5_ n6_ n7_; (try clear hb)))
                                go_ret
                                exact ⟨by first | rfl | (simp; done) | (simp [*]; done), bS HB.out⟩
                              · rw [if_neg c135] at H
                                exact absurd H (by simp)
                    · rw [if_neg c93] at H
                      exact absurd H (by simp)
          · replace c58 := Bool.eq_false_iff.mpr c58
            subst c58
            have H1 : (none) = some r := by rw [if_neg (show ¬ (false = true) by decide)] at H; exact H
            clear H
            have H := H1
            clear H1
            exact absurd H (by simp)

end Go.Proofs.Ytoaefflonebgkaa.PFnExactSumRow
