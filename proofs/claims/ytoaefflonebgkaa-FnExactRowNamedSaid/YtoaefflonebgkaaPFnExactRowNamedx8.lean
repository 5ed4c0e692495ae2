-- Written by a program of this claim (patch_print.py over the print): no hand has typed it.
import Derived.Test.YtoaefflonebgkaaPFnExactRowNamedx0
import Derived.Test.YtoaefflonebgkaaPFnExactRowNamedx1
import Derived.Test.YtoaefflonebgkaaPFnExactRowNamedx2
import Derived.Test.YtoaefflonebgkaaPFnExactRowNamedx4
import Derived.Test.YtoaefflonebgkaaPFnExactRowNamedx7
namespace Go.Proofs.Ytoaefflonebgkaa.PFnExactRowNamed
open Go.RowKit Go.Proofs.YtoaefflonebgkaaW.PrintWords Go.Proofs.YtoaefflonebgkaaW.PrintLast Go.Proofs.YtoaefflonebgkaaW.PrintMore
attribute [local go_sem] max2_int min2_int max_two min_two max_three min_three max_four min_four   -- for this text's walks alone
set_option linter.unusedVariables false
set_option linter.unusedSimpArgs false

/-! ### laws_FnExactRowNamed: function 10 -/
mutual
def laws_FnExactRowNamed.j0 : Nat → ByteArray → Bool → Bool → Bool → ByteArray → Int → List (S84) → ByteArray → List Int → ByteArray → Int → List (S58) → ByteArray → List Int → Option (Bool)
  | 0, _, _, _, _, _, _, _, _, _, _, _, _, _, _ => none
  | k + 1, x1, x7, x10, x47, x222000, x222001, x222002, x234000, x234001, x240000, x240001, x240002, x246000, x246001 => if x47 = true then (none) else ((laws_toReport.f k x222000 x222001 x222002).bind fun bt247 => ((laws_eqReport.f k x240000 x240001 x240002 bt247.1 bt247.2.1 bt247.2.2).bind fun t252 => (if t252 = true then ((laws_markReport.f k x240000 x240001 x240002 1).bind fun t253 => (if t253 < 0 then (laws_FnExactRowNamed.j1 k x1 x7 true x222000 x222001 x222002 x234000 x234001 x246000 x246001) else ((laws_eqRow.f k x246000 x246001 x234000 x234001).bind fun t254 => (if t254 = true then (laws_FnExactRowNamed.j1 k x1 x7 (x10 != x7) x222000 x222001 x222002 x234000 x234001 x246000 x246001) else (laws_FnExactRowNamed.j1 k x1 x7 true x222000 x222001 x222002 x234000 x234001 x246000 x246001))))) else (none))))
def laws_FnExactRowNamed.j1 : Nat → ByteArray → Bool → Bool → ByteArray → Int → List (S84) → ByteArray → List Int → ByteArray → List Int → Option (Bool)
  | 0, _, _, _, _, _, _, _, _, _, _ => none
  | k + 1, x1, x7, x68, x222000, x222001, x222002, x234000, x234001, x246000, x246001 => if x68 = true then (none) else ((laws_markRow.f k x246000 x246001 1).bind fun bt255 => ((laws_heldRow.f k x246000 bt255.2 1).bind fun t257 => (if t257 < 0 then (none) else (if t257 = bt255.1 then ((laws_toReport.f k x222000 x222001 x222002).bind fun bt258 => ((impl_RowNamed.f k bt258.1 bt258.2.1 bt258.2.2 x1).bind fun bt263 => ((laws_eqRow.f k bt263.1 bt263.2.1 x234000 x234001).bind fun t269 => (if t269 = true then (laws_FnExactRowNamed.j2 k bt255.1 (bt263.2.2 != x7) x246000 bt255.2) else (laws_FnExactRowNamed.j2 k bt255.1 true x246000 bt255.2))))) else (none)))))
def laws_FnExactRowNamed.j2 : Nat → Int → Bool → ByteArray → List Int → Option (Bool)
  | 0, _, _, _, _ => none
  | k + 1, x12, x95, x246000, x246001 => if x95 = true then (none) else ((laws_heldRow.f k x246000 x246001 1).bind fun t270 => (if t270 < 0 then (none) else (if t270 = x12 then (some true) else (none))))
end
def laws_FnExactRowNamed.f (k : Nat) (a0_0 : ByteArray) (a0_1 : Int) (l0_2 : List (S84)) (a1 : ByteArray) : Option (Bool) := if (a1.size : Int) > 1048576 then (some true) else ((laws_szReport.f k a0_0 a0_1 l0_2 1048576).bind fun t222 => (if t222 < 0 then (some true) else ((laws_toReport.f k a0_0 a0_1 l0_2).bind fun bt223 => ((spec_RowNamed.f k bt223.1 bt223.2.1 bt223.2.2 a1).bind fun bt228 => ((laws_toReport.f k a0_0 a0_1 l0_2).bind fun bt234 => ((impl_RowNamed.f k bt234.1 bt234.2.1 bt234.2.2 a1).bind fun bt240 => ((laws_eqRow.f k bt240.1 bt240.2.1 bt228.1 bt228.2.1).bind fun t246 => (if t246 = true then (laws_FnExactRowNamed.j0 k a1 bt228.2.2 bt240.2.2 (bt240.2.2 != bt228.2.2) a0_0 a0_1 l0_2 bt228.1 bt228.2.1 bt234.1 bt234.2.1 bt234.2.2 bt240.1 bt240.2.1) else (laws_FnExactRowNamed.j0 k a1 bt228.2.2 bt240.2.2 true a0_0 a0_1 l0_2 bt228.1 bt228.2.1 bt234.1 bt234.2.1 bt234.2.2 bt240.1 bt240.2.1)))))))))
set_option maxHeartbeats 8000000 in
set_option maxRecDepth 100000 in
theorem laws_FnExactRowNamed.calls (k : Nat) (a0_0 : ByteArray) (a0_1 : Int) (A0_2 : Option Addr) (c0_2 : Nat) (l0_2 : List (S84)) (a1 : ByteArray) (r : Bool) (w : World) (hr0_2 : Kd.C k84 w A0_2 l0_2.length l0_2) (hc0_2 : l0_2.length ≤ c0_2) (h : laws_FnExactRowNamed.f k a0_0 a0_1 l0_2 a1 = some r) :
    Calls Try.prog 10 #[.agg #[.string a0_0, .int .i64 a0_1, .slice A0_2 l0_2.length c0_2], .string a1] w fun e w' => e = .returned (.bool r) ∧ Below w.heap.size w w' := by
  have hu45 := Try.underlying45
  have hu58 := Try.underlying58
  have hu50 := Try.underlying50
  have HR0_2 := Aside0.mk hr0_2
  have HC0_2 := Aside0.mk hc0_2
  clear hr0_2 hc0_2
  have HB := AZ (Below.refl w.heap.size w)
  have H : (if (a1.size : Int) > 1048576 then (some true) else ((laws_szReport.f k a0_0 a0_1 l0_2 1048576).bind fun t222 => (if t222 < 0 then (some true) else ((laws_toReport.f k a0_0 a0_1 l0_2).bind fun bt223 => ((spec_RowNamed.f k bt223.1 bt223.2.1 bt223.2.2 a1).bind fun bt228 => ((laws_toReport.f k a0_0 a0_1 l0_2).bind fun bt234 => ((impl_RowNamed.f k bt234.1 bt234.2.1 bt234.2.2 a1).bind fun bt240 => ((laws_eqRow.f k bt240.1 bt240.2.1 bt228.1 bt228.2.1).bind fun t246 => (if t246 = true then (laws_FnExactRowNamed.j0 k a1 bt228.2.2 bt240.2.2 (bt240.2.2 != bt228.2.2) a0_0 a0_1 l0_2 bt228.1 bt228.2.1 bt234.1 bt234.2.1 bt234.2.2 bt240.1 bt240.2.1) else (laws_FnExactRowNamed.j0 k a1 bt228.2.2 bt240.2.2 true a0_0 a0_1 l0_2 bt228.1 bt228.2.1 bt234.1 bt234.2.1 bt234.2.2 bt240.1 bt240.2.1)))))))))) = some r := h
  clear h
  by_cases c3 : (a1.size : Int) > 1048576
  · rw [if_pos c3] at H
    have c3b0 : decide (1048576 < (a1.size : Int)) = true := decide_eq_true c3
    have c3b1 : decide (1048576 < a1.size) = true := decide_eq_true (by omega)
    clear c3
    obtain rfl := Option.some.inj H
    go_enter Try.func10, Try.ntmps10
    go_wp2_with (first | ((with_reducible refine gate_dst (N := 2) rfl ?_); refine box_event ?hg (N := 2) ?hd (cs := #[.string a0_0, .int .i64 a0_1, .slice A0_2 l0_2.length c0_2]) (t := 45) ?hr ?_; (case hd => rfl); (case hg => rfl); (case hr => first | (go_simp; done) | (go_simp; rfl)); intro gb221 hg w4 hbox hb; have n0_ := AZ (below_step (bS HB.out) hb); have n1_ := AZ (hbox); have n2_ := AZ (geS hg HB.out); have n3_ := AZ (geS hg HB.out); clear HB; have HB := n0_; have BK221 := n1_; have GW221 := n2_; have GE221 := n3_; clear n0_ n1_ n2_ n3_; clear hb hbox hg))
    go_ret
    exact ⟨by first | rfl | (simp; done) | (simp [*]; done), bS HB.out⟩
  · rw [if_neg c3] at H
    have c3b0 : decide (1048576 < (a1.size : Int)) = false := decide_eq_false c3
    have c3b1 : decide (1048576 < a1.size) = false := decide_eq_false (by omega)
    clear c3
    replace H := Option.bind_eq_some_iff.mp H
    obtain ⟨t222, A50, H⟩ := H
    replace H : (if t222 < 0 then (some true) else ((laws_toReport.f k a0_0 a0_1 l0_2).bind fun bt223 => ((spec_RowNamed.f k bt223.1 bt223.2.1 bt223.2.2 a1).bind fun bt228 => ((laws_toReport.f k a0_0 a0_1 l0_2).bind fun bt234 => ((impl_RowNamed.f k bt234.1 bt234.2.1 bt234.2.2 a1).bind fun bt240 => ((laws_eqRow.f k bt240.1 bt240.2.1 bt228.1 bt228.2.1).bind fun t246 => (if t246 = true then (laws_FnExactRowNamed.j0 k a1 bt228.2.2 bt240.2.2 (bt240.2.2 != bt228.2.2) a0_0 a0_1 l0_2 bt228.1 bt228.2.1 bt234.1 bt234.2.1 bt234.2.2 bt240.1 bt240.2.1) else (laws_FnExactRowNamed.j0 k a1 bt228.2.2 bt240.2.2 true a0_0 a0_1 l0_2 bt228.1 bt228.2.1 bt234.1 bt234.2.1 bt234.2.2 bt240.1 bt240.2.1)))))))) = some r := H
    have A5 := Aside0.mk A50
    clear A50
    by_cases c6 : t222 < 0
    · rw [if_pos c6] at H
      have c6b0 : decide (t222 < 0) = true := decide_eq_true c6
      clear c6
      obtain rfl := Option.some.inj H
      go_enter Try.func10, Try.ntmps10
      go_wp2_with (first | ((with_reducible refine gate_dst (N := 2) rfl ?_); refine box_event ?hg (N := 2) ?hd (cs := #[.string a0_0, .int .i64 a0_1, .slice A0_2 l0_2.length c0_2]) (t := 45) ?hr ?_; (case hd => rfl); (case hg => rfl); (case hr => first | (go_simp; done) | (go_simp; rfl)); intro gb221 hg w7 hbox hb; have n0_ := AZ (below_step (bS HB.out) hb); have n1_ := AZ (hbox); have n2_ := AZ (geS hg HB.out); have n3_ := AZ (geS hg HB.out); clear HB; have HB := n0_; have BK221 := n1_; have GW221 := n2_; have GE221 := n3_; clear n0_ n1_ n2_ n3_; clear hb hbox hg; have hcz8_0 : w7.cell? ⟨gb221, 0, none⟩ = some (.string a0_0) := (blk_cell BK221.out 0).trans rfl; have hcz8_1 : w7.cell? ⟨gb221, 1, none⟩ = some (.int .i64 a0_1) := (blk_cell BK221.out 1).trans rfl; have hcz8_2 : w7.cell? ⟨gb221, 2, none⟩ = some (.slice A0_2 l0_2.length c0_2) := (blk_cell BK221.out 2).trans rfl; have hfz8_0 := blk_frozen BK221.out 0; have hfz8_1 := blk_frozen BK221.out 1; have hfz8_2 := blk_frozen BK221.out 2) | ((with_reducible refine gate_callee (f := 33) rfl ?_); refine gL (some 21) Try.func33 #[.agg #[.string a0_0, .int .i64 a0_1, .slice A0_2 l0_2.length c0_2], .int .i64 1048576] ?_; (with_reducible refine (laws_szReport.calls k a0_0 a0_1 _ _ l0_2 1048576 t222 _ ?side1 ?side2 A5.out).mono ?_); (case side1 => exact cS (Kd.C_below HR0_2.out HB.out)); (case side2 => exact HC0_2.out); rintro e w9 ⟨rfl, hb⟩; refine ⟨_, rfl, ?_⟩; have n0_ := blkA BK221 hb; have n1_ := AZ (below_step (bS HB.out) hb); clear BK221; clear HB; have BK221 := n0_; have HB := n1_; clear n0_ n1_; (try clear hb)))
      go_ret
      exact ⟨by first | rfl | (simp; done) | (simp [*]; done), bS HB.out⟩
    · rw [if_neg c6] at H
      have c6b0 : decide (t222 < 0) = false := decide_eq_false c6
      clear c6
      replace H := Option.bind_eq_some_iff.mp H
      obtain ⟨⟨t223, t224, t225⟩, A100, H⟩ := H
      replace H : ((spec_RowNamed.f k t223 t224 t225 a1).bind fun bt228 => ((laws_toReport.f k a0_0 a0_1 l0_2).bind fun bt234 => ((impl_RowNamed.f k bt234.1 bt234.2.1 bt234.2.2 a1).bind fun bt240 => ((laws_eqRow.f k bt240.1 bt240.2.1 bt228.1 bt228.2.1).bind fun t246 => (if t246 = true then (laws_FnExactRowNamed.j0 k a1 bt228.2.2 bt240.2.2 (bt240.2.2 != bt228.2.2) a0_0 a0_1 l0_2 bt228.1 bt228.2.1 bt234.1 bt234.2.1 bt234.2.2 bt240.1 bt240.2.1) else (laws_FnExactRowNamed.j0 k a1 bt228.2.2 bt240.2.2 true a0_0 a0_1 l0_2 bt228.1 bt228.2.1 bt234.1 bt234.2.1 bt234.2.2 bt240.1 bt240.2.1)))))) = some r := H
      have A10 := Aside0.mk A100
      clear A100
      replace H := Option.bind_eq_some_iff.mp H
      obtain ⟨⟨t228, t229, t232⟩, A110, H⟩ := H
      replace H : ((laws_toReport.f k a0_0 a0_1 l0_2).bind fun bt234 => ((impl_RowNamed.f k bt234.1 bt234.2.1 bt234.2.2 a1).bind fun bt240 => ((laws_eqRow.f k bt240.1 bt240.2.1 t228 t229).bind fun t246 => (if t246 = true then (laws_FnExactRowNamed.j0 k a1 t232 bt240.2.2 (bt240.2.2 != t232) a0_0 a0_1 l0_2 t228 t229 bt234.1 bt234.2.1 bt234.2.2 bt240.1 bt240.2.1) else (laws_FnExactRowNamed.j0 k a1 t232 bt240.2.2 true a0_0 a0_1 l0_2 t228 t229 bt234.1 bt234.2.1 bt234.2.2 bt240.1 bt240.2.1))))) = some r := H
      have A11 := Aside0.mk A110
      clear A110
      replace H := Option.bind_eq_some_iff.mp H
      obtain ⟨⟨t234, t235, t236⟩, A120, H⟩ := H
      replace H : ((impl_RowNamed.f k t234 t235 t236 a1).bind fun bt240 => ((laws_eqRow.f k bt240.1 bt240.2.1 t228 t229).bind fun t246 => (if t246 = true then (laws_FnExactRowNamed.j0 k a1 t232 bt240.2.2 (bt240.2.2 != t232) a0_0 a0_1 l0_2 t228 t229 t234 t235 t236 bt240.1 bt240.2.1) else (laws_FnExactRowNamed.j0 k a1 t232 bt240.2.2 true a0_0 a0_1 l0_2 t228 t229 t234 t235 t236 bt240.1 bt240.2.1)))) = some r := H
      have A12 := Aside0.mk A120
      clear A120
      replace H := Option.bind_eq_some_iff.mp H
      obtain ⟨⟨t240, t241, t244⟩, A130, H⟩ := H
      replace H : ((laws_eqRow.f k t240 t241 t228 t229).bind fun t246 => (if t246 = true then (laws_FnExactRowNamed.j0 k a1 t232 t244 (t244 != t232) a0_0 a0_1 l0_2 t228 t229 t234 t235 t236 t240 t241) else (laws_FnExactRowNamed.j0 k a1 t232 t244 true a0_0 a0_1 l0_2 t228 t229 t234 t235 t236 t240 t241))) = some r := H
      have A13 := Aside0.mk A130
      clear A130
      have HC14 := Aside0.mk H
      clear H
      go_enter Try.func10, Try.ntmps10
      go_upto_region 10 with (first | ((with_reducible refine gate_dst (N := 2) rfl ?_); refine box_event ?hg (N := 2) ?hd (cs := #[.string a0_0, .int .i64 a0_1, .slice A0_2 l0_2.length c0_2]) (t := 45) ?hr ?_; (case hd => rfl); (case hg => rfl); (case hr => first | (go_simp; done) | (go_simp; rfl)); intro gb221 hg w15 hbox hb; have n0_ := AZ (below_step (bS HB.out) hb); have n1_ := AZ (hbox); have n2_ := AZ (geS hg HB.out); have n3_ := AZ (geS hg HB.out); clear HB; have HB := n0_; have BK221 := n1_; have GW221 := n2_; have GE221 := n3_; clear n0_ n1_ n2_ n3_; clear hb hbox hg; have hcz16_0 : w15.cell? ⟨gb221, 0, none⟩ = some (.string a0_0) := (blk_cell BK221.out 0).trans rfl; have hcz16_1 : w15.cell? ⟨gb221, 1, none⟩ = some (.int .i64 a0_1) := (blk_cell BK221.out 1).trans rfl; have hcz16_2 : w15.cell? ⟨gb221, 2, none⟩ = some (.slice A0_2 l0_2.length c0_2) := (blk_cell BK221.out 2).trans rfl; have hfz16_0 := blk_frozen BK221.out 0; have hfz16_1 := blk_frozen BK221.out 1; have hfz16_2 := blk_frozen BK221.out 2) | ((with_reducible refine gate_callee (f := 33) rfl ?_); refine gL (some 21) Try.func33 #[.agg #[.string a0_0, .int .i64 a0_1, .slice A0_2 l0_2.length c0_2], .int .i64 1048576] ?_; (with_reducible refine (laws_szReport.calls k a0_0 a0_1 _ _ l0_2 1048576 t222 _ ?side1 ?side2 A5.out).mono ?_); (case side1 => exact cS (Kd.C_below HR0_2.out HB.out)); (case side2 => exact HC0_2.out); rintro e w17 ⟨rfl, hb⟩; refine ⟨_, rfl, ?_⟩; have n0_ := blkA BK221 hb; have n1_ := AZ (below_step (bS HB.out) hb); clear BK221; clear HB; have BK221 := n0_; have HB := n1_; clear n0_ n1_; (try clear hb); have hcz18_0 : w17.cell? ⟨gb221, 0, none⟩ = some (.string a0_0) := (blk_cell BK221.out 0).trans rfl; have hcz18_1 : w17.cell? ⟨gb221, 1, none⟩ = some (.int .i64 a0_1) := (blk_cell BK221.out 1).trans rfl; have hcz18_2 : w17.cell? ⟨gb221, 2, none⟩ = some (.slice A0_2 l0_2.length c0_2) := (blk_cell BK221.out 2).trans rfl; have hfz18_0 := blk_frozen BK221.out 0; have hfz18_1 := blk_frozen BK221.out 1; have hfz18_2 := blk_frozen BK221.out 2) | ((with_reducible refine gate_callee (f := 35) rfl ?_); refine gL (some 26) Try.func35 #[.agg #[.string a0_0, .int .i64 a0_1, .slice A0_2 l0_2.length c0_2]] ?_; (with_reducible refine (laws_toReport.calls k a0_0 a0_1 _ _ l0_2 t223 t224 t225 _ ?side1 ?side2 A10.out).mono ?_); (case side1 => exact cS (Kd.C_below HR0_2.out HB.out)); (case side2 => exact HC0_2.out); rintro e w19 ⟨v226, rfl, ho0, hb⟩; refine ⟨_, rfl, ?_⟩; have n0_ := AZ (Kd.S_lower ho0 (below_size (bS HB.out))); have n1_ := blkA BK221 hb; have n2_ := AZ (below_step (bS HB.out) hb); clear BK221; clear HB; have HO227 := n0_; have BK221 := n1_; have HB := n2_; clear n0_ n1_ n2_; (try clear hb ho0); obtain ⟨Ao20, co20, eo20⟩ := Kd.S_slice HO227.out; subst eo20) | ((with_reducible refine gate_callee (f := 41) rfl ?_); refine gL (some 28) Try.func41 #[.agg #[.string t223, .int .i64 t224, .slice Ao20 t225.length co20], .string a1] ?_; (with_reducible refine (spec_RowNamed.calls k t223 t224 _ _ t225 a1 t228 t229 t232 _ ?side1 ?side2 A11.out).mono ?_); (case side1 => exact cS (Kd.S_reads' HO227.out).2.2); (case side2 => exact (Kd.S_reads' HO227.out).2.1); rintro e w21 ⟨v230, rfl, ho0, hb⟩; refine ⟨_, rfl, ?_⟩; have n0_ := AZ (Kd.S_elder' (sS HO227.out) (Kd.R_base ho0) hb); have n1_ := AZ (Kd.R_lower ho0 (below_size (bS HB.out))); have n2_ := blkA BK221 hb; have n3_ := AZ (below_step (bS HB.out) hb); clear HO227; clear BK221; clear HB; have HO227 := n0_; have HO231 := n1_; have BK221 := n2_; have HB := n3_; clear n0_ n1_ n2_ n3_; (try clear hb ho0)) | ((with_reducible refine gate_dst (N := 6) rfl ?_); refine box_event ?hg (N := 6) ?hd (cs := #[.string (⟨#[]⟩ : ByteArray), .slice none 0 0]) (t := 58) ?hr ?_; (case hd => rfl); (case hg => rfl); (case hr => first | (go_simp; done) | (go_simp; rfl)); intro gb233 hg w22 hbox hb; have n0_ := AZ (Kd.S_below (Kd.S_elderB (sS HO227.out) gb233 (Nat.le_of_eq hg.symm)) hb); have n1_ := AZ (Kd.R_below (rS HO231.out) hb); have n2_ := blkA BK221 hb; have n3_ := AZ (below_step (bS HB.out) hb); have n4_ := AZ (hbox); have n5_ := AZ (geS hg HB.out); have n6_ := AZ (geS hg HB.out); have n7_ := AZ ((by rw [hg]; exact Nat.ne_of_lt (blkL BK221.out) : gb221 ≠ gb233)); have n8_ := AZ ((by rw [hg]; exact Nat.ne_of_gt (blkL BK221.out) : gb233 ≠ gb221)); clear HO227; clear HO231; clear BK221; clear HB; have HO227 := n0_; have HO231 := n1_; have BK221 := n2_; have HB := n3_; have BK233 := n4_; have GW233 := n5_; have GE233 := n6_; have NB221_233 := n7_; have NB233_221 := n8_; clear n0_ n1_ n2_ n3_ n4_ n5_ n6_ n7_ n8_; clear hb hbox hg; have hnb23 := NB233_221.out; have hnc23 := NB221_233.out; have hcz24_0 : w22.cell? ⟨gb233, 0, none⟩ = some (.string (⟨#[]⟩ : ByteArray)) := (blk_cell BK233.out 0).trans rfl; have hcz24_1 : w22.cell? ⟨gb233, 1, none⟩ = some (.slice none 0 0) := (blk_cell BK233.out 1).trans rfl; have hfz24_0 := blk_frozen BK233.out 0; have hfz24_1 := blk_frozen BK233.out 1; obtain ⟨Ao25, co25, eo25⟩ := Kd.R_slice HO231.out; subst eo25; have hcz26_0 : w22.cell? ⟨gb221, 0, none⟩ = some (.string a0_0) := (blk_cell BK221.out 0).trans rfl; have hcz26_1 : w22.cell? ⟨gb221, 1, none⟩ = some (.int .i64 a0_1) := (blk_cell BK221.out 1).trans rfl; have hcz26_2 : w22.cell? ⟨gb221, 2, none⟩ = some (.slice A0_2 l0_2.length c0_2) := (blk_cell BK221.out 2).trans rfl; have hfz26_0 := blk_frozen BK221.out 0; have hfz26_1 := blk_frozen BK221.out 1; have hfz26_2 := blk_frozen BK221.out 2) | ((with_reducible refine gate_callee (f := 35) rfl ?_); refine gL (some 32) Try.func35 #[.agg #[.string a0_0, .int .i64 a0_1, .slice A0_2 l0_2.length c0_2]] ?_; (with_reducible refine (laws_toReport.calls k a0_0 a0_1 _ _ l0_2 t234 t235 t236 _ ?side1 ?side2 A12.out).mono ?_); (case side1 => exact Kd.C_below HR0_2.out (bS HB.out)); (case side2 => exact HC0_2.out); rintro e w27 ⟨v237, rfl, ho0, hb⟩; refine ⟨_, rfl, ?_⟩; have n0_ := AZ (Kd.S_elder' (by (with_reducible repeat (first | apply Kd.S_alloc | apply Kd.S_drewN | apply Kd.S_drew)); exact (Kd.S_mono (Kd.S_far (Kd.S_far (Kd.S_mono HO227.out (fun k_ hk => (⟨hk, hk.2⟩ : _ ∧ k_ ≠ gb233))) (fun _ hk => hk.2) _) (fun _ hk => hk.2) _) (fun _ h_ => h_.1))) (Kd.S_base ho0) hb); have n1_ := AZ (Kd.R_below (by (with_reducible repeat (first | apply Kd.R_alloc | apply Kd.R_drewN | apply Kd.R_drew)); exact (Kd.R_mono (Kd.R_far (Kd.R_far (Kd.R_types HO231.out BK233.out (by decide)) (fun _ hk => hk.2) _) (fun _ hk => hk.2) _) (fun _ h_ => h_.1))) hb); have n2_ := AZ (Kd.S_lower (Kd.S_newB (Kd.S_new' (Kd.S_new' ho0 (Kd.S_lt (by (with_reducible repeat (first | apply Kd.S_alloc | apply Kd.S_drewN | apply Kd.S_drew)); exact (Kd.S_mono (Kd.S_far (Kd.S_far (Kd.S_mono HO227.out (fun k_ hk => (⟨hk, hk.2⟩ : _ ∧ k_ ≠ gb233))) (fun _ hk => hk.2) _) (fun _ hk => hk.2) _) (fun _ h_ => h_.1))))) (Kd.R_lt (by (with_reducible repeat (first | apply Kd.R_alloc | apply Kd.R_drewN | apply Kd.R_drew)); exact (Kd.R_mono (Kd.R_far (Kd.R_far (Kd.R_types HO231.out BK233.out (by decide)) (fun _ hk => hk.2) _) (fun _ hk => hk.2) _) (fun _ h_ => h_.1))))) (g := gb233) (o := .cells #[.string t228, .slice Ao25 t229.length co25] 58 (0, 0)) (by (with_reducible repeat (first | refine blk_drewN ?_ _ | refine blk_drew ?_ | refine blk_alloc ?_ _)); refine blk_put (cs := #[.string t228, .slice none 0 0]) ?_ 1 _ rfl; (with_reducible repeat (first | refine blk_drewN ?_ _ | refine blk_drew ?_ | refine blk_alloc ?_ _)); refine blk_put (cs := #[.string (⟨#[]⟩ : ByteArray), .slice none 0 0]) ?_ 0 _ rfl; (with_reducible repeat (first | refine blk_drewN ?_ _ | refine blk_drew ?_ | refine blk_alloc ?_ _)); exact BK233.out)) (below_size (bS HB.out))); have n3_ := AZ (blk_below (g := gb221) (o := .cells #[.string a0_0, .int .i64 a0_1, .slice A0_2 l0_2.length c0_2] 45 (0, 0)) (by (with_reducible repeat (first | refine blk_drewN ?_ _ | refine blk_drew ?_ | refine blk_alloc ?_ _)); refine blk_far ?_ NB221_233.out _; (with_reducible repeat (first | refine blk_drewN ?_ _ | refine blk_drew ?_ | refine blk_alloc ?_ _)); refine blk_far ?_ NB221_233.out _; (with_reducible repeat (first | refine blk_drewN ?_ _ | refine blk_drew ?_ | refine blk_alloc ?_ _)); exact BK221.out) hb); have n4_ := AZ (blk_below (g := gb233) (o := .cells #[.string t228, .slice Ao25 t229.length co25] 58 (0, 0)) (by (with_reducible repeat (first | refine blk_drewN ?_ _ | refine blk_drew ?_ | refine blk_alloc ?_ _)); refine blk_put (cs := #[.string t228, .slice none 0 0]) ?_ 1 _ rfl; (with_reducible repeat (first | refine blk_drewN ?_ _ | refine blk_drew ?_ | refine blk_alloc ?_ _)); refine blk_put (cs := #[.string (⟨#[]⟩ : ByteArray), .slice none 0 0]) ?_ 0 _ rfl; (with_reducible repeat (first | refine blk_drewN ?_ _ | refine blk_drew ?_ | refine blk_alloc ?_ _)); exact BK233.out) hb); have n5_ := AZ (below_step (bS HB.out) hb); clear HO227; clear HO231; clear BK221; clear BK233; clear HB; have HO227 := n0_; have HO231 := n1_; have HO238 := n2_; have BK221 := n3_; have BK233 := n4_; have HB := n5_; clear n0_ n1_ n2_ n3_ n4_ n5_; (try clear hb ho0)) | ((with_reducible refine gate_dst (N := 8) rfl ?_); refine box_event ?hg (N := 8) ?hd (cs := #[.string (⟨#[]⟩ : ByteArray), .int .i64 0, .slice none 0 0]) (t := 50) ?hr ?_; (case hd => rfl); (case hg => rfl); (case hr => first | (go_simp; done) | (go_simp; rfl)); intro gb239 hg w28 hbox hb; have n0_ := AZ (Kd.S_below (sS HO227.out) hb); have n1_ := AZ (Kd.R_below (rS HO231.out) hb); have n2_ := AZ (Kd.S_below (sS HO238.out) hb); have n3_ := blkA BK221 hb; have n4_ := blkA BK233 hb; have n5_ := AZ (below_step (bS HB.out) hb); have n6_ := AZ (hbox); have n7_ := AZ (geS hg HB.out); have n8_ := AZ (geS hg HB.out); have n9_ := AZ ((by rw [hg]; exact Nat.ne_of_lt (blkL BK221.out) : gb221 ≠ gb239)); have n10_ := AZ ((by rw [hg]; exact Nat.ne_of_gt (blkL BK221.out) : gb239 ≠ gb221)); have n11_ := AZ ((by rw [hg]; exact Nat.ne_of_lt (blkL BK233.out) : gb233 ≠ gb239)); have n12_ := AZ ((by rw [hg]; exact Nat.ne_of_gt (blkL BK233.out) : gb239 ≠ gb233)); clear HO227; clear HO231; clear HO238; clear BK221; clear BK233; clear HB; have HO227 := n0_; have HO231 := n1_; have HO238 := n2_; have BK221 := n3_; have BK233 := n4_; have HB := n5_; have BK239 := n6_; have GW239 := n7_; have GE239 := n8_; have NB221_239 := n9_; have NB239_221 := n10_; have NB233_239 := n11_; have NB239_233 := n12_; clear n0_ n1_ n2_ n3_ n4_ n5_ n6_ n7_ n8_ n9_ n10_ n11_ n12_; clear hb hbox hg; have hnb29 := NB239_221.out; have hnc29 := NB221_239.out; have hnb30 := NB239_233.out; have hnc30 := NB233_239.out; have hcz31_0 : w28.cell? ⟨gb239, 0, none⟩ = some (.string (⟨#[]⟩ : ByteArray)) := (blk_cell BK239.out 0).trans rfl; have hcz31_1 : w28.cell? ⟨gb239, 1, none⟩ = some (.int .i64 0) := (blk_cell BK239.out 1).trans rfl; have hcz31_2 : w28.cell? ⟨gb239, 2, none⟩ = some (.slice none 0 0) := (blk_cell BK239.out 2).trans rfl; have hfz31_0 := blk_frozen BK239.out 0; have hfz31_1 := blk_frozen BK239.out 1; have hfz31_2 := blk_frozen BK239.out 2; obtain ⟨Ao32, co32, eo32⟩ := Kd.S_slice HO238.out; subst eo32) | ((with_reducible refine gate_callee (f := 42) rfl ?_); refine gL (some 36) Try.func42 #[.agg #[.string t234, .int .i64 t235, .slice Ao32 t236.length co32], .string a1] ?_; (with_reducible refine (impl_RowNamed.calls k t234 t235 _ _ t236 a1 t240 t241 t244 _ ?side1 ?side2 A13.out).mono ?_); (case side1 => refine (Kd.S_reads' (e := 58) (base := w.heap.size) (ok := fun k_ => (((True ∧ some k_ ≠ (.slice Ao20 t225.length co20 : Value).ownBlock) ∧ some k_ ≠ (.slice Ao25 t229.length co25 : Value).ownBlock) ∧ k_ ≠ gb233)) (n := t236.length) (c := co32) ?_).2.2; exact (by (with_reducible repeat (first | apply Kd.S_alloc | apply Kd.S_drewN | apply Kd.S_drew)); exact (Kd.S_mono (Kd.S_far (Kd.S_far (Kd.S_far (Kd.S_types HO238.out BK239.out (by decide)) (fun _ hk => hk.2) _) (fun _ hk => hk.2) _) (fun _ hk => hk.2) _) (fun _ h_ => h_.1)))); (case side2 => exact (Kd.S_reads' HO238.out).2.1); rintro e w33 ⟨v242, rfl, ho0, hb⟩; refine ⟨_, rfl, ?_⟩; have n0_ := AZ (Kd.S_elder' (by (with_reducible repeat (first | apply Kd.S_alloc | apply Kd.S_drewN | apply Kd.S_drew)); exact (Kd.S_mono (Kd.S_far (Kd.S_far (Kd.S_far (Kd.S_types HO227.out BK239.out (by decide)) (fun _ hk => hk.2) _) (fun _ hk => hk.2) _) (fun _ hk => hk.2) _) (fun _ h_ => h_.1))) (Kd.R_base ho0) hb); have n1_ := AZ (Kd.R_elder' (by (with_reducible repeat (first | apply Kd.R_alloc | apply Kd.R_drewN | apply Kd.R_drew)); exact (Kd.R_mono (Kd.R_far (Kd.R_far (Kd.R_far (Kd.R_types HO231.out BK239.out (by decide)) (fun _ hk => hk.2) _) (fun _ hk => hk.2) _) (fun _ hk => hk.2) _) (fun _ h_ => h_.1))) (Kd.R_base ho0) hb); have n2_ := AZ (Kd.S_elder' (by (with_reducible repeat (first | apply Kd.S_alloc | apply Kd.S_drewN | apply Kd.S_drew)); exact (Kd.S_mono (Kd.S_far (Kd.S_far (Kd.S_far (Kd.S_types HO238.out BK239.out (by decide)) (fun _ hk => hk.2) _) (fun _ hk => hk.2) _) (fun _ hk => hk.2) _) (fun _ h_ => h_.1))) (Kd.R_base ho0) hb); have n3_ := AZ (Kd.R_lower (Kd.R_new' ho0 (Kd.R_lt (by (with_reducible repeat (first | apply Kd.R_alloc | apply Kd.R_drewN | apply Kd.R_drew)); exact (Kd.R_mono (Kd.R_far (Kd.R_far (Kd.R_far (Kd.R_types HO231.out BK239.out (by decide)) (fun _ hk => hk.2) _) (fun _ hk => hk.2) _) (fun _ hk => hk.2) _) (fun _ h_ => h_.1))))) (below_size (bS HB.out))); have n4_ := AZ (blk_below (g := gb221) (o := .cells #[.string a0_0, .int .i64 a0_1, .slice A0_2 l0_2.length c0_2] 45 (0, 0)) (by (with_reducible repeat (first | refine blk_drewN ?_ _ | refine blk_drew ?_ | refine blk_alloc ?_ _)); refine blk_far ?_ NB221_239.out _; (with_reducible repeat (first | refine blk_drewN ?_ _ | refine blk_drew ?_ | refine blk_alloc ?_ _)); refine blk_far ?_ NB221_239.out _; (with_reducible repeat (first | refine blk_drewN ?_ _ | refine blk_drew ?_ | refine blk_alloc ?_ _)); refine blk_far ?_ NB221_239.out _; (with_reducible repeat (first | refine blk_drewN ?_ _ | refine blk_drew ?_ | refine blk_alloc ?_ _)); exact BK221.out) hb); have n5_ := AZ (blk_below (g := gb233) (o := .cells #[.string t228, .slice Ao25 t229.length co25] 58 (0, 0)) (by (with_reducible repeat (first | refine blk_drewN ?_ _ | refine blk_drew ?_ | refine blk_alloc ?_ _)); refine blk_far ?_ NB233_239.out _; (with_reducible repeat (first | refine blk_drewN ?_ _ | refine blk_drew ?_ | refine blk_alloc ?_ _)); refine blk_far ?_ NB233_239.out _; (with_reducible repeat (first | refine blk_drewN ?_ _ | refine blk_drew ?_ | refine blk_alloc ?_ _)); refine blk_far ?_ NB233_239.out _; (with_reducible repeat (first | refine blk_drewN ?_ _ | refine blk_drew ?_ | refine blk_alloc ?_ _)); exact BK233.out) hb); have n6_ := AZ (blk_below (g := gb239) (o := .cells #[.string t234, .int .i64 t235, .slice Ao32 t236.length co32] 50 (0, 0)) (by (with_reducible repeat (first | refine blk_drewN ?_ _ | refine blk_drew ?_ | refine blk_alloc ?_ _)); refine blk_put (cs := #[.string t234, .int .i64 t235, .slice none 0 0]) ?_ 2 _ rfl; (with_reducible repeat (first | refine blk_drewN ?_ _ | refine blk_drew ?_ | refine blk_alloc ?_ _)); refine blk_put (cs := #[.string t234, .int .i64 0, .slice none 0 0]) ?_ 1 _ rfl; (with_reducible repeat (first | refine blk_drewN ?_ _ | refine blk_drew ?_ | refine blk_alloc ?_ _)); refine blk_put (cs := #[.string (⟨#[]⟩ : ByteArray), .int .i64 0, .slice none 0 0]) ?_ 0 _ rfl; (with_reducible repeat (first | refine blk_drewN ?_ _ | refine blk_drew ?_ | refine blk_alloc ?_ _)); exact BK239.out) hb); have n7_ := AZ (below_step (bS HB.out) hb); clear HO227; clear HO231; clear HO238; clear BK221; clear BK233; clear BK239; clear HB; have HO227 := n0_; have HO231 := n1_; have HO238 := n2_; have HO243 := n3_; have BK221 := n4_; have BK233 := n5_; have BK239 := n6_; have HB := n7_; clear n0_ n1_ n2_ n3_ n4_ n5_ n6_ n7_; (try clear hb ho0)) | ((with_reducible refine gate_dst (N := 9) rfl ?_); refine box_event ?hg (N := 9) ?hd (cs := #[.string (⟨#[]⟩ : ByteArray), .slice none 0 0]) (t := 58) ?hr ?_; (case hd => rfl); (case hg => rfl); (case hr => first | (go_simp; done) | (go_simp; rfl)); intro gb245 hg w34 hbox hb; have n0_ := AZ (Kd.S_below (Kd.S_elderB (sS HO227.out) gb245 (Nat.le_of_eq hg.symm)) hb); have n1_ := AZ (Kd.R_below (rS HO231.out) hb); have n2_ := AZ (Kd.S_below (Kd.S_elderB (sS HO238.out) gb245 (Nat.le_of_eq hg.symm)) hb); have n3_ := AZ (Kd.R_below (rS HO243.out) hb); have n4_ := blkA BK221 hb; have n5_ := blkA BK233 hb; have n6_ := blkA BK239 hb; have n7_ := AZ (below_step (bS HB.out) hb); have n8_ := AZ (hbox); have n9_ := AZ (geS hg HB.out); have n10_ := AZ (geS hg HB.out); have n11_ := AZ ((by rw [hg]; exact Nat.ne_of_lt (blkL BK221.out) : gb221 ≠ gb245)); have n12_ := AZ ((by rw [hg]; exact Nat.ne_of_gt (blkL BK221.out) : gb245 ≠ gb221)); have n13_ := AZ ((by rw [hg]; exact Nat.ne_of_lt (blkL BK233.out) : gb233 ≠ gb245)); have n14_ := AZ ((by rw [hg]; exact Nat.ne_of_gt (blkL BK233.out) : gb245 ≠ gb233)); have n15_ := AZ ((by rw [hg]; exact Nat.ne_of_lt (blkL BK239.out) : gb239 ≠ gb245)); have n16_ := AZ ((by rw [hg]; exact Nat.ne_of_gt (blkL BK239.out) : gb245 ≠ gb239)); clear HO227; clear HO231; clear HO238; clear HO243; clear BK221; clear BK233; clear BK239; clear HB; have HO227 := n0_; have HO231 := n1_; have HO238 := n2_; have HO243 := n3_; have BK221 := n4_; have BK233 := n5_; have BK239 := n6_; have HB := n7_; have BK245 := n8_; have GW245 := n9_; have GE245 := n10_; have NB221_245 := n11_; have NB245_221 := n12_; have NB233_245 := n13_; have NB245_233 := n14_; have NB239_245 := n15_; have NB245_239 := n16_; clear n0_ n1_ n2_ n3_ n4_ n5_ n6_ n7_ n8_ n9_ n10_ n11_ n12_ n13_ n14_ n15_ n16_; clear hb hbox hg; have hnb35 := NB245_221.out; have hnc35 := NB221_245.out; have hnb36 := NB245_233.out; have hnc36 := NB233_245.out; have hnb37 := NB245_239.out; have hnc37 := NB239_245.out; have hcz38_0 : w34.cell? ⟨gb245, 0, none⟩ = some (.string (⟨#[]⟩ : ByteArray)) := (blk_cell BK245.out 0).trans rfl; have hcz38_1 : w34.cell? ⟨gb245, 1, none⟩ = some (.slice none 0 0) := (blk_cell BK245.out 1).trans rfl; have hfz38_0 := blk_frozen BK245.out 0; have hfz38_1 := blk_frozen BK245.out 1; obtain ⟨Ao39, co39, eo39⟩ := Kd.R_slice HO243.out; subst eo39))
      (try simp only [Act.put, List.setIfInBounds_toArray, List.set_cons_zero, List.set_cons_succ])
      go_cut [47] (fun v47 wc => ∃ (kq : Nat) (x47_13 : Bool), v47 = .bool x47_13 ∧ Aside0 (laws_FnExactRowNamed.j0 kq a1 t232 t244 x47_13 a0_0 a0_1 l0_2 t228 t229 t234 t235 t236 t240 t241 = some r) ∧ Aside0 (kq ≤ k) ∧ Aside0 (Kd.R (Kd.int .i64) 3 wc w.heap.size (fun k_ => some k_ ≠ ((.slice Ao39 t241.length co39) : Value).ownBlock) (.slice Ao25 t229.length co25) t229) ∧ Aside0 (Kd.S k58 58 wc w.heap.size (fun k_ => some k_ ≠ ((.slice Ao25 t229.length co25) : Value).ownBlock ∧ some k_ ≠ ((.slice Ao39 t241.length co39) : Value).ownBlock ∧ k_ ≠ gb233 ∧ k_ ≠ gb245) (.slice Ao32 t236.length co32) t236) ∧ Aside0 (Kd.R (Kd.int .i64) 3 wc w.heap.size (fun k_ => some k_ ≠ ((.slice Ao25 t229.length co25) : Value).ownBlock) (.slice Ao39 t241.length co39) t241) ∧ Aside0 (wc.heap[gb221]? = some (.cells #[.string a0_0, .int .i64 a0_1, (.slice A0_2 l0_2.length c0_2)] 45 (0, 0))) ∧ Aside0 (wc.heap[gb233]? = some (.cells #[.string t228, (.slice Ao25 t229.length co25)] 58 (0, 0))) ∧ Aside0 (wc.heap[gb239]? = some (.cells #[.string t234, .int .i64 t235, (.slice Ao32 t236.length co32)] 50 (0, 0))) ∧ Aside0 (wc.heap[gb245]? = some (.cells #[.string t240, (.slice Ao39 t241.length co39)] 58 (0, 0))) ∧ Aside0 (Below w.heap.size w wc))
      case first =>
        have H := HC14.out
        clear HC14
        replace H := Option.bind_eq_some_iff.mp H
        obtain ⟨t246, A400, H⟩ := H
        replace H : (if t246 = true then (laws_FnExactRowNamed.j0 k a1 t232 t244 (t244 != t232) a0_0 a0_1 l0_2 t228 t229 t234 t235 t236 t240 t241) else (laws_FnExactRowNamed.j0 k a1 t232 t244 true a0_0 a0_1 l0_2 t228 t229 t234 t235 t236 t240 t241)) = some r := H
        have A40 := Aside0.mk A400
        clear A400
        by_cases c41 : t246 = true
        · subst c41
          have H1 : (laws_FnExactRowNamed.j0 k a1 t232 t244 (t244 != t232) a0_0 a0_1 l0_2 t228 t229 t234 t235 t236 t240 t241) = some r := by rw [if_pos rfl] at H; exact H
          clear H
          have H := H1
          clear H1
          have H' := Aside0.mk H
          clear H
          have hnb42 := NB245_221.out
          have hnc42 := NB221_245.out
          have hnb43 := NB245_233.out
          have hnc43 := NB233_245.out
          have hnb44 := NB245_239.out
          have hnc44 := NB239_245.out
          have hcz45_0 : w34.cell? ⟨gb245, 0, none⟩ = some (.string (⟨#[]⟩ : ByteArray)) := (blk_cell BK245.out 0).trans rfl
          have hcz45_1 : w34.cell? ⟨gb245, 1, none⟩ = some (.slice none 0 0) := (blk_cell BK245.out 1).trans rfl
          have hfz45_0 := blk_frozen BK245.out 0
          have hfz45_1 := blk_frozen BK245.out 1
          have hnb46 := NB233_221.out
          have hnc46 := NB221_233.out
          have hnb47 := NB233_239.out
          have hnc47 := NB239_233.out
          have hcz48_0 : w34.cell? ⟨gb233, 0, none⟩ = some (.string t228) := (blk_cell BK233.out 0).trans rfl
          have hcz48_1 : w34.cell? ⟨gb233, 1, none⟩ = some (.slice Ao25 t229.length co25) := (blk_cell BK233.out 1).trans rfl
          have hfz48_0 := blk_frozen BK233.out 0
          have hfz48_1 := blk_frozen BK233.out 1
          go_wp2_with (first | ((with_reducible refine gate_callee (f := 43) rfl ?_); refine gL (some 41) Try.func43 #[.agg #[.string t240, .slice Ao39 t241.length co39], .agg #[.string t228, .slice Ao25 t229.length co25]] ?_; (with_reducible refine (laws_eqRow.calls k t240 _ _ t241 t228 _ _ t229 true _ ?side1 ?side2 ?side3 ?side4 A40.out).mono ?_); (case side1 => refine (Kd.R_reads' (e := 3) (base := w.heap.size) (ok := fun k_ => (True ∧ some k_ ≠ (.slice Ao25 t229.length co25 : Value).ownBlock)) (n := t241.length) (c := co39) ?_).2.2; exact (by (with_reducible repeat (first | apply Kd.R_alloc | apply Kd.R_drewN | apply Kd.R_drew)); exact (Kd.R_mono (Kd.R_far (Kd.R_far (Kd.R_types HO243.out BK245.out (by decide)) (fun _ hk => hk.2) _) (fun _ hk => hk.2) _) (fun _ h_ => h_.1)))); (case side2 => exact (Kd.R_reads' HO243.out).2.1); (case side3 => refine (Kd.R_reads' (e := 3) (base := w.heap.size) (ok := fun k_ => (True ∧ some k_ ≠ (.slice Ao39 t241.length co39 : Value).ownBlock)) (n := t229.length) (c := co25) ?_).2.2; exact (by (with_reducible repeat (first | apply Kd.R_alloc | apply Kd.R_drewN | apply Kd.R_drew)); exact (Kd.R_mono (Kd.R_far (Kd.R_far (Kd.R_types HO231.out BK245.out (by decide)) (fun _ hk => hk.2) _) (fun _ hk => hk.2) _) (fun _ h_ => h_.1)))); (case side4 => exact (Kd.R_reads' HO231.out).2.1); rintro e w49 ⟨rfl, hb⟩; refine ⟨_, rfl, ?_⟩; have n0_ := AZ (Kd.S_below (by (with_reducible repeat (first | apply Kd.S_alloc | apply Kd.S_drewN | apply Kd.S_drew)); exact (Kd.S_mono (Kd.S_far (Kd.S_far (Kd.S_mono HO227.out (fun k_ hk => (⟨hk, hk.2⟩ : _ ∧ k_ ≠ gb245))) (fun _ hk => hk.2) _) (fun _ hk => hk.2) _) (fun _ h_ => h_.1))) hb); have n1_ := AZ (Kd.R_below (by (with_reducible repeat (first | apply Kd.R_alloc | apply Kd.R_drewN | apply Kd.R_drew)); exact (Kd.R_mono (Kd.R_far (Kd.R_far (Kd.R_types HO231.out BK245.out (by decide)) (fun _ hk => hk.2) _) (fun _ hk => hk.2) _) (fun _ h_ => h_.1))) hb); have n2_ := AZ (Kd.S_below (by (with_reducible repeat (first | apply Kd.S_alloc | apply Kd.S_drewN | apply Kd.S_drew)); exact (Kd.S_mono (Kd.S_far (Kd.S_far (Kd.S_mono HO238.out (fun k_ hk => (⟨hk, hk.2⟩ : _ ∧ k_ ≠ gb245))) (fun _ hk => hk.2) _) (fun _ hk => hk.2) _) (fun _ h_ => h_.1))) hb); have n3_ := AZ (Kd.R_below (by (with_reducible repeat (first | apply Kd.R_alloc | apply Kd.R_drewN | apply Kd.R_drew)); exact (Kd.R_mono (Kd.R_far (Kd.R_far (Kd.R_types HO243.out BK245.out (by decide)) (fun _ hk => hk.2) _) (fun _ hk => hk.2) _) (fun _ h_ => h_.1))) hb); have n4_ := AZ (blk_below (g := gb221) (o := .cells #[.string a0_0, .int .i64 a0_1, .slice A0_2 l0_2.length c0_2] 45 (0, 0)) (by (with_reducible repeat (first | refine blk_drewN ?_ _ | refine blk_drew ?_ | refine blk_alloc ?_ _)); refine blk_far ?_ NB221_245.out _; (with_reducible repeat (first | refine blk_drewN ?_ _ | refine blk_drew ?_ | refine blk_alloc ?_ _)); refine blk_far ?_ NB221_245.out _; (with_reducible repeat (first | refine blk_drewN ?_ _ | refine blk_drew ?_ | refine blk_alloc ?_ _)); exact BK221.out) hb); have n5_ := AZ (blk_below (g := gb233) (o := .cells #[.string t228, .slice Ao25 t229.length co25] 58 (0, 0)) (by (with_reducible repeat (first | refine blk_drewN ?_ _ | refine blk_drew ?_ | refine blk_alloc ?_ _)); refine blk_far ?_ NB233_245.out _; (with_reducible repeat (first | refine blk_drewN ?_ _ | refine blk_drew ?_ | refine blk_alloc ?_ _)); refine blk_far ?_ NB233_245.out _; (with_reducible repeat (first | refine blk_drewN ?_ _ | refine blk_drew ?_ | refine blk_alloc ?_ _)); exact BK233.out) hb); have n6_ := AZ (blk_below (g := gb239) (o := .cells #[.string t234, .int .i64 t235, .slice Ao32 t236.length co32] 50 (0, 0)) (by (with_reducible repeat (first | refine blk_drewN ?_ _ | refine blk_drew ?_ | refine blk_alloc ?_ _)); refine blk_far ?_ NB239_245.out _; (with_reducible repeat (first | refine blk_drewN ?_ _ | refine blk_drew ?_ | refine blk_alloc ?_ _)); refine blk_far ?_ NB239_245.out _; (with_reducible repeat (first | refine blk_drewN ?_ _ | refine blk_drew ?_ | refine blk_alloc ?_ _)); exact BK239.out) hb); have n7_ := AZ (blk_below (g := gb245) (o := .cells #[.string t240, .slice Ao39 t241.length co39] 58 (0, 0)) (by (with_reducible repeat (first | refine blk_drewN ?_ _ | refine blk_drew ?_ | refine blk_alloc ?_ _)); refine blk_put (cs := #[.string t240, .slice none 0 0]) ?_ 1 _ rfl; (with_reducible repeat (first | refine blk_drewN ?_ _ | refine blk_drew ?_ | refine blk_alloc ?_ _)); refine blk_put (cs := #[.string (⟨#[]⟩ : ByteArray), .slice none 0 0]) ?_ 0 _ rfl; (with_reducible repeat (first | refine blk_drewN ?_ _ | refine blk_drew ?_ | refine blk_alloc ?_ _)); exact BK245.out) hb); have n8_ := AZ (below_step (bS HB.out) hb); clear HO227; clear HO231; clear HO238; clear HO243; clear BK221; clear BK233; clear BK239; clear BK245; clear HB; have HO227 := n0_; have HO231 := n1_; have HO238 := n2_; have HO243 := n3_; have BK221 := n4_; have BK233 := n5_; have BK239 := n6_; have BK245 := n7_; have HB := n8_; clear n0_ n1_ n2_ n3_ n4_ n5_ n6_ n7_ n8_; (try clear hb)))
          go_meet
          case rel => exact ⟨_, ((t244 != t232)), (by first | rfl | (simp; done) | (simp [*]; done)), H', ⟨by first | omega | exact Nat.le_refl _⟩, ⟨rS (Kd.R_mono HO231.out (fun _ hk => hk.2))⟩, ⟨sS (Kd.S_mono HO238.out (fun _ hk => ⟨hk.1.1.1.2, ⟨hk.1.2, ⟨hk.1.1.2, hk.2⟩⟩⟩))⟩, ⟨rS (Kd.R_mono HO243.out (fun _ hk => hk.2))⟩, ⟨blkS BK221.out⟩, ⟨blkS BK233.out⟩, ⟨blkS BK239.out⟩, ⟨blkS BK245.out⟩, ⟨bS HB.out⟩⟩
        · replace c41 := Bool.eq_false_iff.mpr c41
          subst c41
          have H1 : (laws_FnExactRowNamed.j0 k a1 t232 t244 true a0_0 a0_1 l0_2 t228 t229 t234 t235 t236 t240 t241) = some r := by rw [if_neg (show ¬ (false = true) by decide)] at H; exact H
          clear H
          have H := H1
          clear H1
          have H' := Aside0.mk H
          clear H
          have hnb50 := NB245_221.out
          have hnc50 := NB221_245.out
          have hnb51 := NB245_233.out
          have hnc51 := NB233_245.out
          have hnb52 := NB245_239.out
          have hnc52 := NB239_245.out
          have hcz53_0 : w34.cell? ⟨gb245, 0, none⟩ = some (.string (⟨#[]⟩ : ByteArray)) := (blk_cell BK245.out 0).trans rfl
          have hcz53_1 : w34.cell? ⟨gb245, 1, none⟩ = some (.slice none 0 0) := (blk_cell BK245.out 1).trans rfl
          have hfz53_0 := blk_frozen BK245.out 0
          have hfz53_1 := blk_frozen BK245.out 1
          have hnb54 := NB233_221.out
          have hnc54 := NB221_233.out
          have hnb55 := NB233_239.out
          have hnc55 := NB239_233.out
          have hcz56_0 : w34.cell? ⟨gb233, 0, none⟩ = some (.string t228) := (blk_cell BK233.out 0).trans rfl
          have hcz56_1 : w34.cell? ⟨gb233, 1, none⟩ = some (.slice Ao25 t229.length co25) := (blk_cell BK233.out 1).trans rfl
          have hfz56_0 := blk_frozen BK233.out 0
          have hfz56_1 := blk_frozen BK233.out 1
          go_wp2_with (first | ((with_reducible refine gate_callee (f := 43) rfl ?_); refine gL (some 41) Try.func43 #[.agg #[.string t240, .slice Ao39 t241.length co39], .agg #[.string t228, .slice Ao25 t229.length co25]] ?_; (with_reducible refine (laws_eqRow.calls k t240 _ _ t241 t228 _ _ t229 false _ ?side1 ?side2 ?side3 ?side4 A40.out).mono ?_); (case side1 => refine (Kd.R_reads' (e := 3) (base := w.heap.size) (ok := fun k_ => (True ∧ some k_ ≠ (.slice Ao25 t229.length co25 : Value).ownBlock)) (n := t241.length) (c := co39) ?_).2.2; exact (by (with_reducible repeat (first | apply Kd.R_alloc | apply Kd.R_drewN | apply Kd.R_drew)); exact (Kd.R_mono (Kd.R_far (Kd.R_far (Kd.R_types HO243.out BK245.out (by decide)) (fun _ hk => hk.2) _) (fun _ hk => hk.2) _) (fun _ h_ => h_.1)))); (case side2 => exact (Kd.R_reads' HO243.out).2.1); (case side3 => refine (Kd.R_reads' (e := 3) (base := w.heap.size) (ok := fun k_ => (True ∧ some k_ ≠ (.slice Ao39 t241.length co39 : Value).ownBlock)) (n := t229.length) (c := co25) ?_).2.2; exact (by (with_reducible repeat (first | apply Kd.R_alloc | apply Kd.R_drewN | apply Kd.R_drew)); exact (Kd.R_mono (Kd.R_far (Kd.R_far (Kd.R_types HO231.out BK245.out (by decide)) (fun _ hk => hk.2) _) (fun _ hk => hk.2) _) (fun _ h_ => h_.1)))); (case side4 => exact (Kd.R_reads' HO231.out).2.1); rintro e w57 ⟨rfl, hb⟩; refine ⟨_, rfl, ?_⟩; have n0_ := AZ (Kd.S_below (by (with_reducible repeat (first | apply Kd.S_alloc | apply Kd.S_drewN | apply Kd.S_drew)); exact (Kd.S_mono (Kd.S_far (Kd.S_far (Kd.S_mono HO227.out (fun k_ hk => (⟨hk, hk.2⟩ : _ ∧ k_ ≠ gb245))) (fun _ hk => hk.2) _) (fun _ hk => hk.2) _) (fun _ h_ => h_.1))) hb); have n1_ := AZ (Kd.R_below (by (with_reducible repeat (first | apply Kd.R_alloc | apply Kd.R_drewN | apply Kd.R_drew)); exact (Kd.R_mono (Kd.R_far (Kd.R_far (Kd.R_types HO231.out BK245.out (by decide)) (fun _ hk => hk.2) _) (fun _ hk => hk.2) _) (fun _ h_ => h_.1))) hb); have n2_ := AZ (Kd.S_below (by (with_reducible repeat (first | apply Kd.S_alloc | apply Kd.S_drewN | apply Kd.S_drew)); exact (Kd.S_mono (Kd.S_far (Kd.S_far (Kd.S_mono HO238.out (fun k_ hk => (⟨hk, hk.2⟩ : _ ∧ k_ ≠ gb245))) (fun _ hk => hk.2) _) (fun _ hk => hk.2) _) (fun _ h_ => h_.1))) hb); have n3_ := AZ (Kd.R_below (by (with_reducible repeat (first | apply Kd.R_alloc | apply Kd.R_drewN | apply Kd.R_drew)); exact (Kd.R_mono (Kd.R_far (Kd.R_far (Kd.R_types HO243.out BK245.out (by decide)) (fun _ hk => hk.2) _) (fun _ hk => hk.2) _) (fun _ h_ => h_.1))) hb); have n4_ := AZ (blk_below (g := gb221) (o := .cells #[.string a0_0, .int .i64 a0_1, .slice A0_2 l0_2.length c0_2] 45 (0, 0)) (by (with_reducible repeat (first | refine blk_drewN ?_ _ | refine blk_drew ?_ | refine blk_alloc ?_ _)); refine blk_far ?_ NB221_245.out _; (with_reducible repeat (first | refine blk_drewN ?_ _ | refine blk_drew ?_ | refine blk_alloc ?_ _)); refine blk_far ?_ NB221_245.out _; (with_reducible repeat (first | refine blk_drewN ?_ _ | refine blk_drew ?_ | refine blk_alloc ?_ _)); exact BK221.out) hb); have n5_ := AZ (blk_below (g := gb233) (o := .cells #[.string t228, .slice Ao25 t229.length co25] 58 (0, 0)) (by (with_reducible repeat (first | refine blk_drewN ?_ _ | refine blk_drew ?_ | refine blk_alloc ?_ _)); refine blk_far ?_ NB233_245.out _; (with_reducible repeat (first | refine blk_drewN ?_ _ | refine blk_drew ?_ | refine blk_alloc ?_ _)); refine blk_far ?_ NB233_245.out _; (with_reducible repeat (first | refine blk_drewN ?_ _ | refine blk_drew ?_ | refine blk_alloc ?_ _)); exact BK233.out) hb); have n6_ := AZ (blk_below (g := gb239) (o := .cells #[.string t234, .int .i64 t235, .slice Ao32 t236.length co32] 50 (0, 0)) (by (with_reducible repeat (first | refine blk_drewN ?_ _ | refine blk_drew ?_ | refine blk_alloc ?_ _)); refine blk_far ?_ NB239_245.out _; (with_reducible repeat (first | refine blk_drewN ?_ _ | refine blk_drew ?_ | refine blk_alloc ?_ _)); refine blk_far ?_ NB239_245.out _; (with_reducible repeat (first | refine blk_drewN ?_ _ | refine blk_drew ?_ | refine blk_alloc ?_ _)); exact BK239.out) hb); have n7_ := AZ (blk_below (g := gb245) (o := .cells #[.string t240, .slice Ao39 t241.length co39] 58 (0, 0)) (by (with_reducible repeat (first | refine blk_drewN ?_ _ | refine blk_drew ?_ | refine blk_alloc ?_ _)); refine blk_put (cs := #[.string t240, .slice none 0 0]) ?_ 1 _ rfl; (with_reducible repeat (first | refine blk_drewN ?_ _ | refine blk_drew ?_ | refine blk_alloc ?_ _)); refine blk_put (cs := #[.string (⟨#[]⟩ : ByteArray), .slice none 0 0]) ?_ 0 _ rfl; (with_reducible repeat (first | refine blk_drewN ?_ _ | refine blk_drew ?_ | refine blk_alloc ?_ _)); exact BK245.out) hb); have n8_ := AZ (below_step (bS HB.out) hb); clear HO227; clear HO231; clear HO238; clear HO243; clear BK221; clear BK233; clear BK239; clear BK245; clear HB; have HO227 := n0_; have HO231 := n1_; have HO238 := n2_; have HO243 := n3_; have BK221 := n4_; have BK233 := n5_; have BK239 := n6_; have BK245 := n7_; have HB := n8_; clear n0_ n1_ n2_ n3_ n4_ n5_ n6_ n7_ n8_; (try clear hb)))
          go_meet
          case rel => exact ⟨_, (true), (by first | rfl | (simp; done) | (simp [*]; done)), H', ⟨by first | omega | exact Nat.le_refl _⟩, ⟨rS (Kd.R_mono HO231.out (fun _ hk => hk.2))⟩, ⟨sS (Kd.S_mono HO238.out (fun _ hk => ⟨hk.1.1.1.2, ⟨hk.1.2, ⟨hk.1.1.2, hk.2⟩⟩⟩))⟩, ⟨rS (Kd.R_mono HO243.out (fun _ hk => hk.2))⟩, ⟨blkS BK221.out⟩, ⟨blkS BK233.out⟩, ⟨blkS BK239.out⟩, ⟨blkS BK245.out⟩, ⟨bS HB.out⟩⟩
      case rest =>
        clear HC14
        try clear c1
        try clear c2
        try clear p2
        try clear c3
        try clear c3b0
        try clear c3b1
        try clear c4
        try clear c5
        try clear c6
        try clear c6b0
        try clear c10
        try clear c23
        try clear c29
        try clear c30
        try clear c33
        try clear c35
        try clear c36
        try clear c37
        try clear c41
        try clear c42
        try clear c43
        try clear c44
        try clear c46
        try clear c47
        try clear c50
        try clear c51
        try clear c52
        try clear c54
        try clear c55
        try clear hcz16_0
        try clear hcz16_1
        try clear hcz16_2
        try clear hcz18_0
        try clear hcz18_1
        try clear hcz18_2
        try clear hcz24_0
        try clear hcz24_1
        try clear hcz26_0
        try clear hcz26_1
        try clear hcz26_2
        try clear hcz31_0
        try clear hcz31_1
        try clear hcz31_2
        try clear hcz38_0
        try clear hcz38_1
        try clear hcz45_0
        try clear hcz45_1
        try clear hcz48_0
        try clear hcz48_1
        try clear hcz53_0
        try clear hcz53_1
        try clear hcz56_0
        try clear hcz56_1
        try clear hcz8_0
        try clear hcz8_1
        try clear hcz8_2
        try clear hfz16_0
        try clear hfz16_1
        try clear hfz16_2
        try clear hfz18_0
        try clear hfz18_1
        try clear hfz18_2
        try clear hfz24_0
        try clear hfz24_1
        try clear hfz26_0
        try clear hfz26_1
        try clear hfz26_2
        try clear hfz31_0
        try clear hfz31_1
        try clear hfz31_2
        try clear hfz38_0
        try clear hfz38_1
        try clear hfz45_0
        try clear hfz45_1
        try clear hfz48_0
        try clear hfz48_1
        try clear hfz53_0
        try clear hfz53_1
        try clear hfz56_0
        try clear hfz56_1
        try clear hfz8_0
        try clear hfz8_1
        try clear hfz8_2
        obtain ⟨kq, x47_13, rfl, HA, HJ13, HO_234001, HO_240002, HO_246001, BK221, BK233, BK239, BK245, HB⟩ := hcut
        cases kq with
        | zero => exact absurd HA.out (by simp [laws_FnExactRowNamed.j0])
        | succ kj13 =>
          have H := HA.out
          clear HA
          simp only [laws_FnExactRowNamed.j0] at H
          by_cases c58 : x47_13 = true
          · subst c58
            have H1 : (none) = some r := by rw [if_pos rfl] at H; exact H
            clear H
            have H := H1
            clear H1
            exact absurd H (by simp)
          · replace c58 := Bool.eq_false_iff.mpr c58
            subst c58
            have H1 : ((laws_toReport.f kj13 a0_0 a0_1 l0_2).bind fun bt247 => ((laws_eqReport.f kj13 t234 t235 t236 bt247.1 bt247.2.1 bt247.2.2).bind fun t252 => (if t252 = true then ((laws_markReport.f kj13 t234 t235 t236 1).bind fun t253 => (if t253 < 0 then (laws_FnExactRowNamed.j1 kj13 a1 t232 true a0_0 a0_1 l0_2 t228 t229 t240 t241) else ((laws_eqRow.f kj13 t240 t241 t228 t229).bind fun t254 => (if t254 = true then (laws_FnExactRowNamed.j1 kj13 a1 t232 (t244 != t232) a0_0 a0_1 l0_2 t228 t229 t240 t241) else (laws_FnExactRowNamed.j1 kj13 a1 t232 true a0_0 a0_1 l0_2 t228 t229 t240 t241))))) else (none)))) = some r := by rw [if_neg (show ¬ (false = true) by decide)] at H; exact H
            clear H
            have H := H1
            clear H1
            replace H := Option.bind_eq_some_iff.mp H
            obtain ⟨⟨t247, t248, t249⟩, A590, H⟩ := H
            replace H : ((laws_eqReport.f kj13 t234 t235 t236 t247 t248 t249).bind fun t252 => (if t252 = true then ((laws_markReport.f kj13 t234 t235 t236 1).bind fun t253 => (if t253 < 0 then (laws_FnExactRowNamed.j1 kj13 a1 t232 true a0_0 a0_1 l0_2 t228 t229 t240 t241) else ((laws_eqRow.f kj13 t240 t241 t228 t229).bind fun t254 => (if t254 = true then (laws_FnExactRowNamed.j1 kj13 a1 t232 (t244 != t232) a0_0 a0_1 l0_2 t228 t229 t240 t241) else (laws_FnExactRowNamed.j1 kj13 a1 t232 true a0_0 a0_1 l0_2 t228 t229 t240 t241))))) else (none))) = some r := H
            have A59 := Aside0.mk A590
            clear A590
            replace H := Option.bind_eq_some_iff.mp H
            obtain ⟨t252, A600, H⟩ := H
            replace H : (if t252 = true then ((laws_markReport.f kj13 t234 t235 t236 1).bind fun t253 => (if t253 < 0 then (laws_FnExactRowNamed.j1 kj13 a1 t232 true a0_0 a0_1 l0_2 t228 t229 t240 t241) else ((laws_eqRow.f kj13 t240 t241 t228 t229).bind fun t254 => (if t254 = true then (laws_FnExactRowNamed.j1 kj13 a1 t232 (t244 != t232) a0_0 a0_1 l0_2 t228 t229 t240 t241) else (laws_FnExactRowNamed.j1 kj13 a1 t232 true a0_0 a0_1 l0_2 t228 t229 t240 t241))))) else (none)) = some r := H
            have A60 := Aside0.mk A600
            clear A600
            by_cases c61 : t252 = true
            · subst c61
              have H1 : ((laws_markReport.f kj13 t234 t235 t236 1).bind fun t253 => (if t253 < 0 then (laws_FnExactRowNamed.j1 kj13 a1 t232 true a0_0 a0_1 l0_2 t228 t229 t240 t241) else ((laws_eqRow.f kj13 t240 t241 t228 t229).bind fun t254 => (if t254 = true then (laws_FnExactRowNamed.j1 kj13 a1 t232 (t244 != t232) a0_0 a0_1 l0_2 t228 t229 t240 t241) else (laws_FnExactRowNamed.j1 kj13 a1 t232 true a0_0 a0_1 l0_2 t228 t229 t240 t241))))) = some r := by rw [if_pos rfl] at H; exact H
              clear H
              have H := H1
              clear H1
              replace H := Option.bind_eq_some_iff.mp H
              obtain ⟨t253, A620, H⟩ := H
              replace H : (if t253 < 0 then (laws_FnExactRowNamed.j1 kj13 a1 t232 true a0_0 a0_1 l0_2 t228 t229 t240 t241) else ((laws_eqRow.f kj13 t240 t241 t228 t229).bind fun t254 => (if t254 = true then (laws_FnExactRowNamed.j1 kj13 a1 t232 (t244 != t232) a0_0 a0_1 l0_2 t228 t229 t240 t241) else (laws_FnExactRowNamed.j1 kj13 a1 t232 true a0_0 a0_1 l0_2 t228 t229 t240 t241)))) = some r := H
              have A62 := Aside0.mk A620
              clear A620
              have HC63 := Aside0.mk H
              clear H
              try go_wp2
              have n0_ := AZ (Kd.R_drew HO_234001.out)
              have n1_ := AZ (Kd.S_drew HO_240002.out)
              have n2_ := AZ (Kd.R_drew HO_246001.out)
              have n3_ := AZ (blk_drew BK221.out)
              have n4_ := AZ (blk_drew BK233.out)
              have n5_ := AZ (blk_drew BK239.out)
              have n6_ := AZ (blk_drew BK245.out)
              have n7_ := AZ (below_drew1 HB.out)
              clear HO_234001
              clear HO_240002
              clear HO_246001
              clear BK221
              clear BK233
              clear BK239
              clear BK245
              clear HB
              have HO_234001 := n0_
              have HO_240002 := n1_
              have HO_246001 := n2_
              have BK221 := n3_
              have BK233 := n4_
              have BK239 := n5_
              have BK245 := n6_
              have HB := n7_
              clear n0_ n1_ n2_ n3_ n4_ n5_ n6_ n7_
              refine start_ (n := 5) (S := fun w' => w'.cell? ⟨gb239, 0, none⟩ = some (.string t234) ∧ w'.cell? ⟨gb239, 1, none⟩ = some (.int .i64 t235) ∧ w'.cell? ⟨gb239, 2, none⟩ = some (.slice Ao32 t236.length co32) ∧ w'.cell? ⟨gb221, 0, none⟩ = some (.string a0_0) ∧ w'.cell? ⟨gb221, 1, none⟩ = some (.int .i64 a0_1) ∧ w'.cell? ⟨gb221, 2, none⟩ = some (.slice A0_2 l0_2.length c0_2)) (ds := []) #[false, false, false, false, false] (by kernel_rfl) rfl rfl ⟨(blk_cell BK239.out 0).trans rfl, (blk_cell BK239.out 1).trans rfl, (blk_cell BK239.out 2).trans rfl, (blk_cell BK221.out 0).trans rfl, (blk_cell BK221.out 1).trans rfl, (blk_cell BK221.out 2).trans rfl⟩ (fun hHeld => ?_)
              generalize wc.drew = w64 at HO_234001 HO_240002 HO_246001 BK221 BK233 BK239 BK245 HB hHeld ⊢
              refine take_ (i := 0) (N := some 48) (v := ?_) (a' := ?_) #[true, false, false, false, false] rfl rfl (by kernel_rfl) (fun _ _ _ h => h) (Or.inl ⟨by rfl, ?_⟩) hHeld ?_ ?_
              rotate_left
              · rintro w' ⟨s0, s1, s2, s3, s4, s5⟩
                go_simp
                with_reducible rfl
              rotate_left
              · simp only [Act.put, List.setIfInBounds_toArray, List.set_cons_zero, List.set_cons_succ, i64_w, i32_w]
                rfl
              refine take_ (i := 1) (N := some 49) (v := ?_) (a' := ?_) #[true, true, false, false, false] rfl rfl (by kernel_rfl) (fun _ _ _ h => h) (Or.inl ⟨by rfl, ?_⟩) hHeld ?_ ?_
              rotate_left
              · rintro w' ⟨s0, s1, s2, s3, s4, s5⟩
                go_simp
                with_reducible rfl
              rotate_left
              · simp only [Act.put, List.setIfInBounds_toArray, List.set_cons_zero, List.set_cons_succ, i64_w, i32_w]
                rfl
              refine one_ (i := 2) (N := some 50) #[true, true, true, false, false] rfl rfl (by kernel_rfl) (by decide) (fun K hK => ?_)
              refine goes_ Try.func35 (by kernel_rfl) rfl #[.agg #[.string a0_0, .int .i64 a0_1, .slice A0_2 l0_2.length c0_2]] (by rfl) rfl rfl (by (try simp only [List.map_toArray, List.map_cons, List.map_nil]); first | done | rfl | (simp only [List.length_drop, List.length_take]; rfl)) ?_
              with_reducible refine (laws_toReport.calls kj13 a0_0 a0_1 _ _ l0_2 t247 t248 t249 _ ?side1 ?side2 A59.out).mono ?_
              (case side1 => exact cS (Kd.C_below HR0_2.out HB.out))
              (case side2 => exact HC0_2.out)
              rintro e w65 ⟨v250, rfl, ho0, hb⟩
              refine ⟨_, rfl, ?_⟩
              have n0_ := AZ (Kd.R_below (rS HO_234001.out) hb)
              have n1_ := AZ (Kd.S_elder' (sS HO_240002.out) (Kd.S_base ho0) hb)
              have n2_ := AZ (Kd.R_below (rS HO_246001.out) hb)
              have n3_ := AZ (Kd.S_lower (Kd.S_newB (Kd.S_newB (Kd.S_new' (Kd.S_new' (Kd.S_new' ho0 (Kd.R_lt (rS HO_234001.out))) (Kd.S_lt (sS HO_240002.out))) (Kd.R_lt (rS HO_246001.out))) (g := gb233) (o := .cells #[.string t228, .slice Ao25 t229.length co25] 58 (0, 0)) (blkS BK233.out)) (g := gb245) (o := .cells #[.string t240, .slice Ao39 t241.length co39] 58 (0, 0)) (blkS BK245.out)) (below_size (bS HB.out)))
              have n4_ := blkA BK221 hb
              have n5_ := blkA BK233 hb
              have n6_ := blkA BK239 hb
              have n7_ := blkA BK245 hb
              have n8_ := AZ (below_step (bS HB.out) hb)
              clear HO_234001
              clear HO_240002
              clear HO_246001
              clear BK221
              clear BK233
              clear BK239
              clear BK245
              clear HB
              have HO_234001 := n0_
              have HO_240002 := n1_
              have HO_246001 := n2_
              have HO251 := n3_
              have BK221 := n4_
              have BK233 := n5_
              have BK239 := n6_
              have BK245 := n7_
              have HB := n8_
              clear n0_ n1_ n2_ n3_ n4_ n5_ n6_ n7_ n8_
              (try clear hb)
              (try clear hb2)
              (try clear hk)
              (try clear hi)
              (try clear ho0)
              obtain ⟨Ao66, co66, eo66⟩ := Kd.S_slice HO251.out
              (first | subst eo66 | (injection eo66 with f1_ f2_ f3_; have f4_ := f1_.symm; have f5_ := f3_.symm; clear f1_ f2_ f3_; subst f4_; subst f5_))
              refine hK.out _ _ ⟨(blk_cell BK239.out 0).trans rfl, (blk_cell BK239.out 1).trans rfl, (blk_cell BK239.out 2).trans rfl, (blk_cell BK221.out 0).trans rfl, (blk_cell BK221.out 1).trans rfl, (blk_cell BK221.out 2).trans rfl⟩ (fun hHeld => ?_)
              clear hK K
              refine norm_ (a' := ?_) ?_ ?_
              rotate_left
              · show Act.put _ (some 50) _ = _
                simp only [Act.put, List.setIfInBounds_toArray, List.set_cons_zero, List.set_cons_succ, i64_w, i32_w]
                rfl
              refine one_ (i := 3) (N := some 51) #[true, true, true, true, false] rfl rfl (by kernel_rfl) (by decide) (fun K hK => ?_)
              refine goes_ Try.func37 (by kernel_rfl) rfl #[.agg #[.string t234, .int .i64 t235, .slice Ao32 t236.length co32], .agg #[.string t247, .int .i64 t248, .slice Ao66 t249.length co66]] (by rfl) rfl rfl (by (try simp only [List.map_toArray, List.map_cons, List.map_nil]); first | done | rfl | (simp only [List.length_drop, List.length_take]; rfl)) ?_
              with_reducible refine (laws_eqReport.calls kj13 t234 t235 _ _ t236 t247 t248 _ _ t249 true _ ?side1 ?side2 ?side3 ?side4 A60.out).mono ?_
              (case side1 => exact cS (Kd.S_reads' HO_240002.out).2.2)
              (case side2 => exact (Kd.S_reads' HO_240002.out).2.1)
              (case side3 => exact cS (Kd.S_reads' HO251.out).2.2)
              (case side4 => exact (Kd.S_reads' HO251.out).2.1)
              rintro e w67 ⟨rfl, hb⟩
              refine ⟨_, rfl, ?_⟩
              have n0_ := AZ (Kd.R_below (rS HO_234001.out) hb)
              have n1_ := AZ (Kd.S_below (sS HO_240002.out) hb)
              have n2_ := AZ (Kd.R_below (rS HO_246001.out) hb)
              have n3_ := AZ (Kd.S_below (sS HO251.out) hb)
              have n4_ := blkA BK221 hb
              have n5_ := blkA BK233 hb
              have n6_ := blkA BK239 hb
              have n7_ := blkA BK245 hb
              have n8_ := AZ (below_step (bS HB.out) hb)
              clear HO_234001
              clear HO_240002
              clear HO_246001
              clear HO251
              clear BK221
              clear BK233
              clear BK239
              clear BK245
              clear HB
              have HO_234001 := n0_
              have HO_240002 := n1_
              have HO_246001 := n2_
              have HO251 := n3_
              have BK221 := n4_
              have BK233 := n5_
              have BK239 := n6_
              have BK245 := n7_
              have HB := n8_
              clear n0_ n1_ n2_ n3_ n4_ n5_ n6_ n7_ n8_
              (try clear hb)
              (try clear hb2)
              (try clear hk)
              (try clear hi)
              refine hK.out _ _ ⟨(blk_cell BK239.out 0).trans rfl, (blk_cell BK239.out 1).trans rfl, (blk_cell BK239.out 2).trans rfl, (blk_cell BK221.out 0).trans rfl, (blk_cell BK221.out 1).trans rfl, (blk_cell BK221.out 2).trans rfl⟩ (fun hHeld => ?_)
              clear hK K
              refine norm_ (a' := ?_) ?_ ?_
              rotate_left
              · show Act.put _ (some 51) _ = _
                simp only [Act.put, List.setIfInBounds_toArray, List.set_cons_zero, List.set_cons_succ, i64_w, i32_w]
                rfl
              refine pure_ (i := 4) (N := some 52) (v := ?_) (a' := ?_) #[true, true, true, true, true] rfl rfl (by kernel_rfl) (fun _ _ _ h => h) (Or.inl ⟨by rfl, ?_⟩) ?_ ?_
              rotate_left
              · intro w'
                go_simp
                with_reducible rfl
              rotate_left
              · simp only [Act.put, List.setIfInBounds_toArray, List.set_cons_zero, List.set_cons_succ, i64_w, i32_w]
                rfl
              refine done_ (by kernel_rfl) ?_
              have hnb68 := NB239_221.out
              have hnc68 := NB221_239.out
              have hnb69 := NB239_233.out
              have hnc69 := NB233_239.out
              have hnb70 := NB239_245.out
              have hnc70 := NB245_239.out
              have hcz71_0 : w67.cell? ⟨gb239, 0, none⟩ = some (.string t234) := (blk_cell BK239.out 0).trans rfl
              have hcz71_1 : w67.cell? ⟨gb239, 1, none⟩ = some (.int .i64 t235) := (blk_cell BK239.out 1).trans rfl
              have hcz71_2 : w67.cell? ⟨gb239, 2, none⟩ = some (.slice Ao32 t236.length co32) := (blk_cell BK239.out 2).trans rfl
              have hfz71_0 := blk_frozen BK239.out 0
              have hfz71_1 := blk_frozen BK239.out 1
              have hfz71_2 := blk_frozen BK239.out 2
              go_upto_region 16 with (first | ((with_reducible refine gate_callee (f := 40) rfl ?_); refine gL (some 55) Try.func40 #[.agg #[.string t234, .int .i64 t235, .slice Ao32 t236.length co32], .int .i64 1] ?_; (with_reducible refine (laws_markReport.calls kj13 t234 t235 ?P1 (.slice Ao32 t236.length co32) t236 1 t253 w _ ?side1 ?side2 ?side3 A62.out).mono ?_); (case side1 => repeat (first | (with_reducible first | exact HB.out | apply below_alloc | apply pw_below_drewN | apply below_drew1 | refine below_set ?_ GE221.out | refine below_set ?_ GE233.out | refine below_set ?_ GE239.out | refine below_set ?_ GE245.out) | exact HB.out)); (case side2 => exact Kd.S_bound (HO_240002.out)); (case side3 => exact fun k_ hk_ => hk_.2.2.1); rintro e w72 ⟨rfl, hb, hkp⟩; refine ⟨_, rfl, ?_⟩; have n0_ := AZ (Kd.R_mono (Kd.R_kept (Kd.R_tight rfl (HO_234001.out)) hkp (fun k_ e_ hs_ => (((hs_).1.1.1) e_))) (fun k_ e_ => (HO_234001.out).1 k_ e_.symm)); have n1_ := AZ (Kd.R_mono (Kd.R_kept (Kd.R_tight rfl (HO_246001.out)) hkp (fun k_ e_ hs_ => (((hs_).1.1.2.1) e_))) (fun k_ e_ => (HO_246001.out).1 k_ e_.symm)); have n2_ := AZ (blk_kept (g := gb221) (o := .cells #[.string a0_0, .int .i64 a0_1, .slice A0_2 l0_2.length c0_2] 45 (0, 0)) (blkS BK221.out) hkp (fun hs_ => (typed_absurd ((hs_).2.2.2) ⟨_, blkS BK221.out⟩ (by decide)))); have n3_ := AZ (blk_kept (g := gb233) (o := .cells #[.string t228, .slice Ao25 t229.length co25] 58 (0, 0)) (blkS BK233.out) hkp (fun hs_ => (((hs_).1.1.2.2.1) rfl))); have n4_ := AZ (blk_kept (g := gb239) (o := .cells #[.string t234, .int .i64 t235, .slice Ao32 t236.length co32] 50 (0, 0)) (blkS BK239.out) hkp (fun hs_ => (typed_absurd ((hs_).2.2.2) ⟨_, blkS BK239.out⟩ (by decide)))); have n5_ := AZ (blk_kept (g := gb245) (o := .cells #[.string t240, .slice Ao39 t241.length co39] 58 (0, 0)) (blkS BK245.out) hkp (fun hs_ => (((hs_).1.1.2.2.2) rfl))); have n6_ := AZ (hb); clear HO_234001; clear HO_246001; clear BK221; clear BK233; clear BK239; clear BK245; clear HB; clear HO_240002; clear HO251; have HO_234001 := n0_; have HO_246001 := n1_; have BK221 := n2_; have BK233 := n3_; have BK239 := n4_; have BK245 := n5_; have HB := n6_; clear n0_ n1_ n2_ n3_ n4_ n5_ n6_; (try clear hb hkp)))
              (try simp only [Act.put, List.setIfInBounds_toArray, List.set_cons_zero, List.set_cons_succ])
              go_cut [68] (fun v68 wc => ∃ (kq : Nat) (x68_62 : Bool), v68 = .bool x68_62 ∧ Aside0 (laws_FnExactRowNamed.j1 kq a1 t232 x68_62 a0_0 a0_1 l0_2 t228 t229 t240 t241 = some r) ∧ Aside0 (kq ≤ kj13) ∧ Aside0 (Kd.R (Kd.int .i64) 3 wc w.heap.size (fun k_ => some k_ ≠ ((.slice Ao39 t241.length co39) : Value).ownBlock) (.slice Ao25 t229.length co25) t229) ∧ Aside0 (Kd.R (Kd.int .i64) 3 wc w.heap.size (fun k_ => some k_ ≠ ((.slice Ao25 t229.length co25) : Value).ownBlock) (.slice Ao39 t241.length co39) t241) ∧ Aside0 (wc.heap[gb221]? = some (.cells #[.string a0_0, .int .i64 a0_1, (.slice A0_2 l0_2.length c0_2)] 45 (0, 0))) ∧ Aside0 (wc.heap[gb233]? = some (.cells #[.string t228, (.slice Ao25 t229.length co25)] 58 (0, 0))) ∧ Aside0 (wc.heap[gb245]? = some (.cells #[.string t240, (.slice Ao39 t241.length co39)] 58 (0, 0))) ∧ Aside0 (Below w.heap.size w wc))
              case first =>
                have H := HC63.out
                clear HC63
                by_cases c73 : t253 < 0
                · rw [if_pos c73] at H
                  have c73b0 : decide (t253 < 0) = true := decide_eq_true c73
                  clear c73
                  (first | rw [c73b0] | (simp only [i64_w, i32_w]; rw [c73b0]) | skip)
                  have H' := Aside0.mk H
                  clear H
                  go_wp2
                  go_meet
                  case rel => exact ⟨_, (true), (by first | rfl | (simp; done) | (simp [*]; done)), H', ⟨by have := HJ13.out; first | omega | exact Nat.le_refl _⟩, ⟨rS HO_234001.out⟩, ⟨rS HO_246001.out⟩, ⟨blkS BK221.out⟩, ⟨blkS BK233.out⟩, ⟨blkS BK245.out⟩, ⟨bS HB.out⟩⟩
                · rw [if_neg c73] at H
                  have c73b0 : decide (t253 < 0) = false := decide_eq_false c73
                  clear c73
                  (first | rw [c73b0] | (simp only [i64_w, i32_w]; rw [c73b0]) | skip)
                  replace H := Option.bind_eq_some_iff.mp H
                  obtain ⟨t254, A740, H⟩ := H
                  replace H : (if t254 = true then (laws_FnExactRowNamed.j1 kj13 a1 t232 (t244 != t232) a0_0 a0_1 l0_2 t228 t229 t240 t241) else (laws_FnExactRowNamed.j1 kj13 a1 t232 true a0_0 a0_1 l0_2 t228 t229 t240 t241)) = some r := H
                  have A74 := Aside0.mk A740
                  clear A740
                  by_cases c75 : t254 = true
                  · subst c75
                    have H1 : (laws_FnExactRowNamed.j1 kj13 a1 t232 (t244 != t232) a0_0 a0_1 l0_2 t228 t229 t240 t241) = some r := by rw [if_pos rfl] at H; exact H
                    clear H
                    have H := H1
                    clear H1
                    have H' := Aside0.mk H
                    clear H
                    have hnb76 := NB245_221.out
                    have hnc76 := NB221_245.out
                    have hnb77 := NB245_233.out
                    have hnc77 := NB233_245.out
                    have hnb78 := NB245_239.out
                    have hnc78 := NB239_245.out
                    have hcz79_0 : w72.cell? ⟨gb245, 0, none⟩ = some (.string t240) := (blk_cell BK245.out 0).trans rfl
                    have hcz79_1 : w72.cell? ⟨gb245, 1, none⟩ = some (.slice Ao39 t241.length co39) := (blk_cell BK245.out 1).trans rfl
                    have hfz79_0 := blk_frozen BK245.out 0
                    have hfz79_1 := blk_frozen BK245.out 1
                    have hnb80 := NB233_221.out
                    have hnc80 := NB221_233.out
                    have hnb81 := NB233_239.out
                    have hnc81 := NB239_233.out
                    have hcz82_0 : w72.cell? ⟨gb233, 0, none⟩ = some (.string t228) := (blk_cell BK233.out 0).trans rfl
                    have hcz82_1 : w72.cell? ⟨gb233, 1, none⟩ = some (.slice Ao25 t229.length co25) := (blk_cell BK233.out 1).trans rfl
                    have hfz82_0 := blk_frozen BK233.out 0
                    have hfz82_1 := blk_frozen BK233.out 1
                    go_wp2_with (first | (go_at_call 43; (with_reducible refine (laws_eqRow.calls kj13 t240 _ _ t241 t228 _ _ t229 true _ ?side1 ?side2 ?side3 ?side4 A74.out).mono ?_); (case side1 => exact cS (Kd.R_reads' HO_246001.out).2.2); (case side2 => exact (Kd.R_reads' HO_246001.out).2.1); (case side3 => exact cS (Kd.R_reads' HO_234001.out).2.2); (case side4 => exact (Kd.R_reads' HO_234001.out).2.1); rintro e w83 ⟨rfl, hb⟩; have n0_ := AZ (Kd.R_below (rS HO_234001.out) hb); have n1_ := AZ (Kd.R_below (rS HO_246001.out) hb); have n2_ := blkA BK221 hb; have n3_ := blkA BK233 hb; have n4_ := blkA BK239 hb; have n5_ := blkA BK245 hb; have n6_ := AZ (below_step (bS HB.out) hb); clear HO_234001; clear HO_246001; clear BK221; clear BK233; clear BK239; clear BK245; clear HB; have HO_234001 := n0_; have HO_246001 := n1_; have BK221 := n2_; have BK233 := n3_; have BK239 := n4_; have BK245 := n5_; have HB := n6_; clear n0_ n1_ n2_ n3_ n4_ n5_ n6_; (try clear hb)))
                    go_meet
                    case rel => exact ⟨_, ((t244 != t232)), (by first | rfl | (simp; done) | (simp [*]; done)), H', ⟨by have := HJ13.out; first | omega | exact Nat.le_refl _⟩, ⟨rS HO_234001.out⟩, ⟨rS HO_246001.out⟩, ⟨blkS BK221.out⟩, ⟨blkS BK233.out⟩, ⟨blkS BK245.out⟩, ⟨bS HB.out⟩⟩
                  · replace c75 := Bool.eq_false_iff.mpr c75
                    subst c75
                    have H1 : (laws_FnExactRowNamed.j1 kj13 a1 t232 true a0_0 a0_1 l0_2 t228 t229 t240 t241) = some r := by rw [if_neg (show ¬ (false = true) by decide)] at H; exact H
                    clear H
                    have H := H1
                    clear H1
                    have H' := Aside0.mk H
                    clear H
                    have hnb84 := NB245_221.out
                    have hnc84 := NB221_245.out
                    have hnb85 := NB245_233.out
                    have hnc85 := NB233_245.out
                    have hnb86 := NB245_239.out
                    have hnc86 := NB239_245.out
                    have hcz87_0 : w72.cell? ⟨gb245, 0, none⟩ = some (.string t240) := (blk_cell BK245.out 0).trans rfl
                    have hcz87_1 : w72.cell? ⟨gb245, 1, none⟩ = some (.slice Ao39 t241.length co39) := (blk_cell BK245.out 1).trans rfl
                    have hfz87_0 := blk_frozen BK245.out 0
                    have hfz87_1 := blk_frozen BK245.out 1
                    have hnb88 := NB233_221.out
                    have hnc88 := NB221_233.out
                    have hnb89 := NB233_239.out
                    have hnc89 := NB239_233.out
                    have hcz90_0 : w72.cell? ⟨gb233, 0, none⟩ = some (.string t228) := (blk_cell BK233.out 0).trans rfl
                    have hcz90_1 : w72.cell? ⟨gb233, 1, none⟩ = some (.slice Ao25 t229.length co25) := (blk_cell BK233.out 1).trans rfl
                    have hfz90_0 := blk_frozen BK233.out 0
                    have hfz90_1 := blk_frozen BK233.out 1
                    go_wp2_with (first | (go_at_call 43; (with_reducible refine (laws_eqRow.calls kj13 t240 _ _ t241 t228 _ _ t229 false _ ?side1 ?side2 ?side3 ?side4 A74.out).mono ?_); (case side1 => exact cS (Kd.R_reads' HO_246001.out).2.2); (case side2 => exact (Kd.R_reads' HO_246001.out).2.1); (case side3 => exact cS (Kd.R_reads' HO_234001.out).2.2); (case side4 => exact (Kd.R_reads' HO_234001.out).2.1); rintro e w91 ⟨rfl, hb⟩; have n0_ := AZ (Kd.R_below (rS HO_234001.out) hb); have n1_ := AZ (Kd.R_below (rS HO_246001.out) hb); have n2_ := blkA BK221 hb; have n3_ := blkA BK233 hb; have n4_ := blkA BK239 hb; have n5_ := blkA BK245 hb; have n6_ := AZ (below_step (bS HB.out) hb); clear HO_234001; clear HO_246001; clear BK221; clear BK233; clear BK239; clear BK245; clear HB; have HO_234001 := n0_; have HO_246001 := n1_; have BK221 := n2_; have BK233 := n3_; have BK239 := n4_; have BK245 := n5_; have HB := n6_; clear n0_ n1_ n2_ n3_ n4_ n5_ n6_; (try clear hb)))
                    go_meet
                    case rel => exact ⟨_, (true), (by first | rfl | (simp; done) | (simp [*]; done)), H', ⟨by have := HJ13.out; first | omega | exact Nat.le_refl _⟩, ⟨rS HO_234001.out⟩, ⟨rS HO_246001.out⟩, ⟨blkS BK221.out⟩, ⟨blkS BK233.out⟩, ⟨blkS BK245.out⟩, ⟨bS HB.out⟩⟩
              case rest =>
                clear HC63
                try clear c1
                try clear c2
                try clear p2
                try clear c3
                try clear c3b0
                try clear c3b1
                try clear c4
                try clear c5
                try clear c6
                try clear c6b0
                try clear c7
                try clear c8
                try clear c10
                try clear c23
                try clear c29
                try clear c30
                try clear c33
                try clear c35
                try clear c36
                try clear c37
                try clear c40
                try clear c41
                try clear c42
                try clear c43
                try clear c44
                try clear c46
                try clear c47
                try clear c50
                try clear c51
                try clear c52
                try clear c54
                try clear c55
                try clear c58
                try clear c61
                try clear c68
                try clear c69
                try clear c70
                try clear c73
                try clear c73b0
                try clear c75
                try clear c76
                try clear c77
                try clear c78
                try clear c80
                try clear c81
                try clear c84
                try clear c85
                try clear c86
                try clear c88
                try clear c89
                try clear hcz16_0
                try clear hcz16_1
                try clear hcz16_2
                try clear hcz18_0
                try clear hcz18_1
                try clear hcz18_2
                try clear hcz24_0
                try clear hcz24_1
                try clear hcz26_0
                try clear hcz26_1
                try clear hcz26_2
                try clear hcz31_0
                try clear hcz31_1
                try clear hcz31_2
                try clear hcz38_0
                try clear hcz38_1
                try clear hcz45_0
                try clear hcz45_1
                try clear hcz48_0
                try clear hcz48_1
                try clear hcz53_0
                try clear hcz53_1
                try clear hcz56_0
                try clear hcz56_1
                try clear hcz71_0
                try clear hcz71_1
                try clear hcz71_2
                try clear hcz79_0
                try clear hcz79_1
                try clear hcz82_0
                try clear hcz82_1
                try clear hcz87_0
                try clear hcz87_1
                try clear hcz8_0
                try clear hcz8_1
                try clear hcz8_2
                try clear hcz90_0
                try clear hcz90_1
                try clear hfz16_0
                try clear hfz16_1
                try clear hfz16_2
                try clear hfz18_0
                try clear hfz18_1
                try clear hfz18_2
                try clear hfz24_0
                try clear hfz24_1
                try clear hfz26_0
                try clear hfz26_1
                try clear hfz26_2
                try clear hfz31_0
                try clear hfz31_1
                try clear hfz31_2
                try clear hfz38_0
                try clear hfz38_1
                try clear hfz45_0
                try clear hfz45_1
                try clear hfz48_0
                try clear hfz48_1
                try clear hfz53_0
                try clear hfz53_1
                try clear hfz56_0
                try clear hfz56_1
                try clear hfz71_0
                try clear hfz71_1
                try clear hfz71_2
                try clear hfz79_0
                try clear hfz79_1
                try clear hfz82_0
                try clear hfz82_1
                try clear hfz87_0
                try clear hfz87_1
                try clear hfz8_0
                try clear hfz8_1
                try clear hfz8_2
                try clear hfz90_0
                try clear hfz90_1
                try clear p2
                obtain ⟨kq, x68_62, rfl, HA, HJ62, HO_234001, HO_246001, BK221, BK233, BK245, HB⟩ := hcut
                cases kq with
                | zero => exact absurd HA.out (by simp [laws_FnExactRowNamed.j1])
                | succ kj62 =>
                  have H := HA.out
                  clear HA
                  simp only [laws_FnExactRowNamed.j1] at H
                  by_cases c92 : x68_62 = true
                  · subst c92
                    have H1 : (none) = some r := by rw [if_pos rfl] at H; exact H
                    clear H
                    have H := H1
                    clear H1
                    exact absurd H (by simp)
                  · replace c92 := Bool.eq_false_iff.mpr c92
                    subst c92
                    have H1 : ((laws_markRow.f kj62 t240 t241 1).bind fun bt255 => ((laws_heldRow.f kj62 t240 bt255.2 1).bind fun t257 => (if t257 < 0 then (none) else (if t257 = bt255.1 then ((laws_toReport.f kj62 a0_0 a0_1 l0_2).bind fun bt258 => ((impl_RowNamed.f kj62 bt258.1 bt258.2.1 bt258.2.2 a1).bind fun bt263 => ((laws_eqRow.f kj62 bt263.1 bt263.2.1 t228 t229).bind fun t269 => (if t269 = true then (laws_FnExactRowNamed.j2 kj62 bt255.1 (bt263.2.2 != t232) t240 bt255.2) else (laws_FnExactRowNamed.j2 kj62 bt255.1 true t240 bt255.2))))) else (none))))) = some r := by rw [if_neg (show ¬ (false = true) by decide)] at H; exact H
                    clear H
                    have H := H1
                    clear H1
                    replace H := Option.bind_eq_some_iff.mp H
                    obtain ⟨⟨t255, t256⟩, A930, H⟩ := H
                    replace H : ((laws_heldRow.f kj62 t240 t256 1).bind fun t257 => (if t257 < 0 then (none) else (if t257 = t255 then ((laws_toReport.f kj62 a0_0 a0_1 l0_2).bind fun bt258 => ((impl_RowNamed.f kj62 bt258.1 bt258.2.1 bt258.2.2 a1).bind fun bt263 => ((laws_eqRow.f kj62 bt263.1 bt263.2.1 t228 t229).bind fun t269 => (if t269 = true then (laws_FnExactRowNamed.j2 kj62 t255 (bt263.2.2 != t232) t240 t256) else (laws_FnExactRowNamed.j2 kj62 t255 true t240 t256))))) else (none)))) = some r := H
                    have A93 := Aside0.mk A930
                    clear A930
                    replace H := Option.bind_eq_some_iff.mp H
                    obtain ⟨t257, A940, H⟩ := H
                    replace H : (if t257 < 0 then (none) else (if t257 = t255 then ((laws_toReport.f kj62 a0_0 a0_1 l0_2).bind fun bt258 => ((impl_RowNamed.f kj62 bt258.1 bt258.2.1 bt258.2.2 a1).bind fun bt263 => ((laws_eqRow.f kj62 bt263.1 bt263.2.1 t228 t229).bind fun t269 => (if t269 = true then (laws_FnExactRowNamed.j2 kj62 t255 (bt263.2.2 != t232) t240 t256) else (laws_FnExactRowNamed.j2 kj62 t255 true t240 t256))))) else (none))) = some r := H
                    have A94 := Aside0.mk A940
                    clear A940
                    by_cases c95 : t257 < 0
                    · rw [if_pos c95] at H
                      exact absurd H (by simp)
                    · rw [if_neg c95] at H
                      have c95b0 : decide (t257 < 0) = false := decide_eq_false c95
                      clear c95
                      by_cases c96 : t257 = t255
                      · rw [if_pos c96] at H
                        have c96b0 : (t257 == t255) = true := beq_iff_eq.mpr c96
                        have c96b1 : (t257 != t255) = false := bne_eq_false_iff_eq.mpr c96
                        clear c96
                        replace H := Option.bind_eq_some_iff.mp H
                        obtain ⟨⟨t258, t259, t260⟩, A970, H⟩ := H
                        replace H : ((impl_RowNamed.f kj62 t258 t259 t260 a1).bind fun bt263 => ((laws_eqRow.f kj62 bt263.1 bt263.2.1 t228 t229).bind fun t269 => (if t269 = true then (laws_FnExactRowNamed.j2 kj62 t255 (bt263.2.2 != t232) t240 t256) else (laws_FnExactRowNamed.j2 kj62 t255 true t240 t256)))) = some r := H
                        have A97 := Aside0.mk A970
                        clear A970
                        replace H := Option.bind_eq_some_iff.mp H
                        obtain ⟨⟨t263, t264, t267⟩, A980, H⟩ := H
                        replace H : ((laws_eqRow.f kj62 t263 t264 t228 t229).bind fun t269 => (if t269 = true then (laws_FnExactRowNamed.j2 kj62 t255 (t267 != t232) t240 t256) else (laws_FnExactRowNamed.j2 kj62 t255 true t240 t256))) = some r := H
                        have A98 := Aside0.mk A980
                        clear A980
                        have HC99 := Aside0.mk H
                        clear H
                        have hnb100 := NB245_221.out
                        have hnc100 := NB221_245.out
                        have hnb101 := NB245_233.out
                        have hnc101 := NB233_245.out
                        have hcz102_0 : wc.cell? ⟨gb245, 0, none⟩ = some (.string t240) := (blk_cell BK245.out 0).trans rfl
                        have hcz102_1 : wc.cell? ⟨gb245, 1, none⟩ = some (.slice Ao39 t241.length co39) := (blk_cell BK245.out 1).trans rfl
                        have hfz102_0 := blk_frozen BK245.out 0
                        have hfz102_1 := blk_frozen BK245.out 1
                        go_upto_region 27 with (first | ((with_reducible refine gate_callee (f := 44) rfl ?_); refine gL (some 71) Try.func44 #[.agg #[.string t240, .slice Ao39 t241.length co39], .int .i64 1] ?_; (with_reducible refine (laws_markRow.calls kj62 t240 (fun k_ => some k_ = (.slice Ao39 t241.length co39 : Value).ownBlock) (.slice Ao39 t241.length co39) t241 1 t255 t256 w _ ?side1 ?side2 A93.out).mono ?_); (case side1 => repeat (first | (with_reducible first | exact HB.out | apply below_alloc | apply pw_below_drewN | apply below_drew1 | refine below_set ?_ GE221.out | refine below_set ?_ GE233.out | refine below_set ?_ GE245.out) | exact HB.out)); (case side2 => exact Kd.R_tight rfl HO_246001.out); rintro e w103 ⟨rfl, hy0, hb, hkp⟩; refine ⟨_, rfl, ?_⟩; have n0_ := AZ (Kd.R_mono (ok' := fun k_ => some k_ ≠ (.slice Ao39 t241.length co39 : Value).ownBlock) (Kd.R_keptB (HO_234001.out) hkp (fun k_ hk_ hs_ => (hk_) hs_)) (fun k_ hk_ => hk_.1)); have n1_ := AZ (Kd.R_reok rfl hy0 (fun k_ e_ => HO_246001.out.1 k_ e_)); have n2_ := AZ (blk_kept (blkS BK221.out) hkp (fun hs_ => (fun e_ => (Kd.R_ne HO_246001.out BK221.out (by decide)) e_) hs_)); have n3_ := AZ (blk_kept (blkS BK233.out) hkp (fun hs_ => (fun e_ => (Kd.R_ne HO_246001.out BK233.out (by decide)) e_) hs_)); have n4_ := AZ (blk_kept (blkS BK245.out) hkp (fun hs_ => (fun e_ => (Kd.R_ne HO_246001.out BK245.out (by decide)) e_) hs_)); have n5_ := AZ (hb); clear HO_234001; clear HO_246001; clear BK221; clear BK233; clear BK245; clear HB; have HO_234001 := n0_; have HO_246001 := n1_; have BK221 := n2_; have BK233 := n3_; have BK245 := n4_; have HB := n5_; clear n0_ n1_ n2_ n3_ n4_ n5_; (try clear hb); (try clear hkp); (try clear hy0); have hcz104_0 : w103.cell? ⟨gb245, 0, none⟩ = some (.string t240) := (blk_cell BK245.out 0).trans rfl; have hcz104_1 : w103.cell? ⟨gb245, 1, none⟩ = some (.slice Ao39 t241.length co39) := (blk_cell BK245.out 1).trans rfl; have hfz104_0 := blk_frozen BK245.out 0; have hfz104_1 := blk_frozen BK245.out 1) | ((with_reducible refine gate_callee (f := 45) rfl ?_); refine goesL_ (some 74) rfl rfl Try.func45 (by kernel_rfl) rfl #[.agg #[.string t240, .slice Ao39 t256.length co39], .int .i64 1] rfl (by (try simp only [List.map_toArray, List.map_cons, List.map_nil]); first | done | (rw [show t256.length = t241.length from (Kd.R_reads' HO_246001.out).1.symm] <;> rfl) | rfl | (simp only [List.length_drop, List.length_take]; rfl)) ?_; (with_reducible refine (laws_heldRow.calls kj62 t240 _ _ t256 1 t257 _ ?side1 ?side2 A94.out).mono ?_); (case side1 => exact cS (Kd.R_reads' HO_246001.out).2.2); (case side2 => rw [show t256.length = t241.length from (Kd.R_reads' HO_246001.out).1.symm]; exact (Kd.R_reads' HO_246001.out).2.1); rintro e w105 ⟨rfl, hb⟩; refine ⟨_, rfl, ?_⟩; have n0_ := AZ (Kd.R_below (rS HO_234001.out) hb); have n1_ := AZ (Kd.R_below (rS HO_246001.out) hb); have n2_ := blkA BK221 hb; have n3_ := blkA BK233 hb; have n4_ := blkA BK245 hb; have n5_ := AZ (below_step (bS HB.out) hb); clear HO_234001; clear HO_246001; clear BK221; clear BK233; clear BK245; clear HB; have HO_234001 := n0_; have HO_246001 := n1_; have BK221 := n2_; have BK233 := n3_; have BK245 := n4_; have HB := n5_; clear n0_ n1_ n2_ n3_ n4_ n5_; (try clear hb); have hnb106 := NB221_233.out; have hnc106 := NB233_221.out; have hcz107_0 : w105.cell? ⟨gb221, 0, none⟩ = some (.string a0_0) := (blk_cell BK221.out 0).trans rfl; have hcz107_1 : w105.cell? ⟨gb221, 1, none⟩ = some (.int .i64 a0_1) := (blk_cell BK221.out 1).trans rfl; have hcz107_2 : w105.cell? ⟨gb221, 2, none⟩ = some (.slice A0_2 l0_2.length c0_2) := (blk_cell BK221.out 2).trans rfl; have hfz107_0 := blk_frozen BK221.out 0; have hfz107_1 := blk_frozen BK221.out 1; have hfz107_2 := blk_frozen BK221.out 2) | ((with_reducible refine gate_callee (f := 35) rfl ?_); refine gL (some 82) Try.func35 #[.agg #[.string a0_0, .int .i64 a0_1, .slice A0_2 l0_2.length c0_2]] ?_; (with_reducible refine (laws_toReport.calls kj62 a0_0 a0_1 _ _ l0_2 t258 t259 t260 _ ?side1 ?side2 A97.out).mono ?_); (case side1 => exact cS (Kd.C_below HR0_2.out HB.out)); (case side2 => exact HC0_2.out); rintro e w108 ⟨v261, rfl, ho0, hb⟩; refine ⟨_, rfl, ?_⟩; have n0_ := AZ (Kd.R_below (rS HO_234001.out) hb); have n1_ := AZ (Kd.R_below (rS HO_246001.out) hb); have n2_ := AZ (Kd.S_lower (Kd.S_newB (Kd.S_newB (Kd.S_new' (Kd.S_new' ho0 (Kd.R_lt (rS HO_234001.out))) (Kd.R_lt (rS HO_246001.out))) (g := gb233) (o := .cells #[.string t228, .slice Ao25 t229.length co25] 58 (0, 0)) (blkS BK233.out)) (g := gb245) (o := .cells #[.string t240, .slice Ao39 t241.length co39] 58 (0, 0)) (blkS BK245.out)) (below_size (bS HB.out))); have n3_ := blkA BK221 hb; have n4_ := blkA BK233 hb; have n5_ := blkA BK245 hb; have n6_ := AZ (below_step (bS HB.out) hb); clear HO_234001; clear HO_246001; clear BK221; clear BK233; clear BK245; clear HB; have HO_234001 := n0_; have HO_246001 := n1_; have HO262 := n2_; have BK221 := n3_; have BK233 := n4_; have BK245 := n5_; have HB := n6_; clear n0_ n1_ n2_ n3_ n4_ n5_ n6_; (try clear hb ho0); obtain ⟨Ao109, co109, eo109⟩ := Kd.S_slice HO262.out; subst eo109) | ((with_reducible refine gate_callee (f := 42) rfl ?_); refine gL (some 84) Try.func42 #[.agg #[.string t258, .int .i64 t259, .slice Ao109 t260.length co109], .string a1] ?_; (with_reducible refine (impl_RowNamed.calls kj62 t258 t259 _ _ t260 a1 t263 t264 t267 _ ?side1 ?side2 A98.out).mono ?_); (case side1 => exact cS (Kd.S_reads' HO262.out).2.2); (case side2 => exact (Kd.S_reads' HO262.out).2.1); rintro e w110 ⟨v265, rfl, ho0, hb⟩; refine ⟨_, rfl, ?_⟩; have n0_ := AZ (Kd.R_elder' (rS HO_234001.out) (Kd.R_base ho0) hb); have n1_ := AZ (Kd.R_elder' (rS HO_246001.out) (Kd.R_base ho0) hb); have n2_ := AZ (Kd.S_elder' (sS HO262.out) (Kd.R_base ho0) hb); have n3_ := AZ (Kd.R_lower (Kd.R_new' (Kd.R_new' ho0 (Kd.R_lt (rS HO_234001.out))) (Kd.R_lt (rS HO_246001.out))) (below_size (bS HB.out))); have n4_ := blkA BK221 hb; have n5_ := blkA BK233 hb; have n6_ := blkA BK245 hb; have n7_ := AZ (below_step (bS HB.out) hb); clear HO_234001; clear HO_246001; clear HO262; clear BK221; clear BK233; clear BK245; clear HB; have HO_234001 := n0_; have HO_246001 := n1_; have HO262 := n2_; have HO266 := n3_; have BK221 := n4_; have BK233 := n5_; have BK245 := n6_; have HB := n7_; clear n0_ n1_ n2_ n3_ n4_ n5_ n6_ n7_; (try clear hb ho0)) | ((with_reducible refine gate_dst (N := 14) rfl ?_); refine box_event ?hg (N := 14) ?hd (cs := #[.string (⟨#[]⟩ : ByteArray), .slice none 0 0]) (t := 58) ?hr ?_; (case hd => rfl); (case hg => rfl); (case hr => first | (go_simp; done) | (go_simp; rfl)); intro gb268 hg w111 hbox hb; have n0_ := AZ (Kd.R_below (rS HO_234001.out) hb); have n1_ := AZ (Kd.R_below (rS HO_246001.out) hb); have n2_ := AZ (Kd.S_below (Kd.S_elderB (sS HO262.out) gb268 (Nat.le_of_eq hg.symm)) hb); have n3_ := AZ (Kd.R_below (rS HO266.out) hb); have n4_ := blkA BK221 hb; have n5_ := blkA BK233 hb; have n6_ := blkA BK245 hb; have n7_ := AZ (below_step (bS HB.out) hb); have n8_ := AZ (hbox); have n9_ := AZ (geS hg HB.out); have n10_ := AZ (geS hg HB.out); have n11_ := AZ ((by rw [hg]; exact Nat.ne_of_lt (blkL BK221.out) : gb221 ≠ gb268)); have n12_ := AZ ((by rw [hg]; exact Nat.ne_of_gt (blkL BK221.out) : gb268 ≠ gb221)); have n13_ := AZ ((by rw [hg]; exact Nat.ne_of_lt (blkL BK233.out) : gb233 ≠ gb268)); have n14_ := AZ ((by rw [hg]; exact Nat.ne_of_gt (blkL BK233.out) : gb268 ≠ gb233)); have n15_ := AZ ((by rw [hg]; exact Nat.ne_of_lt (blkL BK245.out) : gb245 ≠ gb268)); have n16_ := AZ ((by rw [hg]; exact Nat.ne_of_gt (blkL BK245.out) : gb268 ≠ gb245)); clear HO_234001; clear HO_246001; clear HO262; clear HO266; clear BK221; clear BK233; clear BK245; clear HB; have HO_234001 := n0_; have HO_246001 := n1_; have HO262 := n2_; have HO266 := n3_; have BK221 := n4_; have BK233 := n5_; have BK245 := n6_; have HB := n7_; have BK268 := n8_; have GW268 := n9_; have GE268 := n10_; have NB221_268 := n11_; have NB268_221 := n12_; have NB233_268 := n13_; have NB268_233 := n14_; have NB245_268 := n15_; have NB268_245 := n16_; clear n0_ n1_ n2_ n3_ n4_ n5_ n6_ n7_ n8_ n9_ n10_ n11_ n12_ n13_ n14_ n15_ n16_; clear hb hbox hg; have hnb112 := NB268_221.out; have hnc112 := NB221_268.out; have hnb113 := NB268_233.out; have hnc113 := NB233_268.out; have hnb114 := NB268_245.out; have hnc114 := NB245_268.out; have hcz115_0 : w111.cell? ⟨gb268, 0, none⟩ = some (.string (⟨#[]⟩ : ByteArray)) := (blk_cell BK268.out 0).trans rfl; have hcz115_1 : w111.cell? ⟨gb268, 1, none⟩ = some (.slice none 0 0) := (blk_cell BK268.out 1).trans rfl; have hfz115_0 := blk_frozen BK268.out 0; have hfz115_1 := blk_frozen BK268.out 1; obtain ⟨Ao116, co116, eo116⟩ := Kd.R_slice HO266.out; subst eo116))
                        (try simp only [Act.put, List.setIfInBounds_toArray, List.set_cons_zero, List.set_cons_succ])
                        go_cut [95] (fun v95 wc => ∃ (kq : Nat) (x95_98 : Bool), v95 = .bool x95_98 ∧ Aside0 (laws_FnExactRowNamed.j2 kq t255 x95_98 t240 t256 = some r) ∧ Aside0 (kq ≤ kj62) ∧ Aside0 (Kd.R (Kd.int .i64) 3 wc w.heap.size (fun k_ => some k_ ≠ ((.slice Ao39 t241.length co39) : Value).ownBlock ∧ some k_ ≠ ((.slice Ao116 t264.length co116) : Value).ownBlock) (.slice Ao25 t229.length co25) t229) ∧ Aside0 (Kd.R (Kd.int .i64) 3 wc w.heap.size (fun k_ => some k_ ≠ ((.slice Ao25 t229.length co25) : Value).ownBlock ∧ some k_ ≠ ((.slice Ao116 t264.length co116) : Value).ownBlock) (.slice Ao39 t241.length co39) t256) ∧ Aside0 (Kd.R (Kd.int .i64) 3 wc w.heap.size (fun k_ => some k_ ≠ ((.slice Ao25 t229.length co25) : Value).ownBlock ∧ some k_ ≠ ((.slice Ao39 t241.length co39) : Value).ownBlock) (.slice Ao116 t264.length co116) t264) ∧ Aside0 (wc.heap[gb221]? = some (.cells #[.string a0_0, .int .i64 a0_1, (.slice A0_2 l0_2.length c0_2)] 45 (0, 0))) ∧ Aside0 (wc.heap[gb233]? = some (.cells #[.string t228, (.slice Ao25 t229.length co25)] 58 (0, 0))) ∧ Aside0 (wc.heap[gb245]? = some (.cells #[.string t240, (.slice Ao39 t241.length co39)] 58 (0, 0))) ∧ Aside0 (wc.heap[gb268]? = some (.cells #[.string t263, (.slice Ao116 t264.length co116)] 58 (0, 0))) ∧ Aside0 (Below w.heap.size w wc))
                        case first =>
                          have H := HC99.out
                          clear HC99
                          replace H := Option.bind_eq_some_iff.mp H
                          obtain ⟨t269, A1170, H⟩ := H
                          replace H : (if t269 = true then (laws_FnExactRowNamed.j2 kj62 t255 (t267 != t232) t240 t256) else (laws_FnExactRowNamed.j2 kj62 t255 true t240 t256)) = some r := H
                          have A117 := Aside0.mk A1170
                          clear A1170
                          by_cases c118 : t269 = true
                          · subst c118
                            have H1 : (laws_FnExactRowNamed.j2 kj62 t255 (t267 != t232) t240 t256) = some r := by rw [if_pos rfl] at H; exact H
                            clear H
                            have H := H1
                            clear H1
                            have H' := Aside0.mk H
                            clear H
                            have hnb119 := NB268_221.out
                            have hnc119 := NB221_268.out
                            have hnb120 := NB268_233.out
                            have hnc120 := NB233_268.out
                            have hnb121 := NB268_245.out
                            have hnc121 := NB245_268.out
                            have hcz122_0 : w111.cell? ⟨gb268, 0, none⟩ = some (.string (⟨#[]⟩ : ByteArray)) := (blk_cell BK268.out 0).trans rfl
                            have hcz122_1 : w111.cell? ⟨gb268, 1, none⟩ = some (.slice none 0 0) := (blk_cell BK268.out 1).trans rfl
                            have hfz122_0 := blk_frozen BK268.out 0
                            have hfz122_1 := blk_frozen BK268.out 1
                            have hnb123 := NB233_221.out
                            have hnc123 := NB221_233.out
                            have hnb124 := NB233_245.out
                            have hnc124 := NB245_233.out
                            have hcz125_0 : w111.cell? ⟨gb233, 0, none⟩ = some (.string t228) := (blk_cell BK233.out 0).trans rfl
                            have hcz125_1 : w111.cell? ⟨gb233, 1, none⟩ = some (.slice Ao25 t229.length co25) := (blk_cell BK233.out 1).trans rfl
                            have hfz125_0 := blk_frozen BK233.out 0
                            have hfz125_1 := blk_frozen BK233.out 1
                            go_wp2_with (first | ((with_reducible refine gate_callee (f := 43) rfl ?_); refine gL (some 89) Try.func43 #[.agg #[.string t263, .slice Ao116 t264.length co116], .agg #[.string t228, .slice Ao25 t229.length co25]] ?_; (with_reducible refine (laws_eqRow.calls kj62 t263 _ _ t264 t228 _ _ t229 true _ ?side1 ?side2 ?side3 ?side4 A117.out).mono ?_); (case side1 => refine (Kd.R_reads' (e := 3) (base := w.heap.size) (ok := fun k_ => ((True ∧ some k_ ≠ (.slice Ao25 t229.length co25 : Value).ownBlock) ∧ some k_ ≠ (.slice Ao39 t241.length co39 : Value).ownBlock)) (n := t264.length) (c := co116) ?_).2.2; exact (by (with_reducible repeat (first | apply Kd.R_alloc | apply Kd.R_drewN | apply Kd.R_drew)); exact (Kd.R_mono (Kd.R_far (Kd.R_far (Kd.R_types HO266.out BK268.out (by decide)) (fun _ hk => hk.2) _) (fun _ hk => hk.2) _) (fun _ h_ => h_.1)))); (case side2 => exact (Kd.R_reads' HO266.out).2.1); (case side3 => refine (Kd.R_reads' (e := 3) (base := w.heap.size) (ok := fun k_ => (some k_ ≠ (.slice Ao39 t241.length co39 : Value).ownBlock ∧ some k_ ≠ (.slice Ao116 t264.length co116 : Value).ownBlock)) (n := t229.length) (c := co25) ?_).2.2; exact (by (with_reducible repeat (first | apply Kd.R_alloc | apply Kd.R_drewN | apply Kd.R_drew)); exact (Kd.R_mono (Kd.R_far (Kd.R_far (Kd.R_types HO_234001.out BK268.out (by decide)) (fun _ hk => hk.2) _) (fun _ hk => hk.2) _) (fun _ h_ => h_.1)))); (case side4 => exact (Kd.R_reads' HO_234001.out).2.1); rintro e w126 ⟨rfl, hb⟩; refine ⟨_, rfl, ?_⟩; have n0_ := AZ (Kd.R_below (by (with_reducible repeat (first | apply Kd.R_alloc | apply Kd.R_drewN | apply Kd.R_drew)); exact (Kd.R_mono (Kd.R_far (Kd.R_far (Kd.R_types HO_234001.out BK268.out (by decide)) (fun _ hk => hk.2) _) (fun _ hk => hk.2) _) (fun _ h_ => h_.1))) hb); have n1_ := AZ (Kd.R_below (by (with_reducible repeat (first | apply Kd.R_alloc | apply Kd.R_drewN | apply Kd.R_drew)); exact (Kd.R_mono (Kd.R_far (Kd.R_far (Kd.R_types HO_246001.out BK268.out (by decide)) (fun _ hk => hk.2) _) (fun _ hk => hk.2) _) (fun _ h_ => h_.1))) hb); have n2_ := AZ (Kd.S_below (by (with_reducible repeat (first | apply Kd.S_alloc | apply Kd.S_drewN | apply Kd.S_drew)); exact (Kd.S_mono (Kd.S_far (Kd.S_far (Kd.S_mono HO262.out (fun k_ hk => (⟨hk, hk.2⟩ : _ ∧ k_ ≠ gb268))) (fun _ hk => hk.2) _) (fun _ hk => hk.2) _) (fun _ h_ => h_.1))) hb); have n3_ := AZ (Kd.R_below (by (with_reducible repeat (first | apply Kd.R_alloc | apply Kd.R_drewN | apply Kd.R_drew)); exact (Kd.R_mono (Kd.R_far (Kd.R_far (Kd.R_types HO266.out BK268.out (by decide)) (fun _ hk => hk.2) _) (fun _ hk => hk.2) _) (fun _ h_ => h_.1))) hb); have n4_ := AZ (blk_below (g := gb221) (o := .cells #[.string a0_0, .int .i64 a0_1, .slice A0_2 l0_2.length c0_2] 45 (0, 0)) (by (with_reducible repeat (first | refine blk_drewN ?_ _ | refine blk_drew ?_ | refine blk_alloc ?_ _)); refine blk_far ?_ NB221_268.out _; (with_reducible repeat (first | refine blk_drewN ?_ _ | refine blk_drew ?_ | refine blk_alloc ?_ _)); refine blk_far ?_ NB221_268.out _; (with_reducible repeat (first | refine blk_drewN ?_ _ | refine blk_drew ?_ | refine blk_alloc ?_ _)); exact BK221.out) hb); have n5_ := AZ (blk_below (g := gb233) (o := .cells #[.string t228, .slice Ao25 t229.length co25] 58 (0, 0)) (by (with_reducible repeat (first | refine blk_drewN ?_ _ | refine blk_drew ?_ | refine blk_alloc ?_ _)); refine blk_far ?_ NB233_268.out _; (with_reducible repeat (first | refine blk_drewN ?_ _ | refine blk_drew ?_ | refine blk_alloc ?_ _)); refine blk_far ?_ NB233_268.out _; (with_reducible repeat (first | refine blk_drewN ?_ _ | refine blk_drew ?_ | refine blk_alloc ?_ _)); exact BK233.out) hb); have n6_ := AZ (blk_below (g := gb245) (o := .cells #[.string t240, .slice Ao39 t241.length co39] 58 (0, 0)) (by (with_reducible repeat (first | refine blk_drewN ?_ _ | refine blk_drew ?_ | refine blk_alloc ?_ _)); refine blk_far ?_ NB245_268.out _; (with_reducible repeat (first | refine blk_drewN ?_ _ | refine blk_drew ?_ | refine blk_alloc ?_ _)); refine blk_far ?_ NB245_268.out _; (with_reducible repeat (first | refine blk_drewN ?_ _ | refine blk_drew ?_ | refine blk_alloc ?_ _)); exact BK245.out) hb); have n7_ := AZ (blk_below (g := gb268) (o := .cells #[.string t263, .slice Ao116 t264.length co116] 58 (0, 0)) (by (with_reducible repeat (first | refine blk_drewN ?_ _ | refine blk_drew ?_ | refine blk_alloc ?_ _)); refine blk_put (cs := #[.string t263, .slice none 0 0]) ?_ 1 _ rfl; (with_reducible repeat (first | refine blk_drewN ?_ _ | refine blk_drew ?_ | refine blk_alloc ?_ _)); refine blk_put (cs := #[.string (⟨#[]⟩ : ByteArray), .slice none 0 0]) ?_ 0 _ rfl; (with_reducible repeat (first | refine blk_drewN ?_ _ | refine blk_drew ?_ | refine blk_alloc ?_ _)); exact BK268.out) hb); have n8_ := AZ (below_step (bS HB.out) hb); clear HO_234001; clear HO_246001; clear HO262; clear HO266; clear BK221; clear BK233; clear BK245; clear BK268; clear HB; have HO_234001 := n0_; have HO_246001 := n1_; have HO262 := n2_; have HO266 := n3_; have BK221 := n4_; have BK233 := n5_; have BK245 := n6_; have BK268 := n7_; have HB := n8_; clear n0_ n1_ n2_ n3_ n4_ n5_ n6_ n7_ n8_; (try clear hb)))
                            go_meet
                            case rel => exact ⟨_, ((t267 != t232)), (by first | rfl | (simp; done) | (simp [*]; done)), H', ⟨by have := HJ13.out; have := HJ62.out; first | omega | exact Nat.le_refl _⟩, ⟨rS HO_234001.out⟩, ⟨rS HO_246001.out⟩, ⟨rS (Kd.R_mono HO266.out (fun _ hk => ⟨hk.1.2, hk.2⟩))⟩, ⟨blkS BK221.out⟩, ⟨blkS BK233.out⟩, ⟨blkS BK245.out⟩, ⟨blkS BK268.out⟩, ⟨bS HB.out⟩⟩
                          · replace c118 := Bool.eq_false_iff.mpr c118
                            subst c118
                            have H1 : (laws_FnExactRowNamed.j2 kj62 t255 true t240 t256) = some r := by rw [if_neg (show ¬ (false = true) by decide)] at H; exact H
                            clear H
                            have H := H1
                            clear H1
                            have H' := Aside0.mk H
                            clear H
                            have hnb127 := NB268_221.out
                            have hnc127 := NB221_268.out
                            have hnb128 := NB268_233.out
                            have hnc128 := NB233_268.out
                            have hnb129 := NB268_245.out
                            have hnc129 := NB245_268.out
                            have hcz130_0 : w111.cell? ⟨gb268, 0, none⟩ = some (.string (⟨#[]⟩ : ByteArray)) := (blk_cell BK268.out 0).trans rfl
                            have hcz130_1 : w111.cell? ⟨gb268, 1, none⟩ = some (.slice none 0 0) := (blk_cell BK268.out 1).trans rfl
                            have hfz130_0 := blk_frozen BK268.out 0
                            have hfz130_1 := blk_frozen BK268.out 1
                            have hnb131 := NB233_221.out
                            have hnc131 := NB221_233.out
                            have hnb132 := NB233_245.out
                            have hnc132 := NB245_233.out
                            have hcz133_0 : w111.cell? ⟨gb233, 0, none⟩ = some (.string t228) := (blk_cell BK233.out 0).trans rfl
                            have hcz133_1 : w111.cell? ⟨gb233, 1, none⟩ = some (.slice Ao25 t229.length co25) := (blk_cell BK233.out 1).trans rfl
                            have hfz133_0 := blk_frozen BK233.out 0
                            have hfz133_1 := blk_frozen BK233.out 1
                            go_wp2_with (first | ((with_reducible refine gate_callee (f := 43) rfl ?_); refine gL (some 89) Try.func43 #[.agg #[.string t263, .slice Ao116 t264.length co116], .agg #[.string t228, .slice Ao25 t229.length co25]] ?_; (with_reducible refine (laws_eqRow.calls kj62 t263 _ _ t264 t228 _ _ t229 false _ ?side1 ?side2 ?side3 ?side4 A117.out).mono ?_); (case side1 => refine (Kd.R_reads' (e := 3) (base := w.heap.size) (ok := fun k_ => ((True ∧ some k_ ≠ (.slice Ao25 t229.length co25 : Value).ownBlock) ∧ some k_ ≠ (.slice Ao39 t241.length co39 : Value).ownBlock)) (n := t264.length) (c := co116) ?_).2.2; exact (by (with_reducible repeat (first | apply Kd.R_alloc | apply Kd.R_drewN | apply Kd.R_drew)); exact (Kd.R_mono (Kd.R_far (Kd.R_far (Kd.R_types HO266.out BK268.out (by decide)) (fun _ hk => hk.2) _) (fun _ hk => hk.2) _) (fun _ h_ => h_.1)))); (case side2 => exact (Kd.R_reads' HO266.out).2.1); (case side3 => refine (Kd.R_reads' (e := 3) (base := w.heap.size) (ok := fun k_ => (some k_ ≠ (.slice Ao39 t241.length co39 : Value).ownBlock ∧ some k_ ≠ (.slice Ao116 t264.length co116 : Value).ownBlock)) (n := t229.length) (c := co25) ?_).2.2; exact (by (with_reducible repeat (first | apply Kd.R_alloc | apply Kd.R_drewN | apply Kd.R_drew)); exact (Kd.R_mono (Kd.R_far (Kd.R_far (Kd.R_types HO_234001.out BK268.out (by decide)) (fun _ hk => hk.2) _) (fun _ hk => hk.2) _) (fun _ h_ => h_.1)))); (case side4 => exact (Kd.R_reads' HO_234001.out).2.1); rintro e w134 ⟨rfl, hb⟩; refine ⟨_, rfl, ?_⟩; have n0_ := AZ (Kd.R_below (by (with_reducible repeat (first | apply Kd.R_alloc | apply Kd.R_drewN | apply Kd.R_drew)); exact (Kd.R_mono (Kd.R_far (Kd.R_far (Kd.R_types HO_234001.out BK268.out (by decide)) (fun _ hk => hk.2) _) (fun _ hk => hk.2) _) (fun _ h_ => h_.1))) hb); have n1_ := AZ (Kd.R_below (by (with_reducible repeat (first | apply Kd.R_alloc | apply Kd.R_drewN | apply Kd.R_drew)); exact (Kd.R_mono (Kd.R_far (Kd.R_far (Kd.R_types HO_246001.out BK268.out (by decide)) (fun _ hk => hk.2) _) (fun _ hk => hk.2) _) (fun _ h_ => h_.1))) hb); have n2_ := AZ (Kd.S_below (by (with_reducible repeat (first | apply Kd.S_alloc | apply Kd.S_drewN | apply Kd.S_drew)); exact (Kd.S_mono (Kd.S_far (Kd.S_far (Kd.S_mono HO262.out (fun k_ hk => (⟨hk, hk.2⟩ : _ ∧ k_ ≠ gb268))) (fun _ hk => hk.2) _) (fun _ hk => hk.2) _) (fun _ h_ => h_.1))) hb); have n3_ := AZ (Kd.R_below (by (with_reducible repeat (first | apply Kd.R_alloc | apply Kd.R_drewN | apply Kd.R_drew)); exact (Kd.R_mono (Kd.R_far (Kd.R_far (Kd.R_types HO266.out BK268.out (by decide)) (fun _ hk => hk.2) _) (fun _ hk => hk.2) _) (fun _ h_ => h_.1))) hb); have n4_ := AZ (blk_below (g := gb221) (o := .cells #[.string a0_0, .int .i64 a0_1, .slice A0_2 l0_2.length c0_2] 45 (0, 0)) (by (with_reducible repeat (first | refine blk_drewN ?_ _ | refine blk_drew ?_ | refine blk_alloc ?_ _)); refine blk_far ?_ NB221_268.out _; (with_reducible repeat (first | refine blk_drewN ?_ _ | refine blk_drew ?_ | refine blk_alloc ?_ _)); refine blk_far ?_ NB221_268.out _; (with_reducible repeat (first | refine blk_drewN ?_ _ | refine blk_drew ?_ | refine blk_alloc ?_ _)); exact BK221.out) hb); have n5_ := AZ (blk_below (g := gb233) (o := .cells #[.string t228, .slice Ao25 t229.length co25] 58 (0, 0)) (by (with_reducible repeat (first | refine blk_drewN ?_ _ | refine blk_drew ?_ | refine blk_alloc ?_ _)); refine blk_far ?_ NB233_268.out _; (with_reducible repeat (first | refine blk_drewN ?_ _ | refine blk_drew ?_ | refine blk_alloc ?_ _)); refine blk_far ?_ NB233_268.out _; (with_reducible repeat (first | refine blk_drewN ?_ _ | refine blk_drew ?_ | refine blk_alloc ?_ _)); exact BK233.out) hb); have n6_ := AZ (blk_below (g := gb245) (o := .cells #[.string t240, .slice Ao39 t241.length co39] 58 (0, 0)) (by (with_reducible repeat (first | refine blk_drewN ?_ _ | refine blk_drew ?_ | refine blk_alloc ?_ _)); refine blk_far ?_ NB245_268.out _; (with_reducible repeat (first | refine blk_drewN ?_ _ | refine blk_drew ?_ | refine blk_alloc ?_ _)); refine blk_far ?_ NB245_268.out _; (with_reducible repeat (first | refine blk_drewN ?_ _ | refine blk_drew ?_ | refine blk_alloc ?_ _)); exact BK245.out) hb); have n7_ := AZ (blk_below (g := gb268) (o := .cells #[.string t263, .slice Ao116 t264.length co116] 58 (0, 0)) (by (with_reducible repeat (first | refine blk_drewN ?_ _ | refine blk_drew ?_ | refine blk_alloc ?_ _)); refine blk_put (cs := #[.string t263, .slice none 0 0]) ?_ 1 _ rfl; (with_reducible repeat (first | refine blk_drewN ?_ _ | refine blk_drew ?_ | refine blk_alloc ?_ _)); refine blk_put (cs := #[.string (⟨#[]⟩ : ByteArray), .slice none 0 0]) ?_ 0 _ rfl; (with_reducible repeat (first | refine blk_drewN ?_ _ | refine blk_drew ?_ | refine blk_alloc ?_ _)); exact BK268.out) hb); have n8_ := AZ (below_step (bS HB.out) hb); clear HO_234001; clear HO_246001; clear HO262; clear HO266; clear BK221; clear BK233; clear BK245; clear BK268; clear HB; have HO_234001 := n0_; have HO_246001 := n1_; have HO262 := n2_; have HO266 := n3_; have BK221 := n4_; have BK233 := n5_; have BK245 := n6_; have BK268 := n7_; have HB := n8_; clear n0_ n1_ n2_ n3_ n4_ n5_ n6_ n7_ n8_; (try clear hb)))
                            go_meet
                            case rel => exact ⟨_, (true), (by first | rfl | (simp; done) | (simp [*]; done)), H', ⟨by have := HJ13.out; have := HJ62.out; first | omega | exact Nat.le_refl _⟩, ⟨rS HO_234001.out⟩, ⟨rS HO_246001.out⟩, ⟨rS (Kd.R_mono HO266.out (fun _ hk => ⟨hk.1.2, hk.2⟩))⟩, ⟨blkS BK221.out⟩, ⟨blkS BK233.out⟩, ⟨blkS BK245.out⟩, ⟨blkS BK268.out⟩, ⟨bS HB.out⟩⟩
                        case rest =>
                          clear HC99
                          try clear c1
                          try clear c2
                          try clear p2
                          try clear c3
                          try clear c3b0
                          try clear c3b1
                          try clear c4
                          try clear c5
                          try clear c6
                          try clear c6b0
                          try clear c7
                          try clear c8
                          try clear c9
                          try clear c10
                          try clear c11
                          try clear c12
                          try clear c13
                          try clear c23
                          try clear c29
                          try clear c30
                          try clear c33
                          try clear c35
                          try clear c36
                          try clear c37
                          try clear c40
                          try clear c41
                          try clear c42
                          try clear c43
                          try clear c44
                          try clear c45
                          try clear c46
                          try clear c47
                          try clear c50
                          try clear c51
                          try clear c52
                          try clear c54
                          try clear c55
                          try clear c58
                          try clear c61
                          try clear c68
                          try clear c69
                          try clear c70
                          try clear c73
                          try clear c73b0
                          try clear c75
                          try clear c76
                          try clear c77
                          try clear c78
                          try clear c80
                          try clear c81
                          try clear c84
                          try clear c85
                          try clear c86
                          try clear c88
                          try clear c89
                          try clear c92
                          try clear c95
                          try clear c95b0
                          try clear c96
                          try clear c96b0
                          try clear c96b1
                          try clear c100
                          try clear c101
                          try clear c106
                          try clear c112
                          try clear c113
                          try clear c114
                          try clear c118
                          try clear c119
                          try clear c120
                          try clear c121
                          try clear c123
                          try clear c124
                          try clear c127
                          try clear c128
                          try clear c129
                          try clear c131
                          try clear c132
                          try clear hcz102_0
                          try clear hcz102_1
                          try clear hcz104_0
                          try clear hcz104_1
                          try clear hcz107_0
                          try clear hcz107_1
                          try clear hcz107_2
                          try clear hcz115_0
                          try clear hcz115_1
                          try clear hcz122_0
                          try clear hcz122_1
                          try clear hcz125_0
                          try clear hcz125_1
                          try clear hcz130_0
                          try clear hcz130_1
                          try clear hcz133_0
                          try clear hcz133_1
                          try clear hcz16_0
                          try clear hcz16_1
                          try clear hcz16_2
                          try clear hcz18_0
                          try clear hcz18_1
                          try clear hcz18_2
                          try clear hcz24_0
                          try clear hcz24_1
                          try clear hcz26_0
                          try clear hcz26_1
                          try clear hcz26_2
                          try clear hcz31_0
                          try clear hcz31_1
                          try clear hcz31_2
                          try clear hcz38_0
                          try clear hcz38_1
                          try clear hcz45_0
                          try clear hcz45_1
                          try clear hcz48_0
                          try clear hcz48_1
                          try clear hcz53_0
                          try clear hcz53_1
                          try clear hcz56_0
                          try clear hcz56_1
                          try clear hcz71_0
                          try clear hcz71_1
                          try clear hcz71_2
                          try clear hcz79_0
                          try clear hcz79_1
                          try clear hcz82_0
                          try clear hcz82_1
                          try clear hcz87_0
                          try clear hcz87_1
                          try clear hcz8_0
                          try clear hcz8_1
                          try clear hcz8_2
                          try clear hcz90_0
                          try clear hcz90_1
                          try clear hfz102_0
                          try clear hfz102_1
                          try clear hfz104_0
                          try clear hfz104_1
                          try clear hfz107_0
                          try clear hfz107_1
                          try clear hfz107_2
                          try clear hfz115_0
                          try clear hfz115_1
                          try clear hfz122_0
                          try clear hfz122_1
                          try clear hfz125_0
                          try clear hfz125_1
                          try clear hfz130_0
                          try clear hfz130_1
                          try clear hfz133_0
                          try clear hfz133_1
                          try clear hfz16_0
                          try clear hfz16_1
                          try clear hfz16_2
                          try clear hfz18_0
                          try clear hfz18_1
                          try clear hfz18_2
                          try clear hfz24_0
                          try clear hfz24_1
                          try clear hfz26_0
                          try clear hfz26_1
                          try clear hfz26_2
                          try clear hfz31_0
                          try clear hfz31_1
                          try clear hfz31_2
                          try clear hfz38_0
                          try clear hfz38_1
                          try clear hfz45_0
                          try clear hfz45_1
                          try clear hfz48_0
                          try clear hfz48_1
                          try clear hfz53_0
                          try clear hfz53_1
                          try clear hfz56_0
                          try clear hfz56_1
                          try clear hfz71_0
                          try clear hfz71_1
                          try clear hfz71_2
                          try clear hfz79_0
                          try clear hfz79_1
                          try clear hfz82_0
                          try clear hfz82_1
                          try clear hfz87_0
                          try clear hfz87_1
                          try clear hfz8_0
                          try clear hfz8_1
                          try clear hfz8_2
                          try clear hfz90_0
                          try clear hfz90_1
                          try clear p2
                          obtain ⟨kq, x95_98, rfl, HA, HJ98, HO_234001, HO_246001, HO_269001, BK221, BK233, BK245, BK268, HB⟩ := hcut
                          have hl246001_98 := (Kd.R_reads' HO_246001.out).1
                          rw [hl246001_98] at HO_246001
                          (try simp only [hl246001_98])
                          (try simp only [hl246001_98] at BK221)
                          (try simp only [hl246001_98] at BK233)
                          (try simp only [hl246001_98] at BK245)
                          (try simp only [hl246001_98] at BK268)
                          (try simp only [hl246001_98] at HO_234001)
                          (try simp only [hl246001_98] at HO_269001)
                          cases kq with
                          | zero => exact absurd HA.out (by simp [laws_FnExactRowNamed.j2])
                          | succ kj98 =>
                            have H := HA.out
                            clear HA
                            simp only [laws_FnExactRowNamed.j2] at H
                            by_cases c135 : x95_98 = true
                            · subst c135
                              have H1 : (none) = some r := by rw [if_pos rfl] at H; exact H
                              clear H
                              have H := H1
                              clear H1
                              exact absurd H (by simp)
                            · replace c135 := Bool.eq_false_iff.mpr c135
                              subst c135
                              have H1 : ((laws_heldRow.f kj98 t240 t256 1).bind fun t270 => (if t270 < 0 then (none) else (if t270 = t255 then (some true) else (none)))) = some r := by rw [if_neg (show ¬ (false = true) by decide)] at H; exact H
                              clear H
                              have H := H1
                              clear H1
                              replace H := Option.bind_eq_some_iff.mp H
                              obtain ⟨t270, A1360, H⟩ := H
                              replace H : (if t270 < 0 then (none) else (if t270 = t255 then (some true) else (none))) = some r := H
                              have A136 := Aside0.mk A1360
                              clear A1360
                              by_cases c137 : t270 < 0
                              · rw [if_pos c137] at H
                                exact absurd H (by simp)
                              · rw [if_neg c137] at H
                                have c137b0 : decide (t270 < 0) = false := decide_eq_false c137
                                clear c137
                                by_cases c138 : t270 = t255
                                · rw [if_pos c138] at H
                                  have c138b0 : (t270 == t255) = true := beq_iff_eq.mpr c138
                                  have c138b1 : (t270 != t255) = false := bne_eq_false_iff_eq.mpr c138
                                  clear c138
                                  obtain rfl := Option.some.inj H
                                  have hnb139 := NB245_221.out
                                  have hnc139 := NB221_245.out
                                  have hnb140 := NB245_233.out
                                  have hnc140 := NB233_245.out
                                  have hnb141 := NB245_268.out
                                  have hnc141 := NB268_245.out
                                  have hcz142_0 : wc.cell? ⟨gb245, 0, none⟩ = some (.string t240) := (blk_cell BK245.out 0).trans rfl
                                  have hcz142_1 : wc.cell? ⟨gb245, 1, none⟩ = some (.slice Ao39 t256.length co39) := (blk_cell BK245.out 1).trans rfl
                                  have hfz142_0 := blk_frozen BK245.out 0
                                  have hfz142_1 := blk_frozen BK245.out 1
                                  go_wp2_with (first | ((with_reducible refine gate_callee (f := 45) rfl ?_); refine gL (some 98) Try.func45 #[.agg #[.string t240, .slice Ao39 t256.length co39], .int .i64 1] ?_; (with_reducible refine (laws_heldRow.calls kj98 t240 _ _ t256 1 t270 _ ?side1 ?side2 A136.out).mono ?_); (case side1 => exact cS (Kd.R_reads' HO_246001.out).2.2); (case side2 => exact (Kd.R_reads' HO_246001.out).2.1); rintro e w143 ⟨rfl, hb⟩; refine ⟨_, rfl, ?_⟩; have n0_ := AZ (Kd.R_below (rS HO_234001.out) hb); have n1_ := AZ (Kd.R_below (rS HO_246001.out) hb); have n2_ := AZ (Kd.R_below (rS HO_269001.out) hb); have n3_ := blkA BK221 hb; have n4_ := blkA BK233 hb; have n5_ := blkA BK245 hb; have n6_ := blkA BK268 hb; have n7_ := AZ (below_step (bS HB.out) hb); clear HO_234001; clear HO_246001; clear HO_269001; clear BK221; clear BK233; clear BK245; clear BK268; clear HB; have HO_234001 := n0_; have HO_246001 := n1_; have HO_269001 := n2_; have BK221 := n3_; have BK233 := n4_; have BK245 := n5_; have BK268 := n6_; have HB := n7_; clear n0_ n1_ n2_ n3_ n4_ n5_ n6_ n7_; (try clear hb)))
                                  go_ret
                                  exact ⟨by first | rfl | (simp; done) | (simp [*]; done), bS HB.out⟩
                                · rw [if_neg c138] at H
                                  exact absurd H (by simp)
                      · rw [if_neg c96] at H
                        exact absurd H (by simp)
            · replace c61 := Bool.eq_false_iff.mpr c61
              subst c61
              have H1 : (none) = some r := by rw [if_neg (show ¬ (false = true) by decide)] at H; exact H
              clear H
              have H := H1
              clear H1
              exact absurd H (by simp)

end Go.Proofs.Ytoaefflonebgkaa.PFnExactRowNamed
