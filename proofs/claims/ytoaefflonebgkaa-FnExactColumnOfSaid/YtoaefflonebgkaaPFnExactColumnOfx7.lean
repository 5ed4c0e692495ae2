-- Written by a program of this claim (patch_print.py over the print): no hand has typed it.
import Derived.Test.YtoaefflonebgkaaPFnExactColumnOfx0
import Derived.Test.YtoaefflonebgkaaPFnExactColumnOfx1
import Derived.Test.YtoaefflonebgkaaPFnExactColumnOfx2
import Derived.Test.YtoaefflonebgkaaPFnExactColumnOfx4
import Derived.Test.YtoaefflonebgkaaPFnExactColumnOfx6
namespace Go.Proofs.Ytoaefflonebgkaa.PFnExactColumnOf
open Go.RowKit Go.Proofs.YtoaefflonebgkaaW.PrintWords Go.Proofs.YtoaefflonebgkaaW.PrintLast Go.Proofs.YtoaefflonebgkaaW.PrintMore
attribute [local go_sem] max2_int min2_int max_two min_two max_three min_three max_four min_four   -- for this text's walks alone
set_option linter.unusedVariables false
set_option linter.unusedSimpArgs false

/-! ### laws_FnExactColumnOf: function 9 -/
mutual
def laws_FnExactColumnOf.j0 : Nat → Int → List Int → Bool → List Int → Bool → Bool → ByteArray → Int → List (S84) → ByteArray → Int → List (S58) → Option (Bool)
  | 0, _, _, _, _, _, _, _, _, _, _, _, _ => none
  | k + 1, x1, x6, x7, x9, x10, x44, x198000, x198001, x198002, x214000, x214001, x214002 => if x44 = true then (none) else ((laws_toReport.f k x198000 x198001 x198002).bind fun bt219 => ((laws_eqReport.f k x214000 x214001 x214002 bt219.1 bt219.2.1 bt219.2.2).bind fun t224 => (if t224 = true then ((laws_markReport.f k x214000 x214001 x214002 1).bind fun t225 => (if t225 < 0 then (laws_FnExactColumnOf.j1 k x1 x6 x7 x9 true x198000 x198001 x198002) else ((laws_eqIntS.f k x9 x6).bind fun t226 => (if t226 = true then (laws_FnExactColumnOf.j1 k x1 x6 x7 x9 (x10 != x7) x198000 x198001 x198002) else (laws_FnExactColumnOf.j1 k x1 x6 x7 x9 true x198000 x198001 x198002))))) else (none))))
def laws_FnExactColumnOf.j1 : Nat → Int → List Int → Bool → List Int → Bool → ByteArray → Int → List (S84) → Option (Bool)
  | 0, _, _, _, _, _, _, _, _ => none
  | k + 1, x1, x6, x7, x9, x65, x198000, x198001, x198002 => if x65 = true then (none) else ((laws_markIntS.f k x9 1).bind fun bt227 => ((laws_heldIntS.f k bt227.2 1).bind fun t229 => (if t229 < 0 then (none) else (if t229 = bt227.1 then ((laws_toReport.f k x198000 x198001 x198002).bind fun bt230 => ((impl_ColumnOf.f k bt230.1 bt230.2.1 bt230.2.2 x1).bind fun bt235 => ((laws_eqIntS.f k bt235.1 x6).bind fun t239 => (if t239 = true then (laws_FnExactColumnOf.j2 k bt227.2 bt227.1 (bt235.2 != x7)) else (laws_FnExactColumnOf.j2 k bt227.2 bt227.1 true))))) else (none)))))
def laws_FnExactColumnOf.j2 : Nat → List Int → Int → Bool → Option (Bool)
  | 0, _, _, _ => none
  | k + 1, x9, x12, x92 => if x92 = true then (none) else ((laws_heldIntS.f k x9 1).bind fun t240 => (if t240 < 0 then (none) else (if t240 = x12 then (some true) else (none))))
end
def laws_FnExactColumnOf.f (k : Nat) (a0_0 : ByteArray) (a0_1 : Int) (l0_2 : List (S84)) (a1 : Int) : Option (Bool) := (laws_szReport.f k a0_0 a0_1 l0_2 1048576).bind fun t198 => (if t198 < 0 then (some true) else ((laws_toReport.f k a0_0 a0_1 l0_2).bind fun bt199 => ((spec_ColumnOf.f k bt199.1 bt199.2.1 bt199.2.2 a1).bind fun bt204 => ((laws_toReport.f k a0_0 a0_1 l0_2).bind fun bt208 => ((impl_ColumnOf.f k bt208.1 bt208.2.1 bt208.2.2 a1).bind fun bt214 => ((laws_eqIntS.f k bt214.1 bt204.1).bind fun t218 => (if t218 = true then (laws_FnExactColumnOf.j0 k a1 bt204.1 bt204.2 bt214.1 bt214.2 (bt214.2 != bt204.2) a0_0 a0_1 l0_2 bt208.1 bt208.2.1 bt208.2.2) else (laws_FnExactColumnOf.j0 k a1 bt204.1 bt204.2 bt214.1 bt214.2 true a0_0 a0_1 l0_2 bt208.1 bt208.2.1 bt208.2.2))))))))
set_option maxHeartbeats 8000000 in
set_option maxRecDepth 100000 in
theorem laws_FnExactColumnOf.calls (k : Nat) (a0_0 : ByteArray) (a0_1 : Int) (A0_2 : Option Addr) (c0_2 : Nat) (l0_2 : List (S84)) (a1 : Int) (r : Bool) (w : World) (hr0_2 : Kd.C k84 w A0_2 l0_2.length l0_2) (hc0_2 : l0_2.length ≤ c0_2) (h : laws_FnExactColumnOf.f k a0_0 a0_1 l0_2 a1 = some r) :
    Calls Try.prog 9 #[.agg #[.string a0_0, .int .i64 a0_1, .slice A0_2 l0_2.length c0_2], .int .i64 a1] w fun e w' => e = .returned (.bool r) ∧ Below w.heap.size w w' := by
  have hu45 := Try.underlying45
  have hu50 := Try.underlying50
  have HR0_2 := Aside0.mk hr0_2
  have HC0_2 := Aside0.mk hc0_2
  clear hr0_2 hc0_2
  have HB := AZ (Below.refl w.heap.size w)
  have H : ((laws_szReport.f k a0_0 a0_1 l0_2 1048576).bind fun t198 => (if t198 < 0 then (some true) else ((laws_toReport.f k a0_0 a0_1 l0_2).bind fun bt199 => ((spec_ColumnOf.f k bt199.1 bt199.2.1 bt199.2.2 a1).bind fun bt204 => ((laws_toReport.f k a0_0 a0_1 l0_2).bind fun bt208 => ((impl_ColumnOf.f k bt208.1 bt208.2.1 bt208.2.2 a1).bind fun bt214 => ((laws_eqIntS.f k bt214.1 bt204.1).bind fun t218 => (if t218 = true then (laws_FnExactColumnOf.j0 k a1 bt204.1 bt204.2 bt214.1 bt214.2 (bt214.2 != bt204.2) a0_0 a0_1 l0_2 bt208.1 bt208.2.1 bt208.2.2) else (laws_FnExactColumnOf.j0 k a1 bt204.1 bt204.2 bt214.1 bt214.2 true a0_0 a0_1 l0_2 bt208.1 bt208.2.1 bt208.2.2))))))))) = some r := h
  clear h
  replace H := Option.bind_eq_some_iff.mp H
  obtain ⟨t198, A30, H⟩ := H
  replace H : (if t198 < 0 then (some true) else ((laws_toReport.f k a0_0 a0_1 l0_2).bind fun bt199 => ((spec_ColumnOf.f k bt199.1 bt199.2.1 bt199.2.2 a1).bind fun bt204 => ((laws_toReport.f k a0_0 a0_1 l0_2).bind fun bt208 => ((impl_ColumnOf.f k bt208.1 bt208.2.1 bt208.2.2 a1).bind fun bt214 => ((laws_eqIntS.f k bt214.1 bt204.1).bind fun t218 => (if t218 = true then (laws_FnExactColumnOf.j0 k a1 bt204.1 bt204.2 bt214.1 bt214.2 (bt214.2 != bt204.2) a0_0 a0_1 l0_2 bt208.1 bt208.2.1 bt208.2.2) else (laws_FnExactColumnOf.j0 k a1 bt204.1 bt204.2 bt214.1 bt214.2 true a0_0 a0_1 l0_2 bt208.1 bt208.2.1 bt208.2.2)))))))) = some r := H
  have A3 := Aside0.mk A30
  clear A30
  by_cases c4 : t198 < 0
  · rw [if_pos c4] at H
    have c4b0 : decide (t198 < 0) = true := decide_eq_true c4
    clear c4
    obtain rfl := Option.some.inj H
    go_enter Try.func9, Try.ntmps9
    go_wp2_with (first | ((with_reducible refine gate_dst (N := 2) rfl ?_); refine box_event ?hg (N := 2) ?hd (cs := #[.string a0_0, .int .i64 a0_1, .slice A0_2 l0_2.length c0_2]) (t := 45) ?hr ?_; (case hd => rfl); (case hg => rfl); (case hr => first | (go_simp; done) | (go_simp; rfl)); intro gb197 hg w5 hbox hb; have n0_ := AZ (below_step (bS HB.out) hb); have n1_ := AZ (hbox); have n2_ := AZ (geS hg HB.out); have n3_ := AZ (geS hg HB.out); clear HB; have HB := n0_; have BK197 := n1_; have GW197 := n2_; have GE197 := n3_; clear n0_ n1_ n2_ n3_; clear hb hbox hg; have hcz6_0 : w5.cell? ⟨gb197, 0, none⟩ = some (.string a0_0) := (blk_cell BK197.out 0).trans rfl; have hcz6_1 : w5.cell? ⟨gb197, 1, none⟩ = some (.int .i64 a0_1) := (blk_cell BK197.out 1).trans rfl; have hcz6_2 : w5.cell? ⟨gb197, 2, none⟩ = some (.slice A0_2 l0_2.length c0_2) := (blk_cell BK197.out 2).trans rfl; have hfz6_0 := blk_frozen BK197.out 0; have hfz6_1 := blk_frozen BK197.out 1; have hfz6_2 := blk_frozen BK197.out 2) | ((with_reducible refine gate_callee (f := 33) rfl ?_); refine gL (some 18) Try.func33 #[.agg #[.string a0_0, .int .i64 a0_1, .slice A0_2 l0_2.length c0_2], .int .i64 1048576] ?_; (with_reducible refine (laws_szReport.calls k a0_0 a0_1 _ _ l0_2 1048576 t198 _ ?side1 ?side2 A3.out).mono ?_); (case side1 => exact cS (Kd.C_below HR0_2.out HB.out)); (case side2 => exact HC0_2.out); rintro e w7 ⟨rfl, hb⟩; refine ⟨_, rfl, ?_⟩; have n0_ := blkA BK197 hb; have n1_ := AZ (below_step (bS HB.out) hb); clear BK197; clear HB; have BK197 := n0_; have HB := n1_; clear n0_ n1_; (try clear hb)))
    go_ret
    exact ⟨by first | rfl | (simp; done) | (simp [*]; done), bS HB.out⟩
  · rw [if_neg c4] at H
    have c4b0 : decide (t198 < 0) = false := decide_eq_false c4
    clear c4
    replace H := Option.bind_eq_some_iff.mp H
    obtain ⟨⟨t199, t200, t201⟩, A80, H⟩ := H
    replace H : ((spec_ColumnOf.f k t199 t200 t201 a1).bind fun bt204 => ((laws_toReport.f k a0_0 a0_1 l0_2).bind fun bt208 => ((impl_ColumnOf.f k bt208.1 bt208.2.1 bt208.2.2 a1).bind fun bt214 => ((laws_eqIntS.f k bt214.1 bt204.1).bind fun t218 => (if t218 = true then (laws_FnExactColumnOf.j0 k a1 bt204.1 bt204.2 bt214.1 bt214.2 (bt214.2 != bt204.2) a0_0 a0_1 l0_2 bt208.1 bt208.2.1 bt208.2.2) else (laws_FnExactColumnOf.j0 k a1 bt204.1 bt204.2 bt214.1 bt214.2 true a0_0 a0_1 l0_2 bt208.1 bt208.2.1 bt208.2.2)))))) = some r := H
    have A8 := Aside0.mk A80
    clear A80
    replace H := Option.bind_eq_some_iff.mp H
    obtain ⟨⟨t204, t207⟩, A90, H⟩ := H
    replace H : ((laws_toReport.f k a0_0 a0_1 l0_2).bind fun bt208 => ((impl_ColumnOf.f k bt208.1 bt208.2.1 bt208.2.2 a1).bind fun bt214 => ((laws_eqIntS.f k bt214.1 t204).bind fun t218 => (if t218 = true then (laws_FnExactColumnOf.j0 k a1 t204 t207 bt214.1 bt214.2 (bt214.2 != t207) a0_0 a0_1 l0_2 bt208.1 bt208.2.1 bt208.2.2) else (laws_FnExactColumnOf.j0 k a1 t204 t207 bt214.1 bt214.2 true a0_0 a0_1 l0_2 bt208.1 bt208.2.1 bt208.2.2))))) = some r := H
    have A9 := Aside0.mk A90
    clear A90
    replace H := Option.bind_eq_some_iff.mp H
    obtain ⟨⟨t208, t209, t210⟩, A100, H⟩ := H
    replace H : ((impl_ColumnOf.f k t208 t209 t210 a1).bind fun bt214 => ((laws_eqIntS.f k bt214.1 t204).bind fun t218 => (if t218 = true then (laws_FnExactColumnOf.j0 k a1 t204 t207 bt214.1 bt214.2 (bt214.2 != t207) a0_0 a0_1 l0_2 t208 t209 t210) else (laws_FnExactColumnOf.j0 k a1 t204 t207 bt214.1 bt214.2 true a0_0 a0_1 l0_2 t208 t209 t210)))) = some r := H
    have A10 := Aside0.mk A100
    clear A100
    replace H := Option.bind_eq_some_iff.mp H
    obtain ⟨⟨t214, t217⟩, A110, H⟩ := H
    replace H : ((laws_eqIntS.f k t214 t204).bind fun t218 => (if t218 = true then (laws_FnExactColumnOf.j0 k a1 t204 t207 t214 t217 (t217 != t207) a0_0 a0_1 l0_2 t208 t209 t210) else (laws_FnExactColumnOf.j0 k a1 t204 t207 t214 t217 true a0_0 a0_1 l0_2 t208 t209 t210))) = some r := H
    have A11 := Aside0.mk A110
    clear A110
    have HC12 := Aside0.mk H
    clear H
    go_enter Try.func9, Try.ntmps9
    go_upto_region 8 with (first | ((with_reducible refine gate_dst (N := 2) rfl ?_); refine box_event ?hg (N := 2) ?hd (cs := #[.string a0_0, .int .i64 a0_1, .slice A0_2 l0_2.length c0_2]) (t := 45) ?hr ?_; (case hd => rfl); (case hg => rfl); (case hr => first | (go_simp; done) | (go_simp; rfl)); intro gb197 hg w13 hbox hb; have n0_ := AZ (below_step (bS HB.out) hb); have n1_ := AZ (hbox); have n2_ := AZ (geS hg HB.out); have n3_ := AZ (geS hg HB.out); clear HB; have HB := n0_; have BK197 := n1_; have GW197 := n2_; have GE197 := n3_; clear n0_ n1_ n2_ n3_; clear hb hbox hg; have hcz14_0 : w13.cell? ⟨gb197, 0, none⟩ = some (.string a0_0) := (blk_cell BK197.out 0).trans rfl; have hcz14_1 : w13.cell? ⟨gb197, 1, none⟩ = some (.int .i64 a0_1) := (blk_cell BK197.out 1).trans rfl; have hcz14_2 : w13.cell? ⟨gb197, 2, none⟩ = some (.slice A0_2 l0_2.length c0_2) := (blk_cell BK197.out 2).trans rfl; have hfz14_0 := blk_frozen BK197.out 0; have hfz14_1 := blk_frozen BK197.out 1; have hfz14_2 := blk_frozen BK197.out 2) | ((with_reducible refine gate_callee (f := 33) rfl ?_); refine gL (some 18) Try.func33 #[.agg #[.string a0_0, .int .i64 a0_1, .slice A0_2 l0_2.length c0_2], .int .i64 1048576] ?_; (with_reducible refine (laws_szReport.calls k a0_0 a0_1 _ _ l0_2 1048576 t198 _ ?side1 ?side2 A3.out).mono ?_); (case side1 => exact cS (Kd.C_below HR0_2.out HB.out)); (case side2 => exact HC0_2.out); rintro e w15 ⟨rfl, hb⟩; refine ⟨_, rfl, ?_⟩; have n0_ := blkA BK197 hb; have n1_ := AZ (below_step (bS HB.out) hb); clear BK197; clear HB; have BK197 := n0_; have HB := n1_; clear n0_ n1_; (try clear hb); have hcz16_0 : w15.cell? ⟨gb197, 0, none⟩ = some (.string a0_0) := (blk_cell BK197.out 0).trans rfl; have hcz16_1 : w15.cell? ⟨gb197, 1, none⟩ = some (.int .i64 a0_1) := (blk_cell BK197.out 1).trans rfl; have hcz16_2 : w15.cell? ⟨gb197, 2, none⟩ = some (.slice A0_2 l0_2.length c0_2) := (blk_cell BK197.out 2).trans rfl; have hfz16_0 := blk_frozen BK197.out 0; have hfz16_1 := blk_frozen BK197.out 1; have hfz16_2 := blk_frozen BK197.out 2) | ((with_reducible refine gate_callee (f := 35) rfl ?_); refine gL (some 23) Try.func35 #[.agg #[.string a0_0, .int .i64 a0_1, .slice A0_2 l0_2.length c0_2]] ?_; (with_reducible refine (laws_toReport.calls k a0_0 a0_1 _ _ l0_2 t199 t200 t201 _ ?side1 ?side2 A8.out).mono ?_); (case side1 => exact cS (Kd.C_below HR0_2.out HB.out)); (case side2 => exact HC0_2.out); rintro e w17 ⟨v202, rfl, ho0, hb⟩; refine ⟨_, rfl, ?_⟩; have n0_ := AZ (Kd.S_lower ho0 (below_size (bS HB.out))); have n1_ := blkA BK197 hb; have n2_ := AZ (below_step (bS HB.out) hb); clear BK197; clear HB; have HO203 := n0_; have BK197 := n1_; have HB := n2_; clear n0_ n1_ n2_; (try clear hb ho0); obtain ⟨Ao18, co18, eo18⟩ := Kd.S_slice HO203.out; subst eo18) | ((with_reducible refine gate_callee (f := 38) rfl ?_); refine gL (some 25) Try.func38 #[.agg #[.string t199, .int .i64 t200, .slice Ao18 t201.length co18], .int .i64 a1] ?_; (with_reducible refine (spec_ColumnOf.calls k t199 t200 _ _ t201 a1 t204 t207 _ ?side1 ?side2 A9.out).mono ?_); (case side1 => exact cS (Kd.S_reads' HO203.out).2.2); (case side2 => exact (Kd.S_reads' HO203.out).2.1); rintro e w19 ⟨v205, rfl, ho0, hb⟩; refine ⟨_, rfl, ?_⟩; have n0_ := AZ (Kd.S_elder' (sS HO203.out) (Kd.R_base ho0) hb); have n1_ := AZ (Kd.R_lower ho0 (below_size (bS HB.out))); have n2_ := blkA BK197 hb; have n3_ := AZ (below_step (bS HB.out) hb); clear HO203; clear BK197; clear HB; have HO203 := n0_; have HO206 := n1_; have BK197 := n2_; have HB := n3_; clear n0_ n1_ n2_ n3_; (try clear hb ho0); have hcz20_0 : w19.cell? ⟨gb197, 0, none⟩ = some (.string a0_0) := (blk_cell BK197.out 0).trans rfl; have hcz20_1 : w19.cell? ⟨gb197, 1, none⟩ = some (.int .i64 a0_1) := (blk_cell BK197.out 1).trans rfl; have hcz20_2 : w19.cell? ⟨gb197, 2, none⟩ = some (.slice A0_2 l0_2.length c0_2) := (blk_cell BK197.out 2).trans rfl; have hfz20_0 := blk_frozen BK197.out 0; have hfz20_1 := blk_frozen BK197.out 1; have hfz20_2 := blk_frozen BK197.out 2) | ((with_reducible refine gate_callee (f := 35) rfl ?_); refine gL (some 29) Try.func35 #[.agg #[.string a0_0, .int .i64 a0_1, .slice A0_2 l0_2.length c0_2]] ?_; (with_reducible refine (laws_toReport.calls k a0_0 a0_1 _ _ l0_2 t208 t209 t210 _ ?side1 ?side2 A10.out).mono ?_); (case side1 => exact cS (Kd.C_below HR0_2.out HB.out)); (case side2 => exact HC0_2.out); rintro e w21 ⟨v211, rfl, ho0, hb⟩; refine ⟨_, rfl, ?_⟩; have n0_ := AZ (Kd.S_elder' (sS HO203.out) (Kd.S_base ho0) hb); have n1_ := AZ (Kd.R_below (rS HO206.out) hb); have n2_ := AZ (Kd.S_lower (Kd.S_new' (Kd.S_new' ho0 (Kd.S_lt (sS HO203.out))) (Kd.R_lt (rS HO206.out))) (below_size (bS HB.out))); have n3_ := blkA BK197 hb; have n4_ := AZ (below_step (bS HB.out) hb); clear HO203; clear HO206; clear BK197; clear HB; have HO203 := n0_; have HO206 := n1_; have HO212 := n2_; have BK197 := n3_; have HB := n4_; clear n0_ n1_ n2_ n3_ n4_; (try clear hb ho0)) | ((with_reducible refine gate_dst (N := 8) rfl ?_); refine box_event ?hg (N := 8) ?hd (cs := #[.string (⟨#[]⟩ : ByteArray), .int .i64 0, .slice none 0 0]) (t := 50) ?hr ?_; (case hd => rfl); (case hg => rfl); (case hr => first | (go_simp; done) | (go_simp; rfl)); intro gb213 hg w22 hbox hb; have n0_ := AZ (Kd.S_below (sS HO203.out) hb); have n1_ := AZ (Kd.R_below (rS HO206.out) hb); have n2_ := AZ (Kd.S_below (sS HO212.out) hb); have n3_ := blkA BK197 hb; have n4_ := AZ (below_step (bS HB.out) hb); have n5_ := AZ (hbox); have n6_ := AZ (geS hg HB.out); have n7_ := AZ (geS hg HB.out); have n8_ := AZ ((by rw [hg]; exact Nat.ne_of_lt (blkL BK197.out) : gb197 ≠ gb213)); have n9_ := AZ ((by rw [hg]; exact Nat.ne_of_gt (blkL BK197.out) : gb213 ≠ gb197)); clear HO203; clear HO206; clear HO212; clear BK197; clear HB; have HO203 := n0_; have HO206 := n1_; have HO212 := n2_; have BK197 := n3_; have HB := n4_; have BK213 := n5_; have GW213 := n6_; have GE213 := n7_; have NB197_213 := n8_; have NB213_197 := n9_; clear n0_ n1_ n2_ n3_ n4_ n5_ n6_ n7_ n8_ n9_; clear hb hbox hg; have hnb23 := NB213_197.out; have hnc23 := NB197_213.out; have hcz24_0 : w22.cell? ⟨gb213, 0, none⟩ = some (.string (⟨#[]⟩ : ByteArray)) := (blk_cell BK213.out 0).trans rfl; have hcz24_1 : w22.cell? ⟨gb213, 1, none⟩ = some (.int .i64 0) := (blk_cell BK213.out 1).trans rfl; have hcz24_2 : w22.cell? ⟨gb213, 2, none⟩ = some (.slice none 0 0) := (blk_cell BK213.out 2).trans rfl; have hfz24_0 := blk_frozen BK213.out 0; have hfz24_1 := blk_frozen BK213.out 1; have hfz24_2 := blk_frozen BK213.out 2; obtain ⟨Ao25, co25, eo25⟩ := Kd.S_slice HO212.out; subst eo25) | ((with_reducible refine gate_callee (f := 39) rfl ?_); refine gL (some 33) Try.func39 #[.agg #[.string t208, .int .i64 t209, .slice Ao25 t210.length co25], .int .i64 a1] ?_; (with_reducible refine (impl_ColumnOf.calls k t208 t209 _ _ t210 a1 t214 t217 _ ?side1 ?side2 A11.out).mono ?_); (case side1 => refine (Kd.S_reads' (e := 58) (base := w.heap.size) (ok := fun k_ => ((True ∧ some k_ ≠ (.slice Ao18 t201.length co18 : Value).ownBlock) ∧ some k_ ≠ (v205 : Value).ownBlock)) (n := t210.length) (c := co25) ?_).2.2; exact (by (with_reducible repeat (first | apply Kd.S_alloc | apply Kd.S_drewN | apply Kd.S_drew)); exact (Kd.S_mono (Kd.S_far (Kd.S_far (Kd.S_far (Kd.S_types HO212.out BK213.out (by decide)) (fun _ hk => hk.2) _) (fun _ hk => hk.2) _) (fun _ hk => hk.2) _) (fun _ h_ => h_.1)))); (case side2 => exact (Kd.S_reads' HO212.out).2.1); rintro e w26 ⟨v215, rfl, ho0, hb⟩; refine ⟨_, rfl, ?_⟩; have n0_ := AZ (Kd.S_elder' (by (with_reducible repeat (first | apply Kd.S_alloc | apply Kd.S_drewN | apply Kd.S_drew)); exact (Kd.S_mono (Kd.S_far (Kd.S_far (Kd.S_far (Kd.S_types HO203.out BK213.out (by decide)) (fun _ hk => hk.2) _) (fun _ hk => hk.2) _) (fun _ hk => hk.2) _) (fun _ h_ => h_.1))) (Kd.R_base ho0) hb); have n1_ := AZ (Kd.R_elder' (by (with_reducible repeat (first | apply Kd.R_alloc | apply Kd.R_drewN | apply Kd.R_drew)); exact (Kd.R_mono (Kd.R_far (Kd.R_far (Kd.R_far (Kd.R_types HO206.out BK213.out (by decide)) (fun _ hk => hk.2) _) (fun _ hk => hk.2) _) (fun _ hk => hk.2) _) (fun _ h_ => h_.1))) (Kd.R_base ho0) hb); have n2_ := AZ (Kd.S_elder' (by (with_reducible repeat (first | apply Kd.S_alloc | apply Kd.S_drewN | apply Kd.S_drew)); exact (Kd.S_mono (Kd.S_far (Kd.S_far (Kd.S_far (Kd.S_types HO212.out BK213.out (by decide)) (fun _ hk => hk.2) _) (fun _ hk => hk.2) _) (fun _ hk => hk.2) _) (fun _ h_ => h_.1))) (Kd.R_base ho0) hb); have n3_ := AZ (Kd.R_lower (Kd.R_new' ho0 (Kd.R_lt (by (with_reducible repeat (first | apply Kd.R_alloc | apply Kd.R_drewN | apply Kd.R_drew)); exact (Kd.R_mono (Kd.R_far (Kd.R_far (Kd.R_far (Kd.R_types HO206.out BK213.out (by decide)) (fun _ hk => hk.2) _) (fun _ hk => hk.2) _) (fun _ hk => hk.2) _) (fun _ h_ => h_.1))))) (below_size (bS HB.out))); have n4_ := AZ (blk_below (g := gb197) (o := .cells #[.string a0_0, .int .i64 a0_1, .slice A0_2 l0_2.length c0_2] 45 (0, 0)) (by (with_reducible repeat (first | refine blk_drewN ?_ _ | refine blk_drew ?_ | refine blk_alloc ?_ _)); refine blk_far ?_ NB197_213.out _; (with_reducible repeat (first | refine blk_drewN ?_ _ | refine blk_drew ?_ | refine blk_alloc ?_ _)); refine blk_far ?_ NB197_213.out _; (with_reducible repeat (first | refine blk_drewN ?_ _ | refine blk_drew ?_ | refine blk_alloc ?_ _)); refine blk_far ?_ NB197_213.out _; (with_reducible repeat (first | refine blk_drewN ?_ _ | refine blk_drew ?_ | refine blk_alloc ?_ _)); exact BK197.out) hb); have n5_ := AZ (blk_below (g := gb213) (o := .cells #[.string t208, .int .i64 t209, .slice Ao25 t210.length co25] 50 (0, 0)) (by (with_reducible repeat (first | refine blk_drewN ?_ _ | refine blk_drew ?_ | refine blk_alloc ?_ _)); refine blk_put (cs := #[.string t208, .int .i64 t209, .slice none 0 0]) ?_ 2 _ rfl; (with_reducible repeat (first | refine blk_drewN ?_ _ | refine blk_drew ?_ | refine blk_alloc ?_ _)); refine blk_put (cs := #[.string t208, .int .i64 0, .slice none 0 0]) ?_ 1 _ rfl; (with_reducible repeat (first | refine blk_drewN ?_ _ | refine blk_drew ?_ | refine blk_alloc ?_ _)); refine blk_put (cs := #[.string (⟨#[]⟩ : ByteArray), .int .i64 0, .slice none 0 0]) ?_ 0 _ rfl; (with_reducible repeat (first | refine blk_drewN ?_ _ | refine blk_drew ?_ | refine blk_alloc ?_ _)); exact BK213.out) hb); have n6_ := AZ (below_step (bS HB.out) hb); clear HO203; clear HO206; clear HO212; clear BK197; clear BK213; clear HB; have HO203 := n0_; have HO206 := n1_; have HO212 := n2_; have HO216 := n3_; have BK197 := n4_; have BK213 := n5_; have HB := n6_; clear n0_ n1_ n2_ n3_ n4_ n5_ n6_; (try clear hb ho0)))
    (try simp only [Act.put, List.setIfInBounds_toArray, List.set_cons_zero, List.set_cons_succ])
    go_cut [44] (fun v44 wc => ∃ (kq : Nat) (x44_11 : Bool), v44 = .bool x44_11 ∧ Aside0 (laws_FnExactColumnOf.j0 kq a1 t204 t207 t214 t217 x44_11 a0_0 a0_1 l0_2 t208 t209 t210 = some r) ∧ Aside0 (kq ≤ k) ∧ Aside0 (Kd.R (Kd.int .i64) 3 wc w.heap.size (fun k_ => some k_ ≠ (v215 : Value).ownBlock) v205 t204) ∧ Aside0 (Kd.R (Kd.int .i64) 3 wc w.heap.size (fun k_ => some k_ ≠ (v205 : Value).ownBlock) v215 t214) ∧ Aside0 (Kd.S k58 58 wc w.heap.size (fun k_ => some k_ ≠ (v205 : Value).ownBlock ∧ some k_ ≠ (v215 : Value).ownBlock) (.slice Ao25 t210.length co25) t210) ∧ Aside0 (wc.heap[gb197]? = some (.cells #[.string a0_0, .int .i64 a0_1, (.slice A0_2 l0_2.length c0_2)] 45 (0, 0))) ∧ Aside0 (wc.heap[gb213]? = some (.cells #[.string t208, .int .i64 t209, (.slice Ao25 t210.length co25)] 50 (0, 0))) ∧ Aside0 (Below w.heap.size w wc))
    case first =>
      have H := HC12.out
      clear HC12
      replace H := Option.bind_eq_some_iff.mp H
      obtain ⟨t218, A270, H⟩ := H
      replace H : (if t218 = true then (laws_FnExactColumnOf.j0 k a1 t204 t207 t214 t217 (t217 != t207) a0_0 a0_1 l0_2 t208 t209 t210) else (laws_FnExactColumnOf.j0 k a1 t204 t207 t214 t217 true a0_0 a0_1 l0_2 t208 t209 t210)) = some r := H
      have A27 := Aside0.mk A270
      clear A270
      by_cases c28 : t218 = true
      · subst c28
        have H1 : (laws_FnExactColumnOf.j0 k a1 t204 t207 t214 t217 (t217 != t207) a0_0 a0_1 l0_2 t208 t209 t210) = some r := by rw [if_pos rfl] at H; exact H
        clear H
        have H := H1
        clear H1
        have H' := Aside0.mk H
        clear H
        obtain ⟨Ao29, co29, eo29⟩ := Kd.R_slice HO216.out
        subst eo29
        obtain ⟨Ao30, co30, eo30⟩ := Kd.R_slice HO206.out
        subst eo30
        go_wp2_with (first | ((with_reducible refine gate_callee (f := 21) rfl ?_); refine gL (some 38) Try.func21 #[.slice Ao29 t214.length co29, .slice Ao30 t204.length co30] ?_; (with_reducible refine (laws_eqIntS.calls k _ _ t214 _ _ t204 true _ ?side1 ?side2 ?side3 ?side4 A27.out).mono ?_); (case side1 => exact cS (Kd.R_reads' HO216.out).2.2); (case side2 => exact (Kd.R_reads' HO216.out).2.1); (case side3 => exact cS (Kd.R_reads' HO206.out).2.2); (case side4 => exact (Kd.R_reads' HO206.out).2.1); rintro e w' ⟨rfl, ⟨nd, rfl⟩⟩; refine ⟨_, rfl, ?_⟩))
        go_meet
        case rel => exact ⟨_, ((t217 != t207)), (by first | rfl | (simp; done) | (simp [*]; done)), H', ⟨by first | omega | exact Nat.le_refl _⟩, ⟨rS (Kd.R_mono HO206.out (fun _ hk => hk.2))⟩, ⟨rS (Kd.R_mono HO216.out (fun _ hk => hk.2))⟩, ⟨sS (Kd.S_mono HO212.out (fun _ hk => ⟨hk.1.2, hk.2⟩))⟩, ⟨blkS BK197.out⟩, ⟨blkS BK213.out⟩, ⟨bS HB.out⟩⟩
      · replace c28 := Bool.eq_false_iff.mpr c28
        subst c28
        have H1 : (laws_FnExactColumnOf.j0 k a1 t204 t207 t214 t217 true a0_0 a0_1 l0_2 t208 t209 t210) = some r := by rw [if_neg (show ¬ (false = true) by decide)] at H; exact H
        clear H
        have H := H1
        clear H1
        have H' := Aside0.mk H
        clear H
        obtain ⟨Ao31, co31, eo31⟩ := Kd.R_slice HO216.out
        subst eo31
        obtain ⟨Ao32, co32, eo32⟩ := Kd.R_slice HO206.out
        subst eo32
        go_wp2_with (first | ((with_reducible refine gate_callee (f := 21) rfl ?_); refine gL (some 38) Try.func21 #[.slice Ao31 t214.length co31, .slice Ao32 t204.length co32] ?_; (with_reducible refine (laws_eqIntS.calls k _ _ t214 _ _ t204 false _ ?side1 ?side2 ?side3 ?side4 A27.out).mono ?_); (case side1 => exact cS (Kd.R_reads' HO216.out).2.2); (case side2 => exact (Kd.R_reads' HO216.out).2.1); (case side3 => exact cS (Kd.R_reads' HO206.out).2.2); (case side4 => exact (Kd.R_reads' HO206.out).2.1); rintro e w' ⟨rfl, ⟨nd, rfl⟩⟩; refine ⟨_, rfl, ?_⟩))
        go_meet
        case rel => exact ⟨_, (true), (by first | rfl | (simp; done) | (simp [*]; done)), H', ⟨by first | omega | exact Nat.le_refl _⟩, ⟨rS (Kd.R_mono HO206.out (fun _ hk => hk.2))⟩, ⟨rS (Kd.R_mono HO216.out (fun _ hk => hk.2))⟩, ⟨sS (Kd.S_mono HO212.out (fun _ hk => ⟨hk.1.2, hk.2⟩))⟩, ⟨blkS BK197.out⟩, ⟨blkS BK213.out⟩, ⟨bS HB.out⟩⟩
    case rest =>
      clear HC12
      try clear c2
      try clear p2
      try clear c3
      try clear c4
      try clear c4b0
      try clear c9
      try clear c21
      try clear c23
      try clear c28
      try clear hcz14_0
      try clear hcz14_1
      try clear hcz14_2
      try clear hcz16_0
      try clear hcz16_1
      try clear hcz16_2
      try clear hcz20_0
      try clear hcz20_1
      try clear hcz20_2
      try clear hcz24_0
      try clear hcz24_1
      try clear hcz24_2
      try clear hcz6_0
      try clear hcz6_1
      try clear hcz6_2
      try clear hfz14_0
      try clear hfz14_1
      try clear hfz14_2
      try clear hfz16_0
      try clear hfz16_1
      try clear hfz16_2
      try clear hfz20_0
      try clear hfz20_1
      try clear hfz20_2
      try clear hfz24_0
      try clear hfz24_1
      try clear hfz24_2
      try clear hfz6_0
      try clear hfz6_1
      try clear hfz6_2
      obtain ⟨kq, x44_11, rfl, HA, HJ11, HO_6, HO_9, HO_214002, BK197, BK213, HB⟩ := hcut
      cases kq with
      | zero => exact absurd HA.out (by simp [laws_FnExactColumnOf.j0])
      | succ kj11 =>
        have H := HA.out
        clear HA
        simp only [laws_FnExactColumnOf.j0] at H
        by_cases c33 : x44_11 = true
        · subst c33
          have H1 : (none) = some r := by rw [if_pos rfl] at H; exact H
          clear H
          have H := H1
          clear H1
          exact absurd H (by simp)
        · replace c33 := Bool.eq_false_iff.mpr c33
          subst c33
          have H1 : ((laws_toReport.f kj11 a0_0 a0_1 l0_2).bind fun bt219 => ((laws_eqReport.f kj11 t208 t209 t210 bt219.1 bt219.2.1 bt219.2.2).bind fun t224 => (if t224 = true then ((laws_markReport.f kj11 t208 t209 t210 1).bind fun t225 => (if t225 < 0 then (laws_FnExactColumnOf.j1 kj11 a1 t204 t207 t214 true a0_0 a0_1 l0_2) else ((laws_eqIntS.f kj11 t214 t204).bind fun t226 => (if t226 = true then (laws_FnExactColumnOf.j1 kj11 a1 t204 t207 t214 (t217 != t207) a0_0 a0_1 l0_2) else (laws_FnExactColumnOf.j1 kj11 a1 t204 t207 t214 true a0_0 a0_1 l0_2))))) else (none)))) = some r := by rw [if_neg (show ¬ (false = true) by decide)] at H; exact H
          clear H
          have H := H1
          clear H1
          replace H := Option.bind_eq_some_iff.mp H
          obtain ⟨⟨t219, t220, t221⟩, A340, H⟩ := H
          replace H : ((laws_eqReport.f kj11 t208 t209 t210 t219 t220 t221).bind fun t224 => (if t224 = true then ((laws_markReport.f kj11 t208 t209 t210 1).bind fun t225 => (if t225 < 0 then (laws_FnExactColumnOf.j1 kj11 a1 t204 t207 t214 true a0_0 a0_1 l0_2) else ((laws_eqIntS.f kj11 t214 t204).bind fun t226 => (if t226 = true then (laws_FnExactColumnOf.j1 kj11 a1 t204 t207 t214 (t217 != t207) a0_0 a0_1 l0_2) else (laws_FnExactColumnOf.j1 kj11 a1 t204 t207 t214 true a0_0 a0_1 l0_2))))) else (none))) = some r := H
          have A34 := Aside0.mk A340
          clear A340
          replace H := Option.bind_eq_some_iff.mp H
          obtain ⟨t224, A350, H⟩ := H
          replace H : (if t224 = true then ((laws_markReport.f kj11 t208 t209 t210 1).bind fun t225 => (if t225 < 0 then (laws_FnExactColumnOf.j1 kj11 a1 t204 t207 t214 true a0_0 a0_1 l0_2) else ((laws_eqIntS.f kj11 t214 t204).bind fun t226 => (if t226 = true then (laws_FnExactColumnOf.j1 kj11 a1 t204 t207 t214 (t217 != t207) a0_0 a0_1 l0_2) else (laws_FnExactColumnOf.j1 kj11 a1 t204 t207 t214 true a0_0 a0_1 l0_2))))) else (none)) = some r := H
          have A35 := Aside0.mk A350
          clear A350
          by_cases c36 : t224 = true
          · subst c36
            have H1 : ((laws_markReport.f kj11 t208 t209 t210 1).bind fun t225 => (if t225 < 0 then (laws_FnExactColumnOf.j1 kj11 a1 t204 t207 t214 true a0_0 a0_1 l0_2) else ((laws_eqIntS.f kj11 t214 t204).bind fun t226 => (if t226 = true then (laws_FnExactColumnOf.j1 kj11 a1 t204 t207 t214 (t217 != t207) a0_0 a0_1 l0_2) else (laws_FnExactColumnOf.j1 kj11 a1 t204 t207 t214 true a0_0 a0_1 l0_2))))) = some r := by rw [if_pos rfl] at H; exact H
            clear H
            have H := H1
            clear H1
            replace H := Option.bind_eq_some_iff.mp H
            obtain ⟨t225, A370, H⟩ := H
            replace H : (if t225 < 0 then (laws_FnExactColumnOf.j1 kj11 a1 t204 t207 t214 true a0_0 a0_1 l0_2) else ((laws_eqIntS.f kj11 t214 t204).bind fun t226 => (if t226 = true then (laws_FnExactColumnOf.j1 kj11 a1 t204 t207 t214 (t217 != t207) a0_0 a0_1 l0_2) else (laws_FnExactColumnOf.j1 kj11 a1 t204 t207 t214 true a0_0 a0_1 l0_2)))) = some r := H
            have A37 := Aside0.mk A370
            clear A370
            have HC38 := Aside0.mk H
            clear H
            try go_wp2
            have n0_ := AZ (Kd.R_drew HO_6.out)
            have n1_ := AZ (Kd.R_drew HO_9.out)
            have n2_ := AZ (Kd.S_drew HO_214002.out)
            have n3_ := AZ (blk_drew BK197.out)
            have n4_ := AZ (blk_drew BK213.out)
            have n5_ := AZ (below_drew1 HB.out)
            clear HO_6
            clear HO_9
            clear HO_214002
            clear BK197
            clear BK213
            clear HB
            have HO_6 := n0_
            have HO_9 := n1_
            have HO_214002 := n2_
            have BK197 := n3_
            have BK213 := n4_
            have HB := n5_
            clear n0_ n1_ n2_ n3_ n4_ n5_
            refine start_ (n := 5) (S := fun w' => w'.cell? ⟨gb213, 0, none⟩ = some (.string t208) ∧ w'.cell? ⟨gb213, 1, none⟩ = some (.int .i64 t209) ∧ w'.cell? ⟨gb213, 2, none⟩ = some (.slice Ao25 t210.length co25) ∧ w'.cell? ⟨gb197, 0, none⟩ = some (.string a0_0) ∧ w'.cell? ⟨gb197, 1, none⟩ = some (.int .i64 a0_1) ∧ w'.cell? ⟨gb197, 2, none⟩ = some (.slice A0_2 l0_2.length c0_2)) (ds := []) #[false, false, false, false, false] (by kernel_rfl) rfl rfl ⟨(blk_cell BK213.out 0).trans rfl, (blk_cell BK213.out 1).trans rfl, (blk_cell BK213.out 2).trans rfl, (blk_cell BK197.out 0).trans rfl, (blk_cell BK197.out 1).trans rfl, (blk_cell BK197.out 2).trans rfl⟩ (fun hHeld => ?_)
            generalize wc.drew = w39 at HO_6 HO_9 HO_214002 BK197 BK213 HB hHeld ⊢
            refine take_ (i := 0) (N := some 45) (v := ?_) (a' := ?_) #[true, false, false, false, false] rfl rfl (by kernel_rfl) (fun _ _ _ h => h) (Or.inl ⟨by rfl, ?_⟩) hHeld ?_ ?_
            rotate_left
            · rintro w' ⟨s0, s1, s2, s3, s4, s5⟩
              go_simp
              with_reducible rfl
            rotate_left
            · simp only [Act.put, List.setIfInBounds_toArray, List.set_cons_zero, List.set_cons_succ, i64_w, i32_w]
              rfl
            refine take_ (i := 1) (N := some 46) (v := ?_) (a' := ?_) #[true, true, false, false, false] rfl rfl (by kernel_rfl) (fun _ _ _ h => h) (Or.inl ⟨by rfl, ?_⟩) hHeld ?_ ?_
            rotate_left
            · rintro w' ⟨s0, s1, s2, s3, s4, s5⟩
              go_simp
              with_reducible rfl
            rotate_left
            · simp only [Act.put, List.setIfInBounds_toArray, List.set_cons_zero, List.set_cons_succ, i64_w, i32_w]
              rfl
            refine one_ (i := 2) (N := some 47) #[true, true, true, false, false] rfl rfl (by kernel_rfl) (by decide) (fun K hK => ?_)
            refine goes_ Try.func35 (by kernel_rfl) rfl #[.agg #[.string a0_0, .int .i64 a0_1, .slice A0_2 l0_2.length c0_2]] (by rfl) rfl rfl (by (try simp only [List.map_toArray, List.map_cons, List.map_nil]); first | done | rfl | (simp only [List.length_drop, List.length_take]; rfl)) ?_
            with_reducible refine (laws_toReport.calls kj11 a0_0 a0_1 _ _ l0_2 t219 t220 t221 _ ?side1 ?side2 A34.out).mono ?_
            (case side1 => exact cS (Kd.C_below HR0_2.out HB.out))
            (case side2 => exact HC0_2.out)
            rintro e w40 ⟨v222, rfl, ho0, hb⟩
            refine ⟨_, rfl, ?_⟩
            have n0_ := AZ (Kd.R_below (rS HO_6.out) hb)
            have n1_ := AZ (Kd.R_below (rS HO_9.out) hb)
            have n2_ := AZ (Kd.S_elder' (sS HO_214002.out) (Kd.S_base ho0) hb)
            have n3_ := AZ (Kd.S_lower (Kd.S_new' (Kd.S_new' (Kd.S_new' ho0 (Kd.R_lt (rS HO_6.out))) (Kd.R_lt (rS HO_9.out))) (Kd.S_lt (sS HO_214002.out))) (below_size (bS HB.out)))
            have n4_ := blkA BK197 hb
            have n5_ := blkA BK213 hb
            have n6_ := AZ (below_step (bS HB.out) hb)
            clear HO_6
            clear HO_9
            clear HO_214002
            clear BK197
            clear BK213
            clear HB
            have HO_6 := n0_
            have HO_9 := n1_
            have HO_214002 := n2_
            have HO223 := n3_
            have BK197 := n4_
            have BK213 := n5_
            have HB := n6_
            clear n0_ n1_ n2_ n3_ n4_ n5_ n6_
            (try clear hb)
            (try clear hb2)
            (try clear hk)
            (try clear hi)
            (try clear ho0)
            obtain ⟨Ao41, co41, eo41⟩ := Kd.S_slice HO223.out
            (first | subst eo41 | (injection eo41 with f1_ f2_ f3_; have f4_ := f1_.symm; have f5_ := f3_.symm; clear f1_ f2_ f3_; subst f4_; subst f5_))
            refine hK.out _ _ ⟨(blk_cell BK213.out 0).trans rfl, (blk_cell BK213.out 1).trans rfl, (blk_cell BK213.out 2).trans rfl, (blk_cell BK197.out 0).trans rfl, (blk_cell BK197.out 1).trans rfl, (blk_cell BK197.out 2).trans rfl⟩ (fun hHeld => ?_)
            clear hK K
            refine norm_ (a' := ?_) ?_ ?_
            rotate_left
            · show Act.put _ (some 47) _ = _
              simp only [Act.put, List.setIfInBounds_toArray, List.set_cons_zero, List.set_cons_succ, i64_w, i32_w]
              rfl
            refine one_ (i := 3) (N := some 48) #[true, true, true, true, false] rfl rfl (by kernel_rfl) (by decide) (fun K hK => ?_)
            refine goes_ Try.func37 (by kernel_rfl) rfl #[.agg #[.string t208, .int .i64 t209, .slice Ao25 t210.length co25], .agg #[.string t219, .int .i64 t220, .slice Ao41 t221.length co41]] (by rfl) rfl rfl (by (try simp only [List.map_toArray, List.map_cons, List.map_nil]); first | done | rfl | (simp only [List.length_drop, List.length_take]; rfl)) ?_
            with_reducible refine (laws_eqReport.calls kj11 t208 t209 _ _ t210 t219 t220 _ _ t221 true _ ?side1 ?side2 ?side3 ?side4 A35.out).mono ?_
            (case side1 => exact cS (Kd.S_reads' HO_214002.out).2.2)
            (case side2 => exact (Kd.S_reads' HO_214002.out).2.1)
            (case side3 => exact cS (Kd.S_reads' HO223.out).2.2)
            (case side4 => exact (Kd.S_reads' HO223.out).2.1)
            rintro e w42 ⟨rfl, hb⟩
            refine ⟨_, rfl, ?_⟩
            have n0_ := AZ (Kd.R_below (rS HO_6.out) hb)
            have n1_ := AZ (Kd.R_below (rS HO_9.out) hb)
            have n2_ := AZ (Kd.S_below (sS HO_214002.out) hb)
            have n3_ := AZ (Kd.S_below (sS HO223.out) hb)
            have n4_ := blkA BK197 hb
            have n5_ := blkA BK213 hb
            have n6_ := AZ (below_step (bS HB.out) hb)
            clear HO_6
            clear HO_9
            clear HO_214002
            clear HO223
            clear BK197
            clear BK213
            clear HB
            have HO_6 := n0_
            have HO_9 := n1_
            have HO_214002 := n2_
            have HO223 := n3_
            have BK197 := n4_
            have BK213 := n5_
            have HB := n6_
            clear n0_ n1_ n2_ n3_ n4_ n5_ n6_
            (try clear hb)
            (try clear hb2)
            (try clear hk)
            (try clear hi)
            refine hK.out _ _ ⟨(blk_cell BK213.out 0).trans rfl, (blk_cell BK213.out 1).trans rfl, (blk_cell BK213.out 2).trans rfl, (blk_cell BK197.out 0).trans rfl, (blk_cell BK197.out 1).trans rfl, (blk_cell BK197.out 2).trans rfl⟩ (fun hHeld => ?_)
            clear hK K
            refine norm_ (a' := ?_) ?_ ?_
            rotate_left
            · show Act.put _ (some 48) _ = _
              simp only [Act.put, List.setIfInBounds_toArray, List.set_cons_zero, List.set_cons_succ, i64_w, i32_w]
              rfl
            refine pure_ (i := 4) (N := some 49) (v := ?_) (a' := ?_) #[true, true, true, true, true] rfl rfl (by kernel_rfl) (fun _ _ _ h => h) (Or.inl ⟨by rfl, ?_⟩) ?_ ?_
            rotate_left
            · intro w'
              go_simp
              with_reducible rfl
            rotate_left
            · simp only [Act.put, List.setIfInBounds_toArray, List.set_cons_zero, List.set_cons_succ, i64_w, i32_w]
              rfl
            refine done_ (by kernel_rfl) ?_
            have hnb43 := NB213_197.out
            have hnc43 := NB197_213.out
            have hcz44_0 : w42.cell? ⟨gb213, 0, none⟩ = some (.string t208) := (blk_cell BK213.out 0).trans rfl
            have hcz44_1 : w42.cell? ⟨gb213, 1, none⟩ = some (.int .i64 t209) := (blk_cell BK213.out 1).trans rfl
            have hcz44_2 : w42.cell? ⟨gb213, 2, none⟩ = some (.slice Ao25 t210.length co25) := (blk_cell BK213.out 2).trans rfl
            have hfz44_0 := blk_frozen BK213.out 0
            have hfz44_1 := blk_frozen BK213.out 1
            have hfz44_2 := blk_frozen BK213.out 2
            go_upto_region 14 with (first | ((with_reducible refine gate_callee (f := 40) rfl ?_); refine gL (some 52) Try.func40 #[.agg #[.string t208, .int .i64 t209, .slice Ao25 t210.length co25], .int .i64 1] ?_; (with_reducible refine (laws_markReport.calls kj11 t208 t209 ?P1 (.slice Ao25 t210.length co25) t210 1 t225 w _ ?side1 ?side2 ?side3 A37.out).mono ?_); (case side1 => repeat (first | (with_reducible first | exact HB.out | apply below_alloc | apply pw_below_drewN | apply below_drew1 | refine below_set ?_ GE197.out | refine below_set ?_ GE213.out) | exact HB.out)); (case side2 => exact Kd.S_bound (HO_214002.out)); (case side3 => exact fun k_ hk_ => hk_.2.2.1); rintro e w45 ⟨rfl, hb, hkp⟩; refine ⟨_, rfl, ?_⟩; have n0_ := AZ (Kd.R_mono (Kd.R_kept (Kd.R_tight rfl (HO_6.out)) hkp (fun k_ e_ hs_ => (((hs_).1.1.1) e_))) (fun k_ e_ => (HO_6.out).1 k_ e_.symm)); have n1_ := AZ (Kd.R_mono (Kd.R_kept (Kd.R_tight rfl (HO_9.out)) hkp (fun k_ e_ hs_ => (((hs_).1.1.2) e_))) (fun k_ e_ => (HO_9.out).1 k_ e_.symm)); have n2_ := AZ (blk_kept (g := gb197) (o := .cells #[.string a0_0, .int .i64 a0_1, .slice A0_2 l0_2.length c0_2] 45 (0, 0)) (blkS BK197.out) hkp (fun hs_ => (typed_absurd ((hs_).2.2.2) ⟨_, blkS BK197.out⟩ (by decide)))); have n3_ := AZ (blk_kept (g := gb213) (o := .cells #[.string t208, .int .i64 t209, .slice Ao25 t210.length co25] 50 (0, 0)) (blkS BK213.out) hkp (fun hs_ => (typed_absurd ((hs_).2.2.2) ⟨_, blkS BK213.out⟩ (by decide)))); have n4_ := AZ (hb); clear HO_6; clear HO_9; clear BK197; clear BK213; clear HB; clear HO_214002; clear HO223; have HO_6 := n0_; have HO_9 := n1_; have BK197 := n2_; have BK213 := n3_; have HB := n4_; clear n0_ n1_ n2_ n3_ n4_; (try clear hb hkp)))
            (try simp only [Act.put, List.setIfInBounds_toArray, List.set_cons_zero, List.set_cons_succ])
            go_cut [65] (fun v65 wc => ∃ (kq : Nat) (x65_37 : Bool), v65 = .bool x65_37 ∧ Aside0 (laws_FnExactColumnOf.j1 kq a1 t204 t207 t214 x65_37 a0_0 a0_1 l0_2 = some r) ∧ Aside0 (kq ≤ kj11) ∧ Aside0 (Kd.R (Kd.int .i64) 3 wc w.heap.size (fun k_ => some k_ ≠ (v215 : Value).ownBlock) v205 t204) ∧ Aside0 (Kd.R (Kd.int .i64) 3 wc w.heap.size (fun k_ => some k_ ≠ (v205 : Value).ownBlock) v215 t214) ∧ Aside0 (wc.heap[gb197]? = some (.cells #[.string a0_0, .int .i64 a0_1, (.slice A0_2 l0_2.length c0_2)] 45 (0, 0))) ∧ Aside0 (Below w.heap.size w wc))
            case first =>
              have H := HC38.out
              clear HC38
              by_cases c46 : t225 < 0
              · rw [if_pos c46] at H
                have c46b0 : decide (t225 < 0) = true := decide_eq_true c46
                clear c46
                (first | rw [c46b0] | (simp only [i64_w, i32_w]; rw [c46b0]) | skip)
                have H' := Aside0.mk H
                clear H
                go_wp2
                go_meet
                case rel => exact ⟨_, (true), (by first | rfl | (simp; done) | (simp [*]; done)), H', ⟨by have := HJ11.out; first | omega | exact Nat.le_refl _⟩, ⟨rS HO_6.out⟩, ⟨rS HO_9.out⟩, ⟨blkS BK197.out⟩, ⟨bS HB.out⟩⟩
              · rw [if_neg c46] at H
                have c46b0 : decide (t225 < 0) = false := decide_eq_false c46
                clear c46
                (first | rw [c46b0] | (simp only [i64_w, i32_w]; rw [c46b0]) | skip)
                replace H := Option.bind_eq_some_iff.mp H
                obtain ⟨t226, A470, H⟩ := H
                replace H : (if t226 = true then (laws_FnExactColumnOf.j1 kj11 a1 t204 t207 t214 (t217 != t207) a0_0 a0_1 l0_2) else (laws_FnExactColumnOf.j1 kj11 a1 t204 t207 t214 true a0_0 a0_1 l0_2)) = some r := H
                have A47 := Aside0.mk A470
                clear A470
                by_cases c48 : t226 = true
                · subst c48
                  have H1 : (laws_FnExactColumnOf.j1 kj11 a1 t204 t207 t214 (t217 != t207) a0_0 a0_1 l0_2) = some r := by rw [if_pos rfl] at H; exact H
                  clear H
                  have H := H1
                  clear H1
                  have H' := Aside0.mk H
                  clear H
                  obtain ⟨Ao49, co49, eo49⟩ := Kd.R_slice HO_9.out
                  subst eo49
                  obtain ⟨Ao50, co50, eo50⟩ := Kd.R_slice HO_6.out
                  subst eo50
                  go_wp2_with (first | (go_at_call 21; (with_reducible refine (laws_eqIntS.calls kj11 _ _ t214 _ _ t204 true _ ?side1 ?side2 ?side3 ?side4 A47.out).mono ?_); (case side1 => exact cS (Kd.R_reads' HO_9.out).2.2); (case side2 => exact (Kd.R_reads' HO_9.out).2.1); (case side3 => exact cS (Kd.R_reads' HO_6.out).2.2); (case side4 => exact (Kd.R_reads' HO_6.out).2.1); rintro e w' ⟨rfl, ⟨nd, rfl⟩⟩))
                  go_meet
                  case rel => exact ⟨_, ((t217 != t207)), (by first | rfl | (simp; done) | (simp [*]; done)), H', ⟨by have := HJ11.out; first | omega | exact Nat.le_refl _⟩, ⟨rS HO_6.out⟩, ⟨rS HO_9.out⟩, ⟨blkS BK197.out⟩, ⟨bS HB.out⟩⟩
                · replace c48 := Bool.eq_false_iff.mpr c48
                  subst c48
                  have H1 : (laws_FnExactColumnOf.j1 kj11 a1 t204 t207 t214 true a0_0 a0_1 l0_2) = some r := by rw [if_neg (show ¬ (false = true) by decide)] at H; exact H
                  clear H
                  have H := H1
                  clear H1
                  have H' := Aside0.mk H
                  clear H
                  obtain ⟨Ao51, co51, eo51⟩ := Kd.R_slice HO_9.out
                  subst eo51
                  obtain ⟨Ao52, co52, eo52⟩ := Kd.R_slice HO_6.out
                  subst eo52
                  go_wp2_with (first | (go_at_call 21; (with_reducible refine (laws_eqIntS.calls kj11 _ _ t214 _ _ t204 false _ ?side1 ?side2 ?side3 ?side4 A47.out).mono ?_); (case side1 => exact cS (Kd.R_reads' HO_9.out).2.2); (case side2 => exact (Kd.R_reads' HO_9.out).2.1); (case side3 => exact cS (Kd.R_reads' HO_6.out).2.2); (case side4 => exact (Kd.R_reads' HO_6.out).2.1); rintro e w' ⟨rfl, ⟨nd, rfl⟩⟩))
                  go_meet
                  case rel => exact ⟨_, (true), (by first | rfl | (simp; done) | (simp [*]; done)), H', ⟨by have := HJ11.out; first | omega | exact Nat.le_refl _⟩, ⟨rS HO_6.out⟩, ⟨rS HO_9.out⟩, ⟨blkS BK197.out⟩, ⟨bS HB.out⟩⟩
            case rest =>
              clear HC38
              try clear c2
              try clear p2
              try clear c3
              try clear c4
              try clear c4b0
              try clear c9
              try clear c21
              try clear c23
              try clear c28
              try clear c33
              try clear c35
              try clear c36
              try clear c37
              try clear c38
              try clear c39
              try clear c40
              try clear c43
              try clear c46
              try clear c46b0
              try clear c48
              try clear hcz14_0
              try clear hcz14_1
              try clear hcz14_2
              try clear hcz16_0
              try clear hcz16_1
              try clear hcz16_2
              try clear hcz20_0
              try clear hcz20_1
              try clear hcz20_2
              try clear hcz24_0
              try clear hcz24_1
              try clear hcz24_2
              try clear hcz44_0
              try clear hcz44_1
              try clear hcz44_2
              try clear hcz6_0
              try clear hcz6_1
              try clear hcz6_2
              try clear hfz14_0
              try clear hfz14_1
              try clear hfz14_2
              try clear hfz16_0
              try clear hfz16_1
              try clear hfz16_2
              try clear hfz20_0
              try clear hfz20_1
              try clear hfz20_2
              try clear hfz24_0
              try clear hfz24_1
              try clear hfz24_2
              try clear hfz44_0
              try clear hfz44_1
              try clear hfz44_2
              try clear hfz6_0
              try clear hfz6_1
              try clear hfz6_2
              try clear p2
              obtain ⟨kq, x65_37, rfl, HA, HJ37, HO_6, HO_9, BK197, HB⟩ := hcut
              cases kq with
              | zero => exact absurd HA.out (by simp [laws_FnExactColumnOf.j1])
              | succ kj37 =>
                have H := HA.out
                clear HA
                simp only [laws_FnExactColumnOf.j1] at H
                by_cases c53 : x65_37 = true
                · subst c53
                  have H1 : (none) = some r := by rw [if_pos rfl] at H; exact H
                  clear H
                  have H := H1
                  clear H1
                  exact absurd H (by simp)
                · replace c53 := Bool.eq_false_iff.mpr c53
                  subst c53
                  have H1 : ((laws_markIntS.f kj37 t214 1).bind fun bt227 => ((laws_heldIntS.f kj37 bt227.2 1).bind fun t229 => (if t229 < 0 then (none) else (if t229 = bt227.1 then ((laws_toReport.f kj37 a0_0 a0_1 l0_2).bind fun bt230 => ((impl_ColumnOf.f kj37 bt230.1 bt230.2.1 bt230.2.2 a1).bind fun bt235 => ((laws_eqIntS.f kj37 bt235.1 t204).bind fun t239 => (if t239 = true then (laws_FnExactColumnOf.j2 kj37 bt227.2 bt227.1 (bt235.2 != t207)) else (laws_FnExactColumnOf.j2 kj37 bt227.2 bt227.1 true))))) else (none))))) = some r := by rw [if_neg (show ¬ (false = true) by decide)] at H; exact H
                  clear H
                  have H := H1
                  clear H1
                  replace H := Option.bind_eq_some_iff.mp H
                  obtain ⟨⟨t227, t228⟩, A540, H⟩ := H
                  replace H : ((laws_heldIntS.f kj37 t228 1).bind fun t229 => (if t229 < 0 then (none) else (if t229 = t227 then ((laws_toReport.f kj37 a0_0 a0_1 l0_2).bind fun bt230 => ((impl_ColumnOf.f kj37 bt230.1 bt230.2.1 bt230.2.2 a1).bind fun bt235 => ((laws_eqIntS.f kj37 bt235.1 t204).bind fun t239 => (if t239 = true then (laws_FnExactColumnOf.j2 kj37 t228 t227 (bt235.2 != t207)) else (laws_FnExactColumnOf.j2 kj37 t228 t227 true))))) else (none)))) = some r := H
                  have A54 := Aside0.mk A540
                  clear A540
                  replace H := Option.bind_eq_some_iff.mp H
                  obtain ⟨t229, A550, H⟩ := H
                  replace H : (if t229 < 0 then (none) else (if t229 = t227 then ((laws_toReport.f kj37 a0_0 a0_1 l0_2).bind fun bt230 => ((impl_ColumnOf.f kj37 bt230.1 bt230.2.1 bt230.2.2 a1).bind fun bt235 => ((laws_eqIntS.f kj37 bt235.1 t204).bind fun t239 => (if t239 = true then (laws_FnExactColumnOf.j2 kj37 t228 t227 (bt235.2 != t207)) else (laws_FnExactColumnOf.j2 kj37 t228 t227 true))))) else (none))) = some r := H
                  have A55 := Aside0.mk A550
                  clear A550
                  by_cases c56 : t229 < 0
                  · rw [if_pos c56] at H
                    exact absurd H (by simp)
                  · rw [if_neg c56] at H
                    have c56b0 : decide (t229 < 0) = false := decide_eq_false c56
                    clear c56
                    by_cases c57 : t229 = t227
                    · rw [if_pos c57] at H
                      have c57b0 : (t229 == t227) = true := beq_iff_eq.mpr c57
                      have c57b1 : (t229 != t227) = false := bne_eq_false_iff_eq.mpr c57
                      clear c57
                      replace H := Option.bind_eq_some_iff.mp H
                      obtain ⟨⟨t230, t231, t232⟩, A580, H⟩ := H
                      replace H : ((impl_ColumnOf.f kj37 t230 t231 t232 a1).bind fun bt235 => ((laws_eqIntS.f kj37 bt235.1 t204).bind fun t239 => (if t239 = true then (laws_FnExactColumnOf.j2 kj37 t228 t227 (bt235.2 != t207)) else (laws_FnExactColumnOf.j2 kj37 t228 t227 true)))) = some r := H
                      have A58 := Aside0.mk A580
                      clear A580
                      replace H := Option.bind_eq_some_iff.mp H
                      obtain ⟨⟨t235, t238⟩, A590, H⟩ := H
                      replace H : ((laws_eqIntS.f kj37 t235 t204).bind fun t239 => (if t239 = true then (laws_FnExactColumnOf.j2 kj37 t228 t227 (t238 != t207)) else (laws_FnExactColumnOf.j2 kj37 t228 t227 true))) = some r := H
                      have A59 := Aside0.mk A590
                      clear A590
                      have HC60 := Aside0.mk H
                      clear H
                      obtain ⟨Ao61, co61, eo61⟩ := Kd.R_slice HO_9.out
                      subst eo61
                      go_upto_region 25 with (first | ((with_reducible refine gate_callee (f := 25) rfl ?_); refine gL (some 68) Try.func25 #[.slice Ao61 t214.length co61, .int .i64 1] ?_; (with_reducible refine (laws_markIntS.calls kj37 (fun k_ => some k_ = (.slice Ao61 t214.length co61 : Value).ownBlock) (.slice Ao61 t214.length co61) t214 1 t227 t228 w _ ?side1 ?side2 A54.out).mono ?_); (case side1 => repeat (first | (with_reducible first | exact HB.out | apply below_alloc | apply pw_below_drewN | apply below_drew1 | refine below_set ?_ GE197.out) | exact HB.out)); (case side2 => exact Kd.R_tight rfl HO_9.out); rintro e w62 ⟨rfl, hy0, hb, hkp⟩; refine ⟨_, rfl, ?_⟩; have n0_ := AZ (Kd.R_mono (ok' := fun k_ => some k_ ≠ (.slice Ao61 t214.length co61 : Value).ownBlock) (Kd.R_keptB (HO_6.out) hkp (fun k_ hk_ hs_ => (hk_) hs_)) (fun k_ hk_ => hk_.1)); have n1_ := AZ (Kd.R_reok rfl hy0 (fun k_ e_ => HO_9.out.1 k_ e_)); have n2_ := AZ (blk_kept (blkS BK197.out) hkp (fun hs_ => (fun e_ => (Kd.R_ne HO_9.out BK197.out (by decide)) e_) hs_)); have n3_ := AZ (hb); clear HO_6; clear HO_9; clear BK197; clear HB; have HO_6 := n0_; have HO_9 := n1_; have BK197 := n2_; have HB := n3_; clear n0_ n1_ n2_ n3_; (try clear hb); (try clear hkp); (try clear hy0)) | ((with_reducible refine gate_callee (f := 32) rfl ?_); refine goesL_ (some 71) rfl rfl Try.func32 (by kernel_rfl) rfl #[.slice Ao61 t228.length co61, .int .i64 1] rfl (by (try simp only [List.map_toArray, List.map_cons, List.map_nil]); first | done | (rw [show t228.length = t214.length from (Kd.R_reads' HO_9.out).1.symm] <;> rfl) | rfl | (simp only [List.length_drop, List.length_take]; rfl)) ?_; (with_reducible refine (laws_heldIntS.calls kj37 _ _ t228 1 t229 _ ?side1 ?side2 A55.out).mono ?_); (case side1 => exact cS (Kd.R_reads' HO_9.out).2.2); (case side2 => rw [show t228.length = t214.length from (Kd.R_reads' HO_9.out).1.symm]; exact (Kd.R_reads' HO_9.out).2.1); rintro e w' ⟨rfl, ⟨nd, rfl⟩⟩; refine ⟨_, rfl, ?_⟩; have hcz63_0 : w62.cell? ⟨gb197, 0, none⟩ = some (.string a0_0) := (blk_cell BK197.out 0).trans rfl; have hcz63_1 : w62.cell? ⟨gb197, 1, none⟩ = some (.int .i64 a0_1) := (blk_cell BK197.out 1).trans rfl; have hcz63_2 : w62.cell? ⟨gb197, 2, none⟩ = some (.slice A0_2 l0_2.length c0_2) := (blk_cell BK197.out 2).trans rfl; have hfz63_0 := blk_frozen BK197.out 0; have hfz63_1 := blk_frozen BK197.out 1; have hfz63_2 := blk_frozen BK197.out 2) | ((with_reducible refine gate_callee (f := 35) rfl ?_); refine gL (some 79) Try.func35 #[.agg #[.string a0_0, .int .i64 a0_1, .slice A0_2 l0_2.length c0_2]] ?_; (with_reducible refine (laws_toReport.calls kj37 a0_0 a0_1 _ _ l0_2 t230 t231 t232 _ ?side1 ?side2 A58.out).mono ?_); (case side1 => exact cS (Kd.C_below HR0_2.out (bS HB.out))); (case side2 => exact HC0_2.out); rintro e w64 ⟨v233, rfl, ho0, hb⟩; refine ⟨_, rfl, ?_⟩; have n0_ := AZ (Kd.R_below (rS HO_6.out) hb); have n1_ := AZ (Kd.R_below (rS HO_9.out) hb); have n2_ := AZ (Kd.S_lower (Kd.S_new' (Kd.S_new' ho0 (Kd.R_lt (rS HO_6.out))) (Kd.R_lt (rS HO_9.out))) (below_size (bS HB.out))); have n3_ := blkA BK197 hb; have n4_ := AZ (below_step (bS HB.out) hb); clear HO_6; clear HO_9; clear BK197; clear HB; have HO_6 := n0_; have HO_9 := n1_; have HO234 := n2_; have BK197 := n3_; have HB := n4_; clear n0_ n1_ n2_ n3_ n4_; (try clear hb ho0); obtain ⟨Ao65, co65, eo65⟩ := Kd.S_slice HO234.out; subst eo65) | ((with_reducible refine gate_callee (f := 39) rfl ?_); refine gL (some 81) Try.func39 #[.agg #[.string t230, .int .i64 t231, .slice Ao65 t232.length co65], .int .i64 a1] ?_; (with_reducible refine (impl_ColumnOf.calls kj37 t230 t231 _ _ t232 a1 t235 t238 _ ?side1 ?side2 A59.out).mono ?_); (case side1 => exact cS (Kd.S_reads' HO234.out).2.2); (case side2 => exact (Kd.S_reads' HO234.out).2.1); rintro e w66 ⟨v236, rfl, ho0, hb⟩; refine ⟨_, rfl, ?_⟩; have n0_ := AZ (Kd.R_elder' (rS HO_6.out) (Kd.R_base ho0) hb); have n1_ := AZ (Kd.R_elder' (rS HO_9.out) (Kd.R_base ho0) hb); have n2_ := AZ (Kd.S_elder' (sS HO234.out) (Kd.R_base ho0) hb); have n3_ := AZ (Kd.R_lower (Kd.R_new' (Kd.R_new' ho0 (Kd.R_lt (rS HO_6.out))) (Kd.R_lt (rS HO_9.out))) (below_size (bS HB.out))); have n4_ := blkA BK197 hb; have n5_ := AZ (below_step (bS HB.out) hb); clear HO_6; clear HO_9; clear HO234; clear BK197; clear HB; have HO_6 := n0_; have HO_9 := n1_; have HO234 := n2_; have HO237 := n3_; have BK197 := n4_; have HB := n5_; clear n0_ n1_ n2_ n3_ n4_ n5_; (try clear hb ho0)))
                      (try simp only [Act.put, List.setIfInBounds_toArray, List.set_cons_zero, List.set_cons_succ])
                      go_cut [92] (fun v92 wc => ∃ (kq : Nat) (x92_59 : Bool), v92 = .bool x92_59 ∧ Aside0 (laws_FnExactColumnOf.j2 kq t228 t227 x92_59 = some r) ∧ Aside0 (kq ≤ kj37) ∧ Aside0 (Kd.R (Kd.int .i64) 3 wc w.heap.size (fun _ => True) (.slice Ao61 t214.length co61) t228) ∧ Aside0 (wc.heap[gb197]? = some (.cells #[.string a0_0, .int .i64 a0_1, (.slice A0_2 l0_2.length c0_2)] 45 (0, 0))) ∧ Aside0 (Below w.heap.size w wc))
                      case first =>
                        have H := HC60.out
                        clear HC60
                        replace H := Option.bind_eq_some_iff.mp H
                        obtain ⟨t239, A670, H⟩ := H
                        replace H : (if t239 = true then (laws_FnExactColumnOf.j2 kj37 t228 t227 (t238 != t207)) else (laws_FnExactColumnOf.j2 kj37 t228 t227 true)) = some r := H
                        have A67 := Aside0.mk A670
                        clear A670
                        by_cases c68 : t239 = true
                        · subst c68
                          have H1 : (laws_FnExactColumnOf.j2 kj37 t228 t227 (t238 != t207)) = some r := by rw [if_pos rfl] at H; exact H
                          clear H
                          have H := H1
                          clear H1
                          have H' := Aside0.mk H
                          clear H
                          obtain ⟨Ao69, co69, eo69⟩ := Kd.R_slice HO237.out
                          subst eo69
                          obtain ⟨Ao70, co70, eo70⟩ := Kd.R_slice HO_6.out
                          subst eo70
                          go_wp2_with (first | ((with_reducible refine gate_callee (f := 21) rfl ?_); refine gL (some 86) Try.func21 #[.slice Ao69 t235.length co69, .slice Ao70 t204.length co70] ?_; (with_reducible refine (laws_eqIntS.calls kj37 _ _ t235 _ _ t204 true _ ?side1 ?side2 ?side3 ?side4 A67.out).mono ?_); (case side1 => exact cS (Kd.R_reads' HO237.out).2.2); (case side2 => exact (Kd.R_reads' HO237.out).2.1); (case side3 => exact cS (Kd.R_reads' HO_6.out).2.2); (case side4 => exact (Kd.R_reads' HO_6.out).2.1); rintro e w' ⟨rfl, ⟨nd, rfl⟩⟩; refine ⟨_, rfl, ?_⟩))
                          go_meet
                          case rel => exact ⟨_, ((t238 != t207)), (by first | rfl | (simp; done) | (simp [*]; done)), H', ⟨by have := HJ11.out; have := HJ37.out; first | omega | exact Nat.le_refl _⟩, ⟨rS (Kd.R_mono HO_9.out (fun _ hk => trivial))⟩, ⟨blkS BK197.out⟩, ⟨bS HB.out⟩⟩
                        · replace c68 := Bool.eq_false_iff.mpr c68
                          subst c68
                          have H1 : (laws_FnExactColumnOf.j2 kj37 t228 t227 true) = some r := by rw [if_neg (show ¬ (false = true) by decide)] at H; exact H
                          clear H
                          have H := H1
                          clear H1
                          have H' := Aside0.mk H
                          clear H
                          obtain ⟨Ao71, co71, eo71⟩ := Kd.R_slice HO237.out
                          subst eo71
                          obtain ⟨Ao72, co72, eo72⟩ := Kd.R_slice HO_6.out
                          subst eo72
                          go_wp2_with (first | ((with_reducible refine gate_callee (f := 21) rfl ?_); refine gL (some 86) Try.func21 #[.slice Ao71 t235.length co71, .slice Ao72 t204.length co72] ?_; (with_reducible refine (laws_eqIntS.calls kj37 _ _ t235 _ _ t204 false _ ?side1 ?side2 ?side3 ?side4 A67.out).mono ?_); (case side1 => exact cS (Kd.R_reads' HO237.out).2.2); (case side2 => exact (Kd.R_reads' HO237.out).2.1); (case side3 => exact cS (Kd.R_reads' HO_6.out).2.2); (case side4 => exact (Kd.R_reads' HO_6.out).2.1); rintro e w' ⟨rfl, ⟨nd, rfl⟩⟩; refine ⟨_, rfl, ?_⟩))
                          go_meet
                          case rel => exact ⟨_, (true), (by first | rfl | (simp; done) | (simp [*]; done)), H', ⟨by have := HJ11.out; have := HJ37.out; first | omega | exact Nat.le_refl _⟩, ⟨rS (Kd.R_mono HO_9.out (fun _ hk => trivial))⟩, ⟨blkS BK197.out⟩, ⟨bS HB.out⟩⟩
                      case rest =>
                        clear HC60
                        try clear c2
                        try clear p2
                        try clear c3
                        try clear c4
                        try clear c4b0
                        try clear c5
                        try clear c6
                        try clear c9
                        try clear c21
                        try clear c23
                        try clear c25
                        try clear c28
                        try clear c32
                        try clear c33
                        try clear c35
                        try clear c36
                        try clear c37
                        try clear c38
                        try clear c39
                        try clear c40
                        try clear c43
                        try clear c46
                        try clear c46b0
                        try clear c48
                        try clear c53
                        try clear c56
                        try clear c56b0
                        try clear c57
                        try clear c57b0
                        try clear c57b1
                        try clear c68
                        try clear hcz14_0
                        try clear hcz14_1
                        try clear hcz14_2
                        try clear hcz16_0
                        try clear hcz16_1
                        try clear hcz16_2
                        try clear hcz20_0
                        try clear hcz20_1
                        try clear hcz20_2
                        try clear hcz24_0
                        try clear hcz24_1
                        try clear hcz24_2
                        try clear hcz44_0
                        try clear hcz44_1
                        try clear hcz44_2
                        try clear hcz63_0
                        try clear hcz63_1
                        try clear hcz63_2
                        try clear hcz6_0
                        try clear hcz6_1
                        try clear hcz6_2
                        try clear hfz14_0
                        try clear hfz14_1
                        try clear hfz14_2
                        try clear hfz16_0
                        try clear hfz16_1
                        try clear hfz16_2
                        try clear hfz20_0
                        try clear hfz20_1
                        try clear hfz20_2
                        try clear hfz24_0
                        try clear hfz24_1
                        try clear hfz24_2
                        try clear hfz44_0
                        try clear hfz44_1
                        try clear hfz44_2
                        try clear hfz63_0
                        try clear hfz63_1
                        try clear hfz63_2
                        try clear hfz6_0
                        try clear hfz6_1
                        try clear hfz6_2
                        try clear p2
                        obtain ⟨kq, x92_59, rfl, HA, HJ59, HO_9, BK197, HB⟩ := hcut
                        have hl9_59 := (Kd.R_reads' HO_9.out).1
                        rw [hl9_59] at HO_9
                        (try simp only [hl9_59])
                        (try simp only [hl9_59] at BK197)
                        cases kq with
                        | zero => exact absurd HA.out (by simp [laws_FnExactColumnOf.j2])
                        | succ kj59 =>
                          have H := HA.out
                          clear HA
                          simp only [laws_FnExactColumnOf.j2] at H
                          by_cases c73 : x92_59 = true
                          · subst c73
                            have H1 : (none) = some r := by rw [if_pos rfl] at H; exact H
                            clear H
                            have H := H1
                            clear H1
                            exact absurd H (by simp)
                          · replace c73 := Bool.eq_false_iff.mpr c73
                            subst c73
                            have H1 : ((laws_heldIntS.f kj59 t228 1).bind fun t240 => (if t240 < 0 then (none) else (if t240 = t227 then (some true) else (none)))) = some r := by rw [if_neg (show ¬ (false = true) by decide)] at H; exact H
                            clear H
                            have H := H1
                            clear H1
                            replace H := Option.bind_eq_some_iff.mp H
                            obtain ⟨t240, A740, H⟩ := H
                            replace H : (if t240 < 0 then (none) else (if t240 = t227 then (some true) else (none))) = some r := H
                            have A74 := Aside0.mk A740
                            clear A740
                            by_cases c75 : t240 < 0
                            · rw [if_pos c75] at H
                              exact absurd H (by simp)
                            · rw [if_neg c75] at H
                              have c75b0 : decide (t240 < 0) = false := decide_eq_false c75
                              clear c75
                              by_cases c76 : t240 = t227
                              · rw [if_pos c76] at H
                                have c76b0 : (t240 == t227) = true := beq_iff_eq.mpr c76
                                have c76b1 : (t240 != t227) = false := bne_eq_false_iff_eq.mpr c76
                                clear c76
                                obtain rfl := Option.some.inj H
                                go_wp2_with (first | ((with_reducible refine gate_callee (f := 32) rfl ?_); refine gL (some 95) Try.func32 #[.slice Ao61 t228.length co61, .int .i64 1] ?_; (with_reducible refine (laws_heldIntS.calls kj59 _ _ t228 1 t240 _ ?side1 ?side2 A74.out).mono ?_); (case side1 => exact cS (Kd.R_reads' HO_9.out).2.2); (case side2 => exact (Kd.R_reads' HO_9.out).2.1); rintro e w' ⟨rfl, ⟨nd, rfl⟩⟩; refine ⟨_, rfl, ?_⟩))
                                go_ret
                                exact ⟨by first | rfl | (simp; done) | (simp [*]; done), bS HB.out⟩
                              · rw [if_neg c76] at H
                                exact absurd H (by simp)
                    · rw [if_neg c57] at H
                      exact absurd H (by simp)
          · replace c36 := Bool.eq_false_iff.mpr c36
            subst c36
            have H1 : (none) = some r := by rw [if_neg (show ¬ (false = true) by decide)] at H; exact H
            clear H
            have H := H1
            clear H1
            exact absurd H (by simp)

end Go.Proofs.Ytoaefflonebgkaa.PFnExactColumnOf
