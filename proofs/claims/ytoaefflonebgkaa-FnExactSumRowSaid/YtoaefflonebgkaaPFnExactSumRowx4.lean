-- Written by a program of this claim (patch_print.py over the print): no hand has typed it.
import Derived.Test.YtoaefflonebgkaaPFnExactSumRowx0
import Derived.Test.YtoaefflonebgkaaPFnExactSumRowx3
namespace Go.Proofs.Ytoaefflonebgkaa.PFnExactSumRow
open Go.RowKit Go.Proofs.YtoaefflonebgkaaW.PrintWords Go.Proofs.YtoaefflonebgkaaW.PrintLast Go.Proofs.YtoaefflonebgkaaW.PrintMore
attribute [local go_sem] max2_int min2_int max_two min_two max_three min_three max_four min_four   -- for this text's walks alone
set_option linter.unusedVariables false
set_option linter.unusedSimpArgs false

/-! ### spec_rpGood: function 74 -/
def spec_rpGood.l0 : Nat → List (S58) → Int → Int → ByteArray → Int → List (S58) → Option (Bool)
  | 0, _, _, _, _, _, _ => none
  | k + 1, x6, x7, x8, x161000, x161001, x161002 => if x8 < x7 then (if 0 ≤ x8 then (if x8 < (x6.length : Int) then ((spec_rpName.f k ((rd_T58 x6 x8).f0)).bind fun t165 => (if t165 = true then ((spec_rpRow.f k x161000 x161001 x161002 ((rd_T58 x6 x8).f0)).bind fun t166 => (if t166 = x8 then (if (((rd_T58 x6 x8).f1).length : Int) = x161001 then ((spec_l1All.f k ((rd_T58 x6 x8).f1) (-1000000000) 1000000000).bind fun t167 => (if t167 = true then (spec_rpGood.l0 k x6 x7 (wrap64 (x8 + 1)) x161000 x161001 x161002) else (some false))) else (some false)) else (some false))) else (some false))) else (none)) else (none)) else ((spec_rpName.f k x161000).bind fun t161 => (if t161 = true then ((spec_l1In.f x161001 1 8).bind fun t162 => (if t162 = true then (some (decide ((x161002.length : Int) ≤ 40))) else (some false))) else (some false)))
def spec_rpGood.f (k : Nat) (a0_0 : ByteArray) (a0_1 : Int) (l0_2 : List (S58)) : Option (Bool) := spec_rpGood.l0 k l0_2 (l0_2.length : Int) 0 a0_0 a0_1 l0_2
set_option maxHeartbeats 8000000 in
set_option maxRecDepth 100000 in
theorem spec_rpGood.calls (k : Nat) (a0_0 : ByteArray) (a0_1 : Int) (A0_2 : Option Addr) (c0_2 : Nat) (l0_2 : List (S58)) (r : Bool) (w : World) (hr0_2 : Kd.C k58 w A0_2 l0_2.length l0_2) (hc0_2 : l0_2.length ≤ c0_2) (h : spec_rpGood.f k a0_0 a0_1 l0_2 = some r) :
    Calls Try.prog 74 #[.agg #[.string a0_0, .int .i64 a0_1, .slice A0_2 l0_2.length c0_2]] w fun e w' => e = .returned (.bool r) ∧ Below w.heap.size w w' := by
  have hu50 := Try.underlying50
  have hu58 := Try.underlying58
  have HR0_2 := Aside0.mk hr0_2
  have HC0_2 := Aside0.mk hc0_2
  clear hr0_2 hc0_2
  have HB := AZ (Below.refl w.heap.size w)
  have H : (spec_rpGood.l0 k l0_2 (l0_2.length : Int) 0 a0_0 a0_1 l0_2) = some r := h
  clear h
  have H' := Aside0.mk H
  clear H
  go_enter Try.func74, Try.ntmps74
  go_wp2_with (first | ((with_reducible refine gate_dst (N := 1) rfl ?_); (try (refine gate_guard (by rfl) ?_; dsimp only)); refine box_event ?hg (N := 1) ?hd (cs := #[.string a0_0, .int .i64 a0_1, .slice A0_2 l0_2.length c0_2]) (t := 50) ?hr ?_; (case hd => rfl); (case hg => rfl); (case hr => first | (go_simp; done) | (go_simp; rfl)); intro gb160 hg w2 hbox hb; have n0_ := AZ (below_step (bS HB.out) hb); have n1_ := AZ (hbox); have n2_ := AZ (geS hg HB.out); have n3_ := AZ (geS hg HB.out); clear HB; have HB := n0_; have BK160 := n1_; have GW160 := n2_; have GE160 := n3_; clear n0_ n1_ n2_ n3_; clear hb hbox hg; have hcz3_0 : w2.cell? ⟨gb160, 0, none⟩ = some (.string a0_0) := (blk_cell BK160.out 0).trans rfl; have hcz3_1 : w2.cell? ⟨gb160, 1, none⟩ = some (.int .i64 a0_1) := (blk_cell BK160.out 1).trans rfl; have hcz3_2 : w2.cell? ⟨gb160, 2, none⟩ = some (.slice A0_2 l0_2.length c0_2) := (blk_cell BK160.out 2).trans rfl; have hfz3_0 := blk_frozen BK160.out 0; have hfz3_1 := blk_frozen BK160.out 1; have hfz3_2 := blk_frozen BK160.out 2))
  go_loopg [8] k (fun kq v8 w' => ∃ (x8_1 : Int), v8 = .int .i64 x8_1 ∧ Aside0 (spec_rpGood.l0 kq l0_2 (l0_2.length : Int) x8_1 a0_0 a0_1 l0_2 = some r) ∧ Aside0 (kq ≤ k) ∧ Aside0 (w'.heap[gb160]? = some (.cells #[.string a0_0, .int .i64 a0_1, (.slice A0_2 l0_2.length c0_2)] 50 (0, 0))) ∧ Aside0 (Below w.heap.size w w'))
  case atStart => exact ⟨(0), (by first | rfl | (simp; done) | (simp [*]; done)), H', ⟨Nat.le_refl _⟩, ⟨blkS BK160.out⟩, ⟨bS HB.out⟩⟩
  case round =>
    clear H'
    try clear p2
    try clear hcz3_0
    try clear hcz3_1
    try clear hcz3_2
    try clear hfz3_0
    try clear hfz3_1
    try clear hfz3_2
    obtain ⟨x8_1, rfl, HA, HK1, BK160, HB⟩ := hrel
    cases gk with
    | zero => exact absurd HA.out (by simp [spec_rpGood.l0])
    | succ k1 =>
      have H := HA.out
      clear HA
      simp only [spec_rpGood.l0] at H
      by_cases c4 : x8_1 < (l0_2.length : Int)
      · rw [if_pos c4] at H
        have c4b0 : decide (x8_1 < (l0_2.length : Int)) = true := decide_eq_true c4
        clear c4
        by_cases c5 : 0 ≤ x8_1
        · rw [if_pos c5] at H
          have c5b0 : decide (0 ≤ x8_1) = true := decide_eq_true c5
          clear c5
          by_cases c6 : x8_1 < (l0_2.length : Int)
          · rw [if_pos c6] at H
            have c6b0 : decide (x8_1 < (l0_2.length : Int)) = true := decide_eq_true c6
            clear c6
            replace H := Option.bind_eq_some_iff.mp H
            obtain ⟨t165, A70, H⟩ := H
            replace H : (if t165 = true then ((spec_rpRow.f k1 a0_0 a0_1 l0_2 ((rd_T58 l0_2 x8_1).f0)).bind fun t166 => (if t166 = x8_1 then (if (((rd_T58 l0_2 x8_1).f1).length : Int) = a0_1 then ((spec_l1All.f k1 ((rd_T58 l0_2 x8_1).f1) (-1000000000) 1000000000).bind fun t167 => (if t167 = true then (spec_rpGood.l0 k1 l0_2 (l0_2.length : Int) (wrap64 (x8_1 + 1)) a0_0 a0_1 l0_2) else (some false))) else (some false)) else (some false))) else (some false)) = some r := H
            have A7 := Aside0.mk A70
            clear A70
            by_cases c8 : t165 = true
            · subst c8
              have H1 : ((spec_rpRow.f k1 a0_0 a0_1 l0_2 ((rd_T58 l0_2 x8_1).f0)).bind fun t166 => (if t166 = x8_1 then (if (((rd_T58 l0_2 x8_1).f1).length : Int) = a0_1 then ((spec_l1All.f k1 ((rd_T58 l0_2 x8_1).f1) (-1000000000) 1000000000).bind fun t167 => (if t167 = true then (spec_rpGood.l0 k1 l0_2 (l0_2.length : Int) (wrap64 (x8_1 + 1)) a0_0 a0_1 l0_2) else (some false))) else (some false)) else (some false))) = some r := by rw [if_pos rfl] at H; exact H
              clear H
              have H := H1
              clear H1
              replace H := Option.bind_eq_some_iff.mp H
              obtain ⟨t166, A90, H⟩ := H
              replace H : (if t166 = x8_1 then (if (((rd_T58 l0_2 x8_1).f1).length : Int) = a0_1 then ((spec_l1All.f k1 ((rd_T58 l0_2 x8_1).f1) (-1000000000) 1000000000).bind fun t167 => (if t167 = true then (spec_rpGood.l0 k1 l0_2 (l0_2.length : Int) (wrap64 (x8_1 + 1)) a0_0 a0_1 l0_2) else (some false))) else (some false)) else (some false)) = some r := H
              have A9 := Aside0.mk A90
              clear A90
              by_cases c10 : t166 = x8_1
              · rw [if_pos c10] at H
                have c10b0 : (t166 == x8_1) = true := beq_iff_eq.mpr c10
                have c10b1 : (t166 != x8_1) = false := bne_eq_false_iff_eq.mpr c10
                clear c10
                by_cases c11 : (((rd_T58 l0_2 x8_1).f1).length : Int) = a0_1
                · rw [if_pos c11] at H
                  have c11b0 : ((((rd_T58 l0_2 x8_1).f1).length : Int) == a0_1) = true := beq_iff_eq.mpr c11
                  have c11b1 : ((((rd_T58 l0_2 x8_1).f1).length : Int) != a0_1) = false := bne_eq_false_iff_eq.mpr c11
                  clear c11
                  replace H := Option.bind_eq_some_iff.mp H
                  obtain ⟨t167, A120, H⟩ := H
                  replace H : (if t167 = true then (spec_rpGood.l0 k1 l0_2 (l0_2.length : Int) (wrap64 (x8_1 + 1)) a0_0 a0_1 l0_2) else (some false)) = some r := H
                  have A12 := Aside0.mk A120
                  clear A120
                  by_cases c13 : t167 = true
                  · subst c13
                    have H1 : (spec_rpGood.l0 k1 l0_2 (l0_2.length : Int) (wrap64 (x8_1 + 1)) a0_0 a0_1 l0_2) = some r := by rw [if_pos rfl] at H; exact H
                    clear H
                    have H := H1
                    clear H1
                    have H' := Aside0.mk H
                    clear H
                    have p163 : 0 ≤ (x8_1 : Int) := of_decide_eq_true (by assumption)
                    have q163 : x8_1 < (l0_2.length : Int) := of_decide_eq_true (by assumption)
                    obtain ⟨ad163, A163_1, c163_1, e163, hx163_0, hx163_1, hl163_1, hi163_1⟩ := at_T58 HR0_2.out x8_1 p163 q163
                    cases e163
                    replace hx163_0 := (HB.out.cell (World.block_lt_of_cell? w _ hx163_0)).trans hx163_0
                    replace hx163_1 := (HB.out.cell (World.block_lt_of_cell? w _ hx163_1)).trans hx163_1
                    have HR163_1 := Aside0.mk hi163_1
                    have HC163_1 := Aside0.mk hl163_1
                    clear hi163_1 hl163_1
                    replace p163 := eq_true p163
                    replace q163 := eq_true q163
                    go_wp2_with (first | ((with_reducible refine gate_dst (N := 4) rfl ?_); (try (refine gate_guard (by rfl) ?_; dsimp only)); refine box_event ?hg (N := 4) ?hd (cs := #[.string (⟨#[]⟩ : ByteArray), .slice none 0 0]) (t := 58) ?hr ?_; (case hd => rfl); (case hg => rfl); (case hr => first | (go_simp; done) | (go_simp; rfl)); intro gb164 hg w14 hbox hb; have n0_ := blkA BK160 hb; have n1_ := AZ (below_step (bS HB.out) hb); have n2_ := AZ (hbox); have n3_ := AZ (geS hg HB.out); have n4_ := AZ (geS hg HB.out); have n5_ := AZ ((by rw [hg]; exact Nat.ne_of_lt (blkL BK160.out) : gb160 ≠ gb164)); have n6_ := AZ ((by rw [hg]; exact Nat.ne_of_gt (blkL BK160.out) : gb164 ≠ gb160)); clear BK160; clear HB; have BK160 := n0_; have HB := n1_; have BK164 := n2_; have GW164 := n3_; have GE164 := n4_; have NB160_164 := n5_; have NB164_160 := n6_; clear n0_ n1_ n2_ n3_ n4_ n5_ n6_; clear hb hbox hg; have hnb15 := NB164_160.out; have hnc15 := NB160_164.out; have hcz16_0 : w14.cell? ⟨gb164, 0, none⟩ = some (.string (⟨#[]⟩ : ByteArray)) := (blk_cell BK164.out 0).trans rfl; have hcz16_1 : w14.cell? ⟨gb164, 1, none⟩ = some (.slice none 0 0) := (blk_cell BK164.out 1).trans rfl; have hfz16_0 := blk_frozen BK164.out 0; have hfz16_1 := blk_frozen BK164.out 1) | ((with_reducible refine gate_callee (f := 82) rfl ?_); refine gL (some 15) Try.func82 #[.string ((rd_T58 l0_2 x8_1).f0)] ?_; (with_reducible refine (spec_rpName.calls k1 ((rd_T58 l0_2 x8_1).f0) true _ A7.out).mono ?_); rintro e w' ⟨rfl, ⟨nd, rfl⟩⟩; refine ⟨_, rfl, ?_⟩; have hcz17_0 : w14.cell? ⟨gb160, 0, none⟩ = some (.string a0_0) := (blk_cell BK160.out 0).trans rfl; have hcz17_1 : w14.cell? ⟨gb160, 1, none⟩ = some (.int .i64 a0_1) := (blk_cell BK160.out 1).trans rfl; have hcz17_2 : w14.cell? ⟨gb160, 2, none⟩ = some (.slice (some ad163) l0_2.length c0_2) := (blk_cell BK160.out 2).trans rfl; have hfz17_0 := blk_frozen BK160.out 0; have hfz17_1 := blk_frozen BK160.out 1; have hfz17_2 := blk_frozen BK160.out 2) | (go_at_call 83; (with_reducible refine (spec_rpRow.calls k1 a0_0 a0_1 _ _ l0_2 ((rd_T58 l0_2 x8_1).f0) t166 _ ?side1 ?side2 A9.out).mono ?_); (case side1 => exact Kd.C_below HR0_2.out (bS HB.out)); (case side2 => exact HC0_2.out); rintro e w18 ⟨rfl, hb⟩; have n0_ := AZ (blk_below (g := gb160) (o := .cells #[.string a0_0, .int .i64 a0_1, .slice (some ad163) l0_2.length c0_2] 50 (0, 0)) (by (with_reducible repeat (first | refine blk_drewN ?_ _ | refine blk_drew ?_ | refine blk_alloc ?_ _)); refine blk_far ?_ NB160_164.out _; (with_reducible repeat (first | refine blk_drewN ?_ _ | refine blk_drew ?_ | refine blk_alloc ?_ _)); refine blk_far ?_ NB160_164.out _; (with_reducible repeat (first | refine blk_drewN ?_ _ | refine blk_drew ?_ | refine blk_alloc ?_ _)); exact BK160.out) hb); have n1_ := AZ (blk_below (g := gb164) (o := .cells #[.string ((rd_T58 l0_2 x8_1).f0), .slice A163_1 ((rd_T58 l0_2 x8_1).f1).length c163_1] 58 (0, 0)) (by (with_reducible repeat (first | refine blk_drewN ?_ _ | refine blk_drew ?_ | refine blk_alloc ?_ _)); refine blk_put (cs := #[.string ((rd_T58 l0_2 x8_1).f0), .slice none 0 0]) ?_ 1 _ rfl; (with_reducible repeat (first | refine blk_drewN ?_ _ | refine blk_drew ?_ | refine blk_alloc ?_ _)); refine blk_put (cs := #[.string (⟨#[]⟩ : ByteArray), .slice none 0 0]) ?_ 0 _ rfl; (with_reducible repeat (first | refine blk_drewN ?_ _ | refine blk_drew ?_ | refine blk_alloc ?_ _)); exact BK164.out) hb); have n2_ := AZ (below_step (bS HB.out) hb); clear BK160; clear BK164; clear HB; have BK160 := n0_; have BK164 := n1_; have HB := n2_; clear n0_ n1_ n2_; (try clear hb); have hcz19_0 : w18.cell? ⟨gb164, 0, none⟩ = some (.string ((rd_T58 l0_2 x8_1).f0)) := (blk_cell BK164.out 0).trans rfl; have hcz19_1 : w18.cell? ⟨gb164, 1, none⟩ = some (.slice A163_1 ((rd_T58 l0_2 x8_1).f1).length c163_1) := (blk_cell BK164.out 1).trans rfl; have hfz19_0 := blk_frozen BK164.out 0; have hfz19_1 := blk_frozen BK164.out 1; have hcz20_0 : w18.cell? ⟨gb160, 0, none⟩ = some (.string a0_0) := (blk_cell BK160.out 0).trans rfl; have hcz20_1 : w18.cell? ⟨gb160, 1, none⟩ = some (.int .i64 a0_1) := (blk_cell BK160.out 1).trans rfl; have hcz20_2 : w18.cell? ⟨gb160, 2, none⟩ = some (.slice (some ad163) l0_2.length c0_2) := (blk_cell BK160.out 2).trans rfl; have hfz20_0 := blk_frozen BK160.out 0; have hfz20_1 := blk_frozen BK160.out 1; have hfz20_2 := blk_frozen BK160.out 2) | (go_at_call 86; (with_reducible refine (spec_l1All.calls k1 _ _ ((rd_T58 l0_2 x8_1).f1) (-1000000000) 1000000000 true _ ?side1 ?side2 A12.out).mono ?_); (case side1 => exact cS (Kd.C_below HR163_1.out HB.out)); (case side2 => exact HC163_1.out); rintro e w' ⟨rfl, ⟨nd, rfl⟩⟩))
                    go_roundg k1
                    case measure => have := HK1.out; omega
                    case rel => exact ⟨(wrap64 (x8_1 + 1)), (by first | rfl | (simp; done) | (simp [*]; done)), H', ⟨by have := HK1.out; omega⟩, ⟨blkS BK160.out⟩, ⟨bS HB.out⟩⟩
                  · replace c13 := Bool.eq_false_iff.mpr c13
                    subst c13
                    have H1 : (some false) = some r := by rw [if_neg (show ¬ (false = true) by decide)] at H; exact H
                    clear H
                    have H := H1
                    clear H1
                    obtain rfl := Option.some.inj H
                    have p163 : 0 ≤ (x8_1 : Int) := of_decide_eq_true (by assumption)
                    have q163 : x8_1 < (l0_2.length : Int) := of_decide_eq_true (by assumption)
                    obtain ⟨ad163, A163_1, c163_1, e163, hx163_0, hx163_1, hl163_1, hi163_1⟩ := at_T58 HR0_2.out x8_1 p163 q163
                    cases e163
                    replace hx163_0 := (HB.out.cell (World.block_lt_of_cell? w _ hx163_0)).trans hx163_0
                    replace hx163_1 := (HB.out.cell (World.block_lt_of_cell? w _ hx163_1)).trans hx163_1
                    have HR163_1 := Aside0.mk hi163_1
                    have HC163_1 := Aside0.mk hl163_1
                    clear hi163_1 hl163_1
                    replace p163 := eq_true p163
                    replace q163 := eq_true q163
                    go_wp2_with (first | ((with_reducible refine gate_dst (N := 4) rfl ?_); (try (refine gate_guard (by rfl) ?_; dsimp only)); refine box_event ?hg (N := 4) ?hd (cs := #[.string (⟨#[]⟩ : ByteArray), .slice none 0 0]) (t := 58) ?hr ?_; (case hd => rfl); (case hg => rfl); (case hr => first | (go_simp; done) | (go_simp; rfl)); intro gb164 hg w21 hbox hb; have n0_ := blkA BK160 hb; have n1_ := AZ (below_step (bS HB.out) hb); have n2_ := AZ (hbox); have n3_ := AZ (geS hg HB.out); have n4_ := AZ (geS hg HB.out); have n5_ := AZ ((by rw [hg]; exact Nat.ne_of_lt (blkL BK160.out) : gb160 ≠ gb164)); have n6_ := AZ ((by rw [hg]; exact Nat.ne_of_gt (blkL BK160.out) : gb164 ≠ gb160)); clear BK160; clear HB; have BK160 := n0_; have HB := n1_; have BK164 := n2_; have GW164 := n3_; have GE164 := n4_; have NB160_164 := n5_; have NB164_160 := n6_; clear n0_ n1_ n2_ n3_ n4_ n5_ n6_; clear hb hbox hg; have hnb22 := NB164_160.out; have hnc22 := NB160_164.out; have hcz23_0 : w21.cell? ⟨gb164, 0, none⟩ = some (.string (⟨#[]⟩ : ByteArray)) := (blk_cell BK164.out 0).trans rfl; have hcz23_1 : w21.cell? ⟨gb164, 1, none⟩ = some (.slice none 0 0) := (blk_cell BK164.out 1).trans rfl; have hfz23_0 := blk_frozen BK164.out 0; have hfz23_1 := blk_frozen BK164.out 1) | ((with_reducible refine gate_callee (f := 82) rfl ?_); refine gL (some 15) Try.func82 #[.string ((rd_T58 l0_2 x8_1).f0)] ?_; (with_reducible refine (spec_rpName.calls k1 ((rd_T58 l0_2 x8_1).f0) true _ A7.out).mono ?_); rintro e w' ⟨rfl, ⟨nd, rfl⟩⟩; refine ⟨_, rfl, ?_⟩; have hcz24_0 : w21.cell? ⟨gb160, 0, none⟩ = some (.string a0_0) := (blk_cell BK160.out 0).trans rfl; have hcz24_1 : w21.cell? ⟨gb160, 1, none⟩ = some (.int .i64 a0_1) := (blk_cell BK160.out 1).trans rfl; have hcz24_2 : w21.cell? ⟨gb160, 2, none⟩ = some (.slice (some ad163) l0_2.length c0_2) := (blk_cell BK160.out 2).trans rfl; have hfz24_0 := blk_frozen BK160.out 0; have hfz24_1 := blk_frozen BK160.out 1; have hfz24_2 := blk_frozen BK160.out 2) | (go_at_call 83; (with_reducible refine (spec_rpRow.calls k1 a0_0 a0_1 _ _ l0_2 ((rd_T58 l0_2 x8_1).f0) t166 _ ?side1 ?side2 A9.out).mono ?_); (case side1 => exact Kd.C_below HR0_2.out (bS HB.out)); (case side2 => exact HC0_2.out); rintro e w25 ⟨rfl, hb⟩; have n0_ := AZ (blk_below (g := gb160) (o := .cells #[.string a0_0, .int .i64 a0_1, .slice (some ad163) l0_2.length c0_2] 50 (0, 0)) (by (with_reducible repeat (first | refine blk_drewN ?_ _ | refine blk_drew ?_ | refine blk_alloc ?_ _)); refine blk_far ?_ NB160_164.out _; (with_reducible repeat (first | refine blk_drewN ?_ _ | refine blk_drew ?_ | refine blk_alloc ?_ _)); refine blk_far ?_ NB160_164.out _; (with_reducible repeat (first | refine blk_drewN ?_ _ | refine blk_drew ?_ | refine blk_alloc ?_ _)); exact BK160.out) hb); have n1_ := AZ (blk_below (g := gb164) (o := .cells #[.string ((rd_T58 l0_2 x8_1).f0), .slice A163_1 ((rd_T58 l0_2 x8_1).f1).length c163_1] 58 (0, 0)) (by (with_reducible repeat (first | refine blk_drewN ?_ _ | refine blk_drew ?_ | refine blk_alloc ?_ _)); refine blk_put (cs := #[.string ((rd_T58 l0_2 x8_1).f0), .slice none 0 0]) ?_ 1 _ rfl; (with_reducible repeat (first | refine blk_drewN ?_ _ | refine blk_drew ?_ | refine blk_alloc ?_ _)); refine blk_put (cs := #[.string (⟨#[]⟩ : ByteArray), .slice none 0 0]) ?_ 0 _ rfl; (with_reducible repeat (first | refine blk_drewN ?_ _ | refine blk_drew ?_ | refine blk_alloc ?_ _)); exact BK164.out) hb); have n2_ := AZ (below_step (bS HB.out) hb); clear BK160; clear BK164; clear HB; have BK160 := n0_; have BK164 := n1_; have HB := n2_; clear n0_ n1_ n2_; (try clear hb); have hcz26_0 : w25.cell? ⟨gb164, 0, none⟩ = some (.string ((rd_T58 l0_2 x8_1).f0)) := (blk_cell BK164.out 0).trans rfl; have hcz26_1 : w25.cell? ⟨gb164, 1, none⟩ = some (.slice A163_1 ((rd_T58 l0_2 x8_1).f1).length c163_1) := (blk_cell BK164.out 1).trans rfl; have hfz26_0 := blk_frozen BK164.out 0; have hfz26_1 := blk_frozen BK164.out 1; have hcz27_0 : w25.cell? ⟨gb160, 0, none⟩ = some (.string a0_0) := (blk_cell BK160.out 0).trans rfl; have hcz27_1 : w25.cell? ⟨gb160, 1, none⟩ = some (.int .i64 a0_1) := (blk_cell BK160.out 1).trans rfl; have hcz27_2 : w25.cell? ⟨gb160, 2, none⟩ = some (.slice (some ad163) l0_2.length c0_2) := (blk_cell BK160.out 2).trans rfl; have hfz27_0 := blk_frozen BK160.out 0; have hfz27_1 := blk_frozen BK160.out 1; have hfz27_2 := blk_frozen BK160.out 2) | (go_at_call 86; (with_reducible refine (spec_l1All.calls k1 _ _ ((rd_T58 l0_2 x8_1).f1) (-1000000000) 1000000000 false _ ?side1 ?side2 A12.out).mono ?_); (case side1 => exact cS (Kd.C_below HR163_1.out HB.out)); (case side2 => exact HC163_1.out); rintro e w' ⟨rfl, ⟨nd, rfl⟩⟩))
                    go_ret
                    exact ⟨by first | rfl | (simp; done) | (simp [*]; done), bS HB.out⟩
                · rw [if_neg c11] at H
                  have c11b0 : ((((rd_T58 l0_2 x8_1).f1).length : Int) == a0_1) = false := beq_eq_false_iff_ne.mpr c11
                  have c11b1 : ((((rd_T58 l0_2 x8_1).f1).length : Int) != a0_1) = true := bne_iff_ne.mpr c11
                  obtain rfl := Option.some.inj H
                  have p163 : 0 ≤ (x8_1 : Int) := of_decide_eq_true (by assumption)
                  have q163 : x8_1 < (l0_2.length : Int) := of_decide_eq_true (by assumption)
                  obtain ⟨ad163, A163_1, c163_1, e163, hx163_0, hx163_1, hl163_1, hi163_1⟩ := at_T58 HR0_2.out x8_1 p163 q163
                  cases e163
                  replace hx163_0 := (HB.out.cell (World.block_lt_of_cell? w _ hx163_0)).trans hx163_0
                  replace hx163_1 := (HB.out.cell (World.block_lt_of_cell? w _ hx163_1)).trans hx163_1
                  have HR163_1 := Aside0.mk hi163_1
                  have HC163_1 := Aside0.mk hl163_1
                  clear hi163_1 hl163_1
                  replace p163 := eq_true p163
                  replace q163 := eq_true q163
                  go_wp2_with (first | ((with_reducible refine gate_dst (N := 4) rfl ?_); (try (refine gate_guard (by rfl) ?_; dsimp only)); refine box_event ?hg (N := 4) ?hd (cs := #[.string (⟨#[]⟩ : ByteArray), .slice none 0 0]) (t := 58) ?hr ?_; (case hd => rfl); (case hg => rfl); (case hr => first | (go_simp; done) | (go_simp; rfl)); intro gb164 hg w28 hbox hb; have n0_ := blkA BK160 hb; have n1_ := AZ (below_step (bS HB.out) hb); have n2_ := AZ (hbox); have n3_ := AZ (geS hg HB.out); have n4_ := AZ (geS hg HB.out); have n5_ := AZ ((by rw [hg]; exact Nat.ne_of_lt (blkL BK160.out) : gb160 ≠ gb164)); have n6_ := AZ ((by rw [hg]; exact Nat.ne_of_gt (blkL BK160.out) : gb164 ≠ gb160)); clear BK160; clear HB; have BK160 := n0_; have HB := n1_; have BK164 := n2_; have GW164 := n3_; have GE164 := n4_; have NB160_164 := n5_; have NB164_160 := n6_; clear n0_ n1_ n2_ n3_ n4_ n5_ n6_; clear hb hbox hg; have hnb29 := NB164_160.out; have hnc29 := NB160_164.out; have hcz30_0 : w28.cell? ⟨gb164, 0, none⟩ = some (.string (⟨#[]⟩ : ByteArray)) := (blk_cell BK164.out 0).trans rfl; have hcz30_1 : w28.cell? ⟨gb164, 1, none⟩ = some (.slice none 0 0) := (blk_cell BK164.out 1).trans rfl; have hfz30_0 := blk_frozen BK164.out 0; have hfz30_1 := blk_frozen BK164.out 1) | ((with_reducible refine gate_callee (f := 82) rfl ?_); refine gL (some 15) Try.func82 #[.string ((rd_T58 l0_2 x8_1).f0)] ?_; (with_reducible refine (spec_rpName.calls k1 ((rd_T58 l0_2 x8_1).f0) true _ A7.out).mono ?_); rintro e w' ⟨rfl, ⟨nd, rfl⟩⟩; refine ⟨_, rfl, ?_⟩; have hcz31_0 : w28.cell? ⟨gb160, 0, none⟩ = some (.string a0_0) := (blk_cell BK160.out 0).trans rfl; have hcz31_1 : w28.cell? ⟨gb160, 1, none⟩ = some (.int .i64 a0_1) := (blk_cell BK160.out 1).trans rfl; have hcz31_2 : w28.cell? ⟨gb160, 2, none⟩ = some (.slice (some ad163) l0_2.length c0_2) := (blk_cell BK160.out 2).trans rfl; have hfz31_0 := blk_frozen BK160.out 0; have hfz31_1 := blk_frozen BK160.out 1; have hfz31_2 := blk_frozen BK160.out 2) | (go_at_call 83; (with_reducible refine (spec_rpRow.calls k1 a0_0 a0_1 _ _ l0_2 ((rd_T58 l0_2 x8_1).f0) t166 _ ?side1 ?side2 A9.out).mono ?_); (case side1 => exact Kd.C_below HR0_2.out (bS HB.out)); (case side2 => exact HC0_2.out); rintro e w32 ⟨rfl, hb⟩; have n0_ := AZ (blk_below (g := gb160) (o := .cells #[.string a0_0, .int .i64 a0_1, .slice (some ad163) l0_2.length c0_2] 50 (0, 0)) (by (with_reducible repeat (first | refine blk_drewN ?_ _ | refine blk_drew ?_ | refine blk_alloc ?_ _)); refine blk_far ?_ NB160_164.out _; (with_reducible repeat (first | refine blk_drewN ?_ _ | refine blk_drew ?_ | refine blk_alloc ?_ _)); refine blk_far ?_ NB160_164.out _; (with_reducible repeat (first | refine blk_drewN ?_ _ | refine blk_drew ?_ | refine blk_alloc ?_ _)); exact BK160.out) hb); have n1_ := AZ (blk_below (g := gb164) (o := .cells #[.string ((rd_T58 l0_2 x8_1).f0), .slice A163_1 ((rd_T58 l0_2 x8_1).f1).length c163_1] 58 (0, 0)) (by (with_reducible repeat (first | refine blk_drewN ?_ _ | refine blk_drew ?_ | refine blk_alloc ?_ _)); refine blk_put (cs := #[.string ((rd_T58 l0_2 x8_1).f0), .slice none 0 0]) ?_ 1 _ rfl; (with_reducible repeat (first | refine blk_drewN ?_ _ | refine blk_drew ?_ | refine blk_alloc ?_ _)); refine blk_put (cs := #[.string (⟨#[]⟩ : ByteArray), .slice none 0 0]) ?_ 0 _ rfl; (with_reducible repeat (first | refine blk_drewN ?_ _ | refine blk_drew ?_ | refine blk_alloc ?_ _)); exact BK164.out) hb); have n2_ := AZ (below_step (bS HB.out) hb); clear BK160; clear BK164; clear HB; have BK160 := n0_; have BK164 := n1_; have HB := n2_; clear n0_ n1_ n2_; (try clear hb); have hcz33_0 : w32.cell? ⟨gb164, 0, none⟩ = some (.string ((rd_T58 l0_2 x8_1).f0)) := (blk_cell BK164.out 0).trans rfl; have hcz33_1 : w32.cell? ⟨gb164, 1, none⟩ = some (.slice A163_1 ((rd_T58 l0_2 x8_1).f1).length c163_1) := (blk_cell BK164.out 1).trans rfl; have hfz33_0 := blk_frozen BK164.out 0; have hfz33_1 := blk_frozen BK164.out 1; have hcz34_0 : w32.cell? ⟨gb160, 0, none⟩ = some (.string a0_0) := (blk_cell BK160.out 0).trans rfl; have hcz34_1 : w32.cell? ⟨gb160, 1, none⟩ = some (.int .i64 a0_1) := (blk_cell BK160.out 1).trans rfl; have hcz34_2 : w32.cell? ⟨gb160, 2, none⟩ = some (.slice (some ad163) l0_2.length c0_2) := (blk_cell BK160.out 2).trans rfl; have hfz34_0 := blk_frozen BK160.out 0; have hfz34_1 := blk_frozen BK160.out 1; have hfz34_2 := blk_frozen BK160.out 2))
                  go_ret
                  exact ⟨by first | rfl | (simp; done) | (simp [*]; done), bS HB.out⟩
              · rw [if_neg c10] at H
                have c10b0 : (t166 == x8_1) = false := beq_eq_false_iff_ne.mpr c10
                have c10b1 : (t166 != x8_1) = true := bne_iff_ne.mpr c10
                obtain rfl := Option.some.inj H
                have p163 : 0 ≤ (x8_1 : Int) := of_decide_eq_true (by assumption)
                have q163 : x8_1 < (l0_2.length : Int) := of_decide_eq_true (by assumption)
                obtain ⟨ad163, A163_1, c163_1, e163, hx163_0, hx163_1, hl163_1, hi163_1⟩ := at_T58 HR0_2.out x8_1 p163 q163
                cases e163
                replace hx163_0 := (HB.out.cell (World.block_lt_of_cell? w _ hx163_0)).trans hx163_0
                replace hx163_1 := (HB.out.cell (World.block_lt_of_cell? w _ hx163_1)).trans hx163_1
                have HR163_1 := Aside0.mk hi163_1
                have HC163_1 := Aside0.mk hl163_1
                clear hi163_1 hl163_1
                replace p163 := eq_true p163
                replace q163 := eq_true q163
                go_wp2_with (first | ((with_reducible refine gate_dst (N := 4) rfl ?_); (try (refine gate_guard (by rfl) ?_; dsimp only)); refine box_event ?hg (N := 4) ?hd (cs := #[.string (⟨#[]⟩ : ByteArray), .slice none 0 0]) (t := 58) ?hr ?_; (case hd => rfl); (case hg => rfl); (case hr => first | (go_simp; done) | (go_simp; rfl)); intro gb164 hg w35 hbox hb; have n0_ := blkA BK160 hb; have n1_ := AZ (below_step (bS HB.out) hb); have n2_ := AZ (hbox); have n3_ := AZ (geS hg HB.out); have n4_ := AZ (geS hg HB.out); have n5_ := AZ ((by rw [hg]; exact Nat.ne_of_lt (blkL BK160.out) : gb160 ≠ gb164)); have n6_ := AZ ((by rw [hg]; exact Nat.ne_of_gt (blkL BK160.out) : gb164 ≠ gb160)); clear BK160; clear HB; have BK160 := n0_; have HB := n1_; have BK164 := n2_; have GW164 := n3_; have GE164 := n4_; have NB160_164 := n5_; have NB164_160 := n6_; clear n0_ n1_ n2_ n3_ n4_ n5_ n6_; clear hb hbox hg; have hnb36 := NB164_160.out; have hnc36 := NB160_164.out; have hcz37_0 : w35.cell? ⟨gb164, 0, none⟩ = some (.string (⟨#[]⟩ : ByteArray)) := (blk_cell BK164.out 0).trans rfl; have hcz37_1 : w35.cell? ⟨gb164, 1, none⟩ = some (.slice none 0 0) := (blk_cell BK164.out 1).trans rfl; have hfz37_0 := blk_frozen BK164.out 0; have hfz37_1 := blk_frozen BK164.out 1) | ((with_reducible refine gate_callee (f := 82) rfl ?_); refine gL (some 15) Try.func82 #[.string ((rd_T58 l0_2 x8_1).f0)] ?_; (with_reducible refine (spec_rpName.calls k1 ((rd_T58 l0_2 x8_1).f0) true _ A7.out).mono ?_); rintro e w' ⟨rfl, ⟨nd, rfl⟩⟩; refine ⟨_, rfl, ?_⟩; have hcz38_0 : w35.cell? ⟨gb160, 0, none⟩ = some (.string a0_0) := (blk_cell BK160.out 0).trans rfl; have hcz38_1 : w35.cell? ⟨gb160, 1, none⟩ = some (.int .i64 a0_1) := (blk_cell BK160.out 1).trans rfl; have hcz38_2 : w35.cell? ⟨gb160, 2, none⟩ = some (.slice (some ad163) l0_2.length c0_2) := (blk_cell BK160.out 2).trans rfl; have hfz38_0 := blk_frozen BK160.out 0; have hfz38_1 := blk_frozen BK160.out 1; have hfz38_2 := blk_frozen BK160.out 2) | (go_at_call 83; (with_reducible refine (spec_rpRow.calls k1 a0_0 a0_1 _ _ l0_2 ((rd_T58 l0_2 x8_1).f0) t166 _ ?side1 ?side2 A9.out).mono ?_); (case side1 => exact Kd.C_below HR0_2.out (bS HB.out)); (case side2 => exact HC0_2.out); rintro e w39 ⟨rfl, hb⟩; have n0_ := AZ (blk_below (g := gb160) (o := .cells #[.string a0_0, .int .i64 a0_1, .slice (some ad163) l0_2.length c0_2] 50 (0, 0)) (by (with_reducible repeat (first | refine blk_drewN ?_ _ | refine blk_drew ?_ | refine blk_alloc ?_ _)); refine blk_far ?_ NB160_164.out _; (with_reducible repeat (first | refine blk_drewN ?_ _ | refine blk_drew ?_ | refine blk_alloc ?_ _)); refine blk_far ?_ NB160_164.out _; (with_reducible repeat (first | refine blk_drewN ?_ _ | refine blk_drew ?_ | refine blk_alloc ?_ _)); exact BK160.out) hb); have n1_ := AZ (blk_below (g := gb164) (o := .cells #[.string ((rd_T58 l0_2 x8_1).f0), .slice A163_1 ((rd_T58 l0_2 x8_1).f1).length c163_1] 58 (0, 0)) (by (with_reducible repeat (first | refine blk_drewN ?_ _ | refine blk_drew ?_ | refine blk_alloc ?_ _)); refine blk_put (cs := #[.string ((rd_T58 l0_2 x8_1).f0), .slice none 0 0]) ?_ 1 _ rfl; (with_reducible repeat (first | refine blk_drewN ?_ _ | refine blk_drew ?_ | refine blk_alloc ?_ _)); refine blk_put (cs := #[.string (⟨#[]⟩ : ByteArray), .slice none 0 0]) ?_ 0 _ rfl; (with_reducible repeat (first | refine blk_drewN ?_ _ | refine blk_drew ?_ | refine blk_alloc ?_ _)); exact BK164.out) hb); have n2_ := AZ (below_step (bS HB.out) hb); clear BK160; clear BK164; clear HB; have BK160 := n0_; have BK164 := n1_; have HB := n2_; clear n0_ n1_ n2_; (try clear hb)))
                go_ret
                exact ⟨by first | rfl | (simp; done) | (simp [*]; done), bS HB.out⟩
            · replace c8 := Bool.eq_false_iff.mpr c8
              subst c8
              have H1 : (some false) = some r := by rw [if_neg (show ¬ (false = true) by decide)] at H; exact H
              clear H
              have H := H1
              clear H1
              obtain rfl := Option.some.inj H
              have p163 : 0 ≤ (x8_1 : Int) := of_decide_eq_true (by assumption)
              have q163 : x8_1 < (l0_2.length : Int) := of_decide_eq_true (by assumption)
              obtain ⟨ad163, A163_1, c163_1, e163, hx163_0, hx163_1, hl163_1, hi163_1⟩ := at_T58 HR0_2.out x8_1 p163 q163
              cases e163
              replace hx163_0 := (HB.out.cell (World.block_lt_of_cell? w _ hx163_0)).trans hx163_0
              replace hx163_1 := (HB.out.cell (World.block_lt_of_cell? w _ hx163_1)).trans hx163_1
              have HR163_1 := Aside0.mk hi163_1
              have HC163_1 := Aside0.mk hl163_1
              clear hi163_1 hl163_1
              replace p163 := eq_true p163
              replace q163 := eq_true q163
              go_wp2_with (first | ((with_reducible refine gate_dst (N := 4) rfl ?_); (try (refine gate_guard (by rfl) ?_; dsimp only)); refine box_event ?hg (N := 4) ?hd (cs := #[.string (⟨#[]⟩ : ByteArray), .slice none 0 0]) (t := 58) ?hr ?_; (case hd => rfl); (case hg => rfl); (case hr => first | (go_simp; done) | (go_simp; rfl)); intro gb164 hg w40 hbox hb; have n0_ := blkA BK160 hb; have n1_ := AZ (below_step (bS HB.out) hb); have n2_ := AZ (hbox); have n3_ := AZ (geS hg HB.out); have n4_ := AZ (geS hg HB.out); have n5_ := AZ ((by rw [hg]; exact Nat.ne_of_lt (blkL BK160.out) : gb160 ≠ gb164)); have n6_ := AZ ((by rw [hg]; exact Nat.ne_of_gt (blkL BK160.out) : gb164 ≠ gb160)); clear BK160; clear HB; have BK160 := n0_; have HB := n1_; have BK164 := n2_; have GW164 := n3_; have GE164 := n4_; have NB160_164 := n5_; have NB164_160 := n6_; clear n0_ n1_ n2_ n3_ n4_ n5_ n6_; clear hb hbox hg; have hnb41 := NB164_160.out; have hnc41 := NB160_164.out; have hcz42_0 : w40.cell? ⟨gb164, 0, none⟩ = some (.string (⟨#[]⟩ : ByteArray)) := (blk_cell BK164.out 0).trans rfl; have hcz42_1 : w40.cell? ⟨gb164, 1, none⟩ = some (.slice none 0 0) := (blk_cell BK164.out 1).trans rfl; have hfz42_0 := blk_frozen BK164.out 0; have hfz42_1 := blk_frozen BK164.out 1) | ((with_reducible refine gate_callee (f := 82) rfl ?_); refine gL (some 15) Try.func82 #[.string ((rd_T58 l0_2 x8_1).f0)] ?_; (with_reducible refine (spec_rpName.calls k1 ((rd_T58 l0_2 x8_1).f0) false _ A7.out).mono ?_); rintro e w' ⟨rfl, ⟨nd, rfl⟩⟩; refine ⟨_, rfl, ?_⟩))
              go_ret
              exact ⟨by first | rfl | (simp; done) | (simp [*]; done), bS HB.out⟩
          · rw [if_neg c6] at H
            exact absurd H (by simp)
        · rw [if_neg c5] at H
          exact absurd H (by simp)
      · rw [if_neg c4] at H
        have c4b0 : decide (x8_1 < (l0_2.length : Int)) = false := decide_eq_false c4
        clear c4
        replace H := Option.bind_eq_some_iff.mp H
        obtain ⟨t161, A430, H⟩ := H
        replace H : (if t161 = true then ((spec_l1In.f a0_1 1 8).bind fun t162 => (if t162 = true then (some (decide ((l0_2.length : Int) ≤ 40))) else (some false))) else (some false)) = some r := H
        have A43 := Aside0.mk A430
        clear A430
        by_cases c44 : t161 = true
        · subst c44
          have H1 : ((spec_l1In.f a0_1 1 8).bind fun t162 => (if t162 = true then (some (decide ((l0_2.length : Int) ≤ 40))) else (some false))) = some r := by rw [if_pos rfl] at H; exact H
          clear H
          have H := H1
          clear H1
          replace H := Option.bind_eq_some_iff.mp H
          obtain ⟨t162, A450, H⟩ := H
          replace H : (if t162 = true then (some (decide ((l0_2.length : Int) ≤ 40))) else (some false)) = some r := H
          have A45 := Aside0.mk A450
          clear A450
          by_cases c46 : t162 = true
          · subst c46
            have H1 : (some (decide ((l0_2.length : Int) ≤ 40))) = some r := by rw [if_pos rfl] at H; exact H
            clear H
            have H := H1
            clear H1
            obtain rfl := Option.some.inj H
            have hcz47_0 : wr.cell? ⟨gb160, 0, none⟩ = some (.string a0_0) := (blk_cell BK160.out 0).trans rfl
            have hcz47_1 : wr.cell? ⟨gb160, 1, none⟩ = some (.int .i64 a0_1) := (blk_cell BK160.out 1).trans rfl
            have hcz47_2 : wr.cell? ⟨gb160, 2, none⟩ = some (.slice A0_2 l0_2.length c0_2) := (blk_cell BK160.out 2).trans rfl
            have hfz47_0 := blk_frozen BK160.out 0
            have hfz47_1 := blk_frozen BK160.out 1
            have hfz47_2 := blk_frozen BK160.out 2
            go_wp2_with (first | ((with_reducible refine gate_callee (f := 82) rfl ?_); refine gL (some 42) Try.func82 #[.string a0_0] ?_; (with_reducible refine (spec_rpName.calls k1 a0_0 true _ A43.out).mono ?_); rintro e w' ⟨rfl, ⟨nd, rfl⟩⟩; refine ⟨_, rfl, ?_⟩) | (go_at_call 80; (with_reducible refine (spec_l1In.calls a0_1 1 8 true _ A45.out).mono ?_); rintro e w' ⟨rfl, ⟨nd, rfl⟩⟩))
            go_ret
            exact ⟨by first | rfl | (simp; done) | (simp [*]; done), bS HB.out⟩
          · replace c46 := Bool.eq_false_iff.mpr c46
            subst c46
            have H1 : (some false) = some r := by rw [if_neg (show ¬ (false = true) by decide)] at H; exact H
            clear H
            have H := H1
            clear H1
            obtain rfl := Option.some.inj H
            have hcz48_0 : wr.cell? ⟨gb160, 0, none⟩ = some (.string a0_0) := (blk_cell BK160.out 0).trans rfl
            have hcz48_1 : wr.cell? ⟨gb160, 1, none⟩ = some (.int .i64 a0_1) := (blk_cell BK160.out 1).trans rfl
            have hcz48_2 : wr.cell? ⟨gb160, 2, none⟩ = some (.slice A0_2 l0_2.length c0_2) := (blk_cell BK160.out 2).trans rfl
            have hfz48_0 := blk_frozen BK160.out 0
            have hfz48_1 := blk_frozen BK160.out 1
            have hfz48_2 := blk_frozen BK160.out 2
            go_wp2_with (first | ((with_reducible refine gate_callee (f := 82) rfl ?_); refine gL (some 42) Try.func82 #[.string a0_0] ?_; (with_reducible refine (spec_rpName.calls k1 a0_0 true _ A43.out).mono ?_); rintro e w' ⟨rfl, ⟨nd, rfl⟩⟩; refine ⟨_, rfl, ?_⟩) | (go_at_call 80; (with_reducible refine (spec_l1In.calls a0_1 1 8 false _ A45.out).mono ?_); rintro e w' ⟨rfl, ⟨nd, rfl⟩⟩))
            go_ret
            exact ⟨by first | rfl | (simp; done) | (simp [*]; done), bS HB.out⟩
        · replace c44 := Bool.eq_false_iff.mpr c44
          subst c44
          have H1 : (some false) = some r := by rw [if_neg (show ¬ (false = true) by decide)] at H; exact H
          clear H
          have H := H1
          clear H1
          obtain rfl := Option.some.inj H
          have hcz49_0 : wr.cell? ⟨gb160, 0, none⟩ = some (.string a0_0) := (blk_cell BK160.out 0).trans rfl
          have hcz49_1 : wr.cell? ⟨gb160, 1, none⟩ = some (.int .i64 a0_1) := (blk_cell BK160.out 1).trans rfl
          have hcz49_2 : wr.cell? ⟨gb160, 2, none⟩ = some (.slice A0_2 l0_2.length c0_2) := (blk_cell BK160.out 2).trans rfl
          have hfz49_0 := blk_frozen BK160.out 0
          have hfz49_1 := blk_frozen BK160.out 1
          have hfz49_2 := blk_frozen BK160.out 2
          go_wp2_with (first | ((with_reducible refine gate_callee (f := 82) rfl ?_); refine gL (some 42) Try.func82 #[.string a0_0] ?_; (with_reducible refine (spec_rpName.calls k1 a0_0 false _ A43.out).mono ?_); rintro e w' ⟨rfl, ⟨nd, rfl⟩⟩; refine ⟨_, rfl, ?_⟩))
          go_ret
          exact ⟨by first | rfl | (simp; done) | (simp [*]; done), bS HB.out⟩

/-! ### spec_SumRow: function 46 -/
mutual
def spec_SumRow.l0 : Nat → List (S58) → Int → Int → ByteArray → List Int → Option (ByteArray × List Int × Bool)
  | 0, _, _, _, _, _ => none
  | k + 1, x18, x19, x20, x175000, x175001 => if x20 < x19 then (if 0 ≤ x20 then (if x20 < (x18.length : Int) then (spec_SumRow.l1 k x18 x19 x20 ((rd_T58 x18 x20).f1) (((rd_T58 x18 x20).f1).length : Int) 0 x175000 x175001) else (none)) else (none)) else ((spec_l1All.f k x175001 (-1000000000) 1000000000).bind fun t175 => (if t175 = true then (some (x175000, x175001, true)) else (some ((⟨#[]⟩ : ByteArray), ([] : List Int), false))))
def spec_SumRow.l1 : Nat → List (S58) → Int → Int → List Int → Int → Int → ByteArray → List Int → Option (ByteArray × List Int × Bool)
  | 0, _, _, _, _, _, _, _, _ => none
  | k + 1, x18, x19, x20, x25, x26, x27, x175000, x175001 => if x27 < x26 then (if 0 ≤ x27 then (if x27 < (x25.length : Int) then (if x27 < (x175001.length : Int) then (spec_SumRow.l1 k x18 x19 x20 x25 x26 (wrap64 (x27 + 1)) x175000 (x175001.set (x27 : Int).toNat (wrap64 ((rd x175001 x27) + (rd x25 x27))))) else (none)) else (none)) else (none)) else (spec_SumRow.l0 k x18 x19 (wrap64 (x20 + 1)) x175000 x175001)
end
def spec_SumRow.f (k : Nat) (a0_0 : ByteArray) (a0_1 : Int) (l0_2 : List (S58)) : Option (ByteArray × List Int × Bool) := (spec_rpGood.f k a0_0 a0_1 l0_2).bind fun t170 => (if t170 = true then (if 0 ≤ a0_1 then (if (a0_1 : Int).toNat ≤ 35184372088832 then (spec_SumRow.l0 k l0_2 (l0_2.length : Int) 0 (⟨#[115, 117, 109]⟩ : ByteArray) (List.replicate (a0_1 : Int).toNat 0)) else (none)) else (none)) else (some ((⟨#[]⟩ : ByteArray), ([] : List Int), false)))
set_option maxHeartbeats 8000000 in
set_option maxRecDepth 100000 in
theorem spec_SumRow.calls (k : Nat) (a0_0 : ByteArray) (a0_1 : Int) (A0_2 : Option Addr) (c0_2 : Nat) (l0_2 : List (S58)) (r1 : ByteArray) (r2 : List Int) (r3 : Bool) (w : World) (hr0_2 : Kd.C k58 w A0_2 l0_2.length l0_2) (hc0_2 : l0_2.length ≤ c0_2) (h : spec_SumRow.f k a0_0 a0_1 l0_2 = some (r1, r2, r3)) :
    Calls Try.prog 46 #[.agg #[.string a0_0, .int .i64 a0_1, .slice A0_2 l0_2.length c0_2]] w fun e w' => ∃ v1_ : Value, e = .returned (.tuple #[.agg #[.string r1, v1_], .bool r3]) ∧ Kd.R (Kd.int .i64) 3 w' w.heap.size (fun _ => True) v1_ r2 ∧ Below w.heap.size w w' := by
  have hu50 := Try.underlying50
  have hu58 := Try.underlying58
  have HR0_2 := Aside0.mk hr0_2
  have HC0_2 := Aside0.mk hc0_2
  clear hr0_2 hc0_2
  have HB := AZ (Below.refl w.heap.size w)
  have H : ((spec_rpGood.f k a0_0 a0_1 l0_2).bind fun t170 => (if t170 = true then (if 0 ≤ a0_1 then (if (a0_1 : Int).toNat ≤ 35184372088832 then (spec_SumRow.l0 k l0_2 (l0_2.length : Int) 0 (⟨#[115, 117, 109]⟩ : ByteArray) (List.replicate (a0_1 : Int).toNat 0)) else (none)) else (none)) else (some ((⟨#[]⟩ : ByteArray), ([] : List Int), false)))) = some (r1, r2, r3) := h
  clear h
  replace H := Option.bind_eq_some_iff.mp H
  obtain ⟨t170, A20, H⟩ := H
  replace H : (if t170 = true then (if 0 ≤ a0_1 then (if (a0_1 : Int).toNat ≤ 35184372088832 then (spec_SumRow.l0 k l0_2 (l0_2.length : Int) 0 (⟨#[115, 117, 109]⟩ : ByteArray) (List.replicate (a0_1 : Int).toNat 0)) else (none)) else (none)) else (some ((⟨#[]⟩ : ByteArray), ([] : List Int), false))) = some (r1, r2, r3) := H
  have A2 := Aside0.mk A20
  clear A20
  by_cases c3 : t170 = true
  · subst c3
    have H1 : (if 0 ≤ a0_1 then (if (a0_1 : Int).toNat ≤ 35184372088832 then (spec_SumRow.l0 k l0_2 (l0_2.length : Int) 0 (⟨#[115, 117, 109]⟩ : ByteArray) (List.replicate (a0_1 : Int).toNat 0)) else (none)) else (none)) = some (r1, r2, r3) := by rw [if_pos rfl] at H; exact H
    clear H
    have H := H1
    clear H1
    by_cases c4 : 0 ≤ a0_1
    · rw [if_pos c4] at H
      have c4b0 := eq_true c4
      have c4b1 : decide (0 ≤ a0_1) = true := decide_eq_true c4
      clear c4
      by_cases c5 : (a0_1 : Int).toNat ≤ 35184372088832
      · rw [if_pos c5] at H
        have c5b0 := eq_true c5
        have c5b1 : decide ((a0_1 : Int).toNat ≤ 35184372088832) = true := decide_eq_true c5
        clear c5
        obtain ⟨y171, hy171⟩ : ∃ y_ : List Int, y_ = (List.replicate (a0_1 : Int).toNat 0) := ⟨_, rfl⟩
        replace H : (spec_SumRow.l0 k l0_2 (l0_2.length : Int) 0 (⟨#[115, 117, 109]⟩ : ByteArray) y171) = some (r1, r2, r3) := by first | (rw [hy171]; with_reducible exact H) | (have H2_ := (Option.bind_some _ _).symm.trans H; rw [hy171]; with_reducible exact H2_) | (have H2_ := (Option.bind_some _ _).symm.trans H; with_reducible exact H2_) | with_reducible exact H | (rw [hy171]; exact H) | exact H
        have Ny171 := Aside0.mk hy171
        clear hy171
        have H' := Aside0.mk H
        clear H
        go_enter Try.func46, Try.ntmps46
        go_wp2_with (first | ((with_reducible refine gate_dst (N := 1) rfl ?_); refine box_event ?hg (N := 1) ?hd (cs := #[.string a0_0, .int .i64 a0_1, .slice A0_2 l0_2.length c0_2]) (t := 50) ?hr ?_; (case hd => rfl); (case hg => rfl); (case hr => first | (go_simp; done) | (go_simp; rfl)); intro gb168 hg w6 hbox hb; have n0_ := AZ (below_step (bS HB.out) hb); have n1_ := AZ (hbox); have n2_ := AZ (geS hg HB.out); have n3_ := AZ (geS hg HB.out); clear HB; have HB := n0_; have BK168 := n1_; have GW168 := n2_; have GE168 := n3_; clear n0_ n1_ n2_ n3_; clear hb hbox hg) | ((with_reducible refine gate_dst (N := 2) rfl ?_); refine box_event ?hg (N := 2) ?hd (cs := #[.string (⟨#[]⟩ : ByteArray), .slice none 0 0]) (t := 58) ?hr ?_; (case hd => rfl); (case hg => rfl); (case hr => first | (go_simp; done) | (go_simp; rfl)); intro gb169 hg w7 hbox hb; have n0_ := blkA BK168 hb; have n1_ := AZ (below_step (bS HB.out) hb); have n2_ := AZ (hbox); have n3_ := AZ (geS hg HB.out); have n4_ := AZ (geS hg HB.out); have n5_ := AZ ((by rw [hg]; exact Nat.ne_of_lt (blkL BK168.out) : gb168 ≠ gb169)); have n6_ := AZ ((by rw [hg]; exact Nat.ne_of_gt (blkL BK168.out) : gb169 ≠ gb168)); clear BK168; clear HB; have BK168 := n0_; have HB := n1_; have BK169 := n2_; have GW169 := n3_; have GE169 := n4_; have NB168_169 := n5_; have NB169_168 := n6_; clear n0_ n1_ n2_ n3_ n4_ n5_ n6_; clear hb hbox hg; have hnb8 := NB168_169.out; have hnc8 := NB169_168.out; have hcz9_0 : w7.cell? ⟨gb168, 0, none⟩ = some (.string a0_0) := (blk_cell BK168.out 0).trans rfl; have hcz9_1 : w7.cell? ⟨gb168, 1, none⟩ = some (.int .i64 a0_1) := (blk_cell BK168.out 1).trans rfl; have hcz9_2 : w7.cell? ⟨gb168, 2, none⟩ = some (.slice A0_2 l0_2.length c0_2) := (blk_cell BK168.out 2).trans rfl; have hfz9_0 := blk_frozen BK168.out 0; have hfz9_1 := blk_frozen BK168.out 1; have hfz9_2 := blk_frozen BK168.out 2) | ((with_reducible refine gate_callee (f := 74) rfl ?_); refine gL (some 10) Try.func74 #[.agg #[.string a0_0, .int .i64 a0_1, .slice A0_2 l0_2.length c0_2]] ?_; (with_reducible refine (spec_rpGood.calls k a0_0 a0_1 _ _ l0_2 true _ ?side1 ?side2 A2.out).mono ?_); (case side1 => exact cS (Kd.C_below HR0_2.out HB.out)); (case side2 => exact HC0_2.out); rintro e w10 ⟨rfl, hb⟩; refine ⟨_, rfl, ?_⟩; have n0_ := blkA BK168 hb; have n1_ := blkA BK169 hb; have n2_ := AZ (below_step (bS HB.out) hb); clear BK168; clear BK169; clear HB; have BK168 := n0_; have BK169 := n1_; have HB := n2_; clear n0_ n1_ n2_; (try clear hb); have hcz11_0 : w10.cell? ⟨gb168, 0, none⟩ = some (.string a0_0) := (blk_cell BK168.out 0).trans rfl; have hcz11_1 : w10.cell? ⟨gb168, 1, none⟩ = some (.int .i64 a0_1) := (blk_cell BK168.out 1).trans rfl; have hcz11_2 : w10.cell? ⟨gb168, 2, none⟩ = some (.slice A0_2 l0_2.length c0_2) := (blk_cell BK168.out 2).trans rfl; have hfz11_0 := blk_frozen BK168.out 0; have hfz11_1 := blk_frozen BK168.out 1; have hfz11_2 := blk_frozen BK168.out 2) | ((with_reducible refine gate_dst (N := 15) rfl ?_); refine Kd.R_make (Kd.int .i64) _ 3 rfl (N := 15) rfl 25 _ _ rfl a0_1 rfl rfl Try.underlying25 (.int .i64 0) 8 info3 rfl (by decide) (by omega) 0 (ok := fun _ => True) (okp := fun _ => True) rfl (fun _ hk => hk) trivial (of_decide_eq_true (by assumption)) (Nat.le_trans (Nat.mul_le_mul_right _ (of_decide_eq_true (by assumption) : a0_1.toNat ≤ 35184372088832)) (by omega)) (Below.refl _ _) (Nat.le_refl _) ?_; intro v172 w12 ho13 hb hg_ hnew_; clear hg_ hnew_; (first | rw [← Ny171.out] at ho13 | (simp only [Int.reduceToNat] at ho13; rw [← Ny171.out] at ho13)); have n0_ := AZ (Kd.R_lower ho13 (below_size (bS HB.out))); have n1_ := blkA BK168 hb; have n2_ := blkA BK169 hb; have n3_ := AZ (below_step (bS HB.out) hb); clear BK168; clear BK169; clear HB; have HO173 := n0_; have BK168 := n1_; have BK169 := n2_; have HB := n3_; clear n0_ n1_ n2_ n3_; clear hb ho13; obtain ⟨Ao14, co14, eo14⟩ := Kd.R_slice HO173.out; subst eo14) | ((with_reducible refine gate_dst (N := 4) rfl ?_); refine box_event ?hg (N := 4) ?hd (cs := #[.string (⟨#[]⟩ : ByteArray), .slice none 0 0]) (t := 58) ?hr ?_; (case hd => rfl); (case hg => rfl); (case hr => first | (go_simp; done) | (go_simp; rfl)); intro gb174 hg w15 hbox hb; have n0_ := AZ (Kd.R_below (rS HO173.out) hb); have n1_ := blkA BK168 hb; have n2_ := blkA BK169 hb; have n3_ := AZ (below_step (bS HB.out) hb); have n4_ := AZ (hbox); have n5_ := AZ (geS hg HB.out); have n6_ := AZ (geS hg HB.out); have n7_ := AZ ((by rw [hg]; exact Nat.ne_of_lt (blkL BK168.out) : gb168 ≠ gb174)); have n8_ := AZ ((by rw [hg]; exact Nat.ne_of_gt (blkL BK168.out) : gb174 ≠ gb168)); have n9_ := AZ ((by rw [hg]; exact Nat.ne_of_lt (blkL BK169.out) : gb169 ≠ gb174)); have n10_ := AZ ((by rw [hg]; exact Nat.ne_of_gt (blkL BK169.out) : gb174 ≠ gb169)); clear HO173; clear BK168; clear BK169; clear HB; have HO173 := n0_; have BK168 := n1_; have BK169 := n2_; have HB := n3_; have BK174 := n4_; have GW174 := n5_; have GE174 := n6_; have NB168_174 := n7_; have NB174_168 := n8_; have NB169_174 := n9_; have NB174_169 := n10_; clear n0_ n1_ n2_ n3_ n4_ n5_ n6_ n7_ n8_ n9_ n10_; clear hb hbox hg; have hnb16 := NB174_168.out; have hnc16 := NB168_174.out; have hnb17 := NB174_169.out; have hnc17 := NB169_174.out; have hcz18_0 : w15.cell? ⟨gb174, 0, none⟩ = some (.string (⟨#[]⟩ : ByteArray)) := (blk_cell BK174.out 0).trans rfl; have hcz18_1 : w15.cell? ⟨gb174, 1, none⟩ = some (.slice none 0 0) := (blk_cell BK174.out 1).trans rfl; have hfz18_0 := blk_frozen BK174.out 0; have hfz18_1 := blk_frozen BK174.out 1; have hcz19_0 : w15.cell? ⟨gb168, 0, none⟩ = some (.string a0_0) := (blk_cell BK168.out 0).trans rfl; have hcz19_1 : w15.cell? ⟨gb168, 1, none⟩ = some (.int .i64 a0_1) := (blk_cell BK168.out 1).trans rfl; have hcz19_2 : w15.cell? ⟨gb168, 2, none⟩ = some (.slice A0_2 l0_2.length c0_2) := (blk_cell BK168.out 2).trans rfl; have hfz19_0 := blk_frozen BK168.out 0; have hfz19_1 := blk_frozen BK168.out 1; have hfz19_2 := blk_frozen BK168.out 2))
        go_loopg [20] k (fun kq v20 w' => ∃ (x20_1 : Int) (x175001_1 : List Int) (u175001 : Value), v20 = .int .i64 x20_1 ∧ Aside0 (spec_SumRow.l0 kq l0_2 (l0_2.length : Int) x20_1 (⟨#[115, 117, 109]⟩ : ByteArray) x175001_1 = some (r1, r2, r3)) ∧ Aside0 (kq ≤ k) ∧ Aside0 (Kd.R (Kd.int .i64) 3 w' w.heap.size (fun _ => True) u175001 x175001_1) ∧ Aside0 (w'.heap[gb168]? = some (.cells #[.string a0_0, .int .i64 a0_1, (.slice A0_2 l0_2.length c0_2)] 50 (0, 0))) ∧ Aside0 (w'.heap[gb169]? = some (.cells #[.string (⟨#[]⟩ : ByteArray), (.slice none 0 0)] 58 (0, 0))) ∧ Aside0 (w'.heap[gb174]? = some (.cells #[.string (⟨#[115, 117, 109]⟩ : ByteArray), u175001] 58 (0, 0))) ∧ Aside0 (Below w.heap.size w w'))
        case atStart => exact ⟨(0), (y171), (.slice Ao14 y171.length co14), (by first | rfl | (simp; done) | (simp [*]; done)), H', ⟨Nat.le_refl _⟩, ⟨by (with_reducible repeat (first | apply Kd.R_alloc | apply Kd.R_drewN | apply Kd.R_drew)); exact Kd.R_mono (Kd.R_far (Kd.R_far (Kd.R_types HO173.out BK174.out (by decide)) (fun _ hk => hk.2) (.string (⟨#[115, 117, 109]⟩ : ByteArray))) (fun _ hk => hk.2) _) (fun _ hk => trivial)⟩, ⟨by (with_reducible repeat (first | refine blk_drewN ?_ _ | refine blk_drew ?_ | refine blk_alloc ?_ _)); refine blk_far ?_ NB168_174.out _; (with_reducible repeat (first | refine blk_drewN ?_ _ | refine blk_drew ?_ | refine blk_alloc ?_ _)); refine blk_far ?_ NB168_174.out _; (with_reducible repeat (first | refine blk_drewN ?_ _ | refine blk_drew ?_ | refine blk_alloc ?_ _)); exact BK168.out⟩, ⟨by (with_reducible repeat (first | refine blk_drewN ?_ _ | refine blk_drew ?_ | refine blk_alloc ?_ _)); refine blk_far ?_ NB169_174.out _; (with_reducible repeat (first | refine blk_drewN ?_ _ | refine blk_drew ?_ | refine blk_alloc ?_ _)); refine blk_far ?_ NB169_174.out _; (with_reducible repeat (first | refine blk_drewN ?_ _ | refine blk_drew ?_ | refine blk_alloc ?_ _)); exact BK169.out⟩, ⟨by (with_reducible repeat (first | refine blk_drewN ?_ _ | refine blk_drew ?_ | refine blk_alloc ?_ _)); refine blk_put (cs := #[.string (⟨#[115, 117, 109]⟩ : ByteArray), .slice none 0 0]) ?_ 1 _ rfl; (with_reducible repeat (first | refine blk_drewN ?_ _ | refine blk_drew ?_ | refine blk_alloc ?_ _)); refine blk_put (cs := #[.string (⟨#[]⟩ : ByteArray), .slice none 0 0]) ?_ 0 _ rfl; (with_reducible repeat (first | refine blk_drewN ?_ _ | refine blk_drew ?_ | refine blk_alloc ?_ _)); exact BK174.out⟩, ⟨bS HB.out⟩⟩
        case round =>
          clear H'
          try clear c1
          try clear p2
          try clear c3
          try clear c4
          try clear c4b0
          try clear c4b1
          try clear c5
          try clear c5b0
          try clear c5b1
          try clear c7
          try clear c8
          try clear c16
          try clear c17
          try clear hcz11_0
          try clear hcz11_1
          try clear hcz11_2
          try clear hcz18_0
          try clear hcz18_1
          try clear hcz19_0
          try clear hcz19_1
          try clear hcz19_2
          try clear hcz9_0
          try clear hcz9_1
          try clear hcz9_2
          try clear hfz11_0
          try clear hfz11_1
          try clear hfz11_2
          try clear hfz18_0
          try clear hfz18_1
          try clear hfz19_0
          try clear hfz19_1
          try clear hfz19_2
          try clear hfz9_0
          try clear hfz9_1
          try clear hfz9_2
          obtain ⟨x20_1, x175001_1, u175001, rfl, HA, HK1, HO_175001, BK168, BK169, BK174, HB⟩ := hrel
          cases gk with
          | zero => exact absurd HA.out (by simp [spec_SumRow.l0])
          | succ k1 =>
            have H := HA.out
            clear HA
            simp only [spec_SumRow.l0] at H
            by_cases c20 : x20_1 < (l0_2.length : Int)
            · rw [if_pos c20] at H
              have c20b0 : decide (x20_1 < (l0_2.length : Int)) = true := decide_eq_true c20
              clear c20
              by_cases c21 : 0 ≤ x20_1
              · rw [if_pos c21] at H
                have c21b0 : decide (0 ≤ x20_1) = true := decide_eq_true c21
                clear c21
                by_cases c22 : x20_1 < (l0_2.length : Int)
                · rw [if_pos c22] at H
                  have c22b0 : decide (x20_1 < (l0_2.length : Int)) = true := decide_eq_true c22
                  clear c22
                  have H' := Aside0.mk H
                  clear H
                  have p176 : 0 ≤ (x20_1 : Int) := of_decide_eq_true (by assumption)
                  have q176 : x20_1 < (l0_2.length : Int) := of_decide_eq_true (by assumption)
                  obtain ⟨ad176, A176_1, c176_1, e176, hx176_0, hx176_1, hl176_1, hi176_1⟩ := at_T58 HR0_2.out x20_1 p176 q176
                  cases e176
                  replace hx176_0 := (HB.out.cell (World.block_lt_of_cell? w _ hx176_0)).trans hx176_0
                  replace hx176_1 := (HB.out.cell (World.block_lt_of_cell? w _ hx176_1)).trans hx176_1
                  have HR176_1 := Aside0.mk hi176_1
                  have HC176_1 := Aside0.mk hl176_1
                  clear hi176_1 hl176_1
                  replace p176 := eq_true p176
                  replace q176 := eq_true q176
                  go_wp2_with (first | ((with_reducible refine gate_dst (N := 6) rfl ?_); refine box_event ?hg (N := 6) ?hd (cs := #[.string (⟨#[]⟩ : ByteArray), .slice none 0 0]) (t := 58) ?hr ?_; (case hd => rfl); (case hg => rfl); (case hr => first | (go_simp; done) | (go_simp; rfl)); intro gb177 hg w23 hbox hb; have n0_ := AZ (Kd.R_below (rS HO_175001.out) hb); have n1_ := blkA BK168 hb; have n2_ := blkA BK169 hb; have n3_ := blkA BK174 hb; have n4_ := AZ (below_step (bS HB.out) hb); have n5_ := AZ (hbox); have n6_ := AZ (geS hg HB.out); have n7_ := AZ (geS hg HB.out); have n8_ := AZ ((by rw [hg]; exact Nat.ne_of_lt (blkL BK168.out) : gb168 ≠ gb177)); have n9_ := AZ ((by rw [hg]; exact Nat.ne_of_gt (blkL BK168.out) : gb177 ≠ gb168)); have n10_ := AZ ((by rw [hg]; exact Nat.ne_of_lt (blkL BK169.out) : gb169 ≠ gb177)); have n11_ := AZ ((by rw [hg]; exact Nat.ne_of_gt (blkL BK169.out) : gb177 ≠ gb169)); have n12_ := AZ ((by rw [hg]; exact Nat.ne_of_lt (blkL BK174.out) : gb174 ≠ gb177)); have n13_ := AZ ((by rw [hg]; exact Nat.ne_of_gt (blkL BK174.out) : gb177 ≠ gb174)); clear HO_175001; clear BK168; clear BK169; clear BK174; clear HB; have HO_175001 := n0_; have BK168 := n1_; have BK169 := n2_; have BK174 := n3_; have HB := n4_; have BK177 := n5_; have GW177 := n6_; have GE177 := n7_; have NB168_177 := n8_; have NB177_168 := n9_; have NB169_177 := n10_; have NB177_169 := n11_; have NB174_177 := n12_; have NB177_174 := n13_; clear n0_ n1_ n2_ n3_ n4_ n5_ n6_ n7_ n8_ n9_ n10_ n11_ n12_ n13_; clear hb hbox hg; have hnb24 := NB177_168.out; have hnc24 := NB168_177.out; have hnb25 := NB177_169.out; have hnc25 := NB169_177.out; have hnb26 := NB177_174.out; have hnc26 := NB174_177.out; have hcz27_0 : w23.cell? ⟨gb177, 0, none⟩ = some (.string (⟨#[]⟩ : ByteArray)) := (blk_cell BK177.out 0).trans rfl; have hcz27_1 : w23.cell? ⟨gb177, 1, none⟩ = some (.slice none 0 0) := (blk_cell BK177.out 1).trans rfl; have hfz27_0 := blk_frozen BK177.out 0; have hfz27_1 := blk_frozen BK177.out 1))
                  go_loopg [27] k1 (fun kq v27 w' => ∃ (x27_2 : Int) (x175001_2 : List Int) (u175001 : Value), v27 = .int .i64 x27_2 ∧ Aside0 (spec_SumRow.l1 kq l0_2 (l0_2.length : Int) x20_1 ((rd_T58 l0_2 x20_1).f1) (((rd_T58 l0_2 x20_1).f1).length : Int) x27_2 (⟨#[115, 117, 109]⟩ : ByteArray) x175001_2 = some (r1, r2, r3)) ∧ Aside0 (kq ≤ k1) ∧ Aside0 (Kd.R (Kd.int .i64) 3 w' w.heap.size (fun _ => True) u175001 x175001_2) ∧ Aside0 (w'.heap[gb168]? = some (.cells #[.string a0_0, .int .i64 a0_1, (.slice (some ad176) l0_2.length c0_2)] 50 (0, 0))) ∧ Aside0 (w'.heap[gb169]? = some (.cells #[.string (⟨#[]⟩ : ByteArray), (.slice none 0 0)] 58 (0, 0))) ∧ Aside0 (w'.heap[gb174]? = some (.cells #[.string (⟨#[115, 117, 109]⟩ : ByteArray), u175001] 58 (0, 0))) ∧ Aside0 (w'.heap[gb177]? = some (.cells #[.string ((rd_T58 l0_2 x20_1).f0), (.slice A176_1 ((rd_T58 l0_2 x20_1).f1).length c176_1)] 58 (0, 0))) ∧ Aside0 (Below w.heap.size w w'))
                  case atStart => exact ⟨(0), (x175001_1), (u175001), (by first | rfl | (simp; done) | (simp [*]; done)), H', ⟨Nat.le_refl _⟩, ⟨by (with_reducible repeat (first | apply Kd.R_alloc | apply Kd.R_drewN | apply Kd.R_drew)); exact Kd.R_mono (Kd.R_far (Kd.R_far (Kd.R_types HO_175001.out BK177.out (by decide)) (fun _ hk => hk.2) (.string ((rd_T58 l0_2 x20_1).f0))) (fun _ hk => hk.2) (.slice A176_1 ((rd_T58 l0_2 x20_1).f1).length c176_1)) (fun _ hk => trivial)⟩, ⟨by (with_reducible repeat (first | refine blk_drewN ?_ _ | refine blk_drew ?_ | refine blk_alloc ?_ _)); refine blk_far ?_ NB168_177.out _; (with_reducible repeat (first | refine blk_drewN ?_ _ | refine blk_drew ?_ | refine blk_alloc ?_ _)); refine blk_far ?_ NB168_177.out _; (with_reducible repeat (first | refine blk_drewN ?_ _ | refine blk_drew ?_ | refine blk_alloc ?_ _)); exact BK168.out⟩, ⟨by (with_reducible repeat (first | refine blk_drewN ?_ _ | refine blk_drew ?_ | refine blk_alloc ?_ _)); refine blk_far ?_ NB169_177.out _; (with_reducible repeat (first | refine blk_drewN ?_ _ | refine blk_drew ?_ | refine blk_alloc ?_ _)); refine blk_far ?_ NB169_177.out _; (with_reducible repeat (first | refine blk_drewN ?_ _ | refine blk_drew ?_ | refine blk_alloc ?_ _)); exact BK169.out⟩, ⟨by (with_reducible repeat (first | refine blk_drewN ?_ _ | refine blk_drew ?_ | refine blk_alloc ?_ _)); refine blk_far ?_ NB174_177.out _; (with_reducible repeat (first | refine blk_drewN ?_ _ | refine blk_drew ?_ | refine blk_alloc ?_ _)); refine blk_far ?_ NB174_177.out _; (with_reducible repeat (first | refine blk_drewN ?_ _ | refine blk_drew ?_ | refine blk_alloc ?_ _)); exact BK174.out⟩, ⟨by (with_reducible repeat (first | refine blk_drewN ?_ _ | refine blk_drew ?_ | refine blk_alloc ?_ _)); refine blk_put (cs := #[.string ((rd_T58 l0_2 x20_1).f0), .slice none 0 0]) ?_ 1 _ rfl; (with_reducible repeat (first | refine blk_drewN ?_ _ | refine blk_drew ?_ | refine blk_alloc ?_ _)); refine blk_put (cs := #[.string (⟨#[]⟩ : ByteArray), .slice none 0 0]) ?_ 0 _ rfl; (with_reducible repeat (first | refine blk_drewN ?_ _ | refine blk_drew ?_ | refine blk_alloc ?_ _)); exact BK177.out⟩, ⟨bS HB.out⟩⟩
                  case round =>
                    clear H'
                    try clear c1
                    try clear p1
                    try clear q1
                    try clear hx1
                    try clear c2
                    try clear p2
                    try clear c3
                    try clear c4
                    try clear c4b0
                    try clear c4b1
                    try clear c5
                    try clear c5b0
                    try clear c5b1
                    try clear c7
                    try clear c8
                    try clear c16
                    try clear c17
                    try clear p17
                    try clear q17
                    try clear hx17
                    try clear c20
                    try clear c20b0
                    try clear c21
                    try clear c21b0
                    try clear c22
                    try clear c22b0
                    try clear c24
                    try clear c25
                    try clear c26
                    try clear hcz11_0
                    try clear hcz11_1
                    try clear hcz11_2
                    try clear hcz18_0
                    try clear hcz18_1
                    try clear hcz19_0
                    try clear hcz19_1
                    try clear hcz19_2
                    try clear hcz27_0
                    try clear hcz27_1
                    try clear hcz9_0
                    try clear hcz9_1
                    try clear hcz9_2
                    try clear hfz11_0
                    try clear hfz11_1
                    try clear hfz11_2
                    try clear hfz18_0
                    try clear hfz18_1
                    try clear hfz19_0
                    try clear hfz19_1
                    try clear hfz19_2
                    try clear hfz27_0
                    try clear hfz27_1
                    try clear hfz9_0
                    try clear hfz9_1
                    try clear hfz9_2
                    try clear hx176_0
                    try clear hx176_1
                    try clear p176
                    try clear p2
                    try clear q176
                    obtain ⟨x27_2, x175001_2, u175001, rfl, HA, HK2, HO_175001, BK168, BK169, BK174, BK177, HB⟩ := hrel
                    cases gk with
                    | zero => exact absurd HA.out (by simp [spec_SumRow.l1])
                    | succ k2 =>
                      have H := HA.out
                      clear HA
                      simp only [spec_SumRow.l1] at H
                      by_cases c28 : x27_2 < (((rd_T58 l0_2 x20_1).f1).length : Int)
                      · rw [if_pos c28] at H
                        have c28b0 : decide (x27_2 < (((rd_T58 l0_2 x20_1).f1).length : Int)) = true := decide_eq_true c28
                        clear c28
                        by_cases c29 : 0 ≤ x27_2
                        · rw [if_pos c29] at H
                          have c29b0 : decide (0 ≤ x27_2) = true := decide_eq_true c29
                          clear c29
                          by_cases c30 : x27_2 < (((rd_T58 l0_2 x20_1).f1).length : Int)
                          · rw [if_pos c30] at H
                            have c30b0 : decide (x27_2 < (((rd_T58 l0_2 x20_1).f1).length : Int)) = true := decide_eq_true c30
                            clear c30
                            by_cases c31 : x27_2 < (x175001_2.length : Int)
                            · rw [if_pos c31] at H
                              have c31b0 : decide (x27_2 < (x175001_2.length : Int)) = true := decide_eq_true c31
                              clear c31
                              obtain ⟨y180, hy180⟩ : ∃ y_ : List Int, y_ = (x175001_2.set (x27_2 : Int).toNat (wrap64 ((rd x175001_2 x27_2) + (rd ((rd_T58 l0_2 x20_1).f1) x27_2)))) := ⟨_, rfl⟩
                              replace H : (spec_SumRow.l1 k2 l0_2 (l0_2.length : Int) x20_1 ((rd_T58 l0_2 x20_1).f1) (((rd_T58 l0_2 x20_1).f1).length : Int) (wrap64 (x27_2 + 1)) (⟨#[115, 117, 109]⟩ : ByteArray) y180) = some (r1, r2, r3) := by first | (rw [hy180]; with_reducible exact H) | (have H2_ := (Option.bind_some _ _).symm.trans H; rw [hy180]; with_reducible exact H2_) | (have H2_ := (Option.bind_some _ _).symm.trans H; with_reducible exact H2_) | with_reducible exact H | (rw [hy180]; exact H) | exact H
                              have Ny180 := Aside0.mk hy180
                              clear hy180
                              have H' := Aside0.mk H
                              clear H
                              have p178 : 0 ≤ (x27_2 : Int) := of_decide_eq_true (by assumption)
                              have q178 : x27_2 < (((rd_T58 l0_2 x20_1).f1).length : Int) := of_decide_eq_true (by assumption)
                              obtain ⟨ad178, e178, hx178_0⟩ := Kd.at_int HR176_1.out x27_2 p178 q178
                              cases e178
                              replace hx178_0 := (HB.out.cell (World.block_lt_of_cell? w _ hx178_0)).trans hx178_0
                              replace p178 := eq_true p178
                              replace q178 := eq_true q178
                              have hnb33 := NB174_168.out
                              have hnc33 := NB168_174.out
                              have hnb34 := NB174_169.out
                              have hnc34 := NB169_174.out
                              have hnb35 := NB174_177.out
                              have hnc35 := NB177_174.out
                              have hcz36_0 : wr.cell? ⟨gb174, 0, none⟩ = some (.string (⟨#[115, 117, 109]⟩ : ByteArray)) := (blk_cell BK174.out 0).trans rfl
                              have hcz36_1 : wr.cell? ⟨gb174, 1, none⟩ = some (u175001) := (blk_cell BK174.out 1).trans rfl
                              have hfz36_0 := blk_frozen BK174.out 0
                              have hfz36_1 := blk_frozen BK174.out 1
                              obtain ⟨Ao37, co37, eo37⟩ := Kd.R_slice HO_175001.out
                              subst eo37
                              have p179 : 0 ≤ (x27_2 : Int) := of_decide_eq_true (by assumption)
                              have q179 : x27_2 < (x175001_2.length : Int) := of_decide_eq_true (by assumption)
                              obtain ⟨ad179, e179, hx179_0⟩ := Kd.at_int (Kd.R_reads' HO_175001.out).2.2 x27_2 p179 q179
                              cases e179
                              replace p179 := eq_true p179
                              replace q179 := eq_true q179
                              have p32 : 0 ≤ (x27_2 : Int) := of_decide_eq_true (by assumption)
                              have q32 : (x27_2 : Int) < ((x175001_2.length : Int) : Int) := of_decide_eq_true (by assumption)
                              obtain ⟨go32, co32, eo32, gb32, gl32, cl32, HG32⟩ := Kd.R_form HO_175001.out (by omega)
                              (first | cases eo32 | (injection eo32 with ea_ en_ ec_; (first | subst ea_ | (injection ea_ with ea_; subst ea_)); subst ec_; clear en_))
                              have GB32 := Aside0.mk gb32
                              have GG32 := Aside0.mk HG32
                              clear gb32 gl32 HG32
                              (first | simp only [add_plain] at hx179_0 | skip)
                              obtain ⟨hx32_0, hf32_0⟩ := Kd.R_celln 0 HO_175001.out (x27_2 : Int) p32 q32
                              replace p32 := eq_true p32
                              replace q32 := eq_true q32
                              have HP38 := Kd.R_putg HO_175001.out (x27_2 : Int) (wrap64 ((rd x175001_2 x27_2) + (rd ((rd_T58 l0_2 x20_1).f1) x27_2)))
                              go_wp2_with (first | ((with_reducible refine gate_store (t := 3) (p := 39) rfl ?_); refine store_event (t := 3) (p := 39) (v := ?vo_w39) (w1 := (wr.setCell ⟨go32, (x27_2 : Int).toNat, none⟩ (.int .i64 (wrap64 ((rd x175001_2 x27_2) + (rd ((rd_T58 l0_2 x20_1).f1) x27_2)))))) ?hg ?ho ?hn ?hr ?_; (case ho => rfl); (case hg => rfl); (case hn => rfl); (case hr => first | (go_simp; done) | (go_simp; rfl)); intro w39 hw; have hg : wr.grownBy w39 (some go32) := (by rw [hw]; exact HP38.2); have hp_ : Kd.R (Kd.int .i64) 3 w39 w.heap.size (fun _ => True) (.slice (some ⟨go32, 0, none⟩) x175001_2.length co37) y180 := (by rw [hw, Ny180.out]; exact HP38.1); clear HP38; have n0_ := AZ (hp_); have n1_ := AZ (blk_grown (g := gb168) (o := .cells #[.string a0_0, .int .i64 a0_1, .slice (some ad176) l0_2.length c0_2] 50 (0, 0)) (blkS BK168.out) hg (Kd.R_ne HO_175001.out BK168.out (by decide))); have n2_ := AZ (blk_grown (g := gb169) (o := .cells #[.string (⟨#[]⟩ : ByteArray), .slice none 0 0] 58 (0, 0)) (blkS BK169.out) hg (Kd.R_ne HO_175001.out BK169.out (by decide))); have n3_ := AZ (blk_grown (g := gb174) (o := .cells #[.string (⟨#[115, 117, 109]⟩ : ByteArray), .slice (some ⟨go32, 0, none⟩) x175001_2.length co37] 58 (0, 0)) (blkS BK174.out) hg (Kd.R_ne HO_175001.out BK174.out (by decide))); have n4_ := AZ (blk_grown (g := gb177) (o := .cells #[.string ((rd_T58 l0_2 x20_1).f0), .slice (some ad178) ((rd_T58 l0_2 x20_1).f1).length c176_1] 58 (0, 0)) (blkS BK177.out) hg (Kd.R_ne HO_175001.out BK177.out (by decide))); have n5_ := AZ ((by rw [hw]; exact below_set (HB.out) GB32.out : Below w.heap.size w w39)); clear HO_175001; clear BK168; clear BK169; clear BK174; clear BK177; clear HB; have HO_175001 := n0_; have BK168 := n1_; have BK169 := n2_; have BK174 := n3_; have BK177 := n4_; have HB := n5_; clear n0_ n1_ n2_ n3_ n4_ n5_; clear hg hw hp_))
                              go_roundg k2
                              case measure => have := HK1.out; have := HK2.out; omega
                              case rel => exact ⟨(wrap64 (x27_2 + 1)), (y180), (.slice (some ⟨go32, 0, none⟩) x175001_2.length co37), (by first | rfl | (simp; done) | (simp [*]; done)), H', ⟨by have := HK1.out; have := HK2.out; omega⟩, ⟨rS HO_175001.out⟩, ⟨blkS BK168.out⟩, ⟨blkS BK169.out⟩, ⟨blkS BK174.out⟩, ⟨blkS BK177.out⟩, ⟨bS HB.out⟩⟩
                            · rw [if_neg c31] at H
                              exact absurd H (by simp)
                          · rw [if_neg c30] at H
                            exact absurd H (by simp)
                        · rw [if_neg c29] at H
                          exact absurd H (by simp)
                      · rw [if_neg c28] at H
                        have c28b0 : decide (x27_2 < (((rd_T58 l0_2 x20_1).f1).length : Int)) = false := decide_eq_false c28
                        clear c28
                        have H' := Aside0.mk H
                        clear H
                        go_wp2
                        go_roundg k2
                        case measure => have := HK1.out; have := HK2.out; omega
                        case rel => exact ⟨(wrap64 (x20_1 + 1)), (x175001_2), (u175001), (by first | rfl | (simp; done) | (simp [*]; done)), H', ⟨by have := HK1.out; have := HK2.out; omega⟩, ⟨rS HO_175001.out⟩, ⟨blkS BK168.out⟩, ⟨blkS BK169.out⟩, ⟨blkS BK174.out⟩, ⟨bS HB.out⟩⟩
                · rw [if_neg c22] at H
                  exact absurd H (by simp)
              · rw [if_neg c21] at H
                exact absurd H (by simp)
            · rw [if_neg c20] at H
              have c20b0 : decide (x20_1 < (l0_2.length : Int)) = false := decide_eq_false c20
              clear c20
              replace H := Option.bind_eq_some_iff.mp H
              obtain ⟨t175, A400, H⟩ := H
              replace H : (if t175 = true then (some ((⟨#[115, 117, 109]⟩ : ByteArray), x175001_1, true)) else (some ((⟨#[]⟩ : ByteArray), ([] : List Int), false))) = some (r1, r2, r3) := H
              have A40 := Aside0.mk A400
              clear A400
              by_cases c41 : t175 = true
              · subst c41
                have H1 : (some ((⟨#[115, 117, 109]⟩ : ByteArray), x175001_1, true)) = some (r1, r2, r3) := by rw [if_pos rfl] at H; exact H
                clear H
                have H := H1
                clear H1
                simp only [Option.some.injEq, Prod.mk.injEq] at H
                obtain ⟨rfl, rfl, rfl⟩ := H
                have hnb42 := NB174_168.out
                have hnc42 := NB168_174.out
                have hnb43 := NB174_169.out
                have hnc43 := NB169_174.out
                have hcz44_0 : wr.cell? ⟨gb174, 0, none⟩ = some (.string (⟨#[115, 117, 109]⟩ : ByteArray)) := (blk_cell BK174.out 0).trans rfl
                have hcz44_1 : wr.cell? ⟨gb174, 1, none⟩ = some (u175001) := (blk_cell BK174.out 1).trans rfl
                have hfz44_0 := blk_frozen BK174.out 0
                have hfz44_1 := blk_frozen BK174.out 1
                obtain ⟨Ao45, co45, eo45⟩ := Kd.R_slice HO_175001.out
                subst eo45
                go_wp2_with (first | ((with_reducible refine gate_callee (f := 86) rfl ?_); refine gL (some 44) Try.func86 #[.slice Ao45 x175001_1.length co45, .int .i64 (-1000000000), .int .i64 1000000000] ?_; (with_reducible refine (spec_l1All.calls k1 _ _ x175001_1 (-1000000000) 1000000000 true _ ?side1 ?side2 A40.out).mono ?_); (case side1 => exact cS (Kd.R_reads' HO_175001.out).2.2); (case side2 => exact (Kd.R_reads' HO_175001.out).2.1); rintro e w' ⟨rfl, ⟨nd, rfl⟩⟩; refine ⟨_, rfl, ?_⟩; (try (rw [drewN_self wr]; generalize hq_ : World.drewN wr _ = wr; have n0_ : Aside0 (Kd.R (Kd.int .i64) 3 wr w.heap.size (fun _ => True) (.slice Ao45 x175001_1.length co45) x175001_1) := ⟨by rw [← hq_]; exact (rS HO_175001.out)⟩; have n1_ : Aside0 (wr.heap[gb168]? = some (.cells #[.string a0_0, .int .i64 a0_1, .slice A0_2 l0_2.length c0_2] 50 (0, 0))) := ⟨by rw [← hq_]; exact (blkS BK168.out)⟩; have n2_ : Aside0 (wr.heap[gb169]? = some (.cells #[.string (⟨#[]⟩ : ByteArray), .slice none 0 0] 58 (0, 0))) := ⟨by rw [← hq_]; exact (blkS BK169.out)⟩; have n3_ : Aside0 (wr.heap[gb174]? = some (.cells #[.string (⟨#[115, 117, 109]⟩ : ByteArray), .slice Ao45 x175001_1.length co45] 58 (0, 0))) := ⟨by rw [← hq_]; exact (blkS BK174.out)⟩; have n4_ : Aside0 (Below w.heap.size w wr) := ⟨by rw [← hq_]; exact (bS HB.out)⟩; clear HO_175001 BK168 BK169 BK174 HB hq_; have HO_175001 := n0_; have BK168 := n1_; have BK169 := n2_; have BK174 := n3_; have HB := n4_; clear n0_ n1_ n2_ n3_ n4_)); have hcz46_0 : wr.cell? ⟨gb174, 0, none⟩ = some (.string (⟨#[115, 117, 109]⟩ : ByteArray)) := (blk_cell BK174.out 0).trans rfl; have hcz46_1 : wr.cell? ⟨gb174, 1, none⟩ = some (.slice Ao45 x175001_1.length co45) := (blk_cell BK174.out 1).trans rfl; have hfz46_0 := blk_frozen BK174.out 0; have hfz46_1 := blk_frozen BK174.out 1; have hnb47 := NB169_168.out; have hnc47 := NB168_169.out; have hcz48_0 : wr.cell? ⟨gb169, 0, none⟩ = some (.string (⟨#[]⟩ : ByteArray)) := (blk_cell BK169.out 0).trans rfl; have hcz48_1 : wr.cell? ⟨gb169, 1, none⟩ = some (.slice none 0 0) := (blk_cell BK169.out 1).trans rfl; have hfz48_0 := blk_frozen BK169.out 0; have hfz48_1 := blk_frozen BK169.out 1))
                refine bodyPost_ret (results_ct rfl _ _ gb169 58 #[.string (⟨#[115, 117, 109]⟩ : ByteArray), .slice Ao45 x175001_1.length co45] (0, 0) _ rfl (by (with_reducible repeat (first | refine blk_drewN ?_ _ | refine blk_drew ?_ | refine blk_alloc ?_ _)); refine blk_put (cs := #[.string (⟨#[115, 117, 109]⟩ : ByteArray), .slice none 0 0]) ?_ 1 _ rfl; (with_reducible repeat (first | refine blk_drewN ?_ _ | refine blk_drew ?_ | refine blk_alloc ?_ _)); refine blk_put (cs := #[.string (⟨#[]⟩ : ByteArray), .slice none 0 0]) ?_ 0 _ rfl; (with_reducible repeat (first | refine blk_drewN ?_ _ | refine blk_drew ?_ | refine blk_alloc ?_ _)); exact BK169.out) Try.underlying58 rfl (by kernel_rfl)) rfl ?_
                exact ⟨_, by first | rfl | (simp [errW_none, errW_some] <;> rfl) | (simp [*, errW_none, errW_some] <;> rfl), by (with_reducible repeat (first | apply Kd.R_alloc | apply Kd.R_drewN | apply Kd.R_drew)); exact Kd.R_mono (Kd.R_far (Kd.R_far (Kd.R_types HO_175001.out BK169.out (by decide)) (fun _ hk => hk.2) (.string (⟨#[115, 117, 109]⟩ : ByteArray))) (fun _ hk => hk.2) _) (fun _ hk => trivial), bS HB.out⟩
              · replace c41 := Bool.eq_false_iff.mpr c41
                subst c41
                have H1 : (some ((⟨#[]⟩ : ByteArray), ([] : List Int), false)) = some (r1, r2, r3) := by rw [if_neg (show ¬ (false = true) by decide)] at H; exact H
                clear H
                have H := H1
                clear H1
                simp only [Option.some.injEq, Prod.mk.injEq] at H
                obtain ⟨rfl, rfl, rfl⟩ := H
                have hnb49 := NB174_168.out
                have hnc49 := NB168_174.out
                have hnb50 := NB174_169.out
                have hnc50 := NB169_174.out
                have hcz51_0 : wr.cell? ⟨gb174, 0, none⟩ = some (.string (⟨#[115, 117, 109]⟩ : ByteArray)) := (blk_cell BK174.out 0).trans rfl
                have hcz51_1 : wr.cell? ⟨gb174, 1, none⟩ = some (u175001) := (blk_cell BK174.out 1).trans rfl
                have hfz51_0 := blk_frozen BK174.out 0
                have hfz51_1 := blk_frozen BK174.out 1
                obtain ⟨Ao52, co52, eo52⟩ := Kd.R_slice HO_175001.out
                subst eo52
                go_wp2_with (first | ((with_reducible refine gate_callee (f := 86) rfl ?_); refine gL (some 44) Try.func86 #[.slice Ao52 x175001_1.length co52, .int .i64 (-1000000000), .int .i64 1000000000] ?_; (with_reducible refine (spec_l1All.calls k1 _ _ x175001_1 (-1000000000) 1000000000 false _ ?side1 ?side2 A40.out).mono ?_); (case side1 => exact cS (Kd.R_reads' HO_175001.out).2.2); (case side2 => exact (Kd.R_reads' HO_175001.out).2.1); rintro e w' ⟨rfl, ⟨nd, rfl⟩⟩; refine ⟨_, rfl, ?_⟩; (try (rw [drewN_self wr]; generalize hq_ : World.drewN wr _ = wr; have n0_ : Aside0 (Kd.R (Kd.int .i64) 3 wr w.heap.size (fun _ => True) (.slice Ao52 x175001_1.length co52) x175001_1) := ⟨by rw [← hq_]; exact (rS HO_175001.out)⟩; have n1_ : Aside0 (wr.heap[gb168]? = some (.cells #[.string a0_0, .int .i64 a0_1, .slice A0_2 l0_2.length c0_2] 50 (0, 0))) := ⟨by rw [← hq_]; exact (blkS BK168.out)⟩; have n2_ : Aside0 (wr.heap[gb169]? = some (.cells #[.string (⟨#[]⟩ : ByteArray), .slice none 0 0] 58 (0, 0))) := ⟨by rw [← hq_]; exact (blkS BK169.out)⟩; have n3_ : Aside0 (wr.heap[gb174]? = some (.cells #[.string (⟨#[115, 117, 109]⟩ : ByteArray), .slice Ao52 x175001_1.length co52] 58 (0, 0))) := ⟨by rw [← hq_]; exact (blkS BK174.out)⟩; have n4_ : Aside0 (Below w.heap.size w wr) := ⟨by rw [← hq_]; exact (bS HB.out)⟩; clear HO_175001 BK168 BK169 BK174 HB hq_; have HO_175001 := n0_; have BK168 := n1_; have BK169 := n2_; have BK174 := n3_; have HB := n4_; clear n0_ n1_ n2_ n3_ n4_)); have hnb53 := NB169_168.out; have hnc53 := NB168_169.out; have hcz54_0 : wr.cell? ⟨gb169, 0, none⟩ = some (.string (⟨#[]⟩ : ByteArray)) := (blk_cell BK169.out 0).trans rfl; have hcz54_1 : wr.cell? ⟨gb169, 1, none⟩ = some (.slice none 0 0) := (blk_cell BK169.out 1).trans rfl; have hfz54_0 := blk_frozen BK169.out 0; have hfz54_1 := blk_frozen BK169.out 1))
                refine bodyPost_ret (results_ct rfl _ _ gb169 58 #[.string (⟨#[]⟩ : ByteArray), .slice none 0 0] (0, 0) _ rfl (by (with_reducible repeat (first | refine blk_drewN ?_ _ | refine blk_drew ?_ | refine blk_alloc ?_ _)); refine blk_put (cs := #[.string (⟨#[]⟩ : ByteArray), .slice none 0 0]) ?_ 1 _ rfl; (with_reducible repeat (first | refine blk_drewN ?_ _ | refine blk_drew ?_ | refine blk_alloc ?_ _)); refine blk_put (cs := #[.string (⟨#[]⟩ : ByteArray), .slice none 0 0]) ?_ 0 _ rfl; (with_reducible repeat (first | refine blk_drewN ?_ _ | refine blk_drew ?_ | refine blk_alloc ?_ _)); exact BK169.out) Try.underlying58 rfl (by kernel_rfl)) rfl ?_
                exact ⟨_, by first | rfl | (simp [errW_none, errW_some] <;> rfl) | (simp [*, errW_none, errW_some] <;> rfl), by first | exact Kd.R_nil _ _ _ _ _ | exact Kd.N_nil _ _ _ _ _ | exact Kd.V_nil _ _ _ _ _ | exact Kd.Q_nil _ _ _ _ _ | exact Kd.S_nil _ _ _ _ _, bS HB.out⟩
      · rw [if_neg c5] at H
        exact absurd H (by simp)
    · rw [if_neg c4] at H
      exact absurd H (by simp)
  · replace c3 := Bool.eq_false_iff.mpr c3
    subst c3
    have H1 : (some ((⟨#[]⟩ : ByteArray), ([] : List Int), false)) = some (r1, r2, r3) := by rw [if_neg (show ¬ (false = true) by decide)] at H; exact H
    clear H
    have H := H1
    clear H1
    simp only [Option.some.injEq, Prod.mk.injEq] at H
    obtain ⟨rfl, rfl, rfl⟩ := H
    go_enter Try.func46, Try.ntmps46
    go_wp2_with (first | ((with_reducible refine gate_dst (N := 1) rfl ?_); refine box_event ?hg (N := 1) ?hd (cs := #[.string a0_0, .int .i64 a0_1, .slice A0_2 l0_2.length c0_2]) (t := 50) ?hr ?_; (case hd => rfl); (case hg => rfl); (case hr => first | (go_simp; done) | (go_simp; rfl)); intro gb168 hg w55 hbox hb; have n0_ := AZ (below_step (bS HB.out) hb); have n1_ := AZ (hbox); have n2_ := AZ (geS hg HB.out); have n3_ := AZ (geS hg HB.out); clear HB; have HB := n0_; have BK168 := n1_; have GW168 := n2_; have GE168 := n3_; clear n0_ n1_ n2_ n3_; clear hb hbox hg) | ((with_reducible refine gate_dst (N := 2) rfl ?_); refine box_event ?hg (N := 2) ?hd (cs := #[.string (⟨#[]⟩ : ByteArray), .slice none 0 0]) (t := 58) ?hr ?_; (case hd => rfl); (case hg => rfl); (case hr => first | (go_simp; done) | (go_simp; rfl)); intro gb169 hg w56 hbox hb; have n0_ := blkA BK168 hb; have n1_ := AZ (below_step (bS HB.out) hb); have n2_ := AZ (hbox); have n3_ := AZ (geS hg HB.out); have n4_ := AZ (geS hg HB.out); have n5_ := AZ ((by rw [hg]; exact Nat.ne_of_lt (blkL BK168.out) : gb168 ≠ gb169)); have n6_ := AZ ((by rw [hg]; exact Nat.ne_of_gt (blkL BK168.out) : gb169 ≠ gb168)); clear BK168; clear HB; have BK168 := n0_; have HB := n1_; have BK169 := n2_; have GW169 := n3_; have GE169 := n4_; have NB168_169 := n5_; have NB169_168 := n6_; clear n0_ n1_ n2_ n3_ n4_ n5_ n6_; clear hb hbox hg; have hnb57 := NB168_169.out; have hnc57 := NB169_168.out; have hcz58_0 : w56.cell? ⟨gb168, 0, none⟩ = some (.string a0_0) := (blk_cell BK168.out 0).trans rfl; have hcz58_1 : w56.cell? ⟨gb168, 1, none⟩ = some (.int .i64 a0_1) := (blk_cell BK168.out 1).trans rfl; have hcz58_2 : w56.cell? ⟨gb168, 2, none⟩ = some (.slice A0_2 l0_2.length c0_2) := (blk_cell BK168.out 2).trans rfl; have hfz58_0 := blk_frozen BK168.out 0; have hfz58_1 := blk_frozen BK168.out 1; have hfz58_2 := blk_frozen BK168.out 2) | ((with_reducible refine gate_callee (f := 74) rfl ?_); refine gL (some 10) Try.func74 #[.agg #[.string a0_0, .int .i64 a0_1, .slice A0_2 l0_2.length c0_2]] ?_; (with_reducible refine (spec_rpGood.calls k a0_0 a0_1 _ _ l0_2 false _ ?side1 ?side2 A2.out).mono ?_); (case side1 => exact cS (Kd.C_below HR0_2.out HB.out)); (case side2 => exact HC0_2.out); rintro e w59 ⟨rfl, hb⟩; refine ⟨_, rfl, ?_⟩; have n0_ := blkA BK168 hb; have n1_ := blkA BK169 hb; have n2_ := AZ (below_step (bS HB.out) hb); clear BK168; clear BK169; clear HB; have BK168 := n0_; have BK169 := n1_; have HB := n2_; clear n0_ n1_ n2_; (try clear hb); have hcz60_0 : w59.cell? ⟨gb169, 0, none⟩ = some (.string (⟨#[]⟩ : ByteArray)) := (blk_cell BK169.out 0).trans rfl; have hcz60_1 : w59.cell? ⟨gb169, 1, none⟩ = some (.slice none 0 0) := (blk_cell BK169.out 1).trans rfl; have hfz60_0 := blk_frozen BK169.out 0; have hfz60_1 := blk_frozen BK169.out 1))
    refine bodyPost_ret (results_ct rfl _ _ gb169 58 #[.string (⟨#[]⟩ : ByteArray), .slice none 0 0] (0, 0) _ rfl (by (with_reducible repeat (first | refine blk_drewN ?_ _ | refine blk_drew ?_ | refine blk_alloc ?_ _)); refine blk_put (cs := #[.string (⟨#[]⟩ : ByteArray), .slice none 0 0]) ?_ 1 _ rfl; (with_reducible repeat (first | refine blk_drewN ?_ _ | refine blk_drew ?_ | refine blk_alloc ?_ _)); refine blk_put (cs := #[.string (⟨#[]⟩ : ByteArray), .slice none 0 0]) ?_ 0 _ rfl; (with_reducible repeat (first | refine blk_drewN ?_ _ | refine blk_drew ?_ | refine blk_alloc ?_ _)); exact BK169.out) Try.underlying58 rfl (by kernel_rfl)) rfl ?_
    exact ⟨_, by first | rfl | (simp [errW_none, errW_some] <;> rfl) | (simp [*, errW_none, errW_some] <;> rfl), by first | exact Kd.R_nil _ _ _ _ _ | exact Kd.N_nil _ _ _ _ _ | exact Kd.V_nil _ _ _ _ _ | exact Kd.Q_nil _ _ _ _ _ | exact Kd.S_nil _ _ _ _ _, bS HB.out⟩

end Go.Proofs.Ytoaefflonebgkaa.PFnExactSumRow
