-- Written by a program of this claim (patch_print.py over the print): no hand has typed it.
import Derived.Test.YtpfjjheognelhaaPFnExactWorthBetweenx0
import Derived.Test.YtpfjjheognelhaaPFnExactWorthBetweenx4
namespace Go.Proofs.Ytpfjjheognelhaa.PFnExactWorthBetween
open Go.RowKit Go.Proofs.YtpfjjheognelhaaW.PrintWords Go.Proofs.YtpfjjheognelhaaW.PrintLast Go.Proofs.YtpfjjheognelhaaW.PrintMore
attribute [local go_sem] max2_int min2_int max_two min_two max_three min_three max_four min_four   -- for this text's walks alone
set_option linter.unusedVariables false
set_option linter.unusedSimpArgs false

/-! ### spec_woPeriods: function 104 -/
def spec_woPeriods.l0 : Nat → List Int → List Int → Int → Int → List (List Int) → List Int → List Int → Int → Int → Int → Int → Int → Option (List Int)
 | 0, _, _, _, _, _, _, _, _, _, _, _, _ => none
 | k + 1, x5, x12, x13, x14, x199000, x199001, x199002, x199003, x199004, x199005, x199006, x199007 => if x14 < x13 then (if 0 ≤ x14 then (if x14 < (x12.length : Int) then (if (rd x12 x14) ≥ 0 then (if 0 ≤ (rd x12 x14) then (if (rd x12 x14) < (x5.length : Int) then (if x14 < (x199002.length : Int) then ((spec_srFactor.f k x199000 x199001 x199002 x199003 x199004 x199005 x199006 x199007 (rd x12 x14)).bind fun t206 => (spec_woPeriods.l0 k (x5.set ((rd x12 x14) : Int).toNat (wrap64 ((rd x5 (rd x12 x14)) + (wrap64 ((rd x199002 x14) * t206))))) x12 x13 (wrap64 (x14 + 1)) x199000 x199001 x199002 x199003 x199004 x199005 x199006 x199007)) else (none)) else (none)) else (none)) else (spec_woPeriods.l0 k x5 x12 x13 (wrap64 (x14 + 1)) x199000 x199001 x199002 x199003 x199004 x199005 x199006 x199007)) else (none)) else (none)) else (some x5)
def spec_woPeriods.f (k : Nat) (l0_0 : List (List Int)) (l0_1 : List Int) (l0_2 : List Int) (a0_3 : Int) (a0_4 : Int) (a0_5 : Int) (a0_6 : Int) (a0_7 : Int) (a1_0 : Int) (l1_1 : List Int) : Option (List Int) := if 0 ≤ a0_5 then (if (a0_5 : Int).toNat ≤ 35184372088832 then (spec_woPeriods.l0 k (List.replicate (a0_5 : Int).toNat 0) l1_1 (l1_1.length : Int) 0 l0_0 l0_1 l0_2 a0_3 a0_4 a0_5 a0_6 a0_7) else (none)) else (none)
def spec_woPeriods.T6 : Bool × List (List Nat × List Nat) := (true, [([], []), ([], []), ([0, 1], [0, 1]), ([2], [2]), ([], []), ([4], [4]), ([], []), ([5, 6], [5, 6]), ([7], [7]), ([], []), ([], []), ([9, 10], [9, 10]), ([8, 11], [8, 11]), ([3, 12], [3, 12]), ([0, 1, 0, 1, 2, 3, 4, 5, 6, 7, 8, 9, 10, 11, 12, 13], [0, 1]), ([14, 13, 11, 0, 1, 2, 3, 4, 5, 6, 7, 8, 9, 10, 11, 12, 13], [13, 14])])
def spec_woPeriods.B6 : List Nat := [0, 0, 3, 7, 0, 16, 0, 112, 240, 0, 0, 1536, 4080, 8191, 16383, 32767]
theorem spec_woPeriods.tab6 : rtab .any (opsOf Try.f104 6) = spec_woPeriods.T6 := by kernel_rfl
theorem spec_woPeriods.bits6 : waitsOk spec_woPeriods.T6.2 spec_woPeriods.B6 = true := by kernel_rfl
set_option maxHeartbeats 8000000 in
set_option maxRecDepth 100000 in
theorem spec_woPeriods.calls (k : Nat) (A0_0 : Option Addr) (c0_0 : Nat) (l0_0 : List (List Int)) (A0_1 : Option Addr) (c0_1 : Nat) (l0_1 : List Int) (A0_2 : Option Addr) (c0_2 : Nat) (l0_2 : List Int) (a0_3 : Int) (a0_4 : Int) (a0_5 : Int) (a0_6 : Int) (a0_7 : Int) (a1_0 : Int) (A1_1 : Option Addr) (c1_1 : Nat) (l1_1 : List Int) (r : List Int) (w : World) (hr0_0 : Kd.C (Kd.slice 3 (Kd.int .i64)) w A0_0 l0_0.length l0_0) (hc0_0 : l0_0.length ≤ c0_0) (hr0_1 : Kd.C (Kd.int .i64) w A0_1 l0_1.length l0_1) (hc0_1 : l0_1.length ≤ c0_1) (hr0_2 : Kd.C (Kd.int .i64) w A0_2 l0_2.length l0_2) (hc0_2 : l0_2.length ≤ c0_2) (hr1_1 : Kd.C (Kd.int .i64) w A1_1 l1_1.length l1_1) (hc1_1 : l1_1.length ≤ c1_1) (h : spec_woPeriods.f k l0_0 l0_1 l0_2 a0_3 a0_4 a0_5 a0_6 a0_7 a1_0 l1_1 = some r) :
  Calls Try.prog 104 #[.agg #[.slice A0_0 l0_0.length c0_0, .slice A0_1 l0_1.length c0_1, .slice A0_2 l0_2.length c0_2, .int .i64 a0_3, .int .i64 a0_4, .int .i64 a0_5, .int .i64 a0_6, .int .i64 a0_7], .agg #[.int .i64 a1_0, .slice A1_1 l1_1.length c1_1]] w fun e w' => ∃ v0_ : Value, e = .returned (v0_) ∧ Kd.R (Kd.int .i64) 3 w' w.heap.size (fun _ => True) v0_ r ∧ Below w.heap.size w w' := by
 have hu36 := Try.underlying36
 have hu38 := Try.underlying38
 have HR0_0 := Aside0.mk hr0_0
 have HC0_0 := Aside0.mk hc0_0
 clear hr0_0 hc0_0
 have HR0_1 := Aside0.mk hr0_1
 have HC0_1 := Aside0.mk hc0_1
 clear hr0_1 hc0_1
 have HR0_2 := Aside0.mk hr0_2
 have HC0_2 := Aside0.mk hc0_2
 clear hr0_2 hc0_2
 have HR1_1 := Aside0.mk hr1_1
 have HC1_1 := Aside0.mk hc1_1
 clear hr1_1 hc1_1
 have HB := AZ (Below.refl w.heap.size w)
 have H : (if 0 ≤ a0_5 then (if (a0_5 : Int).toNat ≤ 35184372088832 then (spec_woPeriods.l0 k (List.replicate (a0_5 : Int).toNat 0) l1_1 (l1_1.length : Int) 0 l0_0 l0_1 l0_2 a0_3 a0_4 a0_5 a0_6 a0_7) else (none)) else (none)) = some r := h
 clear h
 by_cases c3 : 0 ≤ a0_5
 ·rw [if_pos c3] at H
  have c3b0 := eq_true c3
  have c3b1 : decide (0 ≤ a0_5) = true := decide_eq_true c3
  clear c3
  by_cases c4 : (a0_5 : Int).toNat ≤ 35184372088832
  ·rw [if_pos c4] at H
   have c4b0 := eq_true c4
   have c4b1 : decide ((a0_5 : Int).toNat ≤ 35184372088832) = true := decide_eq_true c4
   clear c4
   obtain ⟨y200, hy200⟩ : ∃ y_ : List Int, y_ = (List.replicate (a0_5 : Int).toNat 0) := ⟨_, rfl⟩
   replace H : (spec_woPeriods.l0 k y200 l1_1 (l1_1.length : Int) 0 l0_0 l0_1 l0_2 a0_3 a0_4 a0_5 a0_6 a0_7) = some r := by first | (rw [hy200]; with_reducible exact H) | (have H2_ := (Option.bind_some _ _).symm.trans H; rw [hy200]; with_reducible exact H2_) | (have H2_ := (Option.bind_some _ _).symm.trans H; with_reducible exact H2_) | with_reducible exact H | (rw [hy200]; exact H) | exact H
   have Ny200 := Aside0.mk hy200
   clear hy200
   have H' := Aside0.mk H
   clear H
   go_enter Try.func104, Try.ntmps104
   go_wp2_with (first | ((with_reducible refine gate_dst (N := 2) rfl ?_); refine box_event ?hg (N := 2) ?hd (cs := #[.slice A0_0 l0_0.length c0_0, .slice A0_1 l0_1.length c0_1, .slice A0_2 l0_2.length c0_2, .int .i64 a0_3, .int .i64 a0_4, .int .i64 a0_5, .int .i64 a0_6, .int .i64 a0_7]) (t := 36) ?hr ?_; (case hd => rfl); (case hg => rfl); (case hr => first | (go_simp; done) | (go_simp; rfl)); intro gb198 hg w5 hbox hb; have n0_ := AZ (below_step (bS HB.out) hb); have n1_ := AZ (hbox); have n2_ := AZ (geS hg HB.out); have n3_ := AZ (geS hg HB.out); clear HB; have HB := n0_; have BK198 := n1_; have GW198 := n2_; have GE198 := n3_; clear n0_ n1_ n2_ n3_; clear hb hbox hg) | ((with_reducible refine gate_dst (N := 3) rfl ?_); refine box_event ?hg (N := 3) ?hd (cs := #[.int .i64 a1_0, .slice A1_1 l1_1.length c1_1]) (t := 38) ?hr ?_; (case hd => rfl); (case hg => rfl); (case hr => first | (go_simp; done) | (go_simp; rfl)); intro gb199 hg w6 hbox hb; have n0_ := blkA BK198 hb; have n1_ := AZ (below_step (bS HB.out) hb); have n2_ := AZ (hbox); have n3_ := AZ (geS hg HB.out); have n4_ := AZ (geS hg HB.out); have n5_ := AZ ((by rw [hg]; exact Nat.ne_of_lt (blkL BK198.out) : gb198 ≠ gb199)); have n6_ := AZ ((by rw [hg]; exact Nat.ne_of_gt (blkL BK198.out) : gb199 ≠ gb198)); clear BK198; clear HB; have BK198 := n0_; have HB := n1_; have BK199 := n2_; have GW199 := n3_; have GE199 := n4_; have NB198_199 := n5_; have NB199_198 := n6_; clear n0_ n1_ n2_ n3_ n4_ n5_ n6_; clear hb hbox hg; have hnb7 := NB198_199.out; have hnc7 := NB199_198.out; have hcz8_0 : w6.cell? ⟨gb198, 0, none⟩ = some (.slice A0_0 l0_0.length c0_0) := (blk_cell BK198.out 0).trans rfl; have hcz8_1 : w6.cell? ⟨gb198, 1, none⟩ = some (.slice A0_1 l0_1.length c0_1) := (blk_cell BK198.out 1).trans rfl; have hcz8_2 : w6.cell? ⟨gb198, 2, none⟩ = some (.slice A0_2 l0_2.length c0_2) := (blk_cell BK198.out 2).trans rfl; have hcz8_3 : w6.cell? ⟨gb198, 3, none⟩ = some (.int .i64 a0_3) := (blk_cell BK198.out 3).trans rfl; have hcz8_4 : w6.cell? ⟨gb198, 4, none⟩ = some (.int .i64 a0_4) := (blk_cell BK198.out 4).trans rfl; have hcz8_5 : w6.cell? ⟨gb198, 5, none⟩ = some (.int .i64 a0_5) := (blk_cell BK198.out 5).trans rfl; have hcz8_6 : w6.cell? ⟨gb198, 6, none⟩ = some (.int .i64 a0_6) := (blk_cell BK198.out 6).trans rfl; have hcz8_7 : w6.cell? ⟨gb198, 7, none⟩ = some (.int .i64 a0_7) := (blk_cell BK198.out 7).trans rfl; have hfz8_0 := blk_frozen BK198.out 0; have hfz8_1 := blk_frozen BK198.out 1; have hfz8_2 := blk_frozen BK198.out 2; have hfz8_3 := blk_frozen BK198.out 3; have hfz8_4 := blk_frozen BK198.out 4; have hfz8_5 := blk_frozen BK198.out 5; have hfz8_6 := blk_frozen BK198.out 6; have hfz8_7 := blk_frozen BK198.out 7) | ((with_reducible refine gate_dst (N := 10) rfl ?_); refine Kd.R_make (Kd.int .i64) _ 3 rfl (N := 10) rfl 23 _ _ rfl a0_5 rfl rfl Try.underlying23 (.int .i64 0) 8 info3 rfl (by decide) (by omega) 0 (ok := fun _ => True) (okp := fun _ => True) rfl (fun _ hk => hk) trivial (of_decide_eq_true (by assumption)) (Nat.le_trans (Nat.mul_le_mul_right _ (of_decide_eq_true (by assumption) : a0_5.toNat ≤ 35184372088832)) (by omega)) (Below.refl _ _) (Nat.le_refl _) ?_; intro v201 w9 ho10 hb hg_ hnew_; clear hg_ hnew_; (first | rw [← Ny200.out] at ho10 | (simp only [Int.reduceToNat] at ho10; rw [← Ny200.out] at ho10)); have n0_ := AZ (Kd.R_lower ho10 (below_size (bS HB.out))); have n1_ := blkA BK198 hb; have n2_ := blkA BK199 hb; have n3_ := AZ (below_step (bS HB.out) hb); clear BK198; clear BK199; clear HB; have HO202 := n0_; have BK198 := n1_; have BK199 := n2_; have HB := n3_; clear n0_ n1_ n2_ n3_; clear hb ho10; have hcz11_0 : w9.cell? ⟨gb199, 0, none⟩ = some (.int .i64 a1_0) := (blk_cell BK199.out 0).trans rfl; have hcz11_1 : w9.cell? ⟨gb199, 1, none⟩ = some (.slice A1_1 l1_1.length c1_1) := (blk_cell BK199.out 1).trans rfl; have hfz11_0 := blk_frozen BK199.out 0; have hfz11_1 := blk_frozen BK199.out 1))
   go_loopg [14] k (fun kq v14 w' => ∃ (x5_1 : List Int) (x14_1 : Int), v14 = .int .i64 x14_1 ∧ Aside0 (spec_woPeriods.l0 kq x5_1 l1_1 (l1_1.length : Int) x14_1 l0_0 l0_1 l0_2 a0_3 a0_4 a0_5 a0_6 a0_7 = some r) ∧ Aside0 (kq ≤ k) ∧ Aside0 (Kd.R (Kd.int .i64) 3 w' w.heap.size (fun _ => True) v201 x5_1) ∧ Aside0 (w'.heap[gb198]? = some (.cells #[(.slice A0_0 l0_0.length c0_0), (.slice A0_1 l0_1.length c0_1), (.slice A0_2 l0_2.length c0_2), .int .i64 a0_3, .int .i64 a0_4, .int .i64 a0_5, .int .i64 a0_6, .int .i64 a0_7] 36 (0, 0))) ∧ Aside0 (w'.heap[gb199]? = some (.cells #[.int .i64 a1_0, (.slice A1_1 l1_1.length c1_1)] 38 (0, 0))) ∧ Aside0 (Below w.heap.size w w'))
   case atStart => exact ⟨(y200), (0), (by first | rfl | (simp; done) | (simp [*]; done)), H', ⟨Nat.le_refl _⟩, ⟨rS HO202.out⟩, ⟨blkS BK198.out⟩, ⟨blkS BK199.out⟩, ⟨bS HB.out⟩⟩
   case round =>
    clear H'
    try clear c1
    try clear p2
    try clear c3
    try clear c3b0
    try clear c3b1
    try clear c4
    try clear c4b0
    try clear c4b1
    try clear c7
    try clear c10
    try clear hcz11_0
    try clear hcz11_1
    try clear hcz8_0
    try clear hcz8_1
    try clear hcz8_2
    try clear hcz8_3
    try clear hcz8_4
    try clear hcz8_5
    try clear hcz8_6
    try clear hcz8_7
    try clear hfz11_0
    try clear hfz11_1
    try clear hfz8_0
    try clear hfz8_1
    try clear hfz8_2
    try clear hfz8_3
    try clear hfz8_4
    try clear hfz8_5
    try clear hfz8_6
    try clear hfz8_7
    obtain ⟨x5_1, x14_1, rfl, HA, HK1, HO_5, BK198, BK199, HB⟩ := hrel
    cases gk with
    | zero => exact absurd HA.out (by simp [spec_woPeriods.l0])
    | succ k1 =>
     have H := HA.out
     clear HA
     simp only [spec_woPeriods.l0] at H
     by_cases c12 : x14_1 < (l1_1.length : Int)
     ·rw [if_pos c12] at H
      have c12b0 : decide (x14_1 < (l1_1.length : Int)) = true := decide_eq_true c12
      clear c12
      by_cases c13 : 0 ≤ x14_1
      ·rw [if_pos c13] at H
       have c13b0 : decide (0 ≤ x14_1) = true := decide_eq_true c13
       clear c13
       by_cases c14 : x14_1 < (l1_1.length : Int)
       ·rw [if_pos c14] at H
        have c14b0 : decide (x14_1 < (l1_1.length : Int)) = true := decide_eq_true c14
        clear c14
        by_cases c15 : (rd l1_1 x14_1) ≥ 0
        ·rw [if_pos c15] at H
         have c15b0 : decide (0 ≤ (rd l1_1 x14_1)) = true := decide_eq_true c15
         clear c15
         by_cases c16 : 0 ≤ (rd l1_1 x14_1)
         ·rw [if_pos c16] at H
          have c16b0 : decide (0 ≤ (rd l1_1 x14_1)) = true := decide_eq_true c16
          clear c16
          by_cases c17 : (rd l1_1 x14_1) < (x5_1.length : Int)
          ·rw [if_pos c17] at H
           have c17b0 : decide ((rd l1_1 x14_1) < (x5_1.length : Int)) = true := decide_eq_true c17
           clear c17
           by_cases c18 : x14_1 < (l0_2.length : Int)
           ·rw [if_pos c18] at H
            have c18b0 : decide (x14_1 < (l0_2.length : Int)) = true := decide_eq_true c18
            clear c18
            replace H := Option.bind_eq_some_iff.mp H
            obtain ⟨t206, A190, H⟩ := H
            replace H : (spec_woPeriods.l0 k1 (x5_1.set ((rd l1_1 x14_1) : Int).toNat (wrap64 ((rd x5_1 (rd l1_1 x14_1)) + (wrap64 ((rd l0_2 x14_1) * t206))))) l1_1 (l1_1.length : Int) (wrap64 (x14_1 + 1)) l0_0 l0_1 l0_2 a0_3 a0_4 a0_5 a0_6 a0_7) = some r := H
            have A19 := Aside0.mk A190
            clear A190
            obtain ⟨y207, hy207⟩ : ∃ y_ : List Int, y_ = (x5_1.set ((rd l1_1 x14_1) : Int).toNat (wrap64 ((rd x5_1 (rd l1_1 x14_1)) + (wrap64 ((rd l0_2 x14_1) * t206))))) := ⟨_, rfl⟩
            replace H : (spec_woPeriods.l0 k1 y207 l1_1 (l1_1.length : Int) (wrap64 (x14_1 + 1)) l0_0 l0_1 l0_2 a0_3 a0_4 a0_5 a0_6 a0_7) = some r := by first | (rw [hy207]; with_reducible exact H) | (have H2_ := (Option.bind_some _ _).symm.trans H; rw [hy207]; with_reducible exact H2_) | (have H2_ := (Option.bind_some _ _).symm.trans H; with_reducible exact H2_) | with_reducible exact H | (rw [hy207]; exact H) | exact H
            have Ny207 := Aside0.mk hy207
            clear hy207
            have H' := Aside0.mk H
            clear H
            have p203 : 0 ≤ (x14_1 : Int) := of_decide_eq_true (by assumption)
            have q203 : x14_1 < (l1_1.length : Int) := of_decide_eq_true (by assumption)
            obtain ⟨ad203, e203, hx203_0⟩ := Kd.at_int HR1_1.out x14_1 p203 q203
            cases e203
            replace hx203_0 := (HB.out.cell (World.block_lt_of_cell? w _ hx203_0)).trans hx203_0
            replace p203 := eq_true p203
            replace q203 := eq_true q203
            try go_wp2
            have n0_ := AZ (Kd.R_drew HO_5.out)
            have n1_ := AZ (blk_drew BK198.out)
            have n2_ := AZ (blk_drew BK199.out)
            have n3_ := AZ (below_drew1 HB.out)
            clear HO_5
            clear BK198
            clear BK199
            clear HB
            have HO_5 := n0_
            have BK198 := n1_
            have BK199 := n2_
            have HB := n3_
            clear n0_ n1_ n2_ n3_
            obtain ⟨Ao22, co22, eo22⟩ := Kd.R_slice HO_5.out
            (first | subst eo22 | (injection eo22 with f1_ f2_ f3_; have f4_ := f1_.symm; have f5_ := f3_.symm; clear f1_ f2_ f3_; subst f4_; subst f5_))
            have p204 : 0 ≤ ((rd l1_1 x14_1) : Int) := of_decide_eq_true (by assumption)
            have q204 : (rd l1_1 x14_1) < (x5_1.length : Int) := of_decide_eq_true (by assumption)
            obtain ⟨ad204, e204, hx204_0⟩ := Kd.at_int (Kd.R_reads' HO_5.out).2.2 (rd l1_1 x14_1) p204 q204
            cases e204
            replace p204 := eq_true p204
            replace q204 := eq_true q204
            have p205 : 0 ≤ (x14_1 : Int) := of_decide_eq_true (by assumption)
            have q205 : x14_1 < (l0_2.length : Int) := of_decide_eq_true (by assumption)
            obtain ⟨ad205, e205, hx205_0⟩ := Kd.at_int HR0_2.out x14_1 p205 q205
            have hw205_0 := hx205_0
            cases e205
            replace hx205_0 := (HB.out.cell (World.block_lt_of_cell? w _ hx205_0)).trans hx205_0
            replace p205 := eq_true p205
            replace q205 := eq_true q205
            refine start_ (n := 16) (S := fun w' => w'.cell? ⟨gb198, 0, none⟩ = some (.slice A0_0 l0_0.length c0_0) ∧ w'.cell? ⟨gb198, 1, none⟩ = some (.slice A0_1 l0_1.length c0_1) ∧ w'.cell? ⟨gb198, 2, none⟩ = some (.slice (some ad205) l0_2.length c0_2) ∧ w'.cell? ⟨gb198, 3, none⟩ = some (.int .i64 a0_3) ∧ w'.cell? ⟨gb198, 4, none⟩ = some (.int .i64 a0_4) ∧ w'.cell? ⟨gb198, 5, none⟩ = some (.int .i64 a0_5) ∧ w'.cell? ⟨gb198, 6, none⟩ = some (.int .i64 a0_6) ∧ w'.cell? ⟨gb198, 7, none⟩ = some (.int .i64 a0_7) ∧ w'.cell? (ad204.add ((rd l1_1 x14_1)).toNat) = some (.int .i64 (rd x5_1 (rd l1_1 x14_1))) ∧ w'.cell? (ad205.add (x14_1).toNat) = some (.int .i64 (rd l0_2 x14_1))) (ds := [15]) #[false, false, false, false, false, false, false, false, false, false, false, false, false, false, false, false] (by kernel_rfl) rfl rfl ⟨(blk_cell BK198.out 0).trans rfl, (blk_cell BK198.out 1).trans rfl, (blk_cell BK198.out 2).trans rfl, (blk_cell BK198.out 3).trans rfl, (blk_cell BK198.out 4).trans rfl, (blk_cell BK198.out 5).trans rfl, (blk_cell BK198.out 6).trans rfl, (blk_cell BK198.out 7).trans rfl, hx204_0, ((HB.out.cell (World.block_lt_of_cell? w _ hw205_0)).trans hw205_0)⟩ (fun hHeld => ?_); refine with_tabW spec_woPeriods.tab6 spec_woPeriods.bits6 (fun HT_ HW_ => ?_)
            generalize wr.drew = w21 at HO_5 BK198 BK199 HB hx204_0 hx205_0 hHeld ⊢
            refine pure_ (i := 0) (N := some 21) (v := ?_) (a' := ?_) #[true, false, false, false, false, false, false, false, false, false, false, false, false, false, false, false] rfl rfl (any_of HT_.out (by kernel_rfl)) (fun _ _ _ h => h) (Or.inl ⟨by rfl, ?_⟩) ?_ ?_
            rotate_left
            ·intro w'
             go_simp
             with_reducible rfl
            rotate_left
            ·simp only [Act.put, List.setIfInBounds_toArray, List.set_cons_zero, List.set_cons_succ, i64_w, i32_w]
             rfl
            refine pure_ (i := 1) (N := some 22) (v := ?_) (a' := ?_) #[true, true, false, false, false, false, false, false, false, false, false, false, false, false, false, false] rfl rfl (any_of HT_.out (by kernel_rfl)) (fun _ _ _ h => h) (Or.inl ⟨by rfl, ?_⟩) ?_ ?_
            rotate_left
            ·intro w'
             go_simp
             with_reducible rfl
            rotate_left
            ·simp only [Act.put, List.setIfInBounds_toArray, List.set_cons_zero, List.set_cons_succ, i64_w, i32_w]
             rfl
            refine pure_ (i := 2) (N := some 23) (v := ?_) (a' := ?_) #[true, true, true, false, false, false, false, false, false, false, false, false, false, false, false, false] rfl rfl (any_of HT_.out (by kernel_rfl)) (fun _ _ _ h => h) (Or.inl ⟨by rfl, ?_⟩) ?_ ?_
            rotate_left
            ·intro w'
             go_simp
             with_reducible rfl
            rotate_left
            ·simp only [Act.put, List.setIfInBounds_toArray, List.set_cons_zero, List.set_cons_succ, i64_w, i32_w]
             rfl
            refine pure_ (i := 4) (N := some 25) (v := ?_) (a' := ?_) #[true, true, true, false, true, false, false, false, false, false, false, false, false, false, false, false] rfl rfl (any_of HT_.out (by kernel_rfl)) (fun _ _ _ h => h) (Or.inl ⟨by rfl, ?_⟩) ?_ ?_
            rotate_left
            ·intro w'
             go_simp
             with_reducible rfl
            rotate_left
            ·simp only [Act.put, List.setIfInBounds_toArray, List.set_cons_zero, List.set_cons_succ, i64_w, i32_w]
             rfl
            refine pure_ (i := 6) (N := some 27) (v := ?_) (a' := ?_) #[true, true, true, false, true, false, true, false, false, false, false, false, false, false, false, false] rfl rfl (any_of HT_.out (by kernel_rfl)) (fun _ _ _ h => h) (Or.inl ⟨by rfl, ?_⟩) ?_ ?_
            rotate_left
            ·intro w'
             go_simp
             with_reducible rfl
            rotate_left
            ·simp only [Act.put, List.setIfInBounds_toArray, List.set_cons_zero, List.set_cons_succ, i64_w, i32_w]
             rfl
            refine pure_ (i := 10) (N := some 31) (v := ?_) (a' := ?_) #[true, true, true, false, true, false, true, false, false, false, true, false, false, false, false, false] rfl rfl (any_of HT_.out (by kernel_rfl)) (fun _ _ _ h => h) (Or.inl ⟨by rfl, ?_⟩) ?_ ?_
            rotate_left
            ·intro w'
             go_simp
             with_reducible rfl
            rotate_left
            ·simp only [Act.put, List.setIfInBounds_toArray, List.set_cons_zero, List.set_cons_succ, i64_w, i32_w]
             rfl
            refine take_ (i := 3) (N := some 24) (v := ?_) (a' := ?_) #[true, true, true, true, true, false, true, false, false, false, true, false, false, false, false, false] rfl rfl (take_ofW HT_.out HW_.out (by kernel_rfl)) (fun _ _ _ h => h) (Or.inl ⟨by rfl, ?_⟩) hHeld ?_ ?_
            rotate_left
            ·rintro w' ⟨s0, s1, s2, s3, s4, s5, s6, s7, s8, s9⟩
             go_simp
             with_reducible rfl
            rotate_left
            ·simp only [Act.put, List.setIfInBounds_toArray, List.set_cons_zero, List.set_cons_succ, i64_w, i32_w]
             rfl
            refine take_ (i := 5) (N := some 26) (v := ?_) (a' := ?_) #[true, true, true, true, true, true, true, false, false, false, true, false, false, false, false, false] rfl rfl (take_ofW HT_.out HW_.out (by kernel_rfl)) (fun _ _ _ h => h) (Or.inl ⟨by rfl, ?_⟩) hHeld ?_ ?_
            rotate_left
            ·rintro w' ⟨s0, s1, s2, s3, s4, s5, s6, s7, s8, s9⟩
             go_simp
             with_reducible rfl
            rotate_left
            ·simp only [Act.put, List.setIfInBounds_toArray, List.set_cons_zero, List.set_cons_succ, i64_w, i32_w]
             rfl
            refine pure_ (i := 7) (N := some 28) (v := ?_) (a' := ?_) #[true, true, true, true, true, true, true, true, false, false, true, false, false, false, false, false] rfl rfl (any_of HT_.out (by kernel_rfl)) (fun _ _ _ h => h) (Or.inl ⟨by rfl, ?_⟩) ?_ ?_
            rotate_left
            ·intro w'
             go_simp
             with_reducible rfl
            rotate_left
            ·simp only [Act.put, List.setIfInBounds_toArray, List.set_cons_zero, List.set_cons_succ, i64_w, i32_w]
             rfl
            refine take_ (i := 8) (N := some 29) (v := ?_) (a' := ?_) #[true, true, true, true, true, true, true, true, true, false, true, false, false, false, false, false] rfl rfl (take_ofW HT_.out HW_.out (by kernel_rfl)) (fun _ _ _ h => h) (Or.inl ⟨by rfl, ?_⟩) hHeld ?_ ?_
            rotate_left
            ·rintro w' ⟨s0, s1, s2, s3, s4, s5, s6, s7, s8, s9⟩
             go_simp
             with_reducible rfl
            rotate_left
            ·simp only [Act.put, List.setIfInBounds_toArray, List.set_cons_zero, List.set_cons_succ, i64_w, i32_w]
             rfl
            refine take_ (i := 9) (N := some 30) (v := ?_) (a' := ?_) #[true, true, true, true, true, true, true, true, true, true, true, false, false, false, false, false] rfl rfl (take_ofW HT_.out HW_.out (by kernel_rfl)) (fun _ _ _ h => h) (Or.inl ⟨by rfl, ?_⟩) hHeld ?_ ?_
            rotate_left
            ·rintro w' ⟨s0, s1, s2, s3, s4, s5, s6, s7, s8, s9⟩
             go_simp
             with_reducible rfl
            rotate_left
            ·simp only [Act.put, List.setIfInBounds_toArray, List.set_cons_zero, List.set_cons_succ, i64_w, i32_w]
             rfl
            refine one_ (i := 11) (N := some 32) #[true, true, true, true, true, true, true, true, true, true, true, true, false, false, false, false] rfl rfl (one_of HT_.out (by kernel_rfl)) (by decide) (fun K hK => ?_)
            refine goes_ Try.func136 (by kernel_rfl) rfl #[.agg #[.slice A0_0 l0_0.length c0_0, .slice A0_1 l0_1.length c0_1, .slice (some ad205) l0_2.length c0_2, .int .i64 a0_3, .int .i64 a0_4, .int .i64 a0_5, .int .i64 a0_6, .int .i64 a0_7], .int .i64 (rd l1_1 x14_1)] (by rfl) rfl rfl (by (try simp only [List.map_toArray, List.map_cons, List.map_nil]); first | done | rfl | (simp only [List.length_drop, List.length_take]; rfl)) ?_
            with_reducible refine (spec_srFactor.calls k1 _ _ l0_0 _ _ l0_1 _ _ l0_2 a0_3 a0_4 a0_5 a0_6 a0_7 (rd l1_1 x14_1) t206 _ ?side1 ?side2 ?side3 ?side4 ?side5 ?side6 A19.out).mono ?_
            (case side1 => exact cS (Kd.C_below HR0_0.out HB.out))
            (case side2 => exact HC0_0.out)
            (case side3 => exact cS (Kd.C_below HR0_1.out HB.out))
            (case side4 => exact HC0_1.out)
            (case side5 => exact cS (Kd.C_below HR0_2.out HB.out))
            (case side6 => exact HC0_2.out)
            rintro e w23 ⟨rfl, hb⟩
            have HS8_ := (hb.cell (World.block_lt_of_cell? _ _ (hHeld.2.2.2.2.2.2.2.2.1))).trans (hHeld.2.2.2.2.2.2.2.2.1)
            refine ⟨_, rfl, ?_⟩
            have n0_ := AZ (Kd.R_below (rS HO_5.out) hb)
            have n1_ := blkA BK198 hb
            have n2_ := blkA BK199 hb
            have n3_ := AZ (below_step (bS HB.out) hb)
            clear HO_5
            clear BK198
            clear BK199
            clear HB
            have HO_5 := n0_
            have BK198 := n1_
            have BK199 := n2_
            have HB := n3_
            clear n0_ n1_ n2_ n3_
            (try clear hb)
            (try clear hb2)
            (try clear hk)
            (try clear hi)
            have p20 : 0 ≤ ((rd l1_1 x14_1) : Int) := of_decide_eq_true (by assumption)
            have q20 : ((rd l1_1 x14_1) : Int) < ((x5_1.length : Int) : Int) := of_decide_eq_true (by assumption)
            obtain ⟨go20, co20, eo20, gb20, gl20, cl20, HG20⟩ := Kd.R_form HO_5.out (by omega)
            (first | cases eo20 | (injection eo20 with ea_ en_ ec_; (first | subst ea_ | (injection ea_ with ea_; subst ea_)); subst ec_; clear en_))
            have GB20 := Aside0.mk gb20
            have GG20 := Aside0.mk HG20
            clear gb20 gl20 HG20
            (first | simp only [add_plain] at hx204_0 | skip)
            obtain ⟨hx20_0, hf20_0⟩ := Kd.R_celln 0 HO_5.out ((rd l1_1 x14_1) : Int) p20 q20
            replace p20 := eq_true p20
            replace q20 := eq_true q20
            have HP24 := Kd.R_putn HO_5.out ((rd l1_1 x14_1) : Int) (wrap64 ((rd x5_1 (rd l1_1 x14_1)) + (wrap64 ((rd l0_2 x14_1) * t206))))
            rw [← Ny207.out] at HP24
            have HQ24 := Aside0.mk HP24
            clear HP24
            refine hK.out _ _ ⟨(blk_cell BK198.out 0).trans rfl, (blk_cell BK198.out 1).trans rfl, (blk_cell BK198.out 2).trans rfl, (blk_cell BK198.out 3).trans rfl, (blk_cell BK198.out 4).trans rfl, (blk_cell BK198.out 5).trans rfl, (blk_cell BK198.out 6).trans rfl, (blk_cell BK198.out 7).trans rfl, HS8_, ((HB.out.cell (World.block_lt_of_cell? w _ hw205_0)).trans hw205_0)⟩ (fun hHeld => ?_)
            clear hK K
            refine norm_ (a' := ?_) ?_ ?_
            rotate_left
            ·show Act.put _ (some 32) _ = _
             simp only [Act.put, List.setIfInBounds_toArray, List.set_cons_zero, List.set_cons_succ, i64_w, i32_w]
             rfl
            refine pure_ (i := 12) (N := some 33) (v := ?_) (a' := ?_) #[true, true, true, true, true, true, true, true, true, true, true, true, true, false, false, false] rfl rfl (any_of HT_.out (by kernel_rfl)) (fun _ _ _ h => h) (Or.inl ⟨by rfl, ?_⟩) ?_ ?_
            rotate_left
            ·intro w'
             go_simp
             with_reducible rfl
            rotate_left
            ·simp only [Act.put, List.setIfInBounds_toArray, List.set_cons_zero, List.set_cons_succ, i64_w, i32_w]
             rfl
            refine pure_ (i := 13) (N := some 34) (v := ?_) (a' := ?_) #[true, true, true, true, true, true, true, true, true, true, true, true, true, true, false, false] rfl rfl (any_of HT_.out (by kernel_rfl)) (fun _ _ _ h => h) (Or.inl ⟨by rfl, ?_⟩) ?_ ?_
            rotate_left
            ·intro w'
             go_simp
             with_reducible rfl
            rotate_left
            ·simp only [Act.put, List.setIfInBounds_toArray, List.set_cons_zero, List.set_cons_succ, i64_w, i32_w]
             rfl
            refine pure_ (i := 14) (N := some 35) (v := ?_) (a' := ?_) #[true, true, true, true, true, true, true, true, true, true, true, true, true, true, true, false] rfl rfl (any_of HT_.out (by kernel_rfl)) (fun _ _ _ h => h) (Or.inl ⟨by rfl, ?_⟩) ?_ ?_
            rotate_left
            ·intro w'
             go_simp
             with_reducible rfl
            rotate_left
            ·simp only [Act.put, List.setIfInBounds_toArray, List.set_cons_zero, List.set_cons_succ, i64_w, i32_w]
             rfl
            refine last_ (i := 15) (N := none) #[true, true, true, true, true, true, true, true, true, true, true, true, true, true, true, true] rfl rfl (one_of HT_.out (by kernel_rfl)) (by decide) (fun K hK => ?_)
            refine skip_ (w1 := ?_) (by rfl) rfl ?_ ?_
            rotate_left
            ·go_simp
             rfl
            refine hK.out _ _ ?_
            clear hK K
            refine done_ (done_of HT_.out (by kernel_rfl)) ?_
            try go_wp2
            go_roundg k1
            case measure => have := HK1.out; omega
            case rel => exact ⟨(y207), (wrap64 (x14_1 + 1)), (by first | rfl | (simp; done) | (simp [*]; done)), H', ⟨by have := HK1.out; omega⟩, ⟨rS HQ24.out⟩, ⟨by (with_reducible repeat (first | refine blk_drewN ?_ _ | refine blk_drew ?_ | refine blk_alloc ?_ _)); refine blk_far ?_ (by have h_ := Kd.R_ne HO_5.out BK198.out (by decide); intro e_; exact h_ (by rw [e_]; rfl)) _; (with_reducible repeat (first | refine blk_drewN ?_ _ | refine blk_drew ?_ | refine blk_alloc ?_ _)); exact BK198.out⟩, ⟨by (with_reducible repeat (first | refine blk_drewN ?_ _ | refine blk_drew ?_ | refine blk_alloc ?_ _)); refine blk_far ?_ (by have h_ := Kd.R_ne HO_5.out BK199.out (by decide); intro e_; exact h_ (by rw [e_]; rfl)) _; (with_reducible repeat (first | refine blk_drewN ?_ _ | refine blk_drew ?_ | refine blk_alloc ?_ _)); exact BK199.out⟩, ⟨by repeat (first | (with_reducible first | exact HB.out | apply below_alloc | apply pw_below_drewN | apply below_drew1 | refine below_set ?_ GB20.out | refine below_set ?_ GE198.out | refine below_set ?_ GE199.out) | exact HB.out)⟩⟩
           ·rw [if_neg c18] at H
            exact absurd H (by simp)
          ·rw [if_neg c17] at H
           exact absurd H (by simp)
         ·rw [if_neg c16] at H
          exact absurd H (by simp)
        ·rw [if_neg c15] at H
         have c15b0 : decide (0 ≤ (rd l1_1 x14_1)) = false := decide_eq_false c15
         clear c15
         have H' := Aside0.mk H
         clear H
         have p203 : 0 ≤ (x14_1 : Int) := of_decide_eq_true (by assumption)
         have q203 : x14_1 < (l1_1.length : Int) := of_decide_eq_true (by assumption)
         obtain ⟨ad203, e203, hx203_0⟩ := Kd.at_int HR1_1.out x14_1 p203 q203
         cases e203
         replace hx203_0 := (HB.out.cell (World.block_lt_of_cell? w _ hx203_0)).trans hx203_0
         replace p203 := eq_true p203
         replace q203 := eq_true q203
         go_wp2
         go_roundg k1
         case measure => have := HK1.out; omega
         case rel => exact ⟨(x5_1), (wrap64 (x14_1 + 1)), (by first | rfl | (simp; done) | (simp [*]; done)), H', ⟨by have := HK1.out; omega⟩, ⟨rS HO_5.out⟩, ⟨blkS BK198.out⟩, ⟨blkS BK199.out⟩, ⟨bS HB.out⟩⟩
       ·rw [if_neg c14] at H
        exact absurd H (by simp)
      ·rw [if_neg c13] at H
       exact absurd H (by simp)
     ·rw [if_neg c12] at H
      have c12b0 : decide (x14_1 < (l1_1.length : Int)) = false := decide_eq_false c12
      clear c12
      obtain rfl := Option.some.inj H
      go_wp2
      go_ret
      exact ⟨_, by first | rfl | (simp [errW_none, errW_some] <;> rfl) | (simp [*, errW_none, errW_some] <;> rfl), by (with_reducible repeat (first | apply Kd.R_alloc | apply Kd.R_drewN | apply Kd.R_drew)); exact HO_5.out, bS HB.out⟩
  ·rw [if_neg c4] at H
   exact absurd H (by simp)
 ·rw [if_neg c3] at H
  exact absurd H (by simp)

/-! ### spec_WorthBetween: function 48 -/
def spec_WorthBetween.l0 : Nat → List Int → List Int → List Int → Int → Int → Option (List Int × Bool)
 | 0, _, _, _, _, _ => none
 | k + 1, x9, x10, x24, x25, x26 => if x26 < x25 then (if 0 ≤ x26 then (if x26 < (x24.length : Int) then (if x26 < (x9.length : Int) then (if x10.length < 17592186044416 then (spec_WorthBetween.l0 k x9 (x10 ++ [wrap64 ((rd x9 x26) - (rd x24 x26))]) x24 x25 (wrap64 (x26 + 1))) else (none)) else (none)) else (none)) else (none)) else (some (x10, true))
def spec_WorthBetween.f (k : Nat) (l0_0 : List (List Int)) (l0_1 : List Int) (l0_2 : List Int) (a0_3 : Int) (a0_4 : Int) (a0_5 : Int) (a0_6 : Int) (a0_7 : Int) (a1_0 : Int) (l1_1 : List Int) (a2_0 : Int) (l2_1 : List Int) : Option (List Int × Bool) := (spec_coGood.f k l0_0 l0_1 l0_2 a0_3 a0_4 a0_5 a0_6 a0_7 a1_0 l1_1 a2_0 l2_1).bind fun t211 => (if t211 = true then ((spec_woPeriods.f k l0_0 l0_1 l0_2 a0_3 a0_4 a0_5 a0_6 a0_7 a1_0 l1_1).bind fun t212 => ((spec_woPeriods.f k l0_0 l0_1 l0_2 a0_3 a0_4 a0_5 a0_6 a0_7 a2_0 l2_1).bind fun t215 => (spec_WorthBetween.l0 k t215 ([] : List Int) t212 (t212.length : Int) 0))) else (some (([] : List Int), false)))
def spec_WorthBetween.T3 : Bool × List (List Nat × List Nat) := (true, [([], []), ([], []), ([0, 1], [0, 1]), ([], []), ([], []), ([3, 4, 2], [3, 4]), ([2, 5, 0, 1, 2], [2]), ([5, 6, 0, 1, 2, 3, 4, 5, 6], [5])])
def spec_WorthBetween.B3 : List Nat := [0, 0, 3, 0, 0, 31, 63, 127]
theorem spec_WorthBetween.tab3 : rtab .any (opsOf Try.f48 3) = spec_WorthBetween.T3 := by kernel_rfl
theorem spec_WorthBetween.bits3 : waitsOk spec_WorthBetween.T3.2 spec_WorthBetween.B3 = true := by kernel_rfl
set_option maxHeartbeats 8000000 in
set_option maxRecDepth 100000 in
theorem spec_WorthBetween.calls (k : Nat) (A0_0 : Option Addr) (c0_0 : Nat) (l0_0 : List (List Int)) (A0_1 : Option Addr) (c0_1 : Nat) (l0_1 : List Int) (A0_2 : Option Addr) (c0_2 : Nat) (l0_2 : List Int) (a0_3 : Int) (a0_4 : Int) (a0_5 : Int) (a0_6 : Int) (a0_7 : Int) (a1_0 : Int) (A1_1 : Option Addr) (c1_1 : Nat) (l1_1 : List Int) (a2_0 : Int) (A2_1 : Option Addr) (c2_1 : Nat) (l2_1 : List Int) (r1 : List Int) (r2 : Bool) (w : World) (hr0_0 : Kd.C (Kd.slice 3 (Kd.int .i64)) w A0_0 l0_0.length l0_0) (hc0_0 : l0_0.length ≤ c0_0) (hr0_1 : Kd.C (Kd.int .i64) w A0_1 l0_1.length l0_1) (hc0_1 : l0_1.length ≤ c0_1) (hr0_2 : Kd.C (Kd.int .i64) w A0_2 l0_2.length l0_2) (hc0_2 : l0_2.length ≤ c0_2) (hr1_1 : Kd.C (Kd.int .i64) w A1_1 l1_1.length l1_1) (hc1_1 : l1_1.length ≤ c1_1) (hr2_1 : Kd.C (Kd.int .i64) w A2_1 l2_1.length l2_1) (hc2_1 : l2_1.length ≤ c2_1) (h : spec_WorthBetween.f k l0_0 l0_1 l0_2 a0_3 a0_4 a0_5 a0_6 a0_7 a1_0 l1_1 a2_0 l2_1 = some (r1, r2)) :
  Calls Try.prog 48 #[.agg #[.slice A0_0 l0_0.length c0_0, .slice A0_1 l0_1.length c0_1, .slice A0_2 l0_2.length c0_2, .int .i64 a0_3, .int .i64 a0_4, .int .i64 a0_5, .int .i64 a0_6, .int .i64 a0_7], .agg #[.int .i64 a1_0, .slice A1_1 l1_1.length c1_1], .agg #[.int .i64 a2_0, .slice A2_1 l2_1.length c2_1]] w fun e w' => ∃ v0_ : Value, e = .returned (.tuple #[v0_, .bool r2]) ∧ Kd.R (Kd.int .i64) 3 w' w.heap.size (fun _ => True) v0_ r1 ∧ Below w.heap.size w w' := by
 have hu36 := Try.underlying36
 have hu38 := Try.underlying38
 have HR0_0 := Aside0.mk hr0_0
 have HC0_0 := Aside0.mk hc0_0
 clear hr0_0 hc0_0
 have HR0_1 := Aside0.mk hr0_1
 have HC0_1 := Aside0.mk hc0_1
 clear hr0_1 hc0_1
 have HR0_2 := Aside0.mk hr0_2
 have HC0_2 := Aside0.mk hc0_2
 clear hr0_2 hc0_2
 have HR1_1 := Aside0.mk hr1_1
 have HC1_1 := Aside0.mk hc1_1
 clear hr1_1 hc1_1
 have HR2_1 := Aside0.mk hr2_1
 have HC2_1 := Aside0.mk hc2_1
 clear hr2_1 hc2_1
 have HB := AZ (Below.refl w.heap.size w)
 have H : ((spec_coGood.f k l0_0 l0_1 l0_2 a0_3 a0_4 a0_5 a0_6 a0_7 a1_0 l1_1 a2_0 l2_1).bind fun t211 => (if t211 = true then ((spec_woPeriods.f k l0_0 l0_1 l0_2 a0_3 a0_4 a0_5 a0_6 a0_7 a1_0 l1_1).bind fun t212 => ((spec_woPeriods.f k l0_0 l0_1 l0_2 a0_3 a0_4 a0_5 a0_6 a0_7 a2_0 l2_1).bind fun t215 => (spec_WorthBetween.l0 k t215 ([] : List Int) t212 (t212.length : Int) 0))) else (some (([] : List Int), false)))) = some (r1, r2) := h
 clear h
 replace H := Option.bind_eq_some_iff.mp H
 obtain ⟨t211, A40, H⟩ := H
 replace H : (if t211 = true then ((spec_woPeriods.f k l0_0 l0_1 l0_2 a0_3 a0_4 a0_5 a0_6 a0_7 a1_0 l1_1).bind fun t212 => ((spec_woPeriods.f k l0_0 l0_1 l0_2 a0_3 a0_4 a0_5 a0_6 a0_7 a2_0 l2_1).bind fun t215 => (spec_WorthBetween.l0 k t215 ([] : List Int) t212 (t212.length : Int) 0))) else (some (([] : List Int), false))) = some (r1, r2) := H
 have A4 := Aside0.mk A40
 clear A40
 by_cases c5 : t211 = true
 ·subst c5
  have H1 : ((spec_woPeriods.f k l0_0 l0_1 l0_2 a0_3 a0_4 a0_5 a0_6 a0_7 a1_0 l1_1).bind fun t212 => ((spec_woPeriods.f k l0_0 l0_1 l0_2 a0_3 a0_4 a0_5 a0_6 a0_7 a2_0 l2_1).bind fun t215 => (spec_WorthBetween.l0 k t215 ([] : List Int) t212 (t212.length : Int) 0))) = some (r1, r2) := by rw [if_pos rfl] at H; exact H
  clear H
  have H := H1
  clear H1
  replace H := Option.bind_eq_some_iff.mp H
  obtain ⟨t212, A60, H⟩ := H
  replace H : ((spec_woPeriods.f k l0_0 l0_1 l0_2 a0_3 a0_4 a0_5 a0_6 a0_7 a2_0 l2_1).bind fun t215 => (spec_WorthBetween.l0 k t215 ([] : List Int) t212 (t212.length : Int) 0)) = some (r1, r2) := H
  have A6 := Aside0.mk A60
  clear A60
  replace H := Option.bind_eq_some_iff.mp H
  obtain ⟨t215, A70, H⟩ := H
  replace H : (spec_WorthBetween.l0 k t215 ([] : List Int) t212 (t212.length : Int) 0) = some (r1, r2) := H
  have A7 := Aside0.mk A70
  clear A70
  have H' := Aside0.mk H
  clear H
  go_enter Try.func48, Try.ntmps48
  try go_wp2_with (first | ((with_reducible refine gate_dst (N := 3) rfl ?_); refine box_event ?hg (N := 3) ?hd (cs := #[.slice A0_0 l0_0.length c0_0, .slice A0_1 l0_1.length c0_1, .slice A0_2 l0_2.length c0_2, .int .i64 a0_3, .int .i64 a0_4, .int .i64 a0_5, .int .i64 a0_6, .int .i64 a0_7]) (t := 36) ?hr ?_; (case hd => rfl); (case hg => rfl); (case hr => first | (go_simp; done) | (go_simp; rfl)); intro gb208 hg w8 hbox hb; have n0_ := AZ (below_step (bS HB.out) hb); have n1_ := AZ (hbox); have n2_ := AZ (geS hg HB.out); have n3_ := AZ (geS hg HB.out); clear HB; have HB := n0_; have BK208 := n1_; have GW208 := n2_; have GE208 := n3_; clear n0_ n1_ n2_ n3_; clear hb hbox hg) | ((with_reducible refine gate_dst (N := 4) rfl ?_); refine box_event ?hg (N := 4) ?hd (cs := #[.int .i64 a1_0, .slice A1_1 l1_1.length c1_1]) (t := 38) ?hr ?_; (case hd => rfl); (case hg => rfl); (case hr => first | (go_simp; done) | (go_simp; rfl)); intro gb209 hg w9 hbox hb; have n0_ := blkA BK208 hb; have n1_ := AZ (below_step (bS HB.out) hb); have n2_ := AZ (hbox); have n3_ := AZ (geS hg HB.out); have n4_ := AZ (geS hg HB.out); have n5_ := AZ ((by rw [hg]; exact Nat.ne_of_lt (blkL BK208.out) : gb208 ≠ gb209)); have n6_ := AZ ((by rw [hg]; exact Nat.ne_of_gt (blkL BK208.out) : gb209 ≠ gb208)); clear BK208; clear HB; have BK208 := n0_; have HB := n1_; have BK209 := n2_; have GW209 := n3_; have GE209 := n4_; have NB208_209 := n5_; have NB209_208 := n6_; clear n0_ n1_ n2_ n3_ n4_ n5_ n6_; clear hb hbox hg) | ((with_reducible refine gate_dst (N := 5) rfl ?_); refine box_event ?hg (N := 5) ?hd (cs := #[.int .i64 a2_0, .slice A2_1 l2_1.length c2_1]) (t := 38) ?hr ?_; (case hd => rfl); (case hg => rfl); (case hr => first | (go_simp; done) | (go_simp; rfl)); intro gb210 hg w10 hbox hb; have n0_ := blkA BK208 hb; have n1_ := blkA BK209 hb; have n2_ := AZ (below_step (bS HB.out) hb); have n3_ := AZ (hbox); have n4_ := AZ (geS hg HB.out); have n5_ := AZ (geS hg HB.out); have n6_ := AZ ((by rw [hg]; exact Nat.ne_of_lt (blkL BK208.out) : gb208 ≠ gb210)); have n7_ := AZ ((by rw [hg]; exact Nat.ne_of_gt (blkL BK208.out) : gb210 ≠ gb208)); have n8_ := AZ ((by rw [hg]; exact Nat.ne_of_lt (blkL BK209.out) : gb209 ≠ gb210)); have n9_ := AZ ((by rw [hg]; exact Nat.ne_of_gt (blkL BK209.out) : gb210 ≠ gb209)); clear BK208; clear BK209; clear HB; have BK208 := n0_; have BK209 := n1_; have HB := n2_; have BK210 := n3_; have GW210 := n4_; have GE210 := n5_; have NB208_210 := n6_; have NB210_208 := n7_; have NB209_210 := n8_; have NB210_209 := n9_; clear n0_ n1_ n2_ n3_ n4_ n5_ n6_ n7_ n8_ n9_; clear hb hbox hg; have hnb11 := NB208_209.out; have hnc11 := NB209_208.out; have hnb12 := NB208_210.out; have hnc12 := NB210_208.out; have hcz13_0 : w10.cell? ⟨gb208, 0, none⟩ = some (.slice A0_0 l0_0.length c0_0) := (blk_cell BK208.out 0).trans rfl; have hcz13_1 : w10.cell? ⟨gb208, 1, none⟩ = some (.slice A0_1 l0_1.length c0_1) := (blk_cell BK208.out 1).trans rfl; have hcz13_2 : w10.cell? ⟨gb208, 2, none⟩ = some (.slice A0_2 l0_2.length c0_2) := (blk_cell BK208.out 2).trans rfl; have hcz13_3 : w10.cell? ⟨gb208, 3, none⟩ = some (.int .i64 a0_3) := (blk_cell BK208.out 3).trans rfl; have hcz13_4 : w10.cell? ⟨gb208, 4, none⟩ = some (.int .i64 a0_4) := (blk_cell BK208.out 4).trans rfl; have hcz13_5 : w10.cell? ⟨gb208, 5, none⟩ = some (.int .i64 a0_5) := (blk_cell BK208.out 5).trans rfl; have hcz13_6 : w10.cell? ⟨gb208, 6, none⟩ = some (.int .i64 a0_6) := (blk_cell BK208.out 6).trans rfl; have hcz13_7 : w10.cell? ⟨gb208, 7, none⟩ = some (.int .i64 a0_7) := (blk_cell BK208.out 7).trans rfl; have hfz13_0 := blk_frozen BK208.out 0; have hfz13_1 := blk_frozen BK208.out 1; have hfz13_2 := blk_frozen BK208.out 2; have hfz13_3 := blk_frozen BK208.out 3; have hfz13_4 := blk_frozen BK208.out 4; have hfz13_5 := blk_frozen BK208.out 5; have hfz13_6 := blk_frozen BK208.out 6; have hfz13_7 := blk_frozen BK208.out 7; have hnb14 := NB209_210.out; have hnc14 := NB210_209.out; have hcz15_0 : w10.cell? ⟨gb209, 0, none⟩ = some (.int .i64 a1_0) := (blk_cell BK209.out 0).trans rfl; have hcz15_1 : w10.cell? ⟨gb209, 1, none⟩ = some (.slice A1_1 l1_1.length c1_1) := (blk_cell BK209.out 1).trans rfl; have hfz15_0 := blk_frozen BK209.out 0; have hfz15_1 := blk_frozen BK209.out 1; have hcz16_0 : w10.cell? ⟨gb210, 0, none⟩ = some (.int .i64 a2_0) := (blk_cell BK210.out 0).trans rfl; have hcz16_1 : w10.cell? ⟨gb210, 1, none⟩ = some (.slice A2_1 l2_1.length c2_1) := (blk_cell BK210.out 1).trans rfl; have hfz16_0 := blk_frozen BK210.out 0; have hfz16_1 := blk_frozen BK210.out 1) | ((with_reducible refine gate_callee (f := 78) rfl ?_); refine gL (some 16) Try.func78 #[.agg #[.slice A0_0 l0_0.length c0_0, .slice A0_1 l0_1.length c0_1, .slice A0_2 l0_2.length c0_2, .int .i64 a0_3, .int .i64 a0_4, .int .i64 a0_5, .int .i64 a0_6, .int .i64 a0_7], .agg #[.int .i64 a1_0, .slice A1_1 l1_1.length c1_1], .agg #[.int .i64 a2_0, .slice A2_1 l2_1.length c2_1]] ?_; (with_reducible refine (spec_coGood.calls k _ _ l0_0 _ _ l0_1 _ _ l0_2 a0_3 a0_4 a0_5 a0_6 a0_7 a1_0 _ _ l1_1 a2_0 _ _ l2_1 true _ ?side1 ?side2 ?side3 ?side4 ?side5 ?side6 ?side7 ?side8 ?side9 ?side10 A4.out).mono ?_); (case side1 => exact cS (Kd.C_below HR0_0.out HB.out)); (case side2 => exact HC0_0.out); (case side3 => exact cS (Kd.C_below HR0_1.out HB.out)); (case side4 => exact HC0_1.out); (case side5 => exact cS (Kd.C_below HR0_2.out HB.out)); (case side6 => exact HC0_2.out); (case side7 => exact cS (Kd.C_below HR1_1.out HB.out)); (case side8 => exact HC1_1.out); (case side9 => exact cS (Kd.C_below HR2_1.out HB.out)); (case side10 => exact HC2_1.out); rintro e w17 ⟨rfl, hb⟩; refine ⟨_, rfl, ?_⟩; have n0_ := blkA BK208 hb; have n1_ := blkA BK209 hb; have n2_ := blkA BK210 hb; have n3_ := AZ (below_step (bS HB.out) hb); clear BK208; clear BK209; clear BK210; clear HB; have BK208 := n0_; have BK209 := n1_; have BK210 := n2_; have HB := n3_; clear n0_ n1_ n2_ n3_; (try clear hb)))
  have n0_ := AZ (blk_drew BK208.out)
  have n1_ := AZ (blk_drew BK209.out)
  have n2_ := AZ (blk_drew BK210.out)
  have n3_ := AZ (below_drew1 HB.out)
  clear BK208
  clear BK209
  clear BK210
  clear HB
  have BK208 := n0_
  have BK209 := n1_
  have BK210 := n2_
  have HB := n3_
  clear n0_ n1_ n2_ n3_
  refine start_ (n := 8) (S := fun w' => w'.cell? ⟨gb208, 0, none⟩ = some (.slice A0_0 l0_0.length c0_0) ∧ w'.cell? ⟨gb208, 1, none⟩ = some (.slice A0_1 l0_1.length c0_1) ∧ w'.cell? ⟨gb208, 2, none⟩ = some (.slice A0_2 l0_2.length c0_2) ∧ w'.cell? ⟨gb208, 3, none⟩ = some (.int .i64 a0_3) ∧ w'.cell? ⟨gb208, 4, none⟩ = some (.int .i64 a0_4) ∧ w'.cell? ⟨gb208, 5, none⟩ = some (.int .i64 a0_5) ∧ w'.cell? ⟨gb208, 6, none⟩ = some (.int .i64 a0_6) ∧ w'.cell? ⟨gb208, 7, none⟩ = some (.int .i64 a0_7) ∧ w'.cell? ⟨gb209, 0, none⟩ = some (.int .i64 a1_0) ∧ w'.cell? ⟨gb209, 1, none⟩ = some (.slice A1_1 l1_1.length c1_1) ∧ w'.cell? ⟨gb210, 0, none⟩ = some (.int .i64 a2_0) ∧ w'.cell? ⟨gb210, 1, none⟩ = some (.slice A2_1 l2_1.length c2_1)) (ds := []) #[false, false, false, false, false, false, false, false] (by kernel_rfl) rfl rfl ⟨(blk_cell BK208.out 0).trans rfl, (blk_cell BK208.out 1).trans rfl, (blk_cell BK208.out 2).trans rfl, (blk_cell BK208.out 3).trans rfl, (blk_cell BK208.out 4).trans rfl, (blk_cell BK208.out 5).trans rfl, (blk_cell BK208.out 6).trans rfl, (blk_cell BK208.out 7).trans rfl, (blk_cell BK209.out 0).trans rfl, (blk_cell BK209.out 1).trans rfl, (blk_cell BK210.out 0).trans rfl, (blk_cell BK210.out 1).trans rfl⟩ (fun hHeld => ?_); refine with_tabW spec_WorthBetween.tab3 spec_WorthBetween.bits3 (fun HT_ HW_ => ?_)
  generalize w17.drew = w18 at BK208 BK209 BK210 HB hHeld ⊢
  refine take_ (i := 0) (N := some 18) (v := ?_) (a' := ?_) #[true, false, false, false, false, false, false, false] rfl rfl (take_ofW HT_.out HW_.out (by kernel_rfl)) (fun _ _ _ h => h) (Or.inl ⟨by rfl, ?_⟩) hHeld ?_ ?_
  rotate_left
  ·rintro w' ⟨s0, s1, s2, s3, s4, s5, s6, s7, s8, s9, s10, s11⟩
   go_simp
   with_reducible rfl
  rotate_left
  ·simp only [Act.put, List.setIfInBounds_toArray, List.set_cons_zero, List.set_cons_succ, i64_w, i32_w]
   rfl
  refine take_ (i := 1) (N := some 19) (v := ?_) (a' := ?_) #[true, true, false, false, false, false, false, false] rfl rfl (take_ofW HT_.out HW_.out (by kernel_rfl)) (fun _ _ _ h => h) (Or.inl ⟨by rfl, ?_⟩) hHeld ?_ ?_
  rotate_left
  ·rintro w' ⟨s0, s1, s2, s3, s4, s5, s6, s7, s8, s9, s10, s11⟩
   go_simp
   with_reducible rfl
  rotate_left
  ·simp only [Act.put, List.setIfInBounds_toArray, List.set_cons_zero, List.set_cons_succ, i64_w, i32_w]
   rfl
  refine take_ (i := 3) (N := some 21) (v := ?_) (a' := ?_) #[true, true, false, true, false, false, false, false] rfl rfl (take_ofW HT_.out HW_.out (by kernel_rfl)) (fun _ _ _ h => h) (Or.inl ⟨by rfl, ?_⟩) hHeld ?_ ?_
  rotate_left
  ·rintro w' ⟨s0, s1, s2, s3, s4, s5, s6, s7, s8, s9, s10, s11⟩
   go_simp
   with_reducible rfl
  rotate_left
  ·simp only [Act.put, List.setIfInBounds_toArray, List.set_cons_zero, List.set_cons_succ, i64_w, i32_w]
   rfl
  refine take_ (i := 4) (N := some 22) (v := ?_) (a' := ?_) #[true, true, false, true, true, false, false, false] rfl rfl (take_ofW HT_.out HW_.out (by kernel_rfl)) (fun _ _ _ h => h) (Or.inl ⟨by rfl, ?_⟩) hHeld ?_ ?_
  rotate_left
  ·rintro w' ⟨s0, s1, s2, s3, s4, s5, s6, s7, s8, s9, s10, s11⟩
   go_simp
   with_reducible rfl
  rotate_left
  ·simp only [Act.put, List.setIfInBounds_toArray, List.set_cons_zero, List.set_cons_succ, i64_w, i32_w]
   rfl
  refine one_ (i := 2) (N := some 20) #[true, true, true, true, true, false, false, false] rfl rfl (one_of HT_.out (by kernel_rfl)) (by decide) (fun K hK => ?_)
  refine goes_ Try.func104 (by kernel_rfl) rfl #[.agg #[.slice A0_0 l0_0.length c0_0, .slice A0_1 l0_1.length c0_1, .slice A0_2 l0_2.length c0_2, .int .i64 a0_3, .int .i64 a0_4, .int .i64 a0_5, .int .i64 a0_6, .int .i64 a0_7], .agg #[.int .i64 a1_0, .slice A1_1 l1_1.length c1_1]] (by rfl) rfl rfl (by (try simp only [List.map_toArray, List.map_cons, List.map_nil]); first | done | rfl | (simp only [List.length_drop, List.length_take]; rfl)) ?_
  with_reducible refine (spec_woPeriods.calls k _ _ l0_0 _ _ l0_1 _ _ l0_2 a0_3 a0_4 a0_5 a0_6 a0_7 a1_0 _ _ l1_1 t212 _ ?side1 ?side2 ?side3 ?side4 ?side5 ?side6 ?side7 ?side8 A6.out).mono ?_
  (case side1 => exact cS (Kd.C_below HR0_0.out HB.out))
  (case side2 => exact HC0_0.out)
  (case side3 => exact cS (Kd.C_below HR0_1.out HB.out))
  (case side4 => exact HC0_1.out)
  (case side5 => exact cS (Kd.C_below HR0_2.out HB.out))
  (case side6 => exact HC0_2.out)
  (case side7 => exact cS (Kd.C_below HR1_1.out HB.out))
  (case side8 => exact HC1_1.out)
  rintro e w19 ⟨v213, rfl, ho0, hb⟩
  refine ⟨_, rfl, ?_⟩
  have n0_ := AZ (Kd.R_lower ho0 (below_size (bS HB.out)))
  have n1_ := blkA BK208 hb
  have n2_ := blkA BK209 hb
  have n3_ := blkA BK210 hb
  have n4_ := AZ (below_step (bS HB.out) hb)
  clear BK208
  clear BK209
  clear BK210
  clear HB
  have HO214 := n0_
  have BK208 := n1_
  have BK209 := n2_
  have BK210 := n3_
  have HB := n4_
  clear n0_ n1_ n2_ n3_ n4_
  (try clear hb)
  (try clear hb2)
  (try clear hk)
  (try clear hi)
  (try clear ho0)
  refine hK.out _ _ ⟨(blk_cell BK208.out 0).trans rfl, (blk_cell BK208.out 1).trans rfl, (blk_cell BK208.out 2).trans rfl, (blk_cell BK208.out 3).trans rfl, (blk_cell BK208.out 4).trans rfl, (blk_cell BK208.out 5).trans rfl, (blk_cell BK208.out 6).trans rfl, (blk_cell BK208.out 7).trans rfl, (blk_cell BK209.out 0).trans rfl, (blk_cell BK209.out 1).trans rfl, (blk_cell BK210.out 0).trans rfl, (blk_cell BK210.out 1).trans rfl⟩ (fun hHeld => ?_)
  clear hK K
  refine norm_ (a' := ?_) ?_ ?_
  rotate_left
  ·show Act.put _ (some 20) _ = _
   simp only [Act.put, List.setIfInBounds_toArray, List.set_cons_zero, List.set_cons_succ, i64_w, i32_w]
   rfl
  refine one_ (i := 5) (N := some 23) #[true, true, true, true, true, true, false, false] rfl rfl (one_of HT_.out (by kernel_rfl)) (by decide) (fun K hK => ?_)
  refine goes_ Try.func104 (by kernel_rfl) rfl #[.agg #[.slice A0_0 l0_0.length c0_0, .slice A0_1 l0_1.length c0_1, .slice A0_2 l0_2.length c0_2, .int .i64 a0_3, .int .i64 a0_4, .int .i64 a0_5, .int .i64 a0_6, .int .i64 a0_7], .agg #[.int .i64 a2_0, .slice A2_1 l2_1.length c2_1]] (by rfl) rfl rfl (by (try simp only [List.map_toArray, List.map_cons, List.map_nil]); first | done | rfl | (simp only [List.length_drop, List.length_take]; rfl)) ?_
  with_reducible refine (spec_woPeriods.calls k _ _ l0_0 _ _ l0_1 _ _ l0_2 a0_3 a0_4 a0_5 a0_6 a0_7 a2_0 _ _ l2_1 t215 _ ?side1 ?side2 ?side3 ?side4 ?side5 ?side6 ?side7 ?side8 A7.out).mono ?_
  (case side1 => exact cS (Kd.C_below HR0_0.out HB.out))
  (case side2 => exact HC0_0.out)
  (case side3 => exact cS (Kd.C_below HR0_1.out HB.out))
  (case side4 => exact HC0_1.out)
  (case side5 => exact cS (Kd.C_below HR0_2.out HB.out))
  (case side6 => exact HC0_2.out)
  (case side7 => exact cS (Kd.C_below HR2_1.out HB.out))
  (case side8 => exact HC2_1.out)
  rintro e w20 ⟨v216, rfl, ho0, hb⟩
  refine ⟨_, rfl, ?_⟩
  have n0_ := AZ (Kd.R_elder' (rS HO214.out) (Kd.R_base ho0) hb)
  have n1_ := AZ (Kd.R_lower (Kd.R_new' ho0 (Kd.R_lt (rS HO214.out))) (below_size (bS HB.out)))
  have n2_ := blkA BK208 hb
  have n3_ := blkA BK209 hb
  have n4_ := blkA BK210 hb
  have n5_ := AZ (below_step (bS HB.out) hb)
  clear HO214
  clear BK208
  clear BK209
  clear BK210
  clear HB
  have HO214 := n0_
  have HO217 := n1_
  have BK208 := n2_
  have BK209 := n3_
  have BK210 := n4_
  have HB := n5_
  clear n0_ n1_ n2_ n3_ n4_ n5_
  (try clear hb)
  (try clear hb2)
  (try clear hk)
  (try clear hi)
  (try clear ho0)
  refine hK.out _ _ ⟨(blk_cell BK208.out 0).trans rfl, (blk_cell BK208.out 1).trans rfl, (blk_cell BK208.out 2).trans rfl, (blk_cell BK208.out 3).trans rfl, (blk_cell BK208.out 4).trans rfl, (blk_cell BK208.out 5).trans rfl, (blk_cell BK208.out 6).trans rfl, (blk_cell BK208.out 7).trans rfl, (blk_cell BK209.out 0).trans rfl, (blk_cell BK209.out 1).trans rfl, (blk_cell BK210.out 0).trans rfl, (blk_cell BK210.out 1).trans rfl⟩ (fun hHeld => ?_)
  clear hK K
  refine norm_ (a' := ?_) ?_ ?_
  rotate_left
  ·show Act.put _ (some 23) _ = _
   simp only [Act.put, List.setIfInBounds_toArray, List.set_cons_zero, List.set_cons_succ, i64_w, i32_w]
   rfl
  refine pure_ (i := 6) (N := some 8) (v := ?_) (a' := ?_) #[true, true, true, true, true, true, true, false] rfl rfl (any_of HT_.out (by kernel_rfl)) (fun _ _ _ h => h) (Or.inl ⟨by rfl, ?_⟩) ?_ ?_
  rotate_left
  ·intro w'
   go_simp
   with_reducible rfl
  rotate_left
  ·simp only [Act.put, List.setIfInBounds_toArray, List.set_cons_zero, List.set_cons_succ, i64_w, i32_w]
   rfl
  refine pure_ (i := 7) (N := some 9) (v := ?_) (a' := ?_) #[true, true, true, true, true, true, true, true] rfl rfl (any_of HT_.out (by kernel_rfl)) (fun _ _ _ h => h) (Or.inl ⟨by rfl, ?_⟩) ?_ ?_
  rotate_left
  ·intro w'
   go_simp
   with_reducible rfl
  rotate_left
  ·simp only [Act.put, List.setIfInBounds_toArray, List.set_cons_zero, List.set_cons_succ, i64_w, i32_w]
   rfl
  refine done_ (done_of HT_.out (by kernel_rfl)) ?_
  obtain ⟨Ao21, co21, eo21⟩ := Kd.R_slice HO214.out
  subst eo21
  try go_wp2
  go_loopg [10, 26] k (fun kq v10 v26 w' => ∃ (x10_1 : List Int) (x26_1 : Int), v26 = .int .i64 x26_1 ∧ Aside0 (spec_WorthBetween.l0 kq t215 x10_1 t212 (t212.length : Int) x26_1 = some (r1, r2)) ∧ Aside0 (kq ≤ k) ∧ Aside0 (Kd.R (Kd.int .i64) 3 w' w.heap.size (fun k_ => some k_ ≠ (v10 : Value).ownBlock ∧ some k_ ≠ ((.slice Ao21 t212.length co21) : Value).ownBlock) v216 t215) ∧ Aside0 (Kd.R (Kd.int .i64) 3 w' w.heap.size (fun k_ => some k_ ≠ (v216 : Value).ownBlock ∧ some k_ ≠ ((.slice Ao21 t212.length co21) : Value).ownBlock) v10 x10_1) ∧ Aside0 (Kd.R (Kd.int .i64) 3 w' w.heap.size (fun k_ => some k_ ≠ (v216 : Value).ownBlock ∧ some k_ ≠ (v10 : Value).ownBlock) (.slice Ao21 t212.length co21) t212) ∧ Aside0 (w'.heap[gb208]? = some (.cells #[(.slice A0_0 l0_0.length c0_0), (.slice A0_1 l0_1.length c0_1), (.slice A0_2 l0_2.length c0_2), .int .i64 a0_3, .int .i64 a0_4, .int .i64 a0_5, .int .i64 a0_6, .int .i64 a0_7] 36 (0, 0))) ∧ Aside0 (w'.heap[gb209]? = some (.cells #[.int .i64 a1_0, (.slice A1_1 l1_1.length c1_1)] 38 (0, 0))) ∧ Aside0 (w'.heap[gb210]? = some (.cells #[.int .i64 a2_0, (.slice A2_1 l2_1.length c2_1)] 38 (0, 0))) ∧ Aside0 (Below w.heap.size w w'))
  case atStart => exact ⟨(([] : List Int)), (0), (by first | rfl | (simp; done) | (simp [*]; done)), H', ⟨Nat.le_refl _⟩, ⟨by (with_reducible repeat (first | apply Kd.R_alloc | apply Kd.R_drewN | apply Kd.R_drew)); exact Kd.R_mono HO217.out (fun _ hk => ⟨(by simp [Value.ownBlock]), hk.2⟩)⟩, ⟨by first | exact Kd.R_nil _ _ _ _ _ | exact Kd.N_nil _ _ _ _ _ | exact Kd.V_nil _ _ _ _ _ | exact Kd.Q_nil _ _ _ _ _ | exact Kd.S_nil _ _ _ _ _⟩, ⟨by (with_reducible repeat (first | apply Kd.R_alloc | apply Kd.R_drewN | apply Kd.R_drew)); exact Kd.R_mono HO214.out (fun _ hk => ⟨hk.2, (by simp [Value.ownBlock])⟩)⟩, ⟨blkS BK208.out⟩, ⟨blkS BK209.out⟩, ⟨blkS BK210.out⟩, ⟨bS HB.out⟩⟩
  case round =>
   clear H'
   try clear c1
   try clear c2
   try clear p2
   try clear c4
   try clear c5
   try clear c7
   try clear c10
   try clear c11
   try clear c12
   try clear c14
   try clear hcz13_0
   try clear hcz13_1
   try clear hcz13_2
   try clear hcz13_3
   try clear hcz13_4
   try clear hcz13_5
   try clear hcz13_6
   try clear hcz13_7
   try clear hcz15_0
   try clear hcz15_1
   try clear hcz16_0
   try clear hcz16_1
   try clear hfz13_0
   try clear hfz13_1
   try clear hfz13_2
   try clear hfz13_3
   try clear hfz13_4
   try clear hfz13_5
   try clear hfz13_6
   try clear hfz13_7
   try clear hfz15_0
   try clear hfz15_1
   try clear hfz16_0
   try clear hfz16_1
   obtain ⟨x10_1, x26_1, rfl, HA, HK1, HO_9, HO_10, HO_24, BK208, BK209, BK210, HB⟩ := hrel
   cases gk with
   | zero => exact absurd HA.out (by simp [spec_WorthBetween.l0])
   | succ k1 =>
    have H := HA.out
    clear HA
    simp only [spec_WorthBetween.l0] at H
    by_cases c22 : x26_1 < (t212.length : Int)
    ·rw [if_pos c22] at H
     have c22b0 : decide (x26_1 < (t212.length : Int)) = true := decide_eq_true c22
     clear c22
     by_cases c23 : 0 ≤ x26_1
     ·rw [if_pos c23] at H
      have c23b0 : decide (0 ≤ x26_1) = true := decide_eq_true c23
      clear c23
      by_cases c24 : x26_1 < (t212.length : Int)
      ·rw [if_pos c24] at H
       have c24b0 : decide (x26_1 < (t212.length : Int)) = true := decide_eq_true c24
       clear c24
       by_cases c25 : x26_1 < (t215.length : Int)
       ·rw [if_pos c25] at H
        have c25b0 : decide (x26_1 < (t215.length : Int)) = true := decide_eq_true c25
        clear c25
        by_cases c26 : x10_1.length < 17592186044416
        ·rw [if_pos c26] at H
         have LMc26 := Aside0.mk c26
         clear c26
         obtain ⟨y220, hy220⟩ : ∃ y_ : List Int, y_ = (x10_1 ++ [wrap64 ((rd t215 x26_1) - (rd t212 x26_1))]) := ⟨_, rfl⟩
         replace H : (spec_WorthBetween.l0 k1 t215 y220 t212 (t212.length : Int) (wrap64 (x26_1 + 1))) = some (r1, r2) := by first | (rw [hy220]; with_reducible exact H) | (have H2_ := (Option.bind_some _ _).symm.trans H; rw [hy220]; with_reducible exact H2_) | (have H2_ := (Option.bind_some _ _).symm.trans H; with_reducible exact H2_) | with_reducible exact H | (rw [hy220]; exact H) | exact H
         have Ny220 := Aside0.mk hy220
         clear hy220
         have H' := Aside0.mk H
         clear H
         have p218 : 0 ≤ (x26_1 : Int) := of_decide_eq_true (by assumption)
         have q218 : x26_1 < (t212.length : Int) := of_decide_eq_true (by assumption)
         obtain ⟨ad218, e218, hx218_0⟩ := Kd.at_int (Kd.R_reads' HO_24.out).2.2 x26_1 p218 q218
         cases e218
         replace p218 := eq_true p218
         replace q218 := eq_true q218
         obtain ⟨Ao27, co27, eo27⟩ := Kd.R_slice HO_9.out
         subst eo27
         have p219 : 0 ≤ (x26_1 : Int) := of_decide_eq_true (by assumption)
         have q219 : x26_1 < (t215.length : Int) := of_decide_eq_true (by assumption)
         obtain ⟨ad219, e219, hx219_0⟩ := Kd.at_int (Kd.R_reads' HO_9.out).2.2 x26_1 p219 q219
         cases e219
         replace p219 := eq_true p219
         replace q219 := eq_true q219
         go_wp2_with (first | ((with_reducible refine gate_builtin (b := .append) (xs := #[.tmp 31, .tmp 38]) rfl ?_); at_builtin; refine Kd.R_append (Kd.int .i64) (w0 := w) w.heap.size rfl (.tmp 31) (.tmp 38) 23 3 (.int .i64 0) 8 rfl Try.underlying23 info3 rfl (by decide) (by omega) u10 x10_1 (wrap64 ((rd t215 x26_1) - (rd t212 x26_1))) [.int .i64 (wrap64 ((rd t215 x26_1) - (rd t212 x26_1)))] (fun k_ => some k_ ≠ (.slice (some ad219) t215.length co27 : Value).ownBlock ∧ some k_ ≠ (.slice (some ad218) t212.length co21 : Value).ownBlock) (fun _ => False) rfl rfl ?aP (fun _ hk => hk.elim) ?aF ?aO ?aB ?aS ?aL ?_; (case aP => exact rfl); (case aB => exact (bS HB.out)); (case aF => exact (fun k_ hk => ⟨Kd.fresh' (Kd.R_lt (rS HO_9.out)) k_ hk, Kd.fresh' (Kd.R_lt (rS HO_24.out)) k_ hk⟩)); (case aO => exact (rS HO_10.out)); (case aS => exact (below_size (bS HB.out))); (case aL => have := LMc26.out; omega); intro v221 w28 ho hb hg hat; rw [← Ny220.out] at ho; have n0_ := AZ (Kd.R_after (ok := (fun k_ => some k_ ≠ (.slice (some ad218) t212.length co21 : Value).ownBlock)) (rS (Kd.R_mono HO_9.out (fun _ hk => ⟨hk.2, hk.1⟩))) hg hat); have n1_ := AZ (Kd.R_after (ok := (fun k_ => some k_ ≠ (.slice (some ad219) t215.length co27 : Value).ownBlock)) (rS HO_24.out) hg hat); have n2_ := AZ (blk_grown (g := gb208) (o := .cells #[.slice A0_0 l0_0.length c0_0, .slice A0_1 l0_1.length c0_1, .slice A0_2 l0_2.length c0_2, .int .i64 a0_3, .int .i64 a0_4, .int .i64 a0_5, .int .i64 a0_6, .int .i64 a0_7] 36 (0, 0)) (blkS BK208.out) hg (Kd.R_ne HO_10.out BK208.out (by decide))); have n3_ := AZ (blk_grown (g := gb209) (o := .cells #[.int .i64 a1_0, .slice A1_1 l1_1.length c1_1] 38 (0, 0)) (blkS BK209.out) hg (Kd.R_ne HO_10.out BK209.out (by decide))); have n4_ := AZ (blk_grown (g := gb210) (o := .cells #[.int .i64 a2_0, .slice A2_1 l2_1.length c2_1] 38 (0, 0)) (blkS BK210.out) hg (Kd.R_ne HO_10.out BK210.out (by decide))); have n5_ := AZ (hb); have n6_ := AZ (ho); clear HO_9; clear HO_24; clear BK208; clear BK209; clear BK210; clear HB; clear HO_10; have HO_9 := n0_; have HO_24 := n1_; have BK208 := n2_; have BK209 := n3_; have BK210 := n4_; have HB := n5_; have HO222 := n6_; clear n0_ n1_ n2_ n3_ n4_ n5_ n6_; clear ho hb hg hat))
         go_roundg k1
         case measure => have := HK1.out; omega
         case rel => exact ⟨(y220), (wrap64 (x26_1 + 1)), (by first | rfl | (simp; done) | (simp [*]; done)), H', ⟨by have := HK1.out; omega⟩, ⟨rS (Kd.R_mono HO_9.out (fun _ hk => ⟨hk.2, hk.1⟩))⟩, ⟨rS HO222.out⟩, ⟨rS HO_24.out⟩, ⟨blkS BK208.out⟩, ⟨blkS BK209.out⟩, ⟨blkS BK210.out⟩, ⟨bS HB.out⟩⟩
        ·rw [if_neg c26] at H
         exact absurd H (by simp)
       ·rw [if_neg c25] at H
        exact absurd H (by simp)
      ·rw [if_neg c24] at H
       exact absurd H (by simp)
     ·rw [if_neg c23] at H
      exact absurd H (by simp)
    ·rw [if_neg c22] at H
     have c22b0 : decide (x26_1 < (t212.length : Int)) = false := decide_eq_false c22
     clear c22
     simp only [Option.some.injEq, Prod.mk.injEq] at H
     obtain ⟨rfl, rfl⟩ := H
     go_wp2
     go_ret2
     exact ⟨_, by first | rfl | (simp [errW_none, errW_some] <;> rfl) | (simp [*, errW_none, errW_some] <;> rfl), by (with_reducible repeat (first | apply Kd.R_alloc | apply Kd.R_drewN | apply Kd.R_drew)); exact Kd.R_mono HO_10.out (fun _ hk => trivial), bS HB.out⟩
 ·replace c5 := Bool.eq_false_iff.mpr c5
  subst c5
  have H1 : (some (([] : List Int), false)) = some (r1, r2) := by rw [if_neg (show ¬ (false = true) by decide)] at H; exact H
  clear H
  have H := H1
  clear H1
  simp only [Option.some.injEq, Prod.mk.injEq] at H
  obtain ⟨rfl, rfl⟩ := H
  go_enter Try.func48, Try.ntmps48
  go_wp2_with (first | ((with_reducible refine gate_dst (N := 3) rfl ?_); refine box_event ?hg (N := 3) ?hd (cs := #[.slice A0_0 l0_0.length c0_0, .slice A0_1 l0_1.length c0_1, .slice A0_2 l0_2.length c0_2, .int .i64 a0_3, .int .i64 a0_4, .int .i64 a0_5, .int .i64 a0_6, .int .i64 a0_7]) (t := 36) ?hr ?_; (case hd => rfl); (case hg => rfl); (case hr => first | (go_simp; done) | (go_simp; rfl)); intro gb208 hg w29 hbox hb; have n0_ := AZ (below_step (bS HB.out) hb); have n1_ := AZ (hbox); have n2_ := AZ (geS hg HB.out); have n3_ := AZ (geS hg HB.out); clear HB; have HB := n0_; have BK208 := n1_; have GW208 := n2_; have GE208 := n3_; clear n0_ n1_ n2_ n3_; clear hb hbox hg) | ((with_reducible refine gate_dst (N := 4) rfl ?_); refine box_event ?hg (N := 4) ?hd (cs := #[.int .i64 a1_0, .slice A1_1 l1_1.length c1_1]) (t := 38) ?hr ?_; (case hd => rfl); (case hg => rfl); (case hr => first | (go_simp; done) | (go_simp; rfl)); intro gb209 hg w30 hbox hb; have n0_ := blkA BK208 hb; have n1_ := AZ (below_step (bS HB.out) hb); have n2_ := AZ (hbox); have n3_ := AZ (geS hg HB.out); have n4_ := AZ (geS hg HB.out); have n5_ := AZ ((by rw [hg]; exact Nat.ne_of_lt (blkL BK208.out) : gb208 ≠ gb209)); have n6_ := AZ ((by rw [hg]; exact Nat.ne_of_gt (blkL BK208.out) : gb209 ≠ gb208)); clear BK208; clear HB; have BK208 := n0_; have HB := n1_; have BK209 := n2_; have GW209 := n3_; have GE209 := n4_; have NB208_209 := n5_; have NB209_208 := n6_; clear n0_ n1_ n2_ n3_ n4_ n5_ n6_; clear hb hbox hg) | ((with_reducible refine gate_dst (N := 5) rfl ?_); refine box_event ?hg (N := 5) ?hd (cs := #[.int .i64 a2_0, .slice A2_1 l2_1.length c2_1]) (t := 38) ?hr ?_; (case hd => rfl); (case hg => rfl); (case hr => first | (go_simp; done) | (go_simp; rfl)); intro gb210 hg w31 hbox hb; have n0_ := blkA BK208 hb; have n1_ := blkA BK209 hb; have n2_ := AZ (below_step (bS HB.out) hb); have n3_ := AZ (hbox); have n4_ := AZ (geS hg HB.out); have n5_ := AZ (geS hg HB.out); have n6_ := AZ ((by rw [hg]; exact Nat.ne_of_lt (blkL BK208.out) : gb208 ≠ gb210)); have n7_ := AZ ((by rw [hg]; exact Nat.ne_of_gt (blkL BK208.out) : gb210 ≠ gb208)); have n8_ := AZ ((by rw [hg]; exact Nat.ne_of_lt (blkL BK209.out) : gb209 ≠ gb210)); have n9_ := AZ ((by rw [hg]; exact Nat.ne_of_gt (blkL BK209.out) : gb210 ≠ gb209)); clear BK208; clear BK209; clear HB; have BK208 := n0_; have BK209 := n1_; have HB := n2_; have BK210 := n3_; have GW210 := n4_; have GE210 := n5_; have NB208_210 := n6_; have NB210_208 := n7_; have NB209_210 := n8_; have NB210_209 := n9_; clear n0_ n1_ n2_ n3_ n4_ n5_ n6_ n7_ n8_ n9_; clear hb hbox hg; have hnb32 := NB208_209.out; have hnc32 := NB209_208.out; have hnb33 := NB208_210.out; have hnc33 := NB210_208.out; have hcz34_0 : w31.cell? ⟨gb208, 0, none⟩ = some (.slice A0_0 l0_0.length c0_0) := (blk_cell BK208.out 0).trans rfl; have hcz34_1 : w31.cell? ⟨gb208, 1, none⟩ = some (.slice A0_1 l0_1.length c0_1) := (blk_cell BK208.out 1).trans rfl; have hcz34_2 : w31.cell? ⟨gb208, 2, none⟩ = some (.slice A0_2 l0_2.length c0_2) := (blk_cell BK208.out 2).trans rfl; have hcz34_3 : w31.cell? ⟨gb208, 3, none⟩ = some (.int .i64 a0_3) := (blk_cell BK208.out 3).trans rfl; have hcz34_4 : w31.cell? ⟨gb208, 4, none⟩ = some (.int .i64 a0_4) := (blk_cell BK208.out 4).trans rfl; have hcz34_5 : w31.cell? ⟨gb208, 5, none⟩ = some (.int .i64 a0_5) := (blk_cell BK208.out 5).trans rfl; have hcz34_6 : w31.cell? ⟨gb208, 6, none⟩ = some (.int .i64 a0_6) := (blk_cell BK208.out 6).trans rfl; have hcz34_7 : w31.cell? ⟨gb208, 7, none⟩ = some (.int .i64 a0_7) := (blk_cell BK208.out 7).trans rfl; have hfz34_0 := blk_frozen BK208.out 0; have hfz34_1 := blk_frozen BK208.out 1; have hfz34_2 := blk_frozen BK208.out 2; have hfz34_3 := blk_frozen BK208.out 3; have hfz34_4 := blk_frozen BK208.out 4; have hfz34_5 := blk_frozen BK208.out 5; have hfz34_6 := blk_frozen BK208.out 6; have hfz34_7 := blk_frozen BK208.out 7; have hnb35 := NB209_210.out; have hnc35 := NB210_209.out; have hcz36_0 : w31.cell? ⟨gb209, 0, none⟩ = some (.int .i64 a1_0) := (blk_cell BK209.out 0).trans rfl; have hcz36_1 : w31.cell? ⟨gb209, 1, none⟩ = some (.slice A1_1 l1_1.length c1_1) := (blk_cell BK209.out 1).trans rfl; have hfz36_0 := blk_frozen BK209.out 0; have hfz36_1 := blk_frozen BK209.out 1; have hcz37_0 : w31.cell? ⟨gb210, 0, none⟩ = some (.int .i64 a2_0) := (blk_cell BK210.out 0).trans rfl; have hcz37_1 : w31.cell? ⟨gb210, 1, none⟩ = some (.slice A2_1 l2_1.length c2_1) := (blk_cell BK210.out 1).trans rfl; have hfz37_0 := blk_frozen BK210.out 0; have hfz37_1 := blk_frozen BK210.out 1) | ((with_reducible refine gate_callee (f := 78) rfl ?_); refine gL (some 16) Try.func78 #[.agg #[.slice A0_0 l0_0.length c0_0, .slice A0_1 l0_1.length c0_1, .slice A0_2 l0_2.length c0_2, .int .i64 a0_3, .int .i64 a0_4, .int .i64 a0_5, .int .i64 a0_6, .int .i64 a0_7], .agg #[.int .i64 a1_0, .slice A1_1 l1_1.length c1_1], .agg #[.int .i64 a2_0, .slice A2_1 l2_1.length c2_1]] ?_; (with_reducible refine (spec_coGood.calls k _ _ l0_0 _ _ l0_1 _ _ l0_2 a0_3 a0_4 a0_5 a0_6 a0_7 a1_0 _ _ l1_1 a2_0 _ _ l2_1 false _ ?side1 ?side2 ?side3 ?side4 ?side5 ?side6 ?side7 ?side8 ?side9 ?side10 A4.out).mono ?_); (case side1 => exact cS (Kd.C_below HR0_0.out HB.out)); (case side2 => exact HC0_0.out); (case side3 => exact cS (Kd.C_below HR0_1.out HB.out)); (case side4 => exact HC0_1.out); (case side5 => exact cS (Kd.C_below HR0_2.out HB.out)); (case side6 => exact HC0_2.out); (case side7 => exact cS (Kd.C_below HR1_1.out HB.out)); (case side8 => exact HC1_1.out); (case side9 => exact cS (Kd.C_below HR2_1.out HB.out)); (case side10 => exact HC2_1.out); rintro e w38 ⟨rfl, hb⟩; refine ⟨_, rfl, ?_⟩; have n0_ := blkA BK208 hb; have n1_ := blkA BK209 hb; have n2_ := blkA BK210 hb; have n3_ := AZ (below_step (bS HB.out) hb); clear BK208; clear BK209; clear BK210; clear HB; have BK208 := n0_; have BK209 := n1_; have BK210 := n2_; have HB := n3_; clear n0_ n1_ n2_ n3_; (try clear hb)))
  go_ret2
  exact ⟨_, by first | rfl | (simp [errW_none, errW_some] <;> rfl) | (simp [*, errW_none, errW_some] <;> rfl), by first | exact Kd.R_nil _ _ _ _ _ | exact Kd.N_nil _ _ _ _ _ | exact Kd.V_nil _ _ _ _ _ | exact Kd.Q_nil _ _ _ _ _ | exact Kd.S_nil _ _ _ _ _, bS HB.out⟩

end Go.Proofs.Ytpfjjheognelhaa.PFnExactWorthBetween
