-- Written by a program of this claim (patch_print.py over the print): no hand has typed it.
import Derived.Test.YtpfjjheognelhaaPFnExactWorthBetweenx0
import Derived.Test.YtpfjjheognelhaaPFnExactWorthBetweenx7
namespace Go.Proofs.Ytpfjjheognelhaa.PFnExactWorthBetween
open Go.RowKit Go.Proofs.YtpfjjheognelhaaW.PrintWords Go.Proofs.YtpfjjheognelhaaW.PrintLast Go.Proofs.YtpfjjheognelhaaW.PrintMore
attribute [local go_sem] max2_int min2_int max_two min_two max_three min_three max_four min_four   -- for this text's walks alone
set_option linter.unusedVariables false
set_option linter.unusedSimpArgs false

/-! ### impl_isPlan: function 131 -/
mutual
def impl_isPlan.j0 : Nat → Bool → List (List Int) → List Int → List Int → Int → Int → Int → Int → Int → Int → List Int → Option (Bool)
 | 0, _, _, _, _, _, _, _, _, _, _, _ => none
 | k + 1, x20, x234000, x234001, x234002, x234003, x234004, x234005, x234006, x234007, x235000, x235001 => if x20 = true then (some false) else (impl_isPlan.l0 k x235001 (x235001.length : Int) 0 x234000 x234001 x234002 x234003 x234004 x234005 x234006 x234007)
def impl_isPlan.l0 : Nat → List Int → Int → Int → List (List Int) → List Int → List Int → Int → Int → Int → Int → Int → Option (Bool)
 | 0, _, _, _, _, _, _, _, _, _, _, _ => none
 | k + 1, x22, x23, x24, x234000, x234001, x234002, x234003, x234004, x234005, x234006, x234007 => if x24 < x23 then (if 0 ≤ x24 then (if x24 < (x22.length : Int) then (if (rd x22 x24) < (-1) then (some false) else (if (rd x22 x24) ≥ x234005 then (some false) else (impl_isPlan.l0 k x22 x23 (wrap64 (x24 + 1)) x234000 x234001 x234002 x234003 x234004 x234005 x234006 x234007))) else (none)) else (none)) else (some true)
end
def impl_isPlan.f (k : Nat) (l0_0 : List (List Int)) (l0_1 : List Int) (l0_2 : List Int) (a0_3 : Int) (a0_4 : Int) (a0_5 : Int) (a0_6 : Int) (a0_7 : Int) (a1_0 : Int) (l1_1 : List Int) : Option (Bool) := if a1_0 = a0_5 then (impl_isPlan.j0 k ((l1_1.length : Int) != (l0_0.length : Int)) l0_0 l0_1 l0_2 a0_3 a0_4 a0_5 a0_6 a0_7 a1_0 l1_1) else (impl_isPlan.j0 k true l0_0 l0_1 l0_2 a0_3 a0_4 a0_5 a0_6 a0_7 a1_0 l1_1)
set_option maxHeartbeats 8000000 in
set_option maxRecDepth 100000 in
theorem impl_isPlan.calls (k : Nat) (A0_0 : Option Addr) (c0_0 : Nat) (l0_0 : List (List Int)) (A0_1 : Option Addr) (c0_1 : Nat) (l0_1 : List Int) (A0_2 : Option Addr) (c0_2 : Nat) (l0_2 : List Int) (a0_3 : Int) (a0_4 : Int) (a0_5 : Int) (a0_6 : Int) (a0_7 : Int) (a1_0 : Int) (A1_1 : Option Addr) (c1_1 : Nat) (l1_1 : List Int) (r : Bool) (w : World) (hr0_0 : Kd.C (Kd.slice 3 (Kd.int .i64)) w A0_0 l0_0.length l0_0) (hc0_0 : l0_0.length ≤ c0_0) (hr0_1 : Kd.C (Kd.int .i64) w A0_1 l0_1.length l0_1) (hc0_1 : l0_1.length ≤ c0_1) (hr0_2 : Kd.C (Kd.int .i64) w A0_2 l0_2.length l0_2) (hc0_2 : l0_2.length ≤ c0_2) (hr1_1 : Kd.C (Kd.int .i64) w A1_1 l1_1.length l1_1) (hc1_1 : l1_1.length ≤ c1_1) (h : impl_isPlan.f k l0_0 l0_1 l0_2 a0_3 a0_4 a0_5 a0_6 a0_7 a1_0 l1_1 = some r) :
  Calls Try.prog 131 #[.agg #[.slice A0_0 l0_0.length c0_0, .slice A0_1 l0_1.length c0_1, .slice A0_2 l0_2.length c0_2, .int .i64 a0_3, .int .i64 a0_4, .int .i64 a0_5, .int .i64 a0_6, .int .i64 a0_7], .agg #[.int .i64 a1_0, .slice A1_1 l1_1.length c1_1]] w fun e w' => e = .returned (.bool r) ∧ Below w.heap.size w w' := by
 have hu36 := Try.underlying36
 have hu38 := Try.underlying38
 have HR0_0 := Aside0.mk hr0_0
 have HC0_0 := Aside0.mk hc0_0
 clear hr0_0 hc0_0
 have HR0_1 := Aside0.mk hr0_1
 have HC0_1 := Aside0.mk hc0_1
 clear hr0_1 hc0_1
 have HR0_2 := Aside0.mk hr0_2
 have HC0_2 := Aside0.mk hc0_2
 clear hr0_2 hc0_2
 have HR1_1 := Aside0.mk hr1_1
 have HC1_1 := Aside0.mk hc1_1
 clear hr1_1 hc1_1
 have HB := AZ (Below.refl w.heap.size w)
 have H : (if a1_0 = a0_5 then (impl_isPlan.j0 k ((l1_1.length : Int) != (l0_0.length : Int)) l0_0 l0_1 l0_2 a0_3 a0_4 a0_5 a0_6 a0_7 a1_0 l1_1) else (impl_isPlan.j0 k true l0_0 l0_1 l0_2 a0_3 a0_4 a0_5 a0_6 a0_7 a1_0 l1_1)) = some r := h
 clear h
 have HC3 := Aside0.mk H
 clear H
 go_enter Try.func131, Try.ntmps131
 go_upto_region 1 with (first | ((with_reducible refine gate_dst (N := 2) rfl ?_); (try (refine gate_guard (by rfl) ?_; dsimp only)); refine box_event ?hg (N := 2) ?hd (cs := #[.slice A0_0 l0_0.length c0_0, .slice A0_1 l0_1.length c0_1, .slice A0_2 l0_2.length c0_2, .int .i64 a0_3, .int .i64 a0_4, .int .i64 a0_5, .int .i64 a0_6, .int .i64 a0_7]) (t := 36) ?hr ?_; (case hd => rfl); (case hg => rfl); (case hr => first | (go_simp; done) | (go_simp; rfl)); intro gb233 hg w4 hbox hb; have n0_ := AZ (below_step (bS HB.out) hb); have n1_ := AZ (hbox); have n2_ := AZ (geS hg HB.out); have n3_ := AZ (geS hg HB.out); clear HB; have HB := n0_; have BK233 := n1_; have GW233 := n2_; have GE233 := n3_; clear n0_ n1_ n2_ n3_; clear hb hbox hg) | ((with_reducible refine gate_dst (N := 3) rfl ?_); (try (refine gate_guard (by rfl) ?_; dsimp only)); refine box_event ?hg (N := 3) ?hd (cs := #[.int .i64 a1_0, .slice A1_1 l1_1.length c1_1]) (t := 38) ?hr ?_; (case hd => rfl); (case hg => rfl); (case hr => first | (go_simp; done) | (go_simp; rfl)); intro gb234 hg w5 hbox hb; have n0_ := blkA BK233 hb; have n1_ := AZ (below_step (bS HB.out) hb); have n2_ := AZ (hbox); have n3_ := AZ (geS hg HB.out); have n4_ := AZ (geS hg HB.out); have n5_ := AZ ((by rw [hg]; exact Nat.ne_of_lt (blkL BK233.out) : gb233 ≠ gb234)); have n6_ := AZ ((by rw [hg]; exact Nat.ne_of_gt (blkL BK233.out) : gb234 ≠ gb233)); clear BK233; clear HB; have BK233 := n0_; have HB := n1_; have BK234 := n2_; have GW234 := n3_; have GE234 := n4_; have NB233_234 := n5_; have NB234_233 := n6_; clear n0_ n1_ n2_ n3_ n4_ n5_ n6_; clear hb hbox hg))
 (try simp only [Act.put, List.setIfInBounds_toArray, List.set_cons_zero, List.set_cons_succ])
 go_cut [20] (fun v20 wc => ∃ (kq : Nat) (x20_2 : Bool), v20 = .bool x20_2 ∧ Aside0 (impl_isPlan.j0 kq x20_2 l0_0 l0_1 l0_2 a0_3 a0_4 a0_5 a0_6 a0_7 a1_0 l1_1 = some r) ∧ Aside0 (kq ≤ k) ∧ Aside0 (wc.heap[gb233]? = some (.cells #[(.slice A0_0 l0_0.length c0_0), (.slice A0_1 l0_1.length c0_1), (.slice A0_2 l0_2.length c0_2), .int .i64 a0_3, .int .i64 a0_4, .int .i64 a0_5, .int .i64 a0_6, .int .i64 a0_7] 36 (0, 0))) ∧ Aside0 (wc.heap[gb234]? = some (.cells #[.int .i64 a1_0, (.slice A1_1 l1_1.length c1_1)] 38 (0, 0))) ∧ Aside0 (Below w.heap.size w wc))
 case first =>
  have H := HC3.out
  clear HC3
  by_cases c6 : a1_0 = a0_5
  ·rw [if_pos c6] at H
   have c6b0 : (a1_0 == a0_5) = true := beq_iff_eq.mpr c6
   have c6b1 : (a1_0 != a0_5) = false := bne_eq_false_iff_eq.mpr c6
   clear c6
   (first | rw [c6b0] | (simp only [i64_w, i32_w]; rw [c6b0]) | skip)
   have H' := Aside0.mk H
   clear H
   have hnb7 := NB234_233.out
   have hnc7 := NB233_234.out
   have hcz8_0 : w5.cell? ⟨gb234, 0, none⟩ = some (.int .i64 a1_0) := (blk_cell BK234.out 0).trans rfl
   have hcz8_1 : w5.cell? ⟨gb234, 1, none⟩ = some (.slice A1_1 l1_1.length c1_1) := (blk_cell BK234.out 1).trans rfl
   have hfz8_0 := blk_frozen BK234.out 0
   have hfz8_1 := blk_frozen BK234.out 1
   have hcz9_0 : w5.cell? ⟨gb233, 0, none⟩ = some (.slice A0_0 l0_0.length c0_0) := (blk_cell BK233.out 0).trans rfl
   have hcz9_1 : w5.cell? ⟨gb233, 1, none⟩ = some (.slice A0_1 l0_1.length c0_1) := (blk_cell BK233.out 1).trans rfl
   have hcz9_2 : w5.cell? ⟨gb233, 2, none⟩ = some (.slice A0_2 l0_2.length c0_2) := (blk_cell BK233.out 2).trans rfl
   have hcz9_3 : w5.cell? ⟨gb233, 3, none⟩ = some (.int .i64 a0_3) := (blk_cell BK233.out 3).trans rfl
   have hcz9_4 : w5.cell? ⟨gb233, 4, none⟩ = some (.int .i64 a0_4) := (blk_cell BK233.out 4).trans rfl
   have hcz9_5 : w5.cell? ⟨gb233, 5, none⟩ = some (.int .i64 a0_5) := (blk_cell BK233.out 5).trans rfl
   have hcz9_6 : w5.cell? ⟨gb233, 6, none⟩ = some (.int .i64 a0_6) := (blk_cell BK233.out 6).trans rfl
   have hcz9_7 : w5.cell? ⟨gb233, 7, none⟩ = some (.int .i64 a0_7) := (blk_cell BK233.out 7).trans rfl
   have hfz9_0 := blk_frozen BK233.out 0
   have hfz9_1 := blk_frozen BK233.out 1
   have hfz9_2 := blk_frozen BK233.out 2
   have hfz9_3 := blk_frozen BK233.out 3
   have hfz9_4 := blk_frozen BK233.out 4
   have hfz9_5 := blk_frozen BK233.out 5
   have hfz9_6 := blk_frozen BK233.out 6
   have hfz9_7 := blk_frozen BK233.out 7
   go_wp2
   go_meet
   case rel => exact ⟨_, (((l1_1.length : Int) != (l0_0.length : Int))), (by first | rfl | (simp; done) | (simp [*]; done)), H', ⟨by first | omega | exact Nat.le_refl _⟩, ⟨blkS BK233.out⟩, ⟨blkS BK234.out⟩, ⟨bS HB.out⟩⟩
  ·rw [if_neg c6] at H
   have c6b0 : (a1_0 == a0_5) = false := beq_eq_false_iff_ne.mpr c6
   have c6b1 : (a1_0 != a0_5) = true := bne_iff_ne.mpr c6
   (first | rw [c6b0] | (simp only [i64_w, i32_w]; rw [c6b0]) | skip)
   have H' := Aside0.mk H
   clear H
   have hnb10 := NB234_233.out
   have hnc10 := NB233_234.out
   have hcz11_0 : w5.cell? ⟨gb234, 0, none⟩ = some (.int .i64 a1_0) := (blk_cell BK234.out 0).trans rfl
   have hcz11_1 : w5.cell? ⟨gb234, 1, none⟩ = some (.slice A1_1 l1_1.length c1_1) := (blk_cell BK234.out 1).trans rfl
   have hfz11_0 := blk_frozen BK234.out 0
   have hfz11_1 := blk_frozen BK234.out 1
   have hcz12_0 : w5.cell? ⟨gb233, 0, none⟩ = some (.slice A0_0 l0_0.length c0_0) := (blk_cell BK233.out 0).trans rfl
   have hcz12_1 : w5.cell? ⟨gb233, 1, none⟩ = some (.slice A0_1 l0_1.length c0_1) := (blk_cell BK233.out 1).trans rfl
   have hcz12_2 : w5.cell? ⟨gb233, 2, none⟩ = some (.slice A0_2 l0_2.length c0_2) := (blk_cell BK233.out 2).trans rfl
   have hcz12_3 : w5.cell? ⟨gb233, 3, none⟩ = some (.int .i64 a0_3) := (blk_cell BK233.out 3).trans rfl
   have hcz12_4 : w5.cell? ⟨gb233, 4, none⟩ = some (.int .i64 a0_4) := (blk_cell BK233.out 4).trans rfl
   have hcz12_5 : w5.cell? ⟨gb233, 5, none⟩ = some (.int .i64 a0_5) := (blk_cell BK233.out 5).trans rfl
   have hcz12_6 : w5.cell? ⟨gb233, 6, none⟩ = some (.int .i64 a0_6) := (blk_cell BK233.out 6).trans rfl
   have hcz12_7 : w5.cell? ⟨gb233, 7, none⟩ = some (.int .i64 a0_7) := (blk_cell BK233.out 7).trans rfl
   have hfz12_0 := blk_frozen BK233.out 0
   have hfz12_1 := blk_frozen BK233.out 1
   have hfz12_2 := blk_frozen BK233.out 2
   have hfz12_3 := blk_frozen BK233.out 3
   have hfz12_4 := blk_frozen BK233.out 4
   have hfz12_5 := blk_frozen BK233.out 5
   have hfz12_6 := blk_frozen BK233.out 6
   have hfz12_7 := blk_frozen BK233.out 7
   go_wp2
   go_meet
   case rel => exact ⟨_, (true), (by first | rfl | (simp; done) | (simp [*]; done)), H', ⟨by first | omega | exact Nat.le_refl _⟩, ⟨blkS BK233.out⟩, ⟨blkS BK234.out⟩, ⟨bS HB.out⟩⟩
 case rest =>
  clear HC3
  try clear c1
  try clear p2
  try clear c6
  try clear c6b0
  try clear c6b1
  try clear c7
  try clear c10
  try clear hcz11_0
  try clear hcz11_1
  try clear hcz12_0
  try clear hcz12_1
  try clear hcz12_2
  try clear hcz12_3
  try clear hcz12_4
  try clear hcz12_5
  try clear hcz12_6
  try clear hcz12_7
  try clear hcz8_0
  try clear hcz8_1
  try clear hcz9_0
  try clear hcz9_1
  try clear hcz9_2
  try clear hcz9_3
  try clear hcz9_4
  try clear hcz9_5
  try clear hcz9_6
  try clear hcz9_7
  try clear hfz11_0
  try clear hfz11_1
  try clear hfz12_0
  try clear hfz12_1
  try clear hfz12_2
  try clear hfz12_3
  try clear hfz12_4
  try clear hfz12_5
  try clear hfz12_6
  try clear hfz12_7
  try clear hfz8_0
  try clear hfz8_1
  try clear hfz9_0
  try clear hfz9_1
  try clear hfz9_2
  try clear hfz9_3
  try clear hfz9_4
  try clear hfz9_5
  try clear hfz9_6
  try clear hfz9_7
  obtain ⟨kq, x20_2, rfl, HA, HJ2, BK233, BK234, HB⟩ := hcut
  cases kq with
  | zero => exact absurd HA.out (by simp [impl_isPlan.j0])
  | succ kj2 =>
   have H := HA.out
   clear HA
   simp only [impl_isPlan.j0] at H
   by_cases c13 : x20_2 = true
   ·subst c13
    have H1 : (some false) = some r := by rw [if_pos rfl] at H; exact H
    clear H
    have H := H1
    clear H1
    obtain rfl := Option.some.inj H
    go_wp2
    go_ret
    exact ⟨by first | rfl | (simp; done) | (simp [*]; done), bS HB.out⟩
   ·replace c13 := Bool.eq_false_iff.mpr c13
    subst c13
    have H1 : (impl_isPlan.l0 kj2 l1_1 (l1_1.length : Int) 0 l0_0 l0_1 l0_2 a0_3 a0_4 a0_5 a0_6 a0_7) = some r := by rw [if_neg (show ¬ (false = true) by decide)] at H; exact H
    clear H
    have H := H1
    clear H1
    have H' := Aside0.mk H
    clear H
    have hnb14 := NB234_233.out
    have hnc14 := NB233_234.out
    have hcz15_0 : wc.cell? ⟨gb234, 0, none⟩ = some (.int .i64 a1_0) := (blk_cell BK234.out 0).trans rfl
    have hcz15_1 : wc.cell? ⟨gb234, 1, none⟩ = some (.slice A1_1 l1_1.length c1_1) := (blk_cell BK234.out 1).trans rfl
    have hfz15_0 := blk_frozen BK234.out 0
    have hfz15_1 := blk_frozen BK234.out 1
    go_wp2
    go_loopg [24] kj2 (fun kq v24 w' => ∃ (x24_2 : Int), v24 = .int .i64 x24_2 ∧ Aside0 (impl_isPlan.l0 kq l1_1 (l1_1.length : Int) x24_2 l0_0 l0_1 l0_2 a0_3 a0_4 a0_5 a0_6 a0_7 = some r) ∧ Aside0 (kq ≤ kj2) ∧ Aside0 (w'.heap[gb233]? = some (.cells #[(.slice A0_0 l0_0.length c0_0), (.slice A0_1 l0_1.length c0_1), (.slice A0_2 l0_2.length c0_2), .int .i64 a0_3, .int .i64 a0_4, .int .i64 a0_5, .int .i64 a0_6, .int .i64 a0_7] 36 (0, 0))) ∧ Aside0 (w'.heap[gb234]? = some (.cells #[.int .i64 a1_0, (.slice A1_1 l1_1.length c1_1)] 38 (0, 0))) ∧ Aside0 (Below w.heap.size w w'))
    case atStart => exact ⟨(0), (by first | rfl | (simp; done) | (simp [*]; done)), H', ⟨Nat.le_refl _⟩, ⟨blkS BK233.out⟩, ⟨blkS BK234.out⟩, ⟨bS HB.out⟩⟩
    case round =>
     clear H'
     try clear c1
     try clear p2
     try clear c6
     try clear c6b0
     try clear c6b1
     try clear c7
     try clear c10
     try clear c13
     try clear c14
     try clear hcz11_0
     try clear hcz11_1
     try clear hcz12_0
     try clear hcz12_1
     try clear hcz12_2
     try clear hcz12_3
     try clear hcz12_4
     try clear hcz12_5
     try clear hcz12_6
     try clear hcz12_7
     try clear hcz15_0
     try clear hcz15_1
     try clear hcz8_0
     try clear hcz8_1
     try clear hcz9_0
     try clear hcz9_1
     try clear hcz9_2
     try clear hcz9_3
     try clear hcz9_4
     try clear hcz9_5
     try clear hcz9_6
     try clear hcz9_7
     try clear hfz11_0
     try clear hfz11_1
     try clear hfz12_0
     try clear hfz12_1
     try clear hfz12_2
     try clear hfz12_3
     try clear hfz12_4
     try clear hfz12_5
     try clear hfz12_6
     try clear hfz12_7
     try clear hfz15_0
     try clear hfz15_1
     try clear hfz8_0
     try clear hfz8_1
     try clear hfz9_0
     try clear hfz9_1
     try clear hfz9_2
     try clear hfz9_3
     try clear hfz9_4
     try clear hfz9_5
     try clear hfz9_6
     try clear hfz9_7
     try clear p2
     obtain ⟨x24_2, rfl, HA, HK2, BK233, BK234, HB⟩ := hrel
     cases gk with
     | zero => exact absurd HA.out (by simp [impl_isPlan.l0])
     | succ k2 =>
      have H := HA.out
      clear HA
      simp only [impl_isPlan.l0] at H
      by_cases c16 : x24_2 < (l1_1.length : Int)
      ·rw [if_pos c16] at H
       have c16b0 : decide (x24_2 < (l1_1.length : Int)) = true := decide_eq_true c16
       clear c16
       by_cases c17 : 0 ≤ x24_2
       ·rw [if_pos c17] at H
        have c17b0 : decide (0 ≤ x24_2) = true := decide_eq_true c17
        clear c17
        by_cases c18 : x24_2 < (l1_1.length : Int)
        ·rw [if_pos c18] at H
         have c18b0 : decide (x24_2 < (l1_1.length : Int)) = true := decide_eq_true c18
         clear c18
         by_cases c19 : (rd l1_1 x24_2) < (-1)
         ·rw [if_pos c19] at H
          have c19b0 : decide ((rd l1_1 x24_2) < (-1)) = true := decide_eq_true c19
          clear c19
          obtain rfl := Option.some.inj H
          have p235 : 0 ≤ (x24_2 : Int) := of_decide_eq_true (by assumption)
          have q235 : x24_2 < (l1_1.length : Int) := of_decide_eq_true (by assumption)
          obtain ⟨ad235, e235, hx235_0⟩ := Kd.at_int HR1_1.out x24_2 p235 q235
          cases e235
          replace hx235_0 := (HB.out.cell (World.block_lt_of_cell? w _ hx235_0)).trans hx235_0
          replace p235 := eq_true p235
          replace q235 := eq_true q235
          go_wp2
          go_ret
          exact ⟨by first | rfl | (simp; done) | (simp [*]; done), bS HB.out⟩
         ·rw [if_neg c19] at H
          have c19b0 : decide ((rd l1_1 x24_2) < (-1)) = false := decide_eq_false c19
          clear c19
          by_cases c20 : (rd l1_1 x24_2) ≥ a0_5
          ·rw [if_pos c20] at H
           have c20b0 : decide (a0_5 ≤ (rd l1_1 x24_2)) = true := decide_eq_true c20
           clear c20
           obtain rfl := Option.some.inj H
           have p235 : 0 ≤ (x24_2 : Int) := of_decide_eq_true (by assumption)
           have q235 : x24_2 < (l1_1.length : Int) := of_decide_eq_true (by assumption)
           obtain ⟨ad235, e235, hx235_0⟩ := Kd.at_int HR1_1.out x24_2 p235 q235
           cases e235
           replace hx235_0 := (HB.out.cell (World.block_lt_of_cell? w _ hx235_0)).trans hx235_0
           replace p235 := eq_true p235
           replace q235 := eq_true q235
           have hnb21 := NB233_234.out
           have hnc21 := NB234_233.out
           have hcz22_0 : wr.cell? ⟨gb233, 0, none⟩ = some (.slice A0_0 l0_0.length c0_0) := (blk_cell BK233.out 0).trans rfl
           have hcz22_1 : wr.cell? ⟨gb233, 1, none⟩ = some (.slice A0_1 l0_1.length c0_1) := (blk_cell BK233.out 1).trans rfl
           have hcz22_2 : wr.cell? ⟨gb233, 2, none⟩ = some (.slice A0_2 l0_2.length c0_2) := (blk_cell BK233.out 2).trans rfl
           have hcz22_3 : wr.cell? ⟨gb233, 3, none⟩ = some (.int .i64 a0_3) := (blk_cell BK233.out 3).trans rfl
           have hcz22_4 : wr.cell? ⟨gb233, 4, none⟩ = some (.int .i64 a0_4) := (blk_cell BK233.out 4).trans rfl
           have hcz22_5 : wr.cell? ⟨gb233, 5, none⟩ = some (.int .i64 a0_5) := (blk_cell BK233.out 5).trans rfl
           have hcz22_6 : wr.cell? ⟨gb233, 6, none⟩ = some (.int .i64 a0_6) := (blk_cell BK233.out 6).trans rfl
           have hcz22_7 : wr.cell? ⟨gb233, 7, none⟩ = some (.int .i64 a0_7) := (blk_cell BK233.out 7).trans rfl
           have hfz22_0 := blk_frozen BK233.out 0
           have hfz22_1 := blk_frozen BK233.out 1
           have hfz22_2 := blk_frozen BK233.out 2
           have hfz22_3 := blk_frozen BK233.out 3
           have hfz22_4 := blk_frozen BK233.out 4
           have hfz22_5 := blk_frozen BK233.out 5
           have hfz22_6 := blk_frozen BK233.out 6
           have hfz22_7 := blk_frozen BK233.out 7
           go_wp2
           go_ret
           exact ⟨by first | rfl | (simp; done) | (simp [*]; done), bS HB.out⟩
          ·rw [if_neg c20] at H
           have c20b0 : decide (a0_5 ≤ (rd l1_1 x24_2)) = false := decide_eq_false c20
           clear c20
           have H' := Aside0.mk H
           clear H
           have p235 : 0 ≤ (x24_2 : Int) := of_decide_eq_true (by assumption)
           have q235 : x24_2 < (l1_1.length : Int) := of_decide_eq_true (by assumption)
           obtain ⟨ad235, e235, hx235_0⟩ := Kd.at_int HR1_1.out x24_2 p235 q235
           cases e235
           replace hx235_0 := (HB.out.cell (World.block_lt_of_cell? w _ hx235_0)).trans hx235_0
           replace p235 := eq_true p235
           replace q235 := eq_true q235
           have hnb23 := NB233_234.out
           have hnc23 := NB234_233.out
           have hcz24_0 : wr.cell? ⟨gb233, 0, none⟩ = some (.slice A0_0 l0_0.length c0_0) := (blk_cell BK233.out 0).trans rfl
           have hcz24_1 : wr.cell? ⟨gb233, 1, none⟩ = some (.slice A0_1 l0_1.length c0_1) := (blk_cell BK233.out 1).trans rfl
           have hcz24_2 : wr.cell? ⟨gb233, 2, none⟩ = some (.slice A0_2 l0_2.length c0_2) := (blk_cell BK233.out 2).trans rfl
           have hcz24_3 : wr.cell? ⟨gb233, 3, none⟩ = some (.int .i64 a0_3) := (blk_cell BK233.out 3).trans rfl
           have hcz24_4 : wr.cell? ⟨gb233, 4, none⟩ = some (.int .i64 a0_4) := (blk_cell BK233.out 4).trans rfl
           have hcz24_5 : wr.cell? ⟨gb233, 5, none⟩ = some (.int .i64 a0_5) := (blk_cell BK233.out 5).trans rfl
           have hcz24_6 : wr.cell? ⟨gb233, 6, none⟩ = some (.int .i64 a0_6) := (blk_cell BK233.out 6).trans rfl
           have hcz24_7 : wr.cell? ⟨gb233, 7, none⟩ = some (.int .i64 a0_7) := (blk_cell BK233.out 7).trans rfl
           have hfz24_0 := blk_frozen BK233.out 0
           have hfz24_1 := blk_frozen BK233.out 1
           have hfz24_2 := blk_frozen BK233.out 2
           have hfz24_3 := blk_frozen BK233.out 3
           have hfz24_4 := blk_frozen BK233.out 4
           have hfz24_5 := blk_frozen BK233.out 5
           have hfz24_6 := blk_frozen BK233.out 6
           have hfz24_7 := blk_frozen BK233.out 7
           go_wp2
           go_roundg k2
           case measure => have := HJ2.out; have := HK2.out; omega
           case rel => exact ⟨(wrap64 (x24_2 + 1)), (by first | rfl | (simp; done) | (simp [*]; done)), H', ⟨by have := HJ2.out; have := HK2.out; omega⟩, ⟨blkS BK233.out⟩, ⟨blkS BK234.out⟩, ⟨bS HB.out⟩⟩
        ·rw [if_neg c18] at H
         exact absurd H (by simp)
       ·rw [if_neg c17] at H
        exact absurd H (by simp)
      ·rw [if_neg c16] at H
       have c16b0 : decide (x24_2 < (l1_1.length : Int)) = false := decide_eq_false c16
       clear c16
       obtain rfl := Option.some.inj H
       go_wp2
       go_ret
       exact ⟨by first | rfl | (simp; done) | (simp [*]; done), bS HB.out⟩

/-! ### impl_arePlans: function 85 -/
def impl_arePlans.f (k : Nat) (l0_0 : List (List Int)) (l0_1 : List Int) (l0_2 : List Int) (a0_3 : Int) (a0_4 : Int) (a0_5 : Int) (a0_6 : Int) (a0_7 : Int) (a1_0 : Int) (l1_1 : List Int) (a2_0 : Int) (l2_1 : List Int) : Option (Bool) := (impl_IsJob.f k l0_0 l0_1 l0_2 a0_3 a0_4 a0_5 a0_6 a0_7).bind fun t239 => (if t239 = true then ((impl_isPlan.f k l0_0 l0_1 l0_2 a0_3 a0_4 a0_5 a0_6 a0_7 a1_0 l1_1).bind fun t240 => (if t240 = true then ((impl_isPlan.f k l0_0 l0_1 l0_2 a0_3 a0_4 a0_5 a0_6 a0_7 a2_0 l2_1).bind fun t241 => (some t241)) else (some false))) else (some false))
set_option maxHeartbeats 8000000 in
set_option maxRecDepth 100000 in
theorem impl_arePlans.calls (k : Nat) (A0_0 : Option Addr) (c0_0 : Nat) (l0_0 : List (List Int)) (A0_1 : Option Addr) (c0_1 : Nat) (l0_1 : List Int) (A0_2 : Option Addr) (c0_2 : Nat) (l0_2 : List Int) (a0_3 : Int) (a0_4 : Int) (a0_5 : Int) (a0_6 : Int) (a0_7 : Int) (a1_0 : Int) (A1_1 : Option Addr) (c1_1 : Nat) (l1_1 : List Int) (a2_0 : Int) (A2_1 : Option Addr) (c2_1 : Nat) (l2_1 : List Int) (r : Bool) (w : World) (hr0_0 : Kd.C (Kd.slice 3 (Kd.int .i64)) w A0_0 l0_0.length l0_0) (hc0_0 : l0_0.length ≤ c0_0) (hr0_1 : Kd.C (Kd.int .i64) w A0_1 l0_1.length l0_1) (hc0_1 : l0_1.length ≤ c0_1) (hr0_2 : Kd.C (Kd.int .i64) w A0_2 l0_2.length l0_2) (hc0_2 : l0_2.length ≤ c0_2) (hr1_1 : Kd.C (Kd.int .i64) w A1_1 l1_1.length l1_1) (hc1_1 : l1_1.length ≤ c1_1) (hr2_1 : Kd.C (Kd.int .i64) w A2_1 l2_1.length l2_1) (hc2_1 : l2_1.length ≤ c2_1) (h : impl_arePlans.f k l0_0 l0_1 l0_2 a0_3 a0_4 a0_5 a0_6 a0_7 a1_0 l1_1 a2_0 l2_1 = some r) :
  Calls Try.prog 85 #[.agg #[.slice A0_0 l0_0.length c0_0, .slice A0_1 l0_1.length c0_1, .slice A0_2 l0_2.length c0_2, .int .i64 a0_3, .int .i64 a0_4, .int .i64 a0_5, .int .i64 a0_6, .int .i64 a0_7], .agg #[.int .i64 a1_0, .slice A1_1 l1_1.length c1_1], .agg #[.int .i64 a2_0, .slice A2_1 l2_1.length c2_1]] w fun e w' => e = .returned (.bool r) ∧ Below w.heap.size w w' := by
 have hu36 := Try.underlying36
 have hu38 := Try.underlying38
 have HR0_0 := Aside0.mk hr0_0
 have HC0_0 := Aside0.mk hc0_0
 clear hr0_0 hc0_0
 have HR0_1 := Aside0.mk hr0_1
 have HC0_1 := Aside0.mk hc0_1
 clear hr0_1 hc0_1
 have HR0_2 := Aside0.mk hr0_2
 have HC0_2 := Aside0.mk hc0_2
 clear hr0_2 hc0_2
 have HR1_1 := Aside0.mk hr1_1
 have HC1_1 := Aside0.mk hc1_1
 clear hr1_1 hc1_1
 have HR2_1 := Aside0.mk hr2_1
 have HC2_1 := Aside0.mk hc2_1
 clear hr2_1 hc2_1
 have HB := AZ (Below.refl w.heap.size w)
 have H : ((impl_IsJob.f k l0_0 l0_1 l0_2 a0_3 a0_4 a0_5 a0_6 a0_7).bind fun t239 => (if t239 = true then ((impl_isPlan.f k l0_0 l0_1 l0_2 a0_3 a0_4 a0_5 a0_6 a0_7 a1_0 l1_1).bind fun t240 => (if t240 = true then ((impl_isPlan.f k l0_0 l0_1 l0_2 a0_3 a0_4 a0_5 a0_6 a0_7 a2_0 l2_1).bind fun t241 => (some t241)) else (some false))) else (some false))) = some r := h
 clear h
 replace H := Option.bind_eq_some_iff.mp H
 obtain ⟨t239, A40, H⟩ := H
 replace H : (if t239 = true then ((impl_isPlan.f k l0_0 l0_1 l0_2 a0_3 a0_4 a0_5 a0_6 a0_7 a1_0 l1_1).bind fun t240 => (if t240 = true then ((impl_isPlan.f k l0_0 l0_1 l0_2 a0_3 a0_4 a0_5 a0_6 a0_7 a2_0 l2_1).bind fun t241 => (some t241)) else (some false))) else (some false)) = some r := H
 have A4 := Aside0.mk A40
 clear A40
 by_cases c5 : t239 = true
 ·subst c5
  have H1 : ((impl_isPlan.f k l0_0 l0_1 l0_2 a0_3 a0_4 a0_5 a0_6 a0_7 a1_0 l1_1).bind fun t240 => (if t240 = true then ((impl_isPlan.f k l0_0 l0_1 l0_2 a0_3 a0_4 a0_5 a0_6 a0_7 a2_0 l2_1).bind fun t241 => (some t241)) else (some false))) = some r := by rw [if_pos rfl] at H; exact H
  clear H
  have H := H1
  clear H1
  replace H := Option.bind_eq_some_iff.mp H
  obtain ⟨t240, A60, H⟩ := H
  replace H : (if t240 = true then ((impl_isPlan.f k l0_0 l0_1 l0_2 a0_3 a0_4 a0_5 a0_6 a0_7 a2_0 l2_1).bind fun t241 => (some t241)) else (some false)) = some r := H
  have A6 := Aside0.mk A60
  clear A60
  by_cases c7 : t240 = true
  ·subst c7
   have H1 : ((impl_isPlan.f k l0_0 l0_1 l0_2 a0_3 a0_4 a0_5 a0_6 a0_7 a2_0 l2_1).bind fun t241 => (some t241)) = some r := by rw [if_pos rfl] at H; exact H
   clear H
   have H := H1
   clear H1
   replace H := Option.bind_eq_some_iff.mp H
   obtain ⟨t241, A80, H⟩ := H
   replace H : (some t241) = some r := H
   have A8 := Aside0.mk A80
   clear A80
   obtain rfl := Option.some.inj H
   go_enter Try.func85, Try.ntmps85
   go_wp2_with (first | ((with_reducible refine gate_dst (N := 3) rfl ?_); refine box_event ?hg (N := 3) ?hd (cs := #[.slice A0_0 l0_0.length c0_0, .slice A0_1 l0_1.length c0_1, .slice A0_2 l0_2.length c0_2, .int .i64 a0_3, .int .i64 a0_4, .int .i64 a0_5, .int .i64 a0_6, .int .i64 a0_7]) (t := 36) ?hr ?_; (case hd => rfl); (case hg => rfl); (case hr => first | (go_simp; done) | (go_simp; rfl)); intro gb236 hg w9 hbox hb; have n0_ := AZ (below_step (bS HB.out) hb); have n1_ := AZ (hbox); have n2_ := AZ (geS hg HB.out); have n3_ := AZ (geS hg HB.out); clear HB; have HB := n0_; have BK236 := n1_; have GW236 := n2_; have GE236 := n3_; clear n0_ n1_ n2_ n3_; clear hb hbox hg) | ((with_reducible refine gate_dst (N := 4) rfl ?_); refine box_event ?hg (N := 4) ?hd (cs := #[.int .i64 a1_0, .slice A1_1 l1_1.length c1_1]) (t := 38) ?hr ?_; (case hd => rfl); (case hg => rfl); (case hr => first | (go_simp; done) | (go_simp; rfl)); intro gb237 hg w10 hbox hb; have n0_ := blkA BK236 hb; have n1_ := AZ (below_step (bS HB.out) hb); have n2_ := AZ (hbox); have n3_ := AZ (geS hg HB.out); have n4_ := AZ (geS hg HB.out); have n5_ := AZ ((by rw [hg]; exact Nat.ne_of_lt (blkL BK236.out) : gb236 ≠ gb237)); have n6_ := AZ ((by rw [hg]; exact Nat.ne_of_gt (blkL BK236.out) : gb237 ≠ gb236)); clear BK236; clear HB; have BK236 := n0_; have HB := n1_; have BK237 := n2_; have GW237 := n3_; have GE237 := n4_; have NB236_237 := n5_; have NB237_236 := n6_; clear n0_ n1_ n2_ n3_ n4_ n5_ n6_; clear hb hbox hg) | ((with_reducible refine gate_dst (N := 5) rfl ?_); refine box_event ?hg (N := 5) ?hd (cs := #[.int .i64 a2_0, .slice A2_1 l2_1.length c2_1]) (t := 38) ?hr ?_; (case hd => rfl); (case hg => rfl); (case hr => first | (go_simp; done) | (go_simp; rfl)); intro gb238 hg w11 hbox hb; have n0_ := blkA BK236 hb; have n1_ := blkA BK237 hb; have n2_ := AZ (below_step (bS HB.out) hb); have n3_ := AZ (hbox); have n4_ := AZ (geS hg HB.out); have n5_ := AZ (geS hg HB.out); have n6_ := AZ ((by rw [hg]; exact Nat.ne_of_lt (blkL BK236.out) : gb236 ≠ gb238)); have n7_ := AZ ((by rw [hg]; exact Nat.ne_of_gt (blkL BK236.out) : gb238 ≠ gb236)); have n8_ := AZ ((by rw [hg]; exact Nat.ne_of_lt (blkL BK237.out) : gb237 ≠ gb238)); have n9_ := AZ ((by rw [hg]; exact Nat.ne_of_gt (blkL BK237.out) : gb238 ≠ gb237)); clear BK236; clear BK237; clear HB; have BK236 := n0_; have BK237 := n1_; have HB := n2_; have BK238 := n3_; have GW238 := n4_; have GE238 := n5_; have NB236_238 := n6_; have NB238_236 := n7_; have NB237_238 := n8_; have NB238_237 := n9_; clear n0_ n1_ n2_ n3_ n4_ n5_ n6_ n7_ n8_ n9_; clear hb hbox hg; have hnb12 := NB236_237.out; have hnc12 := NB237_236.out; have hnb13 := NB236_238.out; have hnc13 := NB238_236.out; have hcz14_0 : w11.cell? ⟨gb236, 0, none⟩ = some (.slice A0_0 l0_0.length c0_0) := (blk_cell BK236.out 0).trans rfl; have hcz14_1 : w11.cell? ⟨gb236, 1, none⟩ = some (.slice A0_1 l0_1.length c0_1) := (blk_cell BK236.out 1).trans rfl; have hcz14_2 : w11.cell? ⟨gb236, 2, none⟩ = some (.slice A0_2 l0_2.length c0_2) := (blk_cell BK236.out 2).trans rfl; have hcz14_3 : w11.cell? ⟨gb236, 3, none⟩ = some (.int .i64 a0_3) := (blk_cell BK236.out 3).trans rfl; have hcz14_4 : w11.cell? ⟨gb236, 4, none⟩ = some (.int .i64 a0_4) := (blk_cell BK236.out 4).trans rfl; have hcz14_5 : w11.cell? ⟨gb236, 5, none⟩ = some (.int .i64 a0_5) := (blk_cell BK236.out 5).trans rfl; have hcz14_6 : w11.cell? ⟨gb236, 6, none⟩ = some (.int .i64 a0_6) := (blk_cell BK236.out 6).trans rfl; have hcz14_7 : w11.cell? ⟨gb236, 7, none⟩ = some (.int .i64 a0_7) := (blk_cell BK236.out 7).trans rfl; have hfz14_0 := blk_frozen BK236.out 0; have hfz14_1 := blk_frozen BK236.out 1; have hfz14_2 := blk_frozen BK236.out 2; have hfz14_3 := blk_frozen BK236.out 3; have hfz14_4 := blk_frozen BK236.out 4; have hfz14_5 := blk_frozen BK236.out 5; have hfz14_6 := blk_frozen BK236.out 6; have hfz14_7 := blk_frozen BK236.out 7) | ((with_reducible refine gate_callee (f := 130) rfl ?_); refine gL (some 8) Try.func130 #[.agg #[.slice A0_0 l0_0.length c0_0, .slice A0_1 l0_1.length c0_1, .slice A0_2 l0_2.length c0_2, .int .i64 a0_3, .int .i64 a0_4, .int .i64 a0_5, .int .i64 a0_6, .int .i64 a0_7]] ?_; (with_reducible refine (impl_IsJob.calls k _ _ l0_0 _ _ l0_1 _ _ l0_2 a0_3 a0_4 a0_5 a0_6 a0_7 true _ ?side1 ?side2 ?side3 ?side4 ?side5 ?side6 A4.out).mono ?_); (case side1 => exact cS (Kd.C_below HR0_0.out HB.out)); (case side2 => exact HC0_0.out); (case side3 => exact cS (Kd.C_below HR0_1.out HB.out)); (case side4 => exact HC0_1.out); (case side5 => exact cS (Kd.C_below HR0_2.out HB.out)); (case side6 => exact HC0_2.out); rintro e w15 ⟨rfl, hb⟩; refine ⟨_, rfl, ?_⟩; have n0_ := blkA BK236 hb; have n1_ := blkA BK237 hb; have n2_ := blkA BK238 hb; have n3_ := AZ (below_step (bS HB.out) hb); clear BK236; clear BK237; clear BK238; clear HB; have BK236 := n0_; have BK237 := n1_; have BK238 := n2_; have HB := n3_; clear n0_ n1_ n2_ n3_; (try clear hb); have hcz16_0 : w15.cell? ⟨gb236, 0, none⟩ = some (.slice A0_0 l0_0.length c0_0) := (blk_cell BK236.out 0).trans rfl; have hcz16_1 : w15.cell? ⟨gb236, 1, none⟩ = some (.slice A0_1 l0_1.length c0_1) := (blk_cell BK236.out 1).trans rfl; have hcz16_2 : w15.cell? ⟨gb236, 2, none⟩ = some (.slice A0_2 l0_2.length c0_2) := (blk_cell BK236.out 2).trans rfl; have hcz16_3 : w15.cell? ⟨gb236, 3, none⟩ = some (.int .i64 a0_3) := (blk_cell BK236.out 3).trans rfl; have hcz16_4 : w15.cell? ⟨gb236, 4, none⟩ = some (.int .i64 a0_4) := (blk_cell BK236.out 4).trans rfl; have hcz16_5 : w15.cell? ⟨gb236, 5, none⟩ = some (.int .i64 a0_5) := (blk_cell BK236.out 5).trans rfl; have hcz16_6 : w15.cell? ⟨gb236, 6, none⟩ = some (.int .i64 a0_6) := (blk_cell BK236.out 6).trans rfl; have hcz16_7 : w15.cell? ⟨gb236, 7, none⟩ = some (.int .i64 a0_7) := (blk_cell BK236.out 7).trans rfl; have hfz16_0 := blk_frozen BK236.out 0; have hfz16_1 := blk_frozen BK236.out 1; have hfz16_2 := blk_frozen BK236.out 2; have hfz16_3 := blk_frozen BK236.out 3; have hfz16_4 := blk_frozen BK236.out 4; have hfz16_5 := blk_frozen BK236.out 5; have hfz16_6 := blk_frozen BK236.out 6; have hfz16_7 := blk_frozen BK236.out 7; have hnb17 := NB237_238.out; have hnc17 := NB238_237.out; have hcz18_0 : w15.cell? ⟨gb237, 0, none⟩ = some (.int .i64 a1_0) := (blk_cell BK237.out 0).trans rfl; have hcz18_1 : w15.cell? ⟨gb237, 1, none⟩ = some (.slice A1_1 l1_1.length c1_1) := (blk_cell BK237.out 1).trans rfl; have hfz18_0 := blk_frozen BK237.out 0; have hfz18_1 := blk_frozen BK237.out 1) | (go_at_call 131; (with_reducible refine (impl_isPlan.calls k _ _ l0_0 _ _ l0_1 _ _ l0_2 a0_3 a0_4 a0_5 a0_6 a0_7 a1_0 _ _ l1_1 true _ ?side1 ?side2 ?side3 ?side4 ?side5 ?side6 ?side7 ?side8 A6.out).mono ?_); (case side1 => exact cS (Kd.C_below HR0_0.out HB.out)); (case side2 => exact HC0_0.out); (case side3 => exact cS (Kd.C_below HR0_1.out HB.out)); (case side4 => exact HC0_1.out); (case side5 => exact cS (Kd.C_below HR0_2.out HB.out)); (case side6 => exact HC0_2.out); (case side7 => exact cS (Kd.C_below HR1_1.out HB.out)); (case side8 => exact HC1_1.out); rintro e w19 ⟨rfl, hb⟩; have n0_ := blkA BK236 hb; have n1_ := blkA BK237 hb; have n2_ := blkA BK238 hb; have n3_ := AZ (below_step (bS HB.out) hb); clear BK236; clear BK237; clear BK238; clear HB; have BK236 := n0_; have BK237 := n1_; have BK238 := n2_; have HB := n3_; clear n0_ n1_ n2_ n3_; (try clear hb); have hcz20_0 : w19.cell? ⟨gb236, 0, none⟩ = some (.slice A0_0 l0_0.length c0_0) := (blk_cell BK236.out 0).trans rfl; have hcz20_1 : w19.cell? ⟨gb236, 1, none⟩ = some (.slice A0_1 l0_1.length c0_1) := (blk_cell BK236.out 1).trans rfl; have hcz20_2 : w19.cell? ⟨gb236, 2, none⟩ = some (.slice A0_2 l0_2.length c0_2) := (blk_cell BK236.out 2).trans rfl; have hcz20_3 : w19.cell? ⟨gb236, 3, none⟩ = some (.int .i64 a0_3) := (blk_cell BK236.out 3).trans rfl; have hcz20_4 : w19.cell? ⟨gb236, 4, none⟩ = some (.int .i64 a0_4) := (blk_cell BK236.out 4).trans rfl; have hcz20_5 : w19.cell? ⟨gb236, 5, none⟩ = some (.int .i64 a0_5) := (blk_cell BK236.out 5).trans rfl; have hcz20_6 : w19.cell? ⟨gb236, 6, none⟩ = some (.int .i64 a0_6) := (blk_cell BK236.out 6).trans rfl; have hcz20_7 : w19.cell? ⟨gb236, 7, none⟩ = some (.int .i64 a0_7) := (blk_cell BK236.out 7).trans rfl; have hfz20_0 := blk_frozen BK236.out 0; have hfz20_1 := blk_frozen BK236.out 1; have hfz20_2 := blk_frozen BK236.out 2; have hfz20_3 := blk_frozen BK236.out 3; have hfz20_4 := blk_frozen BK236.out 4; have hfz20_5 := blk_frozen BK236.out 5; have hfz20_6 := blk_frozen BK236.out 6; have hfz20_7 := blk_frozen BK236.out 7; have hcz21_0 : w19.cell? ⟨gb238, 0, none⟩ = some (.int .i64 a2_0) := (blk_cell BK238.out 0).trans rfl; have hcz21_1 : w19.cell? ⟨gb238, 1, none⟩ = some (.slice A2_1 l2_1.length c2_1) := (blk_cell BK238.out 1).trans rfl; have hfz21_0 := blk_frozen BK238.out 0; have hfz21_1 := blk_frozen BK238.out 1) | (go_at_call 131; (with_reducible refine (impl_isPlan.calls k _ _ l0_0 _ _ l0_1 _ _ l0_2 a0_3 a0_4 a0_5 a0_6 a0_7 a2_0 _ _ l2_1 t241 _ ?side1 ?side2 ?side3 ?side4 ?side5 ?side6 ?side7 ?side8 A8.out).mono ?_); (case side1 => exact cS (Kd.C_below HR0_0.out HB.out)); (case side2 => exact HC0_0.out); (case side3 => exact cS (Kd.C_below HR0_1.out HB.out)); (case side4 => exact HC0_1.out); (case side5 => exact cS (Kd.C_below HR0_2.out HB.out)); (case side6 => exact HC0_2.out); (case side7 => exact cS (Kd.C_below HR2_1.out HB.out)); (case side8 => exact HC2_1.out); rintro e w22 ⟨rfl, hb⟩; have n0_ := blkA BK236 hb; have n1_ := blkA BK237 hb; have n2_ := blkA BK238 hb; have n3_ := AZ (below_step (bS HB.out) hb); clear BK236; clear BK237; clear BK238; clear HB; have BK236 := n0_; have BK237 := n1_; have BK238 := n2_; have HB := n3_; clear n0_ n1_ n2_ n3_; (try clear hb)))
   go_ret
   exact ⟨by first | rfl | (simp; done) | (simp [*]; done), bS HB.out⟩
  ·replace c7 := Bool.eq_false_iff.mpr c7
   subst c7
   have H1 : (some false) = some r := by rw [if_neg (show ¬ (false = true) by decide)] at H; exact H
   clear H
   have H := H1
   clear H1
   obtain rfl := Option.some.inj H
   go_enter Try.func85, Try.ntmps85
   go_wp2_with (first | ((with_reducible refine gate_dst (N := 3) rfl ?_); refine box_event ?hg (N := 3) ?hd (cs := #[.slice A0_0 l0_0.length c0_0, .slice A0_1 l0_1.length c0_1, .slice A0_2 l0_2.length c0_2, .int .i64 a0_3, .int .i64 a0_4, .int .i64 a0_5, .int .i64 a0_6, .int .i64 a0_7]) (t := 36) ?hr ?_; (case hd => rfl); (case hg => rfl); (case hr => first | (go_simp; done) | (go_simp; rfl)); intro gb236 hg w23 hbox hb; have n0_ := AZ (below_step (bS HB.out) hb); have n1_ := AZ (hbox); have n2_ := AZ (geS hg HB.out); have n3_ := AZ (geS hg HB.out); clear HB; have HB := n0_; have BK236 := n1_; have GW236 := n2_; have GE236 := n3_; clear n0_ n1_ n2_ n3_; clear hb hbox hg) | ((with_reducible refine gate_dst (N := 4) rfl ?_); refine box_event ?hg (N := 4) ?hd (cs := #[.int .i64 a1_0, .slice A1_1 l1_1.length c1_1]) (t := 38) ?hr ?_; (case hd => rfl); (case hg => rfl); (case hr => first | (go_simp; done) | (go_simp; rfl)); intro gb237 hg w24 hbox hb; have n0_ := blkA BK236 hb; have n1_ := AZ (below_step (bS HB.out) hb); have n2_ := AZ (hbox); have n3_ := AZ (geS hg HB.out); have n4_ := AZ (geS hg HB.out); have n5_ := AZ ((by rw [hg]; exact Nat.ne_of_lt (blkL BK236.out) : gb236 ≠ gb237)); have n6_ := AZ ((by rw [hg]; exact Nat.ne_of_gt (blkL BK236.out) : gb237 ≠ gb236)); clear BK236; clear HB; have BK236 := n0_; have HB := n1_; have BK237 := n2_; have GW237 := n3_; have GE237 := n4_; have NB236_237 := n5_; have NB237_236 := n6_; clear n0_ n1_ n2_ n3_ n4_ n5_ n6_; clear hb hbox hg) | ((with_reducible refine gate_dst (N := 5) rfl ?_); refine box_event ?hg (N := 5) ?hd (cs := #[.int .i64 a2_0, .slice A2_1 l2_1.length c2_1]) (t := 38) ?hr ?_; (case hd => rfl); (case hg => rfl); (case hr => first | (go_simp; done) | (go_simp; rfl)); intro gb238 hg w25 hbox hb; have n0_ := blkA BK236 hb; have n1_ := blkA BK237 hb; have n2_ := AZ (below_step (bS HB.out) hb); have n3_ := AZ (hbox); have n4_ := AZ (geS hg HB.out); have n5_ := AZ (geS hg HB.out); have n6_ := AZ ((by rw [hg]; exact Nat.ne_of_lt (blkL BK236.out) : gb236 ≠ gb238)); have n7_ := AZ ((by rw [hg]; exact Nat.ne_of_gt (blkL BK236.out) : gb238 ≠ gb236)); have n8_ := AZ ((by rw [hg]; exact Nat.ne_of_lt (blkL BK237.out) : gb237 ≠ gb238)); have n9_ := AZ ((by rw [hg]; exact Nat.ne_of_gt (blkL BK237.out) : gb238 ≠ gb237)); clear BK236; clear BK237; clear HB; have BK236 := n0_; have BK237 := n1_; have HB := n2_; have BK238 := n3_; have GW238 := n4_; have GE238 := n5_; have NB236_238 := n6_; have NB238_236 := n7_; have NB237_238 := n8_; have NB238_237 := n9_; clear n0_ n1_ n2_ n3_ n4_ n5_ n6_ n7_ n8_ n9_; clear hb hbox hg; have hnb26 := NB236_237.out; have hnc26 := NB237_236.out; have hnb27 := NB236_238.out; have hnc27 := NB238_236.out; have hcz28_0 : w25.cell? ⟨gb236, 0, none⟩ = some (.slice A0_0 l0_0.length c0_0) := (blk_cell BK236.out 0).trans rfl; have hcz28_1 : w25.cell? ⟨gb236, 1, none⟩ = some (.slice A0_1 l0_1.length c0_1) := (blk_cell BK236.out 1).trans rfl; have hcz28_2 : w25.cell? ⟨gb236, 2, none⟩ = some (.slice A0_2 l0_2.length c0_2) := (blk_cell BK236.out 2).trans rfl; have hcz28_3 : w25.cell? ⟨gb236, 3, none⟩ = some (.int .i64 a0_3) := (blk_cell BK236.out 3).trans rfl; have hcz28_4 : w25.cell? ⟨gb236, 4, none⟩ = some (.int .i64 a0_4) := (blk_cell BK236.out 4).trans rfl; have hcz28_5 : w25.cell? ⟨gb236, 5, none⟩ = some (.int .i64 a0_5) := (blk_cell BK236.out 5).trans rfl; have hcz28_6 : w25.cell? ⟨gb236, 6, none⟩ = some (.int .i64 a0_6) := (blk_cell BK236.out 6).trans rfl; have hcz28_7 : w25.cell? ⟨gb236, 7, none⟩ = some (.int .i64 a0_7) := (blk_cell BK236.out 7).trans rfl; have hfz28_0 := blk_frozen BK236.out 0; have hfz28_1 := blk_frozen BK236.out 1; have hfz28_2 := blk_frozen BK236.out 2; have hfz28_3 := blk_frozen BK236.out 3; have hfz28_4 := blk_frozen BK236.out 4; have hfz28_5 := blk_frozen BK236.out 5; have hfz28_6 := blk_frozen BK236.out 6; have hfz28_7 := blk_frozen BK236.out 7) | ((with_reducible refine gate_callee (f := 130) rfl ?_); refine gL (some 8) Try.func130 #[.agg #[.slice A0_0 l0_0.length c0_0, .slice A0_1 l0_1.length c0_1, .slice A0_2 l0_2.length c0_2, .int .i64 a0_3, .int .i64 a0_4, .int .i64 a0_5, .int .i64 a0_6, .int .i64 a0_7]] ?_; (with_reducible refine (impl_IsJob.calls k _ _ l0_0 _ _ l0_1 _ _ l0_2 a0_3 a0_4 a0_5 a0_6 a0_7 true _ ?side1 ?side2 ?side3 ?side4 ?side5 ?side6 A4.out).mono ?_); (case side1 => exact cS (Kd.C_below HR0_0.out HB.out)); (case side2 => exact HC0_0.out); (case side3 => exact cS (Kd.C_below HR0_1.out HB.out)); (case side4 => exact HC0_1.out); (case side5 => exact cS (Kd.C_below HR0_2.out HB.out)); (case side6 => exact HC0_2.out); rintro e w29 ⟨rfl, hb⟩; refine ⟨_, rfl, ?_⟩; have n0_ := blkA BK236 hb; have n1_ := blkA BK237 hb; have n2_ := blkA BK238 hb; have n3_ := AZ (below_step (bS HB.out) hb); clear BK236; clear BK237; clear BK238; clear HB; have BK236 := n0_; have BK237 := n1_; have BK238 := n2_; have HB := n3_; clear n0_ n1_ n2_ n3_; (try clear hb); have hcz30_0 : w29.cell? ⟨gb236, 0, none⟩ = some (.slice A0_0 l0_0.length c0_0) := (blk_cell BK236.out 0).trans rfl; have hcz30_1 : w29.cell? ⟨gb236, 1, none⟩ = some (.slice A0_1 l0_1.length c0_1) := (blk_cell BK236.out 1).trans rfl; have hcz30_2 : w29.cell? ⟨gb236, 2, none⟩ = some (.slice A0_2 l0_2.length c0_2) := (blk_cell BK236.out 2).trans rfl; have hcz30_3 : w29.cell? ⟨gb236, 3, none⟩ = some (.int .i64 a0_3) := (blk_cell BK236.out 3).trans rfl; have hcz30_4 : w29.cell? ⟨gb236, 4, none⟩ = some (.int .i64 a0_4) := (blk_cell BK236.out 4).trans rfl; have hcz30_5 : w29.cell? ⟨gb236, 5, none⟩ = some (.int .i64 a0_5) := (blk_cell BK236.out 5).trans rfl; have hcz30_6 : w29.cell? ⟨gb236, 6, none⟩ = some (.int .i64 a0_6) := (blk_cell BK236.out 6).trans rfl; have hcz30_7 : w29.cell? ⟨gb236, 7, none⟩ = some (.int .i64 a0_7) := (blk_cell BK236.out 7).trans rfl; have hfz30_0 := blk_frozen BK236.out 0; have hfz30_1 := blk_frozen BK236.out 1; have hfz30_2 := blk_frozen BK236.out 2; have hfz30_3 := blk_frozen BK236.out 3; have hfz30_4 := blk_frozen BK236.out 4; have hfz30_5 := blk_frozen BK236.out 5; have hfz30_6 := blk_frozen BK236.out 6; have hfz30_7 := blk_frozen BK236.out 7; have hnb31 := NB237_238.out; have hnc31 := NB238_237.out; have hcz32_0 : w29.cell? ⟨gb237, 0, none⟩ = some (.int .i64 a1_0) := (blk_cell BK237.out 0).trans rfl; have hcz32_1 : w29.cell? ⟨gb237, 1, none⟩ = some (.slice A1_1 l1_1.length c1_1) := (blk_cell BK237.out 1).trans rfl; have hfz32_0 := blk_frozen BK237.out 0; have hfz32_1 := blk_frozen BK237.out 1) | (go_at_call 131; (with_reducible refine (impl_isPlan.calls k _ _ l0_0 _ _ l0_1 _ _ l0_2 a0_3 a0_4 a0_5 a0_6 a0_7 a1_0 _ _ l1_1 false _ ?side1 ?side2 ?side3 ?side4 ?side5 ?side6 ?side7 ?side8 A6.out).mono ?_); (case side1 => exact cS (Kd.C_below HR0_0.out HB.out)); (case side2 => exact HC0_0.out); (case side3 => exact cS (Kd.C_below HR0_1.out HB.out)); (case side4 => exact HC0_1.out); (case side5 => exact cS (Kd.C_below HR0_2.out HB.out)); (case side6 => exact HC0_2.out); (case side7 => exact cS (Kd.C_below HR1_1.out HB.out)); (case side8 => exact HC1_1.out); rintro e w33 ⟨rfl, hb⟩; have n0_ := blkA BK236 hb; have n1_ := blkA BK237 hb; have n2_ := blkA BK238 hb; have n3_ := AZ (below_step (bS HB.out) hb); clear BK236; clear BK237; clear BK238; clear HB; have BK236 := n0_; have BK237 := n1_; have BK238 := n2_; have HB := n3_; clear n0_ n1_ n2_ n3_; (try clear hb)))
   go_ret
   exact ⟨by first | rfl | (simp; done) | (simp [*]; done), bS HB.out⟩
 ·replace c5 := Bool.eq_false_iff.mpr c5
  subst c5
  have H1 : (some false) = some r := by rw [if_neg (show ¬ (false = true) by decide)] at H; exact H
  clear H
  have H := H1
  clear H1
  obtain rfl := Option.some.inj H
  go_enter Try.func85, Try.ntmps85
  go_wp2_with (first | ((with_reducible refine gate_dst (N := 3) rfl ?_); refine box_event ?hg (N := 3) ?hd (cs := #[.slice A0_0 l0_0.length c0_0, .slice A0_1 l0_1.length c0_1, .slice A0_2 l0_2.length c0_2, .int .i64 a0_3, .int .i64 a0_4, .int .i64 a0_5, .int .i64 a0_6, .int .i64 a0_7]) (t := 36) ?hr ?_; (case hd => rfl); (case hg => rfl); (case hr => first | (go_simp; done) | (go_simp; rfl)); intro gb236 hg w34 hbox hb; have n0_ := AZ (below_step (bS HB.out) hb); have n1_ := AZ (hbox); have n2_ := AZ (geS hg HB.out); have n3_ := AZ (geS hg HB.out); clear HB; have HB := n0_; have BK236 := n1_; have GW236 := n2_; have GE236 := n3_; clear n0_ n1_ n2_ n3_; clear hb hbox hg) | ((with_reducible refine gate_dst (N := 4) rfl ?_); refine box_event ?hg (N := 4) ?hd (cs := #[.int .i64 a1_0, .slice A1_1 l1_1.length c1_1]) (t := 38) ?hr ?_; (case hd => rfl); (case hg => rfl); (case hr => first | (go_simp; done) | (go_simp; rfl)); intro gb237 hg w35 hbox hb; have n0_ := blkA BK236 hb; have n1_ := AZ (below_step (bS HB.out) hb); have n2_ := AZ (hbox); have n3_ := AZ (geS hg HB.out); have n4_ := AZ (geS hg HB.out); have n5_ := AZ ((by rw [hg]; exact Nat.ne_of_lt (blkL BK236.out) : gb236 ≠ gb237)); have n6_ := AZ ((by rw [hg]; exact Nat.ne_of_gt (blkL BK236.out) : gb237 ≠ gb236)); clear BK236; clear HB; have BK236 := n0_; have HB := n1_; have BK237 := n2_; have GW237 := n3_; have GE237 := n4_; have NB236_237 := n5_; have NB237_236 := n6_; clear n0_ n1_ n2_ n3_ n4_ n5_ n6_; clear hb hbox hg) | ((with_reducible refine gate_dst (N := 5) rfl ?_); refine box_event ?hg (N := 5) ?hd (cs := #[.int .i64 a2_0, .slice A2_1 l2_1.length c2_1]) (t := 38) ?hr ?_; (case hd => rfl); (case hg => rfl); (case hr => first | (go_simp; done) | (go_simp; rfl)); intro gb238 hg w36 hbox hb; have n0_ := blkA BK236 hb; have n1_ := blkA BK237 hb; have n2_ := AZ (below_step (bS HB.out) hb); have n3_ := AZ (hbox); have n4_ := AZ (geS hg HB.out); have n5_ := AZ (geS hg HB.out); have n6_ := AZ ((by rw [hg]; exact Nat.ne_of_lt (blkL BK236.out) : gb236 ≠ gb238)); have n7_ := AZ ((by rw [hg]; exact Nat.ne_of_gt (blkL BK236.out) : gb238 ≠ gb236)); have n8_ := AZ ((by rw [hg]; exact Nat.ne_of_lt (blkL BK237.out) : gb237 ≠ gb238)); have n9_ := AZ ((by rw [hg]; exact Nat.ne_of_gt (blkL BK237.out) : gb238 ≠ gb237)); clear BK236; clear BK237; clear HB; have BK236 := n0_; have BK237 := n1_; have HB := n2_; have BK238 := n3_; have GW238 := n4_; have GE238 := n5_; have NB236_238 := n6_; have NB238_236 := n7_; have NB237_238 := n8_; have NB238_237 := n9_; clear n0_ n1_ n2_ n3_ n4_ n5_ n6_ n7_ n8_ n9_; clear hb hbox hg; have hnb37 := NB236_237.out; have hnc37 := NB237_236.out; have hnb38 := NB236_238.out; have hnc38 := NB238_236.out; have hcz39_0 : w36.cell? ⟨gb236, 0, none⟩ = some (.slice A0_0 l0_0.length c0_0) := (blk_cell BK236.out 0).trans rfl; have hcz39_1 : w36.cell? ⟨gb236, 1, none⟩ = some (.slice A0_1 l0_1.length c0_1) := (blk_cell BK236.out 1).trans rfl; have hcz39_2 : w36.cell? ⟨gb236, 2, none⟩ = some (.slice A0_2 l0_2.length c0_2) := (blk_cell BK236.out 2).trans rfl; have hcz39_3 : w36.cell? ⟨gb236, 3, none⟩ = some (.int .i64 a0_3) := (blk_cell BK236.out 3).trans rfl; have hcz39_4 : w36.cell? ⟨gb236, 4, none⟩ = some (.int .i64 a0_4) := (blk_cell BK236.out 4).trans rfl; have hcz39_5 : w36.cell? ⟨gb236, 5, none⟩ = some (.int .i64 a0_5) := (blk_cell BK236.out 5).trans rfl; have hcz39_6 : w36.cell? ⟨gb236, 6, none⟩ = some (.int .i64 a0_6) := (blk_cell BK236.out 6).trans rfl; have hcz39_7 : w36.cell? ⟨gb236, 7, none⟩ = some (.int .i64 a0_7) := (blk_cell BK236.out 7).trans rfl; have hfz39_0 := blk_frozen BK236.out 0; have hfz39_1 := blk_frozen BK236.out 1; have hfz39_2 := blk_frozen BK236.out 2; have hfz39_3 := blk_frozen BK236.out 3; have hfz39_4 := blk_frozen BK236.out 4; have hfz39_5 := blk_frozen BK236.out 5; have hfz39_6 := blk_frozen BK236.out 6; have hfz39_7 := blk_frozen BK236.out 7) | ((with_reducible refine gate_callee (f := 130) rfl ?_); refine gL (some 8) Try.func130 #[.agg #[.slice A0_0 l0_0.length c0_0, .slice A0_1 l0_1.length c0_1, .slice A0_2 l0_2.length c0_2, .int .i64 a0_3, .int .i64 a0_4, .int .i64 a0_5, .int .i64 a0_6, .int .i64 a0_7]] ?_; (with_reducible refine (impl_IsJob.calls k _ _ l0_0 _ _ l0_1 _ _ l0_2 a0_3 a0_4 a0_5 a0_6 a0_7 false _ ?side1 ?side2 ?side3 ?side4 ?side5 ?side6 A4.out).mono ?_); (case side1 => exact cS (Kd.C_below HR0_0.out HB.out)); (case side2 => exact HC0_0.out); (case side3 => exact cS (Kd.C_below HR0_1.out HB.out)); (case side4 => exact HC0_1.out); (case side5 => exact cS (Kd.C_below HR0_2.out HB.out)); (case side6 => exact HC0_2.out); rintro e w40 ⟨rfl, hb⟩; refine ⟨_, rfl, ?_⟩; have n0_ := blkA BK236 hb; have n1_ := blkA BK237 hb; have n2_ := blkA BK238 hb; have n3_ := AZ (below_step (bS HB.out) hb); clear BK236; clear BK237; clear BK238; clear HB; have BK236 := n0_; have BK237 := n1_; have BK238 := n2_; have HB := n3_; clear n0_ n1_ n2_ n3_; (try clear hb)))
  go_ret
  exact ⟨by first | rfl | (simp; done) | (simp [*]; done), bS HB.out⟩

/-! ### impl_power: function 149 -/
def impl_power.l0 : Nat → Int → Int → Int → Option (Int)
 | 0, _, _, _ => none
 | k + 1, x0, x1, x5 => if x1 > 0 then (impl_power.l0 k x0 (wrap64 (x1 - 1)) (wrap64 (x5 * x0))) else (some x5)
def impl_power.f (k : Nat) (a0 : Int) (a1 : Int) : Option (Int) := impl_power.l0 k a0 a1 1
set_option maxHeartbeats 8000000 in
set_option maxRecDepth 100000 in
theorem impl_power.calls (k : Nat) (a0 : Int) (a1 : Int) (r : Int) (w : World) (h : impl_power.f k a0 a1 = some r) :
  Calls Try.prog 149 #[.int .i64 a0, .int .i64 a1] w fun e w' => e = .returned (.int .i64 r) ∧ Drawn0 w w' := by
 have H : (impl_power.l0 k a0 a1 1) = some r := h
 clear h
 have H' := Aside0.mk H
 clear H
 go_enter Try.func149, Try.ntmps149
 go_wp2
 go_loopg [1, 5] k (fun kq v1 v5 w' => ∃ (x1_1 : Int) (x5_1 : Int), v1 = .int .i64 x1_1 ∧ v5 = .int .i64 x5_1 ∧ Aside0 (impl_power.l0 kq a0 x1_1 x5_1 = some r) ∧ Aside0 (kq ≤ k) ∧ Drawn0 w w')
 case atStart => exact ⟨(a1), (1), (by first | rfl | (simp; done) | (simp [*]; done)), (by first | rfl | (simp; done) | (simp [*]; done)), H', ⟨Nat.le_refl _⟩, by repeat (first | exact Drawn0.refl _ | apply Drawn0.step)⟩
 case round =>
  clear H'
  try clear c1
  try clear p2
  obtain ⟨x1_1, x5_1, rfl, rfl, HA, HK1, ⟨m1, rfl⟩⟩ := hrel
  cases gk with
  | zero => exact absurd HA.out (by simp [impl_power.l0])
  | succ k1 =>
   have H := HA.out
   clear HA
   simp only [impl_power.l0] at H
   by_cases c3 : x1_1 > 0
   ·rw [if_pos c3] at H
    have c3b0 : decide (0 < x1_1) = true := decide_eq_true c3
    clear c3
    have H' := Aside0.mk H
    clear H
    go_wp2
    go_roundg k1
    case measure => have := HK1.out; omega
    case rel => exact ⟨(wrap64 (x1_1 - 1)), (wrap64 (x5_1 * a0)), (by first | rfl | (simp; done) | (simp [*]; done)), (by first | rfl | (simp; done) | (simp [*]; done)), H', ⟨by have := HK1.out; omega⟩, by repeat (first | exact Drawn0.refl _ | apply Drawn0.step)⟩
   ·rw [if_neg c3] at H
    have c3b0 : decide (0 < x1_1) = false := decide_eq_false c3
    clear c3
    obtain rfl := Option.some.inj H
    go_wp2
    go_ret
    exact ⟨by first | rfl | (simp; done) | (simp [*]; done), by repeat (first | exact Drawn0.refl _ | apply Drawn0.step)⟩

/-! ### impl_scaledFactor: function 137 -/
def impl_scaledFactor.f (k : Nat) (l0_0 : List (List Int)) (l0_1 : List Int) (l0_2 : List Int) (a0_3 : Int) (a0_4 : Int) (a0_5 : Int) (a0_6 : Int) (a0_7 : Int) (a1 : Int) : Option (Int) := if a1 < 0 then (some 0) else ((impl_power.f k a0_6 a1).bind fun t243 => ((impl_power.f k a0_7 (wrap64 ((wrap64 (a0_5 - 1)) - a1))).bind fun t244 => (some (wrap64 (t243 * t244)))))
set_option maxHeartbeats 8000000 in
set_option maxRecDepth 100000 in
theorem impl_scaledFactor.calls (k : Nat) (A0_0 : Option Addr) (c0_0 : Nat) (l0_0 : List (List Int)) (A0_1 : Option Addr) (c0_1 : Nat) (l0_1 : List Int) (A0_2 : Option Addr) (c0_2 : Nat) (l0_2 : List Int) (a0_3 : Int) (a0_4 : Int) (a0_5 : Int) (a0_6 : Int) (a0_7 : Int) (a1 : Int) (r : Int) (w : World) (hr0_0 : Kd.C (Kd.slice 3 (Kd.int .i64)) w A0_0 l0_0.length l0_0) (hc0_0 : l0_0.length ≤ c0_0) (hr0_1 : Kd.C (Kd.int .i64) w A0_1 l0_1.length l0_1) (hc0_1 : l0_1.length ≤ c0_1) (hr0_2 : Kd.C (Kd.int .i64) w A0_2 l0_2.length l0_2) (hc0_2 : l0_2.length ≤ c0_2) (h : impl_scaledFactor.f k l0_0 l0_1 l0_2 a0_3 a0_4 a0_5 a0_6 a0_7 a1 = some r) :
  Calls Try.prog 137 #[.agg #[.slice A0_0 l0_0.length c0_0, .slice A0_1 l0_1.length c0_1, .slice A0_2 l0_2.length c0_2, .int .i64 a0_3, .int .i64 a0_4, .int .i64 a0_5, .int .i64 a0_6, .int .i64 a0_7], .int .i64 a1] w fun e w' => e = .returned (.int .i64 r) ∧ Below w.heap.size w w' := by
 have hu36 := Try.underlying36
 have HR0_0 := Aside0.mk hr0_0
 have HC0_0 := Aside0.mk hc0_0
 clear hr0_0 hc0_0
 have HR0_1 := Aside0.mk hr0_1
 have HC0_1 := Aside0.mk hc0_1
 clear hr0_1 hc0_1
 have HR0_2 := Aside0.mk hr0_2
 have HC0_2 := Aside0.mk hc0_2
 clear hr0_2 hc0_2
 have HB := AZ (Below.refl w.heap.size w)
 have H : (if a1 < 0 then (some 0) else ((impl_power.f k a0_6 a1).bind fun t243 => ((impl_power.f k a0_7 (wrap64 ((wrap64 (a0_5 - 1)) - a1))).bind fun t244 => (some (wrap64 (t243 * t244)))))) = some r := h
 clear h
 by_cases c3 : a1 < 0
 ·rw [if_pos c3] at H
  have c3b0 : decide (a1 < 0) = true := decide_eq_true c3
  clear c3
  obtain rfl := Option.some.inj H
  go_enter Try.func137, Try.ntmps137
  go_wp2_with (first | ((with_reducible refine gate_dst (N := 2) rfl ?_); refine box_event ?hg (N := 2) ?hd (cs := #[.slice A0_0 l0_0.length c0_0, .slice A0_1 l0_1.length c0_1, .slice A0_2 l0_2.length c0_2, .int .i64 a0_3, .int .i64 a0_4, .int .i64 a0_5, .int .i64 a0_6, .int .i64 a0_7]) (t := 36) ?hr ?_; (case hd => rfl); (case hg => rfl); (case hr => first | (go_simp; done) | (go_simp; rfl)); intro gb242 hg w4 hbox hb; have n0_ := AZ (below_step (bS HB.out) hb); have n1_ := AZ (hbox); have n2_ := AZ (geS hg HB.out); have n3_ := AZ (geS hg HB.out); clear HB; have HB := n0_; have BK242 := n1_; have GW242 := n2_; have GE242 := n3_; clear n0_ n1_ n2_ n3_; clear hb hbox hg))
  repeat (go_quiet (first | ((with_reducible refine gate_dst (N := 2) rfl ?_); refine box_event ?hg (N := 2) ?hd (cs := #[.slice A0_0 l0_0.length c0_0, .slice A0_1 l0_1.length c0_1, .slice A0_2 l0_2.length c0_2, .int .i64 a0_3, .int .i64 a0_4, .int .i64 a0_5, .int .i64 a0_6, .int .i64 a0_7]) (t := 36) ?hr ?_; (case hd => rfl); (case hg => rfl); (case hr => first | (go_simp; done) | (go_simp; rfl)); intro gb242 hg w4 hbox hb; have n0_ := AZ (below_step (bS HB.out) hb); have n1_ := AZ (hbox); have n2_ := AZ (geS hg HB.out); have n3_ := AZ (geS hg HB.out); clear HB; have HB := n0_; have BK242 := n1_; have GW242 := n2_; have GE242 := n3_; clear n0_ n1_ n2_ n3_; clear hb hbox hg)); try go_wp2_with (first | ((with_reducible refine gate_dst (N := 2) rfl ?_); refine box_event ?hg (N := 2) ?hd (cs := #[.slice A0_0 l0_0.length c0_0, .slice A0_1 l0_1.length c0_1, .slice A0_2 l0_2.length c0_2, .int .i64 a0_3, .int .i64 a0_4, .int .i64 a0_5, .int .i64 a0_6, .int .i64 a0_7]) (t := 36) ?hr ?_; (case hd => rfl); (case hg => rfl); (case hr => first | (go_simp; done) | (go_simp; rfl)); intro gb242 hg w4 hbox hb; have n0_ := AZ (below_step (bS HB.out) hb); have n1_ := AZ (hbox); have n2_ := AZ (geS hg HB.out); have n3_ := AZ (geS hg HB.out); clear HB; have HB := n0_; have BK242 := n1_; have GW242 := n2_; have GE242 := n3_; clear n0_ n1_ n2_ n3_; clear hb hbox hg)))
  go_ret
  exact ⟨by first | rfl | (simp; done) | (simp [*]; done), bS HB.out⟩
 ·rw [if_neg c3] at H
  have c3b0 : decide (a1 < 0) = false := decide_eq_false c3
  clear c3
  replace H := Option.bind_eq_some_iff.mp H
  obtain ⟨t243, A50, H⟩ := H
  replace H : ((impl_power.f k a0_7 (wrap64 ((wrap64 (a0_5 - 1)) - a1))).bind fun t244 => (some (wrap64 (t243 * t244)))) = some r := H
  have A5 := Aside0.mk A50
  clear A50
  replace H := Option.bind_eq_some_iff.mp H
  obtain ⟨t244, A60, H⟩ := H
  replace H : (some (wrap64 (t243 * t244))) = some r := H
  have A6 := Aside0.mk A60
  clear A60
  obtain rfl := Option.some.inj H
  go_enter Try.func137, Try.ntmps137
  go_wp2_with (first | ((with_reducible refine gate_dst (N := 2) rfl ?_); refine box_event ?hg (N := 2) ?hd (cs := #[.slice A0_0 l0_0.length c0_0, .slice A0_1 l0_1.length c0_1, .slice A0_2 l0_2.length c0_2, .int .i64 a0_3, .int .i64 a0_4, .int .i64 a0_5, .int .i64 a0_6, .int .i64 a0_7]) (t := 36) ?hr ?_; (case hd => rfl); (case hg => rfl); (case hr => first | (go_simp; done) | (go_simp; rfl)); intro gb242 hg w7 hbox hb; have n0_ := AZ (below_step (bS HB.out) hb); have n1_ := AZ (hbox); have n2_ := AZ (geS hg HB.out); have n3_ := AZ (geS hg HB.out); clear HB; have HB := n0_; have BK242 := n1_; have GW242 := n2_; have GE242 := n3_; clear n0_ n1_ n2_ n3_; clear hb hbox hg; have hcz8_0 : w7.cell? ⟨gb242, 0, none⟩ = some (.slice A0_0 l0_0.length c0_0) := (blk_cell BK242.out 0).trans rfl; have hcz8_1 : w7.cell? ⟨gb242, 1, none⟩ = some (.slice A0_1 l0_1.length c0_1) := (blk_cell BK242.out 1).trans rfl; have hcz8_2 : w7.cell? ⟨gb242, 2, none⟩ = some (.slice A0_2 l0_2.length c0_2) := (blk_cell BK242.out 2).trans rfl; have hcz8_3 : w7.cell? ⟨gb242, 3, none⟩ = some (.int .i64 a0_3) := (blk_cell BK242.out 3).trans rfl; have hcz8_4 : w7.cell? ⟨gb242, 4, none⟩ = some (.int .i64 a0_4) := (blk_cell BK242.out 4).trans rfl; have hcz8_5 : w7.cell? ⟨gb242, 5, none⟩ = some (.int .i64 a0_5) := (blk_cell BK242.out 5).trans rfl; have hcz8_6 : w7.cell? ⟨gb242, 6, none⟩ = some (.int .i64 a0_6) := (blk_cell BK242.out 6).trans rfl; have hcz8_7 : w7.cell? ⟨gb242, 7, none⟩ = some (.int .i64 a0_7) := (blk_cell BK242.out 7).trans rfl; have hfz8_0 := blk_frozen BK242.out 0; have hfz8_1 := blk_frozen BK242.out 1; have hfz8_2 := blk_frozen BK242.out 2; have hfz8_3 := blk_frozen BK242.out 3; have hfz8_4 := blk_frozen BK242.out 4; have hfz8_5 := blk_frozen BK242.out 5; have hfz8_6 := blk_frozen BK242.out 6; have hfz8_7 := blk_frozen BK242.out 7) | (go_at_call 149; (with_reducible refine (impl_power.calls k a0_6 a1 t243 _ A5.out).mono ?_); rintro e w' ⟨rfl, ⟨nd, rfl⟩⟩; (try first | exact ⟨rfl, _, World.drewN_drewN _ _ _⟩ | exact ⟨rfl, _, Eq.trans (World.drewN_drewN _ _ _) (congrArg (World.drewN _) (Nat.add_assoc _ _ _))⟩)) | (go_at_call 149; (with_reducible refine (impl_power.calls k a0_7 (wrap64 ((wrap64 (a0_5 - 1)) - a1)) t244 _ A6.out).mono ?_); rintro e w' ⟨rfl, ⟨nd, rfl⟩⟩; (try first | exact ⟨rfl, _, World.drewN_drewN _ _ _⟩ | exact ⟨rfl, _, Eq.trans (World.drewN_drewN _ _ _) (congrArg (World.drewN _) (Nat.add_assoc _ _ _))⟩)))
  repeat (go_quiet (first | ((with_reducible refine gate_dst (N := 2) rfl ?_); refine box_event ?hg (N := 2) ?hd (cs := #[.slice A0_0 l0_0.length c0_0, .slice A0_1 l0_1.length c0_1, .slice A0_2 l0_2.length c0_2, .int .i64 a0_3, .int .i64 a0_4, .int .i64 a0_5, .int .i64 a0_6, .int .i64 a0_7]) (t := 36) ?hr ?_; (case hd => rfl); (case hg => rfl); (case hr => first | (go_simp; done) | (go_simp; rfl)); intro gb242 hg w7 hbox hb; have n0_ := AZ (below_step (bS HB.out) hb); have n1_ := AZ (hbox); have n2_ := AZ (geS hg HB.out); have n3_ := AZ (geS hg HB.out); clear HB; have HB := n0_; have BK242 := n1_; have GW242 := n2_; have GE242 := n3_; clear n0_ n1_ n2_ n3_; clear hb hbox hg; have hcz8_0 : w7.cell? ⟨gb242, 0, none⟩ = some (.slice A0_0 l0_0.length c0_0) := (blk_cell BK242.out 0).trans rfl; have hcz8_1 : w7.cell? ⟨gb242, 1, none⟩ = some (.slice A0_1 l0_1.length c0_1) := (blk_cell BK242.out 1).trans rfl; have hcz8_2 : w7.cell? ⟨gb242, 2, none⟩ = some (.slice A0_2 l0_2.length c0_2) := (blk_cell BK242.out 2).trans rfl; have hcz8_3 : w7.cell? ⟨gb242, 3, none⟩ = some (.int .i64 a0_3) := (blk_cell BK242.out 3).trans rfl; have hcz8_4 : w7.cell? ⟨gb242, 4, none⟩ = some (.int .i64 a0_4) := (blk_cell BK242.out 4).trans rfl; have hcz8_5 : w7.cell? ⟨gb242, 5, none⟩ = some (.int .i64 a0_5) := (blk_cell BK242.out 5).trans rfl; have hcz8_6 : w7.cell? ⟨gb242, 6, none⟩ = some (.int .i64 a0_6) := (blk_cell BK242.out 6).trans rfl; have hcz8_7 : w7.cell? ⟨gb242, 7, none⟩ = some (.int .i64 a0_7) := (blk_cell BK242.out 7).trans rfl; have hfz8_0 := blk_frozen BK242.out 0; have hfz8_1 := blk_frozen BK242.out 1; have hfz8_2 := blk_frozen BK242.out 2; have hfz8_3 := blk_frozen BK242.out 3; have hfz8_4 := blk_frozen BK242.out 4; have hfz8_5 := blk_frozen BK242.out 5; have hfz8_6 := blk_frozen BK242.out 6; have hfz8_7 := blk_frozen BK242.out 7) | (go_at_call 149; (with_reducible refine (impl_power.calls k a0_6 a1 t243 _ A5.out).mono ?_); rintro e w' ⟨rfl, ⟨nd, rfl⟩⟩; (try first | exact ⟨rfl, _, World.drewN_drewN _ _ _⟩ | exact ⟨rfl, _, Eq.trans (World.drewN_drewN _ _ _) (congrArg (World.drewN _) (Nat.add_assoc _ _ _))⟩)) | (go_at_call 149; (with_reducible refine (impl_power.calls k a0_7 (wrap64 ((wrap64 (a0_5 - 1)) - a1)) t244 _ A6.out).mono ?_); rintro e w' ⟨rfl, ⟨nd, rfl⟩⟩; (try first | exact ⟨rfl, _, World.drewN_drewN _ _ _⟩ | exact ⟨rfl, _, Eq.trans (World.drewN_drewN _ _ _) (congrArg (World.drewN _) (Nat.add_assoc _ _ _))⟩))); try go_wp2_with (first | ((with_reducible refine gate_dst (N := 2) rfl ?_); refine box_event ?hg (N := 2) ?hd (cs := #[.slice A0_0 l0_0.length c0_0, .slice A0_1 l0_1.length c0_1, .slice A0_2 l0_2.length c0_2, .int .i64 a0_3, .int .i64 a0_4, .int .i64 a0_5, .int .i64 a0_6, .int .i64 a0_7]) (t := 36) ?hr ?_; (case hd => rfl); (case hg => rfl); (case hr => first | (go_simp; done) | (go_simp; rfl)); intro gb242 hg w7 hbox hb; have n0_ := AZ (below_step (bS HB.out) hb); have n1_ := AZ (hbox); have n2_ := AZ (geS hg HB.out); have n3_ := AZ (geS hg HB.out); clear HB; have HB := n0_; have BK242 := n1_; have GW242 := n2_; have GE242 := n3_; clear n0_ n1_ n2_ n3_; clear hb hbox hg; have hcz8_0 : w7.cell? ⟨gb242, 0, none⟩ = some (.slice A0_0 l0_0.length c0_0) := (blk_cell BK242.out 0).trans rfl; have hcz8_1 : w7.cell? ⟨gb242, 1, none⟩ = some (.slice A0_1 l0_1.length c0_1) := (blk_cell BK242.out 1).trans rfl; have hcz8_2 : w7.cell? ⟨gb242, 2, none⟩ = some (.slice A0_2 l0_2.length c0_2) := (blk_cell BK242.out 2).trans rfl; have hcz8_3 : w7.cell? ⟨gb242, 3, none⟩ = some (.int .i64 a0_3) := (blk_cell BK242.out 3).trans rfl; have hcz8_4 : w7.cell? ⟨gb242, 4, none⟩ = some (.int .i64 a0_4) := (blk_cell BK242.out 4).trans rfl; have hcz8_5 : w7.cell? ⟨gb242, 5, none⟩ = some (.int .i64 a0_5) := (blk_cell BK242.out 5).trans rfl; have hcz8_6 : w7.cell? ⟨gb242, 6, none⟩ = some (.int .i64 a0_6) := (blk_cell BK242.out 6).trans rfl; have hcz8_7 : w7.cell? ⟨gb242, 7, none⟩ = some (.int .i64 a0_7) := (blk_cell BK242.out 7).trans rfl; have hfz8_0 := blk_frozen BK242.out 0; have hfz8_1 := blk_frozen BK242.out 1; have hfz8_2 := blk_frozen BK242.out 2; have hfz8_3 := blk_frozen BK242.out 3; have hfz8_4 := blk_frozen BK242.out 4; have hfz8_5 := blk_frozen BK242.out 5; have hfz8_6 := blk_frozen BK242.out 6; have hfz8_7 := blk_frozen BK242.out 7) | (go_at_call 149; (with_reducible refine (impl_power.calls k a0_6 a1 t243 _ A5.out).mono ?_); rintro e w' ⟨rfl, ⟨nd, rfl⟩⟩; (try first | exact ⟨rfl, _, World.drewN_drewN _ _ _⟩ | exact ⟨rfl, _, Eq.trans (World.drewN_drewN _ _ _) (congrArg (World.drewN _) (Nat.add_assoc _ _ _))⟩)) | (go_at_call 149; (with_reducible refine (impl_power.calls k a0_7 (wrap64 ((wrap64 (a0_5 - 1)) - a1)) t244 _ A6.out).mono ?_); rintro e w' ⟨rfl, ⟨nd, rfl⟩⟩; (try first | exact ⟨rfl, _, World.drewN_drewN _ _ _⟩ | exact ⟨rfl, _, Eq.trans (World.drewN_drewN _ _ _) (congrArg (World.drewN _) (Nat.add_assoc _ _ _))⟩))))
  go_ret
  exact ⟨by first | rfl | (simp; done) | (simp [*]; done), bS HB.out⟩

end Go.Proofs.Ytpfjjheognelhaa.PFnExactWorthBetween
