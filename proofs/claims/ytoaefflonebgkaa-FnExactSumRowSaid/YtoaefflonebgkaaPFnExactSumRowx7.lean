-- Written by a program of this claim (patch_print.py over the print): no hand has typed it.
import Derived.Test.YtoaefflonebgkaaPFnExactSumRowx0
import Derived.Test.YtoaefflonebgkaaPFnExactSumRowx5
import Derived.Test.YtoaefflonebgkaaPFnExactSumRowx6
namespace Go.Proofs.Ytoaefflonebgkaa.PFnExactSumRow
open Go.RowKit Go.Proofs.YtoaefflonebgkaaW.PrintWords Go.Proofs.YtoaefflonebgkaaW.PrintLast Go.Proofs.YtoaefflonebgkaaW.PrintMore
attribute [local go_sem] max2_int min2_int max_two min_two max_three min_three max_four min_four   -- for this text's walks alone
set_option linter.unusedVariables false
set_option linter.unusedSimpArgs false

/-! ### impl_SumRow: function 47 -/
mutual
def impl_SumRow.l0 : Nat → List (S58) → Int → Int → ByteArray → List Int → Option (ByteArray × List Int × Bool)
  | 0, _, _, _, _, _ => none
  | k + 1, x20, x21, x22, x202000, x202001 => if x22 < x21 then (if 0 ≤ x22 then (if x22 < (x20.length : Int) then (impl_SumRow.l1 k x20 x21 x22 ((rd_T58 x20 x22).f1) (((rd_T58 x20 x22).f1).length : Int) 0 x202000 x202001) else (none)) else (none)) else (impl_SumRow.l2 k x202001 (x202001.length : Int) 0 x202000 x202001)
def impl_SumRow.l1 : Nat → List (S58) → Int → Int → List Int → Int → Int → ByteArray → List Int → Option (ByteArray × List Int × Bool)
  | 0, _, _, _, _, _, _, _, _ => none
  | k + 1, x20, x21, x22, x27, x28, x29, x202000, x202001 => if x29 < x28 then (if 0 ≤ x29 then (if x29 < (x27.length : Int) then (if x29 < (x202001.length : Int) then (impl_SumRow.l1 k x20 x21 x22 x27 x28 (wrap64 (x29 + 1)) x202000 (x202001.set (x29 : Int).toNat (wrap64 ((rd x202001 x29) + (rd x27 x29))))) else (none)) else (none)) else (none)) else (impl_SumRow.l0 k x20 x21 (wrap64 (x22 + 1)) x202000 x202001)
def impl_SumRow.l2 : Nat → List Int → Int → Int → ByteArray → List Int → Option (ByteArray × List Int × Bool)
  | 0, _, _, _, _, _ => none
  | k + 1, x45, x46, x47, x202000, x202001 => if x47 < x46 then (if 0 ≤ x47 then (if x47 < (x45.length : Int) then ((impl_isReported.f (rd x45 x47)).bind fun t208 => (if t208 = true then (impl_SumRow.l2 k x45 x46 (wrap64 (x47 + 1)) x202000 x202001) else (some ((⟨#[]⟩ : ByteArray), ([] : List Int), false)))) else (none)) else (none)) else (some (x202000, x202001, true))
end
def impl_SumRow.f (k : Nat) (a0_0 : ByteArray) (a0_1 : Int) (l0_2 : List (S58)) : Option (ByteArray × List Int × Bool) := (impl_IsReport.f k a0_0 a0_1 l0_2).bind fun t197 => (if t197 = true then (if 0 ≤ a0_1 then (if (a0_1 : Int).toNat ≤ 35184372088832 then (impl_SumRow.l0 k l0_2 (l0_2.length : Int) 0 (⟨#[115, 117, 109]⟩ : ByteArray) (List.replicate (a0_1 : Int).toNat 0)) else (none)) else (none)) else (some ((⟨#[]⟩ : ByteArray), ([] : List Int), false)))
set_option maxHeartbeats 8000000 in
set_option maxRecDepth 100000 in
theorem impl_SumRow.calls (k : Nat) (a0_0 : ByteArray) (a0_1 : Int) (A0_2 : Option Addr) (c0_2 : Nat) (l0_2 : List (S58)) (r1 : ByteArray) (r2 : List Int) (r3 : Bool) (w : World) (hr0_2 : Kd.C k58 w A0_2 l0_2.length l0_2) (hc0_2 : l0_2.length ≤ c0_2) (h : impl_SumRow.f k a0_0 a0_1 l0_2 = some (r1, r2, r3)) :
    Calls Try.prog 47 #[.agg #[.string a0_0, .int .i64 a0_1, .slice A0_2 l0_2.length c0_2]] w fun e w' => ∃ v1_ : Value, e = .returned (.tuple #[.agg #[.string r1, v1_], .bool r3]) ∧ Kd.R (Kd.int .i64) 3 w' w.heap.size (fun _ => True) v1_ r2 ∧ Below w.heap.size w w' := by
  have hu50 := Try.underlying50
  have hu58 := Try.underlying58
  have HR0_2 := Aside0.mk hr0_2
  have HC0_2 := Aside0.mk hc0_2
  clear hr0_2 hc0_2
  have HB := AZ (Below.refl w.heap.size w)
  have H : ((impl_IsReport.f k a0_0 a0_1 l0_2).bind fun t197 => (if t197 = true then (if 0 ≤ a0_1 then (if (a0_1 : Int).toNat ≤ 35184372088832 then (impl_SumRow.l0 k l0_2 (l0_2.length : Int) 0 (⟨#[115, 117, 109]⟩ : ByteArray) (List.replicate (a0_1 : Int).toNat 0)) else (none)) else (none)) else (some ((⟨#[]⟩ : ByteArray), ([] : List Int), false)))) = some (r1, r2, r3) := h
  clear h
  replace H := Option.bind_eq_some_iff.mp H
  obtain ⟨t197, A20, H⟩ := H
  replace H : (if t197 = true then (if 0 ≤ a0_1 then (if (a0_1 : Int).toNat ≤ 35184372088832 then (impl_SumRow.l0 k l0_2 (l0_2.length : Int) 0 (⟨#[115, 117, 109]⟩ : ByteArray) (List.replicate (a0_1 : Int).toNat 0)) else (none)) else (none)) else (some ((⟨#[]⟩ : ByteArray), ([] : List Int), false))) = some (r1, r2, r3) := H
  have A2 := Aside0.mk A20
  clear A20
  by_cases c3 : t197 = true
  · subst c3
    have H1 : (if 0 ≤ a0_1 then (if (a0_1 : Int).toNat ≤ 35184372088832 then (impl_SumRow.l0 k l0_2 (l0_2.length : Int) 0 (⟨#[115, 117, 109]⟩ : ByteArray) (List.replicate (a0_1 : Int).toNat 0)) else (none)) else (none)) = some (r1, r2, r3) := by rw [if_pos rfl] at H; exact H
    clear H
    have H := H1
    clear H1
    by_cases c4 : 0 ≤ a0_1
    · rw [if_pos c4] at H
      have c4b0 := eq_true c4
      have c4b1 : decide (0 ≤ a0_1) = true := decide_eq_true c4
      clear c4
      by_cases c5 : (a0_1 : Int).toNat ≤ 35184372088832
      · rw [if_pos c5] at H
        have c5b0 := eq_true c5
        have c5b1 : decide ((a0_1 : Int).toNat ≤ 35184372088832) = true := decide_eq_true c5
        clear c5
        obtain ⟨y198, hy198⟩ : ∃ y_ : List Int, y_ = (List.replicate (a0_1 : Int).toNat 0) := ⟨_, rfl⟩
        replace H : (impl_SumRow.l0 k l0_2 (l0_2.length : Int) 0 (⟨#[115, 117, 109]⟩ : ByteArray) y198) = some (r1, r2, r3) := by first | (rw [hy198]; with_reducible exact H) | (have H2_ := (Option.bind_some _ _).symm.trans H; rw [hy198]; with_reducible exact H2_) | (have H2_ := (Option.bind_some _ _).symm.trans H; with_reducible exact H2_) | with_reducible exact H | (rw [hy198]; exact H) | exact H
        have Ny198 := Aside0.mk hy198
        clear hy198
        have H' := Aside0.mk H
        clear H
        go_enter Try.func47, Try.ntmps47
        go_wp2_with (first | ((with_reducible refine gate_dst (N := 1) rfl ?_); refine box_event ?hg (N := 1) ?hd (cs := #[.string a0_0, .int .i64 a0_1, .slice A0_2 l0_2.length c0_2]) (t := 50) ?hr ?_; (case hd => rfl); (case hg => rfl); (case hr => first | (go_simp; done) | (go_simp; rfl)); intro gb195 hg w6 hbox hb; have n0_ := AZ (below_step (bS HB.out) hb); have n1_ := AZ (hbox); have n2_ := AZ (geS hg HB.out); have n3_ := AZ (geS hg HB.out); clear HB; have HB := n0_; have BK195 := n1_; have GW195 := n2_; have GE195 := n3_; clear n0_ n1_ n2_ n3_; clear hb hbox hg) | ((with_reducible refine gate_dst (N := 2) rfl ?_); refine box_event ?hg (N := 2) ?hd (cs := #[.string (⟨#[]⟩ : ByteArray), .slice none 0 0]) (t := 58) ?hr ?_; (case hd => rfl); (case hg => rfl); (case hr => first | (go_simp; done) | (go_simp; rfl)); intro gb196 hg w7 hbox hb; have n0_ := blkA BK195 hb; have n1_ := AZ (below_step (bS HB.out) hb); have n2_ := AZ (hbox); have n3_ := AZ (geS hg HB.out); have n4_ := AZ (geS hg HB.out); have n5_ := AZ ((by rw [hg]; exact Nat.ne_of_lt (blkL BK195.out) : gb195 ≠ gb196)); have n6_ := AZ ((by rw [hg]; exact Nat.ne_of_gt (blkL BK195.out) : gb196 ≠ gb195)); clear BK195; clear HB; have BK195 := n0_; have HB := n1_; have BK196 := n2_; have GW196 := n3_; have GE196 := n4_; have NB195_196 := n5_; have NB196_195 := n6_; clear n0_ n1_ n2_ n3_ n4_ n5_ n6_; clear hb hbox hg; have hnb8 := NB195_196.out; have hnc8 := NB196_195.out; have hcz9_0 : w7.cell? ⟨gb195, 0, none⟩ = some (.string a0_0) := (blk_cell BK195.out 0).trans rfl; have hcz9_1 : w7.cell? ⟨gb195, 1, none⟩ = some (.int .i64 a0_1) := (blk_cell BK195.out 1).trans rfl; have hcz9_2 : w7.cell? ⟨gb195, 2, none⟩ = some (.slice A0_2 l0_2.length c0_2) := (blk_cell BK195.out 2).trans rfl; have hfz9_0 := blk_frozen BK195.out 0; have hfz9_1 := blk_frozen BK195.out 1; have hfz9_2 := blk_frozen BK195.out 2) | ((with_reducible refine gate_callee (f := 36) rfl ?_); refine gL (some 12) Try.func36 #[.agg #[.string a0_0, .int .i64 a0_1, .slice A0_2 l0_2.length c0_2]] ?_; (with_reducible refine (impl_IsReport.calls k a0_0 a0_1 _ _ l0_2 true _ ?side1 ?side2 A2.out).mono ?_); (case side1 => exact cS (Kd.C_below HR0_2.out HB.out)); (case side2 => exact HC0_2.out); rintro e w10 ⟨rfl, hb⟩; refine ⟨_, rfl, ?_⟩; have n0_ := blkA BK195 hb; have n1_ := blkA BK196 hb; have n2_ := AZ (below_step (bS HB.out) hb); clear BK195; clear BK196; clear HB; have BK195 := n0_; have BK196 := n1_; have HB := n2_; clear n0_ n1_ n2_; (try clear hb); have hcz11_0 : w10.cell? ⟨gb195, 0, none⟩ = some (.string a0_0) := (blk_cell BK195.out 0).trans rfl; have hcz11_1 : w10.cell? ⟨gb195, 1, none⟩ = some (.int .i64 a0_1) := (blk_cell BK195.out 1).trans rfl; have hcz11_2 : w10.cell? ⟨gb195, 2, none⟩ = some (.slice A0_2 l0_2.length c0_2) := (blk_cell BK195.out 2).trans rfl; have hfz11_0 := blk_frozen BK195.out 0; have hfz11_1 := blk_frozen BK195.out 1; have hfz11_2 := blk_frozen BK195.out 2) | ((with_reducible refine gate_dst (N := 17) rfl ?_); refine Kd.R_make (Kd.int .i64) _ 3 rfl (N := 17) rfl 25 _ _ rfl a0_1 rfl rfl Try.underlying25 (.int .i64 0) 8 info3 rfl (by decide) (by omega) 0 (ok := fun _ => True) (okp := fun _ => True) rfl (fun _ hk => hk) trivial (of_decide_eq_true (by assumption)) (Nat.le_trans (Nat.mul_le_mul_right _ (of_decide_eq_true (by assumption) : a0_1.toNat ≤ 35184372088832)) (by omega)) (Below.refl _ _) (Nat.le_refl _) ?_; intro v199 w12 ho13 hb hg_ hnew_; clear hg_ hnew_; (first | rw [← Ny198.out] at ho13 | (simp only [Int.reduceToNat] at ho13; rw [← Ny198.out] at ho13)); have n0_ := AZ (Kd.R_lower ho13 (below_size (bS HB.out))); have n1_ := blkA BK195 hb; have n2_ := blkA BK196 hb; have n3_ := AZ (below_step (bS HB.out) hb); clear BK195; clear BK196; clear HB; have HO200 := n0_; have BK195 := n1_; have BK196 := n2_; have HB := n3_; clear n0_ n1_ n2_ n3_; clear hb ho13; obtain ⟨Ao14, co14, eo14⟩ := Kd.R_slice HO200.out; subst eo14) | ((with_reducible refine gate_dst (N := 4) rfl ?_); refine box_event ?hg (N := 4) ?hd (cs := #[.string (⟨#[]⟩ : ByteArray), .slice none 0 0]) (t := 58) ?hr ?_; (case hd => rfl); (case hg => rfl); (case hr => first | (go_simp; done) | (go_simp; rfl)); intro gb201 hg w15 hbox hb; have n0_ := AZ (Kd.R_below (rS HO200.out) hb); have n1_ := blkA BK195 hb; have n2_ := blkA BK196 hb; have n3_ := AZ (below_step (bS HB.out) hb); have n4_ := AZ (hbox); have n5_ := AZ (geS hg HB.out); have n6_ := AZ (geS hg HB.out); have n7_ := AZ ((by rw [hg]; exact Nat.ne_of_lt (blkL BK195.out) : gb195 ≠ gb201)); have n8_ := AZ ((by rw [hg]; exact Nat.ne_of_gt (blkL BK195.out) : gb201 ≠ gb195)); have n9_ := AZ ((by rw [hg]; exact Nat.ne_of_lt (blkL BK196.out) : gb196 ≠ gb201)); have n10_ := AZ ((by rw [hg]; exact Nat.ne_of_gt (blkL BK196.out) : gb201 ≠ gb196)); clear HO200; clear BK195; clear BK196; clear HB; have HO200 := n0_; have BK195 := n1_; have BK196 := n2_; have HB := n3_; have BK201 := n4_; have GW201 := n5_; have GE201 := n6_; have NB195_201 := n7_; have NB201_195 := n8_; have NB196_201 := n9_; have NB201_196 := n10_; clear n0_ n1_ n2_ n3_ n4_ n5_ n6_ n7_ n8_ n9_ n10_; clear hb hbox hg; have hnb16 := NB201_195.out; have hnc16 := NB195_201.out; have hnb17 := NB201_196.out; have hnc17 := NB196_201.out; have hcz18_0 : w15.cell? ⟨gb201, 0, none⟩ = some (.string (⟨#[]⟩ : ByteArray)) := (blk_cell BK201.out 0).trans rfl; have hcz18_1 : w15.cell? ⟨gb201, 1, none⟩ = some (.slice none 0 0) := (blk_cell BK201.out 1).trans rfl; have hfz18_0 := blk_frozen BK201.out 0; have hfz18_1 := blk_frozen BK201.out 1; have hcz19_0 : w15.cell? ⟨gb195, 0, none⟩ = some (.string a0_0) := (blk_cell BK195.out 0).trans rfl; have hcz19_1 : w15.cell? ⟨gb195, 1, none⟩ = some (.int .i64 a0_1) := (blk_cell BK195.out 1).trans rfl; have hcz19_2 : w15.cell? ⟨gb195, 2, none⟩ = some (.slice A0_2 l0_2.length c0_2) := (blk_cell BK195.out 2).trans rfl; have hfz19_0 := blk_frozen BK195.out 0; have hfz19_1 := blk_frozen BK195.out 1; have hfz19_2 := blk_frozen BK195.out 2))
        go_loopg [22] k (fun kq v22 w' => ∃ (x22_1 : Int) (x202001_1 : List Int) (u202001 : Value), v22 = .int .i64 x22_1 ∧ Aside0 (impl_SumRow.l0 kq l0_2 (l0_2.length : Int) x22_1 (⟨#[115, 117, 109]⟩ : ByteArray) x202001_1 = some (r1, r2, r3)) ∧ Aside0 (kq ≤ k) ∧ Aside0 (Kd.R (Kd.int .i64) 3 w' w.heap.size (fun _ => True) u202001 x202001_1) ∧ Aside0 (w'.heap[gb195]? = some (.cells #[.string a0_0, .int .i64 a0_1, (.slice A0_2 l0_2.length c0_2)] 50 (0, 0))) ∧ Aside0 (w'.heap[gb196]? = some (.cells #[.string (⟨#[]⟩ : ByteArray), (.slice none 0 0)] 58 (0, 0))) ∧ Aside0 (w'.heap[gb201]? = some (.cells #[.string (⟨#[115, 117, 109]⟩ : ByteArray), u202001] 58 (0, 0))) ∧ Aside0 (Below w.heap.size w w'))
        case atStart => exact ⟨(0), (y198), (.slice Ao14 y198.length co14), (by first | rfl | (simp; done) | (simp [*]; done)), H', ⟨Nat.le_refl _⟩, ⟨by (with_reducible repeat (first | apply Kd.R_alloc | apply Kd.R_drewN | apply Kd.R_drew)); exact Kd.R_mono (Kd.R_far (Kd.R_far (Kd.R_types HO200.out BK201.out (by decide)) (fun _ hk => hk.2) (.string (⟨#[115, 117, 109]⟩ : ByteArray))) (fun _ hk => hk.2) _) (fun _ hk => trivial)⟩, ⟨by (with_reducible repeat (first | refine blk_drewN ?_ _ | refine blk_drew ?_ | refine blk_alloc ?_ _)); refine blk_far ?_ NB195_201.out _; (with_reducible repeat (first | refine blk_drewN ?_ _ | refine blk_drew ?_ | refine blk_alloc ?_ _)); refine blk_far ?_ NB195_201.out _; (with_reducible repeat (first | refine blk_drewN ?_ _ | refine blk_drew ?_ | refine blk_alloc ?_ _)); exact BK195.out⟩, ⟨by (with_reducible repeat (first | refine blk_drewN ?_ _ | refine blk_drew ?_ | refine blk_alloc ?_ _)); refine blk_far ?_ NB196_201.out _; (with_reducible repeat (first | refine blk_drewN ?_ _ | refine blk_drew ?_ | refine blk_alloc ?_ _)); refine blk_far ?_ NB196_201.out _; (with_reducible repeat (first | refine blk_drewN ?_ _ | refine blk_drew ?_ | refine blk_alloc ?_ _)); exact BK196.out⟩, ⟨by (with_reducible repeat (first | refine blk_drewN ?_ _ | refine blk_drew ?_ | refine blk_alloc ?_ _)); refine blk_put (cs := #[.string (⟨#[115, 117, 109]⟩ : ByteArray), .slice none 0 0]) ?_ 1 _ rfl; (with_reducible repeat (first | refine blk_drewN ?_ _ | refine blk_drew ?_ | refine blk_alloc ?_ _)); refine blk_put (cs := #[.string (⟨#[]⟩ : ByteArray), .slice none 0 0]) ?_ 0 _ rfl; (with_reducible repeat (first | refine blk_drewN ?_ _ | refine blk_drew ?_ | refine blk_alloc ?_ _)); exact BK201.out⟩, ⟨bS HB.out⟩⟩
        case round =>
          clear H'
          try clear c1
          try clear p2
          try clear c3
          try clear c4
          try clear c4b0
          try clear c4b1
          try clear c5
          try clear c5b0
          try clear c5b1
          try clear c8
          try clear c16
          try clear c17
          try clear hcz11_0
          try clear hcz11_1
          try clear hcz11_2
          try clear hcz18_0
          try clear hcz18_1
          try clear hcz19_0
          try clear hcz19_1
          try clear hcz19_2
          try clear hcz9_0
          try clear hcz9_1
          try clear hcz9_2
          try clear hfz11_0
          try clear hfz11_1
          try clear hfz11_2
          try clear hfz18_0
          try clear hfz18_1
          try clear hfz19_0
          try clear hfz19_1
          try clear hfz19_2
          try clear hfz9_0
          try clear hfz9_1
          try clear hfz9_2
          obtain ⟨x22_1, x202001_1, u202001, rfl, HA, HK1, HO_202001, BK195, BK196, BK201, HB⟩ := hrel
          cases gk with
          | zero => exact absurd HA.out (by simp [impl_SumRow.l0])
          | succ k1 =>
            have H := HA.out
            clear HA
            simp only [impl_SumRow.l0] at H
            by_cases c20 : x22_1 < (l0_2.length : Int)
            · rw [if_pos c20] at H
              have c20b0 : decide (x22_1 < (l0_2.length : Int)) = true := decide_eq_true c20
              clear c20
              by_cases c21 : 0 ≤ x22_1
              · rw [if_pos c21] at H
                have c21b0 : decide (0 ≤ x22_1) = true := decide_eq_true c21
                clear c21
                by_cases c22 : x22_1 < (l0_2.length : Int)
                · rw [if_pos c22] at H
                  have c22b0 : decide (x22_1 < (l0_2.length : Int)) = true := decide_eq_true c22
                  clear c22
                  have H' := Aside0.mk H
                  clear H
                  have p202 : 0 ≤ (x22_1 : Int) := of_decide_eq_true (by assumption)
                  have q202 : x22_1 < (l0_2.length : Int) := of_decide_eq_true (by assumption)
                  obtain ⟨ad202, A202_1, c202_1, e202, hx202_0, hx202_1, hl202_1, hi202_1⟩ := at_T58 HR0_2.out x22_1 p202 q202
                  cases e202
                  replace hx202_0 := (HB.out.cell (World.block_lt_of_cell? w _ hx202_0)).trans hx202_0
                  replace hx202_1 := (HB.out.cell (World.block_lt_of_cell? w _ hx202_1)).trans hx202_1
                  have HR202_1 := Aside0.mk hi202_1
                  have HC202_1 := Aside0.mk hl202_1
                  clear hi202_1 hl202_1
                  replace p202 := eq_true p202
                  replace q202 := eq_true q202
                  go_wp2_with (first | ((with_reducible refine gate_dst (N := 6) rfl ?_); refine box_event ?hg (N := 6) ?hd (cs := #[.string (⟨#[]⟩ : ByteArray), .slice none 0 0]) (t := 58) ?hr ?_; (case hd => rfl); (case hg => rfl); (case hr => first | (go_simp; done) | (go_simp; rfl)); intro gb203 hg w23 hbox hb; have n0_ := AZ (Kd.R_below (rS HO_202001.out) hb); have n1_ := blkA BK195 hb; have n2_ := blkA BK196 hb; have n3_ := blkA BK201 hb; have n4_ := AZ (below_step (bS HB.out) hb); have n5_ := AZ (hbox); have n6_ := AZ (geS hg HB.out); have n7_ := AZ (geS hg HB.out); have n8_ := AZ ((by rw [hg]; exact Nat.ne_of_lt (blkL BK195.out) : gb195 ≠ gb203)); have n9_ := AZ ((by rw [hg]; exact Nat.ne_of_gt (blkL BK195.out) : gb203 ≠ gb195)); have n10_ := AZ ((by rw [hg]; exact Nat.ne_of_lt (blkL BK196.out) : gb196 ≠ gb203)); have n11_ := AZ ((by rw [hg]; exact Nat.ne_of_gt (blkL BK196.out) : gb203 ≠ gb196)); have n12_ := AZ ((by rw [hg]; exact Nat.ne_of_lt (blkL BK201.out) : gb201 ≠ gb203)); have n13_ := AZ ((by rw [hg]; exact Nat.ne_of_gt (blkL BK201.out) : gb203 ≠ gb201)); clear HO_202001; clear BK195; clear BK196; clear BK201; clear HB; have HO_202001 := n0_; have BK195 := n1_; have BK196 := n2_; have BK201 := n3_; have HB := n4_; have BK203 := n5_; have GW203 := n6_; have GE203 := n7_; have NB195_203 := n8_; have NB203_195 := n9_; have NB196_203 := n10_; have NB203_196 := n11_; have NB201_203 := n12_; have NB203_201 := n13_; clear n0_ n1_ n2_ n3_ n4_ n5_ n6_ n7_ n8_ n9_ n10_ n11_ n12_ n13_; clear hb hbox hg; have hnb24 := NB203_195.out; have hnc24 := NB195_203.out; have hnb25 := NB203_196.out; have hnc25 := NB196_203.out; have hnb26 := NB203_201.out; have hnc26 := NB201_203.out; have hcz27_0 : w23.cell? ⟨gb203, 0, none⟩ = some (.string (⟨#[]⟩ : ByteArray)) := (blk_cell BK203.out 0).trans rfl; have hcz27_1 : w23.cell? ⟨gb203, 1, none⟩ = some (.slice none 0 0) := (blk_cell BK203.out 1).trans rfl; have hfz27_0 := blk_frozen BK203.out 0; have hfz27_1 := blk_frozen BK203.out 1))
                  go_loopg [29] k1 (fun kq v29 w' => ∃ (x29_2 : Int) (x202001_2 : List Int) (u202001 : Value), v29 = .int .i64 x29_2 ∧ Aside0 (impl_SumRow.l1 kq l0_2 (l0_2.length : Int) x22_1 ((rd_T58 l0_2 x22_1).f1) (((rd_T58 l0_2 x22_1).f1).length : Int) x29_2 (⟨#[115, 117, 109]⟩ : ByteArray) x202001_2 = some (r1, r2, r3)) ∧ Aside0 (kq ≤ k1) ∧ Aside0 (Kd.R (Kd.int .i64) 3 w' w.heap.size (fun _ => True) u202001 x202001_2) ∧ Aside0 (w'.heap[gb195]? = some (.cells #[.string a0_0, .int .i64 a0_1, (.slice (some ad202) l0_2.length c0_2)] 50 (0, 0))) ∧ Aside0 (w'.heap[gb196]? = some (.cells #[.string (⟨#[]⟩ : ByteArray), (.slice none 0 0)] 58 (0, 0))) ∧ Aside0 (w'.heap[gb201]? = some (.cells #[.string (⟨#[115, 117, 109]⟩ : ByteArray), u202001] 58 (0, 0))) ∧ Aside0 (w'.heap[gb203]? = some (.cells #[.string ((rd_T58 l0_2 x22_1).f0), (.slice A202_1 ((rd_T58 l0_2 x22_1).f1).length c202_1)] 58 (0, 0))) ∧ Aside0 (Below w.heap.size w w'))
                  case atStart => exact ⟨(0), (x202001_1), (u202001), (by first | rfl | (simp; done) | (simp [*]; done)), H', ⟨Nat.le_refl _⟩, ⟨by (with_reducible repeat (first | apply Kd.R_alloc | apply Kd.R_drewN | apply Kd.R_drew)); exact Kd.R_mono (Kd.R_far (Kd.R_far (Kd.R_types HO_202001.out BK203.out (by decide)) (fun _ hk => hk.2) (.string ((rd_T58 l0_2 x22_1).f0))) (fun _ hk => hk.2) (.slice A202_1 ((rd_T58 l0_2 x22_1).f1).length c202_1)) (fun _ hk => trivial)⟩, ⟨by (with_reducible repeat (first | refine blk_drewN ?_ _ | refine blk_drew ?_ | refine blk_alloc ?_ _)); refine blk_far ?_ NB195_203.out _; (with_reducible repeat (first | refine blk_drewN ?_ _ | refine blk_drew ?_ | refine blk_alloc ?_ _)); refine blk_far ?_ NB195_203.out _; (with_reducible repeat (first | refine blk_drewN ?_ _ | refine blk_drew ?_ | refine blk_alloc ?_ _)); exact BK195.out⟩, ⟨by (with_reducible repeat (first | refine blk_drewN ?_ _ | refine blk_drew ?_ | refine blk_alloc ?_ _)); refine blk_far ?_ NB196_203.out _; (with_reducible repeat (first | refine blk_drewN ?_ _ | refine blk_drew ?_ | refine blk_alloc ?_ _)); refine blk_far ?_ NB196_203.out _; (with_reducible repeat (first | refine blk_drewN ?_ _ | refine blk_drew ?_ | refine blk_alloc ?_ _)); exact BK196.out⟩, ⟨by (with_reducible repeat (first | refine blk_drewN ?_ _ | refine blk_drew ?_ | refine blk_alloc ?_ _)); refine blk_far ?_ NB201_203.out _; (with_reducible repeat (first | refine blk_drewN ?_ _ | refine blk_drew ?_ | refine blk_alloc ?_ _)); refine blk_far ?_ NB201_203.out _; (with_reducible repeat (first | refine blk_drewN ?_ _ | refine blk_drew ?_ | refine blk_alloc ?_ _)); exact BK201.out⟩, ⟨by (with_reducible repeat (first | refine blk_drewN ?_ _ | refine blk_drew ?_ | refine blk_alloc ?_ _)); refine blk_put (cs := #[.string ((rd_T58 l0_2 x22_1).f0), .slice none 0 0]) ?_ 1 _ rfl; (with_reducible repeat (first | refine blk_drewN ?_ _ | refine blk_drew ?_ | refine blk_alloc ?_ _)); refine blk_put (cs := #[.string (⟨#[]⟩ : ByteArray), .slice none 0 0]) ?_ 0 _ rfl; (with_reducible repeat (first | refine blk_drewN ?_ _ | refine blk_drew ?_ | refine blk_alloc ?_ _)); exact BK203.out⟩, ⟨bS HB.out⟩⟩
                  case round =>
                    clear H'
                    try clear c1
                    try clear c2
                    try clear p2
                    try clear q2
                    try clear hx2
                    try clear c3
                    try clear c4
                    try clear c4b0
                    try clear c4b1
                    try clear c5
                    try clear c5b0
                    try clear c5b1
                    try clear c8
                    try clear c16
                    try clear c17
                    try clear c20
                    try clear c20b0
                    try clear p20
                    try clear q20
                    try clear hx20
                    try clear c21
                    try clear c21b0
                    try clear c22
                    try clear c22b0
                    try clear c24
                    try clear c25
                    try clear c26
                    try clear hcz11_0
                    try clear hcz11_1
                    try clear hcz11_2
                    try clear hcz18_0
                    try clear hcz18_1
                    try clear hcz19_0
                    try clear hcz19_1
                    try clear hcz19_2
                    try clear hcz27_0
                    try clear hcz27_1
                    try clear hcz9_0
                    try clear hcz9_1
                    try clear hcz9_2
                    try clear hfz11_0
                    try clear hfz11_1
                    try clear hfz11_2
                    try clear hfz18_0
                    try clear hfz18_1
                    try clear hfz19_0
                    try clear hfz19_1
                    try clear hfz19_2
                    try clear hfz27_0
                    try clear hfz27_1
                    try clear hfz9_0
                    try clear hfz9_1
                    try clear hfz9_2
                    try clear hx202_0
                    try clear hx202_1
                    try clear p2
                    try clear p202
                    try clear q202
                    obtain ⟨x29_2, x202001_2, u202001, rfl, HA, HK2, HO_202001, BK195, BK196, BK201, BK203, HB⟩ := hrel
                    cases gk with
                    | zero => exact absurd HA.out (by simp [impl_SumRow.l1])
                    | succ k2 =>
                      have H := HA.out
                      clear HA
                      simp only [impl_SumRow.l1] at H
                      by_cases c28 : x29_2 < (((rd_T58 l0_2 x22_1).f1).length : Int)
                      · rw [if_pos c28] at H
                        have c28b0 : decide (x29_2 < (((rd_T58 l0_2 x22_1).f1).length : Int)) = true := decide_eq_true c28
                        clear c28
                        by_cases c29 : 0 ≤ x29_2
                        · rw [if_pos c29] at H
                          have c29b0 : decide (0 ≤ x29_2) = true := decide_eq_true c29
                          clear c29
                          by_cases c30 : x29_2 < (((rd_T58 l0_2 x22_1).f1).length : Int)
                          · rw [if_pos c30] at H
                            have c30b0 : decide (x29_2 < (((rd_T58 l0_2 x22_1).f1).length : Int)) = true := decide_eq_true c30
                            clear c30
                            by_cases c31 : x29_2 < (x202001_2.length : Int)
                            · rw [if_pos c31] at H
                              have c31b0 : decide (x29_2 < (x202001_2.length : Int)) = true := decide_eq_true c31
                              clear c31
                              obtain ⟨y206, hy206⟩ : ∃ y_ : List Int, y_ = (x202001_2.set (x29_2 : Int).toNat (wrap64 ((rd x202001_2 x29_2) + (rd ((rd_T58 l0_2 x22_1).f1) x29_2)))) := ⟨_, rfl⟩
                              replace H : (impl_SumRow.l1 k2 l0_2 (l0_2.length : Int) x22_1 ((rd_T58 l0_2 x22_1).f1) (((rd_T58 l0_2 x22_1).f1).length : Int) (wrap64 (x29_2 + 1)) (⟨#[115, 117, 109]⟩ : ByteArray) y206) = some (r1, r2, r3) := by first | (rw [hy206]; with_reducible exact H) | (have H2_ := (Option.bind_some _ _).symm.trans H; rw [hy206]; with_reducible exact H2_) | (have H2_ := (Option.bind_some _ _).symm.trans H; with_reducible exact H2_) | with_reducible exact H | (rw [hy206]; exact H) | exact H
                              have Ny206 := Aside0.mk hy206
                              clear hy206
                              have H' := Aside0.mk H
                              clear H
                              have p204 : 0 ≤ (x29_2 : Int) := of_decide_eq_true (by assumption)
                              have q204 : x29_2 < (((rd_T58 l0_2 x22_1).f1).length : Int) := of_decide_eq_true (by assumption)
                              obtain ⟨ad204, e204, hx204_0⟩ := Kd.at_int HR202_1.out x29_2 p204 q204
                              cases e204
                              replace hx204_0 := (HB.out.cell (World.block_lt_of_cell? w _ hx204_0)).trans hx204_0
                              replace p204 := eq_true p204
                              replace q204 := eq_true q204
                              have hnb33 := NB201_195.out
                              have hnc33 := NB195_201.out
                              have hnb34 := NB201_196.out
                              have hnc34 := NB196_201.out
                              have hnb35 := NB201_203.out
                              have hnc35 := NB203_201.out
                              have hcz36_0 : wr.cell? ⟨gb201, 0, none⟩ = some (.string (⟨#[115, 117, 109]⟩ : ByteArray)) := (blk_cell BK201.out 0).trans rfl
                              have hcz36_1 : wr.cell? ⟨gb201, 1, none⟩ = some (u202001) := (blk_cell BK201.out 1).trans rfl
                              have hfz36_0 := blk_frozen BK201.out 0
                              have hfz36_1 := blk_frozen BK201.out 1
                              obtain ⟨Ao37, co37, eo37⟩ := Kd.R_slice HO_202001.out
                              subst eo37
                              have p205 : 0 ≤ (x29_2 : Int) := of_decide_eq_true (by assumption)
                              have q205 : x29_2 < (x202001_2.length : Int) := of_decide_eq_true (by assumption)
                              obtain ⟨ad205, e205, hx205_0⟩ := Kd.at_int (Kd.R_reads' HO_202001.out).2.2 x29_2 p205 q205
                              cases e205
                              replace p205 := eq_true p205
                              replace q205 := eq_true q205
                              have p32 : 0 ≤ (x29_2 : Int) := of_decide_eq_true (by assumption)
                              have q32 : (x29_2 : Int) < ((x202001_2.length : Int) : Int) := of_decide_eq_true (by assumption)
                              obtain ⟨go32, co32, eo32, gb32, gl32, cl32, HG32⟩ := Kd.R_form HO_202001.out (by omega)
                              (first | cases eo32 | (injection eo32 with ea_ en_ ec_; (first | subst ea_ | (injection ea_ with ea_; subst ea_)); subst ec_; clear en_))
                              have GB32 := Aside0.mk gb32
                              have GG32 := Aside0.mk HG32
                              clear gb32 gl32 HG32
                              (first | simp only [add_plain] at hx205_0 | skip)
                              obtain ⟨hx32_0, hf32_0⟩ := Kd.R_celln 0 HO_202001.out (x29_2 : Int) p32 q32
                              replace p32 := eq_true p32
                              replace q32 := eq_true q32
                              have HP38 := Kd.R_putg HO_202001.out (x29_2 : Int) (wrap64 ((rd x202001_2 x29_2) + (rd ((rd_T58 l0_2 x22_1).f1) x29_2)))
                              go_wp2_with (first | ((with_reducible refine gate_store (t := 3) (p := 41) rfl ?_); refine store_event (t := 3) (p := 41) (v := ?vo_w39) (w1 := (wr.setCell ⟨go32, (x29_2 : Int).toNat, none⟩ (.int .i64 (wrap64 ((rd x202001_2 x29_2) + (rd ((rd_T58 l0_2 x22_1).f1) x29_2)))))) ?hg ?ho ?hn ?hr ?_; (case ho => rfl); (case hg => rfl); (case hn => rfl); (case hr => first | (go_simp; done) | (go_simp; rfl)); intro w39 hw; have hg : wr.grownBy w39 (some go32) := (by rw [hw]; exact HP38.2); have hp_ : Kd.R (Kd.int .i64) 3 w39 w.heap.size (fun _ => True) (.slice (some ⟨go32, 0, none⟩) x202001_2.length co37) y206 := (by rw [hw, Ny206.out]; exact HP38.1); clear HP38; have n0_ := AZ (hp_); have n1_ := AZ (blk_grown (g := gb195) (o := .cells #[.string a0_0, .int .i64 a0_1, .slice (some ad202) l0_2.length c0_2] 50 (0, 0)) (blkS BK195.out) hg (Kd.R_ne HO_202001.out BK195.out (by decide))); have n2_ := AZ (blk_grown (g := gb196) (o := .cells #[.string (⟨#[]⟩ : ByteArray), .slice none 0 0] 58 (0, 0)) (blkS BK196.out) hg (Kd.R_ne HO_202001.out BK196.out (by decide))); have n3_ := AZ (blk_grown (g := gb201) (o := .cells #[.string (⟨#[115, 117, 109]⟩ : ByteArray), .slice (some ⟨go32, 0, none⟩) x202001_2.length co37] 58 (0, 0)) (blkS BK201.out) hg (Kd.R_ne HO_202001.out BK201.out (by decide))); have n4_ := AZ (blk_grown (g := gb203) (o := .cells #[.string ((rd_T58 l0_2 x22_1).f0), .slice (some ad204) ((rd_T58 l0_2 x22_1).f1).length c202_1] 58 (0, 0)) (blkS BK203.out) hg (Kd.R_ne HO_202001.out BK203.out (by decide))); have n5_ := AZ ((by rw [hw]; exact below_set (HB.out) GB32.out : Below w.heap.size w w39)); clear HO_202001; clear BK195; clear BK196; clear BK201; clear BK203; clear HB; have HO_202001 := n0_; have BK195 := n1_; have BK196 := n2_; have BK201 := n3_; have BK203 := n4_; have HB := n5_; clear n0_ n1_ n2_ n3_ n4_ n5_; clear hg hw hp_))
                              go_roundg k2
                              case measure => have := HK1.out; have := HK2.out; omega
                              case rel => exact ⟨(wrap64 (x29_2 + 1)), (y206), (.slice (some ⟨go32, 0, none⟩) x202001_2.length co37), (by first | rfl | (simp; done) | (simp [*]; done)), H', ⟨by have := HK1.out; have := HK2.out; omega⟩, ⟨rS HO_202001.out⟩, ⟨blkS BK195.out⟩, ⟨blkS BK196.out⟩, ⟨blkS BK201.out⟩, ⟨blkS BK203.out⟩, ⟨bS HB.out⟩⟩
                            · rw [if_neg c31] at H
                              exact absurd H (by simp)
                          · rw [if_neg c30] at H
                            exact absurd H (by simp)
                        · rw [if_neg c29] at H
                          exact absurd H (by simp)
                      · rw [if_neg c28] at H
                        have c28b0 : decide (x29_2 < (((rd_T58 l0_2 x22_1).f1).length : Int)) = false := decide_eq_false c28
                        clear c28
                        have H' := Aside0.mk H
                        clear H
                        go_wp2
                        go_roundg k2
                        case measure => have := HK1.out; have := HK2.out; omega
                        case rel => exact ⟨(wrap64 (x22_1 + 1)), (x202001_2), (u202001), (by first | rfl | (simp; done) | (simp [*]; done)), H', ⟨by have := HK1.out; have := HK2.out; omega⟩, ⟨rS HO_202001.out⟩, ⟨blkS BK195.out⟩, ⟨blkS BK196.out⟩, ⟨blkS BK201.out⟩, ⟨bS HB.out⟩⟩
                · rw [if_neg c22] at H
                  exact absurd H (by simp)
              · rw [if_neg c21] at H
                exact absurd H (by simp)
            · rw [if_neg c20] at H
              have c20b0 : decide (x22_1 < (l0_2.length : Int)) = false := decide_eq_false c20
              clear c20
              have H' := Aside0.mk H
              clear H
              have hnb40 := NB201_195.out
              have hnc40 := NB195_201.out
              have hnb41 := NB201_196.out
              have hnc41 := NB196_201.out
              have hcz42_0 : wr.cell? ⟨gb201, 0, none⟩ = some (.string (⟨#[115, 117, 109]⟩ : ByteArray)) := (blk_cell BK201.out 0).trans rfl
              have hcz42_1 : wr.cell? ⟨gb201, 1, none⟩ = some (u202001) := (blk_cell BK201.out 1).trans rfl
              have hfz42_0 := blk_frozen BK201.out 0
              have hfz42_1 := blk_frozen BK201.out 1
              obtain ⟨Ao43, co43, eo43⟩ := Kd.R_slice HO_202001.out
              subst eo43
              go_wp2
              go_loopg [47] k1 (fun kq v47 w' => ∃ (x47_2 : Int) (x197000_2 : ByteArray), v47 = .int .i64 x47_2 ∧ Aside0 (impl_SumRow.l2 kq x202001_1 (x202001_1.length : Int) x47_2 (⟨#[115, 117, 109]⟩ : ByteArray) x202001_1 = some (r1, r2, r3)) ∧ Aside0 (kq ≤ k1) ∧ Aside0 (Kd.R (Kd.int .i64) 3 w' w.heap.size (fun _ => True) (.slice Ao43 x202001_1.length co43) x202001_1) ∧ Aside0 (Kd.R (Kd.int .i64) 3 w' w.heap.size (fun _ => True) (.slice Ao43 x202001_1.length co43) x202001_1) ∧ Aside0 (w'.heap[gb195]? = some (.cells #[.string a0_0, .int .i64 a0_1, (.slice A0_2 l0_2.length c0_2)] 50 (0, 0))) ∧ Aside0 (w'.heap[gb196]? = some (.cells #[.string x197000_2, (.slice none 0 0)] 58 (0, 0))) ∧ Aside0 (w'.heap[gb201]? = some (.cells #[.string (⟨#[115, 117, 109]⟩ : ByteArray), (.slice Ao43 x202001_1.length co43)] 58 (0, 0))) ∧ Aside0 (Below w.heap.size w w'))
              case atStart => exact ⟨(0), ((⟨#[]⟩ : ByteArray)), (by first | rfl | (simp; done) | (simp [*]; done)), H', ⟨Nat.le_refl _⟩, ⟨rS HO_202001.out⟩, ⟨rS HO_202001.out⟩, ⟨blkS BK195.out⟩, ⟨blkS BK196.out⟩, ⟨blkS BK201.out⟩, ⟨bS HB.out⟩⟩
              case round =>
                clear H'
                try clear c1
                try clear c2
                try clear p2
                try clear q2
                try clear hx2
                try clear c3
                try clear p3
                try clear q3
                try clear hx3
                try clear hf3
                try clear c4
                try clear c4b0
                try clear c4b1
                try clear c5
                try clear c5b0
                try clear c5b1
                try clear p6
                try clear c8
                try clear c16
                try clear c17
                try clear c20
                try clear c20b0
                try clear p20
                try clear q20
                try clear hx20
                try clear c21
                try clear c21b0
                try clear c22
                try clear c22b0
                try clear c24
                try clear c25
                try clear c26
                try clear c28
                try clear c28b0
                try clear c29
                try clear c29b0
                try clear c30
                try clear c30b0
                try clear c31
                try clear c31b0
                try clear p32
                try clear q32
                try clear hx32
                try clear hf32
                try clear c33
                try clear c34
                try clear c35
                try clear c36
                try clear c40
                try clear c41
                try clear hcz11_0
                try clear hcz11_1
                try clear hcz11_2
                try clear hcz18_0
                try clear hcz18_1
                try clear hcz19_0
                try clear hcz19_1
                try clear hcz19_2
                try clear hcz27_0
                try clear hcz27_1
                try clear hcz36_0
                try clear hcz36_1
                try clear hcz42_0
                try clear hcz42_1
                try clear hcz9_0
                try clear hcz9_1
                try clear hcz9_2
                try clear hfz11_0
                try clear hfz11_1
                try clear hfz11_2
                try clear hfz18_0
                try clear hfz18_1
                try clear hfz19_0
                try clear hfz19_1
                try clear hfz19_2
                try clear hfz27_0
                try clear hfz27_1
                try clear hfz36_0
                try clear hfz36_1
                try clear hfz42_0
                try clear hfz42_1
                try clear hfz9_0
                try clear hfz9_1
                try clear hfz9_2
                try clear hx202_0
                try clear hx202_1
                try clear hx204_0
                try clear hx205_0
                try clear hx32_0
                try clear p2
                try clear p20
                try clear p202
                try clear p204
                try clear p205
                try clear p32
                try clear q2
                try clear q20
                try clear q202
                try clear q204
                try clear q205
                try clear q32
                obtain ⟨x47_2, x197000_2, rfl, HA, HK2, HO_45, HO_202001, BK195, BK196, BK201, HB⟩ := hrel
                cases gk with
                | zero => exact absurd HA.out (by simp [impl_SumRow.l2])
                | succ k2 =>
                  have H := HA.out
                  clear HA
                  simp only [impl_SumRow.l2] at H
                  by_cases c44 : x47_2 < (x202001_1.length : Int)
                  · rw [if_pos c44] at H
                    have c44b0 : decide (x47_2 < (x202001_1.length : Int)) = true := decide_eq_true c44
                    clear c44
                    by_cases c45 : 0 ≤ x47_2
                    · rw [if_pos c45] at H
                      have c45b0 : decide (0 ≤ x47_2) = true := decide_eq_true c45
                      clear c45
                      by_cases c46 : x47_2 < (x202001_1.length : Int)
                      · rw [if_pos c46] at H
                        have c46b0 : decide (x47_2 < (x202001_1.length : Int)) = true := decide_eq_true c46
                        clear c46
                        replace H := Option.bind_eq_some_iff.mp H
                        obtain ⟨t208, A470, H⟩ := H
                        replace H : (if t208 = true then (impl_SumRow.l2 k2 x202001_1 (x202001_1.length : Int) (wrap64 (x47_2 + 1)) (⟨#[115, 117, 109]⟩ : ByteArray) x202001_1) else (some ((⟨#[]⟩ : ByteArray), ([] : List Int), false))) = some (r1, r2, r3) := H
                        have A47 := Aside0.mk A470
                        clear A470
                        by_cases c48 : t208 = true
                        · subst c48
                          have H1 : (impl_SumRow.l2 k2 x202001_1 (x202001_1.length : Int) (wrap64 (x47_2 + 1)) (⟨#[115, 117, 109]⟩ : ByteArray) x202001_1) = some (r1, r2, r3) := by rw [if_pos rfl] at H; exact H
                          clear H
                          have H := H1
                          clear H1
                          have H' := Aside0.mk H
                          clear H
                          have p207 : 0 ≤ (x47_2 : Int) := of_decide_eq_true (by assumption)
                          have q207 : x47_2 < (x202001_1.length : Int) := of_decide_eq_true (by assumption)
                          obtain ⟨ad207, e207, hx207_0⟩ := Kd.at_int (Kd.R_reads' HO_45.out).2.2 x47_2 p207 q207
                          cases e207
                          replace p207 := eq_true p207
                          replace q207 := eq_true q207
                          go_wp2_with (first | ((with_reducible refine gate_callee (f := 78) rfl ?_); refine gL (some 52) Try.func78 #[.int .i64 (rd x202001_1 x47_2)] ?_; (with_reducible refine (impl_isReported.calls (rd x202001_1 x47_2) true _ A47.out).mono ?_); rintro e w' ⟨rfl, ⟨nd, rfl⟩⟩; refine ⟨_, rfl, ?_⟩))
                          go_roundg k2
                          case measure => have := HK1.out; have := HK2.out; omega
                          case rel => exact ⟨(wrap64 (x47_2 + 1)), (x197000_2), (by first | rfl | (simp; done) | (simp [*]; done)), H', ⟨by have := HK1.out; have := HK2.out; omega⟩, ⟨rS HO_45.out⟩, ⟨rS HO_202001.out⟩, ⟨blkS BK195.out⟩, ⟨blkS BK196.out⟩, ⟨blkS BK201.out⟩, ⟨bS HB.out⟩⟩
                        · replace c48 := Bool.eq_false_iff.mpr c48
                          subst c48
                          have H1 : (some ((⟨#[]⟩ : ByteArray), ([] : List Int), false)) = some (r1, r2, r3) := by rw [if_neg (show ¬ (false = true) by decide)] at H; exact H
                          clear H
                          have H := H1
                          clear H1
                          simp only [Option.some.injEq, Prod.mk.injEq] at H
                          obtain ⟨rfl, rfl, rfl⟩ := H
                          have p207 : 0 ≤ (x47_2 : Int) := of_decide_eq_true (by assumption)
                          have q207 : x47_2 < (x202001_1.length : Int) := of_decide_eq_true (by assumption)
                          obtain ⟨ad207, e207, hx207_0⟩ := Kd.at_int (Kd.R_reads' HO_45.out).2.2 x47_2 p207 q207
                          cases e207
                          replace p207 := eq_true p207
                          replace q207 := eq_true q207
                          go_wp2_with (first | ((with_reducible refine gate_callee (f := 78) rfl ?_); refine gL (some 52) Try.func78 #[.int .i64 (rd x202001_1 x47_2)] ?_; (with_reducible refine (impl_isReported.calls (rd x202001_1 x47_2) false _ A47.out).mono ?_); rintro e w' ⟨rfl, ⟨nd, rfl⟩⟩; refine ⟨_, rfl, ?_⟩; (try (rw [drewN_self wr]; generalize hq_ : World.drewN wr _ = wr; have n0_ : Aside0 (Kd.R (Kd.int .i64) 3 wr w.heap.size (fun _ => True) (.slice (some ad207) x202001_1.length co43) x202001_1) := ⟨by rw [← hq_]; exact (rS HO_202001.out)⟩; have n1_ : Aside0 (Kd.R (Kd.int .i64) 3 wr w.heap.size (fun _ => True) (.slice (some ad207) x202001_1.length co43) x202001_1) := ⟨by rw [← hq_]; exact (rS HO_45.out)⟩; have n2_ : Aside0 (wr.heap[gb195]? = some (.cells #[.string a0_0, .int .i64 a0_1, .slice A0_2 l0_2.length c0_2] 50 (0, 0))) := ⟨by rw [← hq_]; exact (blkS BK195.out)⟩; have n3_ : Aside0 (wr.heap[gb196]? = some (.cells #[.string x197000_2, .slice none 0 0] 58 (0, 0))) := ⟨by rw [← hq_]; exact (blkS BK196.out)⟩; have n4_ : Aside0 (wr.heap[gb201]? = some (.cells #[.string (⟨#[115, 117, 109]⟩ : ByteArray), .slice (some ad207) x202001_1.length co43] 58 (0, 0))) := ⟨by rw [← hq_]; exact (blkS BK201.out)⟩; have n5_ : Aside0 (Below w.heap.size w wr) := ⟨by rw [← hq_]; exact (bS HB.out)⟩; clear HO_202001 HO_45 BK195 BK196 BK201 HB hq_; have HO_202001 := n0_; have HO_45 := n1_; have BK195 := n2_; have BK196 := n3_; have BK201 := n4_; have HB := n5_; clear n0_ n1_ n2_ n3_ n4_ n5_)); have hnb49 := NB196_195.out; have hnc49 := NB195_196.out; have hnb50 := NB196_201.out; have hnc50 := NB201_196.out; have hcz51_0 : wr.cell? ⟨gb196, 0, none⟩ = some (.string x197000_2) := (blk_cell BK196.out 0).trans rfl; have hcz51_1 : wr.cell? ⟨gb196, 1, none⟩ = some (.slice none 0 0) := (blk_cell BK196.out 1).trans rfl; have hfz51_0 := blk_frozen BK196.out 0; have hfz51_1 := blk_frozen BK196.out 1))
                          refine bodyPost_ret (results_ct rfl _ _ gb196 58 #[.string (⟨#[]⟩ : ByteArray), .slice none 0 0] (0, 0) _ rfl (by (with_reducible repeat (first | refine blk_drewN ?_ _ | refine blk_drew ?_ | refine blk_alloc ?_ _)); refine blk_put (cs := #[.string (⟨#[]⟩ : ByteArray), .slice none 0 0]) ?_ 1 _ rfl; (with_reducible repeat (first | refine blk_drewN ?_ _ | refine blk_drew ?_ | refine blk_alloc ?_ _)); refine blk_put (cs := #[.string x197000_2, .slice none 0 0]) ?_ 0 _ rfl; (with_reducible repeat (first | refine blk_drewN ?_ _ | refine blk_drew ?_ | refine blk_alloc ?_ _)); exact BK196.out) Try.underlying58 rfl (by kernel_rfl)) rfl ?_
                          exact ⟨_, by first | rfl | (simp [errW_none, errW_some] <;> rfl) | (simp [*, errW_none, errW_some] <;> rfl), by first | exact Kd.R_nil _ _ _ _ _ | exact Kd.N_nil _ _ _ _ _ | exact Kd.V_nil _ _ _ _ _ | exact Kd.Q_nil _ _ _ _ _ | exact Kd.S_nil _ _ _ _ _, bS HB.out⟩
                      · rw [if_neg c46] at H
                        exact absurd H (by simp)
                    · rw [if_neg c45] at H
                      exact absurd H (by simp)
                  · rw [if_neg c44] at H
                    have c44b0 : decide (x47_2 < (x202001_1.length : Int)) = false := decide_eq_false c44
                    clear c44
                    simp only [Option.some.injEq, Prod.mk.injEq] at H
                    obtain ⟨rfl, rfl, rfl⟩ := H
                    have hnb52 := NB201_195.out
                    have hnc52 := NB195_201.out
                    have hnb53 := NB201_196.out
                    have hnc53 := NB196_201.out
                    have hcz54_0 : wr.cell? ⟨gb201, 0, none⟩ = some (.string (⟨#[115, 117, 109]⟩ : ByteArray)) := (blk_cell BK201.out 0).trans rfl
                    have hcz54_1 : wr.cell? ⟨gb201, 1, none⟩ = some (.slice Ao43 x202001_1.length co43) := (blk_cell BK201.out 1).trans rfl
                    have hfz54_0 := blk_frozen BK201.out 0
                    have hfz54_1 := blk_frozen BK201.out 1
                    have hnb55 := NB196_195.out
                    have hnc55 := NB195_196.out
                    have hcz56_0 : wr.cell? ⟨gb196, 0, none⟩ = some (.string x197000_2) := (blk_cell BK196.out 0).trans rfl
                    have hcz56_1 : wr.cell? ⟨gb196, 1, none⟩ = some (.slice none 0 0) := (blk_cell BK196.out 1).trans rfl
                    have hfz56_0 := blk_frozen BK196.out 0
                    have hfz56_1 := blk_frozen BK196.out 1
                    go_wp2
                    refine bodyPost_ret (results_ct rfl _ _ gb196 58 #[.string (⟨#[115, 117, 109]⟩ : ByteArray), .slice Ao43 x202001_1.length co43] (0, 0) _ rfl (by (with_reducible repeat (first | refine blk_drewN ?_ _ | refine blk_drew ?_ | refine blk_alloc ?_ _)); refine blk_put (cs := #[.string (⟨#[115, 117, 109]⟩ : ByteArray), .slice none 0 0]) ?_ 1 _ rfl; (with_reducible repeat (first | refine blk_drewN ?_ _ | refine blk_drew ?_ | refine blk_alloc ?_ _)); refine blk_put (cs := #[.string x197000_2, .slice none 0 0]) ?_ 0 _ rfl; (with_reducible repeat (first | refine blk_drewN ?_ _ | refine blk_drew ?_ | refine blk_alloc ?_ _)); exact BK196.out) Try.underlying58 rfl (by kernel_rfl)) rfl ?_
                    exact ⟨_, by first | rfl | (simp [errW_none, errW_some] <;> rfl) | (simp [*, errW_none, errW_some] <;> rfl), by (with_reducible repeat (first | apply Kd.R_alloc | apply Kd.R_drewN | apply Kd.R_drew)); exact Kd.R_mono (Kd.R_far (Kd.R_far (Kd.R_types HO_202001.out BK196.out (by decide)) (fun _ hk => hk.2) (.string (⟨#[115, 117, 109]⟩ : ByteArray))) (fun _ hk => hk.2) _) (fun _ hk => trivial), bS HB.out⟩
      · rw [if_neg c5] at H
        exact absurd H (by simp)
    · rw [if_neg c4] at H
      exact absurd H (by simp)
  · replace c3 := Bool.eq_false_iff.mpr c3
    subst c3
    have H1 : (some ((⟨#[]⟩ : ByteArray), ([] : List Int), false)) = some (r1, r2, r3) := by rw [if_neg (show ¬ (false = true) by decide)] at H; exact H
    clear H
    have H := H1
    clear H1
    simp only [Option.some.injEq, Prod.mk.injEq] at H
    obtain ⟨rfl, rfl, rfl⟩ := H
    go_enter Try.func47, Try.ntmps47
    go_wp2_with (first | ((with_reducible refine gate_dst (N := 1) rfl ?_); refine box_event ?hg (N := 1) ?hd (cs := #[.string a0_0, .int .i64 a0_1, .slice A0_2 l0_2.length c0_2]) (t := 50) ?hr ?_; (case hd => rfl); (case hg => rfl); (case hr => first | (go_simp; done) | (go_simp; rfl)); intro gb195 hg w57 hbox hb; have n0_ := AZ (below_step (bS HB.out) hb); have n1_ := AZ (hbox); have n2_ := AZ (geS hg HB.out); have n3_ := AZ (geS hg HB.out); clear HB; have HB := n0_; have BK195 := n1_; have GW195 := n2_; have GE195 := n3_; clear n0_ n1_ n2_ n3_; clear hb hbox hg) | ((with_reducible refine gate_dst (N := 2) rfl ?_); refine box_event ?hg (N := 2) ?hd (cs := #[.string (⟨#[]⟩ : ByteArray), .slice none 0 0]) (t := 58) ?hr ?_; (case hd => rfl); (case hg => rfl); (case hr => first | (go_simp; done) | (go_simp; rfl)); intro gb196 hg w58 hbox hb; have n0_ := blkA BK195 hb; have n1_ := AZ (below_step (bS HB.out) hb); have n2_ := AZ (hbox); have n3_ := AZ (geS hg HB.out); have n4_ := AZ (geS hg HB.out); have n5_ := AZ ((by rw [hg]; exact Nat.ne_of_lt (blkL BK195.out) : gb195 ≠ gb196)); have n6_ := AZ ((by rw [hg]; exact Nat.ne_of_gt (blkL BK195.out) : gb196 ≠ gb195)); clear BK195; clear HB; have BK195 := n0_; have HB := n1_; have BK196 := n2_; have GW196 := n3_; have GE196 := n4_; have NB195_196 := n5_; have NB196_195 := n6_; clear n0_ n1_ n2_ n3_ n4_ n5_ n6_; clear hb hbox hg; have hnb59 := NB195_196.out; have hnc59 := NB196_195.out; have hcz60_0 : w58.cell? ⟨gb195, 0, none⟩ = some (.string a0_0) := (blk_cell BK195.out 0).trans rfl; have hcz60_1 : w58.cell? ⟨gb195, 1, none⟩ = some (.int .i64 a0_1) := (blk_cell BK195.out 1).trans rfl; have hcz60_2 : w58.cell? ⟨gb195, 2, none⟩ = some (.slice A0_2 l0_2.length c0_2) := (blk_cell BK195.out 2).trans rfl; have hfz60_0 := blk_frozen BK195.out 0; have hfz60_1 := blk_frozen BK195.out 1; have hfz60_2 := blk_frozen BK195.out 2) | ((with_reducible refine gate_callee (f := 36) rfl ?_); refine gL (some 12) Try.func36 #[.agg #[.string a0_0, .int .i64 a0_1, .slice A0_2 l0_2.length c0_2]] ?_; (with_reducible refine (impl_IsReport.calls k a0_0 a0_1 _ _ l0_2 false _ ?side1 ?side2 A2.out).mono ?_); (case side1 => exact cS (Kd.C_below HR0_2.out HB.out)); (case side2 => exact HC0_2.out); rintro e w61 ⟨rfl, hb⟩; refine ⟨_, rfl, ?_⟩; have n0_ := blkA BK195 hb; have n1_ := blkA BK196 hb; have n2_ := AZ (below_step (bS HB.out) hb); clear BK195; clear BK196; clear HB; have BK195 := n0_; have BK196 := n1_; have HB := n2_; clear n0_ n1_ n2_; (try clear hb); have hcz62_0 : w61.cell? ⟨gb196, 0, none⟩ = some (.string (⟨#[]⟩ : ByteArray)) := (blk_cell BK196.out 0).trans rfl; have hcz62_1 : w61.cell? ⟨gb196, 1, none⟩ = some (.slice none 0 0) := (blk_cell BK196.out 1).trans rfl; have hfz62_0 := blk_frozen BK196.out 0; have hfz62_1 := blk_frozen BK196.out 1))
    refine bodyPost_ret (results_ct rfl _ _ gb196 58 #[.string (⟨#[]⟩ : ByteArray), .slice none 0 0] (0, 0) _ rfl (by (with_reducible repeat (first | refine blk_drewN ?_ _ | refine blk_drew ?_ | refine blk_alloc ?_ _)); refine blk_put (cs := #[.string (⟨#[]⟩ : ByteArray), .slice none 0 0]) ?_ 1 _ rfl; (with_reducible repeat (first | refine blk_drewN ?_ _ | refine blk_drew ?_ | refine blk_alloc ?_ _)); refine blk_put (cs := #[.string (⟨#[]⟩ : ByteArray), .slice none 0 0]) ?_ 0 _ rfl; (with_reducible repeat (first | refine blk_drewN ?_ _ | refine blk_drew ?_ | refine blk_alloc ?_ _)); exact BK196.out) Try.underlying58 rfl (by kernel_rfl)) rfl ?_
    exact ⟨_, by first | rfl | (simp [errW_none, errW_some] <;> rfl) | (simp [*, errW_none, errW_some] <;> rfl), by first | exact Kd.R_nil _ _ _ _ _ | exact Kd.N_nil _ _ _ _ _ | exact Kd.V_nil _ _ _ _ _ | exact Kd.Q_nil _ _ _ _ _ | exact Kd.S_nil _ _ _ _ _, bS HB.out⟩

end Go.Proofs.Ytoaefflonebgkaa.PFnExactSumRow
