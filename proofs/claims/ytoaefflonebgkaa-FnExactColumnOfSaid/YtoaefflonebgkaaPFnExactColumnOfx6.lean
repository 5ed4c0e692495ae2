-- Written by a program of this claim (patch_print.py over the print): no hand has typed it.
import Derived.Test.YtoaefflonebgkaaPFnExactColumnOfx0
import Derived.Test.YtoaefflonebgkaaPFnExactColumnOfx1
import Derived.Test.YtoaefflonebgkaaPFnExactColumnOfx5
namespace Go.Proofs.Ytoaefflonebgkaa.PFnExactColumnOf
open Go.RowKit Go.Proofs.YtoaefflonebgkaaW.PrintWords Go.Proofs.YtoaefflonebgkaaW.PrintLast Go.Proofs.YtoaefflonebgkaaW.PrintMore
attribute [local go_sem] max2_int min2_int max_two min_two max_three min_three max_four min_four   -- for this text's walks alone
set_option linter.unusedVariables false
set_option linter.unusedSimpArgs false

/-! ### impl_ColumnOf: function 39 -/
mutual
def impl_ColumnOf.j0 : Nat → Int → Bool → ByteArray → Int → List (S58) → Option (List Int × Bool)
  | 0, _, _, _, _, _ => none
  | k + 1, x1, x21, x184000, x184001, x184002 => if x21 = true then (some (([] : List Int), false)) else (impl_ColumnOf.l0 k x1 (([] : List Int)) x184002 (x184002.length : Int) 0)
def impl_ColumnOf.l0 : Nat → Int → List Int → List (S58) → Int → Int → Option (List Int × Bool)
  | 0, _, _, _, _, _ => none
  | k + 1, x1, x6, x24, x25, x26 => if x26 < x25 then (if 0 ≤ x26 then (if x26 < (x24.length : Int) then (if 0 ≤ x1 then (if x1 < (((rd_T58 x24 x26).f1).length : Int) then (if x6.length < 17592186044416 then (impl_ColumnOf.l0 k x1 (x6 ++ [rd ((rd_T58 x24 x26).f1) x1]) x24 x25 (wrap64 (x26 + 1))) else (none)) else (none)) else (none)) else (none)) else (none)) else (some (x6, true))
end
def impl_ColumnOf.f (k : Nat) (a0_0 : ByteArray) (a0_1 : Int) (l0_2 : List (S58)) (a1 : Int) : Option (List Int × Bool) := (impl_IsReport.f k a0_0 a0_1 l0_2).bind fun t184 => (if t184 = true then (if a1 < 0 then (impl_ColumnOf.j0 k a1 true a0_0 a0_1 l0_2) else (impl_ColumnOf.j0 k a1 (decide (a1 ≥ a0_1)) a0_0 a0_1 l0_2)) else (impl_ColumnOf.j0 k a1 true a0_0 a0_1 l0_2))
set_option maxHeartbeats 8000000 in
set_option maxRecDepth 100000 in
theorem impl_ColumnOf.calls (k : Nat) (a0_0 : ByteArray) (a0_1 : Int) (A0_2 : Option Addr) (c0_2 : Nat) (l0_2 : List (S58)) (a1 : Int) (r1 : List Int) (r2 : Bool) (w : World) (hr0_2 : Kd.C k58 w A0_2 l0_2.length l0_2) (hc0_2 : l0_2.length ≤ c0_2) (h : impl_ColumnOf.f k a0_0 a0_1 l0_2 a1 = some (r1, r2)) :
    Calls Try.prog 39 #[.agg #[.string a0_0, .int .i64 a0_1, .slice A0_2 l0_2.length c0_2], .int .i64 a1] w fun e w' => ∃ v0_ : Value, e = .returned (.tuple #[v0_, .bool r2]) ∧ Kd.R (Kd.int .i64) 3 w' w.heap.size (fun _ => True) v0_ r1 ∧ Below w.heap.size w w' := by
  have hu50 := Try.underlying50
  have hu58 := Try.underlying58
  have HR0_2 := Aside0.mk hr0_2
  have HC0_2 := Aside0.mk hc0_2
  clear hr0_2 hc0_2
  have HB := AZ (Below.refl w.heap.size w)
  have H : ((impl_IsReport.f k a0_0 a0_1 l0_2).bind fun t184 => (if t184 = true then (if a1 < 0 then (impl_ColumnOf.j0 k a1 true a0_0 a0_1 l0_2) else (impl_ColumnOf.j0 k a1 (decide (a1 ≥ a0_1)) a0_0 a0_1 l0_2)) else (impl_ColumnOf.j0 k a1 true a0_0 a0_1 l0_2))) = some (r1, r2) := h
  clear h
  have HC3 := Aside0.mk H
  clear H
  go_enter Try.func39, Try.ntmps39
  go_upto_region 1 with (first | ((with_reducible refine gate_dst (N := 2) rfl ?_); refine box_event ?hg (N := 2) ?hd (cs := #[.string a0_0, .int .i64 a0_1, .slice A0_2 l0_2.length c0_2]) (t := 50) ?hr ?_; (case hd => rfl); (case hg => rfl); (case hr => first | (go_simp; done) | (go_simp; rfl)); intro gb183 hg w4 hbox hb; have n0_ := AZ (below_step (bS HB.out) hb); have n1_ := AZ (hbox); have n2_ := AZ (geS hg HB.out); have n3_ := AZ (geS hg HB.out); clear HB; have HB := n0_; have BK183 := n1_; have GW183 := n2_; have GE183 := n3_; clear n0_ n1_ n2_ n3_; clear hb hbox hg))
  (try simp only [Act.put, List.setIfInBounds_toArray, List.set_cons_zero, List.set_cons_succ])
  go_cut [21] (fun v21 wc => ∃ (kq : Nat) (x21_2 : Bool), v21 = .bool x21_2 ∧ Aside0 (impl_ColumnOf.j0 kq a1 x21_2 a0_0 a0_1 l0_2 = some (r1, r2)) ∧ Aside0 (kq ≤ k) ∧ Aside0 (wc.heap[gb183]? = some (.cells #[.string a0_0, .int .i64 a0_1, (.slice A0_2 l0_2.length c0_2)] 50 (0, 0))) ∧ Aside0 (Below w.heap.size w wc))
  case first =>
    have H := HC3.out
    clear HC3
    replace H := Option.bind_eq_some_iff.mp H
    obtain ⟨t184, A50, H⟩ := H
    replace H : (if t184 = true then (if a1 < 0 then (impl_ColumnOf.j0 k a1 true a0_0 a0_1 l0_2) else (impl_ColumnOf.j0 k a1 (decide (a1 ≥ a0_1)) a0_0 a0_1 l0_2)) else (impl_ColumnOf.j0 k a1 true a0_0 a0_1 l0_2)) = some (r1, r2) := H
    have A5 := Aside0.mk A50
    clear A50
    by_cases c6 : t184 = true
    · subst c6
      have H1 : (if a1 < 0 then (impl_ColumnOf.j0 k a1 true a0_0 a0_1 l0_2) else (impl_ColumnOf.j0 k a1 (decide (a1 ≥ a0_1)) a0_0 a0_1 l0_2)) = some (r1, r2) := by rw [if_pos rfl] at H; exact H
      clear H
      have H := H1
      clear H1
      by_cases c7 : a1 < 0
      · rw [if_pos c7] at H
        have c7b0 : decide (a1 < 0) = true := decide_eq_true c7
        clear c7
        (first | rw [c7b0] | (simp only [i64_w, i32_w]; rw [c7b0]) | skip)
        have H' := Aside0.mk H
        clear H
        have hcz8_0 : w4.cell? ⟨gb183, 0, none⟩ = some (.string a0_0) := (blk_cell BK183.out 0).trans rfl
        have hcz8_1 : w4.cell? ⟨gb183, 1, none⟩ = some (.int .i64 a0_1) := (blk_cell BK183.out 1).trans rfl
        have hcz8_2 : w4.cell? ⟨gb183, 2, none⟩ = some (.slice A0_2 l0_2.length c0_2) := (blk_cell BK183.out 2).trans rfl
        have hfz8_0 := blk_frozen BK183.out 0
        have hfz8_1 := blk_frozen BK183.out 1
        have hfz8_2 := blk_frozen BK183.out 2
        go_wp2_with (first | ((with_reducible refine gate_callee (f := 36) rfl ?_); refine gL (some 10) Try.func36 #[.agg #[.string a0_0, .int .i64 a0_1, .slice A0_2 l0_2.length c0_2]] ?_; (with_reducible refine (impl_IsReport.calls k a0_0 a0_1 _ _ l0_2 true _ ?side1 ?side2 A5.out).mono ?_); (case side1 => exact cS (Kd.C_below HR0_2.out HB.out)); (case side2 => exact HC0_2.out); rintro e w9 ⟨rfl, hb⟩; refine ⟨_, rfl, ?_⟩; have n0_ := blkA BK183 hb; have n1_ := AZ (below_step (bS HB.out) hb); clear BK183; clear HB; have BK183 := n0_; have HB := n1_; clear n0_ n1_; (try clear hb)))
        go_meet
        case rel => exact ⟨_, (true), (by first | rfl | (simp; done) | (simp [*]; done)), H', ⟨by first | omega | exact Nat.le_refl _⟩, ⟨blkS BK183.out⟩, ⟨bS HB.out⟩⟩
      · rw [if_neg c7] at H
        have c7b0 : decide (a1 < 0) = false := decide_eq_false c7
        clear c7
        (first | rw [c7b0] | (simp only [i64_w, i32_w]; rw [c7b0]) | skip)
        have H' := Aside0.mk H
        clear H
        have hcz10_0 : w4.cell? ⟨gb183, 0, none⟩ = some (.string a0_0) := (blk_cell BK183.out 0).trans rfl
        have hcz10_1 : w4.cell? ⟨gb183, 1, none⟩ = some (.int .i64 a0_1) := (blk_cell BK183.out 1).trans rfl
        have hcz10_2 : w4.cell? ⟨gb183, 2, none⟩ = some (.slice A0_2 l0_2.length c0_2) := (blk_cell BK183.out 2).trans rfl
        have hfz10_0 := blk_frozen BK183.out 0
        have hfz10_1 := blk_frozen BK183.out 1
        have hfz10_2 := blk_frozen BK183.out 2
        go_wp2_with (first | ((with_reducible refine gate_callee (f := 36) rfl ?_); refine gL (some 10) Try.func36 #[.agg #[.string a0_0, .int .i64 a0_1, .slice A0_2 l0_2.length c0_2]] ?_; (with_reducible refine (impl_IsReport.calls k a0_0 a0_1 _ _ l0_2 true _ ?side1 ?side2 A5.out).mono ?_); (case side1 => exact cS (Kd.C_below HR0_2.out HB.out)); (case side2 => exact HC0_2.out); rintro e w11 ⟨rfl, hb⟩; refine ⟨_, rfl, ?_⟩; have n0_ := blkA BK183 hb; have n1_ := AZ (below_step (bS HB.out) hb); clear BK183; clear HB; have BK183 := n0_; have HB := n1_; clear n0_ n1_; (try clear hb); have hcz12_0 : w11.cell? ⟨gb183, 0, none⟩ = some (.string a0_0) := (blk_cell BK183.out 0).trans rfl; have hcz12_1 : w11.cell? ⟨gb183, 1, none⟩ = some (.int .i64 a0_1) := (blk_cell BK183.out 1).trans rfl; have hcz12_2 : w11.cell? ⟨gb183, 2, none⟩ = some (.slice A0_2 l0_2.length c0_2) := (blk_cell BK183.out 2).trans rfl; have hfz12_0 := blk_frozen BK183.out 0; have hfz12_1 := blk_frozen BK183.out 1; have hfz12_2 := blk_frozen BK183.out 2))
        go_meet
        case rel => exact ⟨_, (decide (a1 ≥ a0_1)), (by first | rfl | (simp; done) | (simp [*]; done)), H', ⟨by first | omega | exact Nat.le_refl _⟩, ⟨blkS BK183.out⟩, ⟨bS HB.out⟩⟩
    · replace c6 := Bool.eq_false_iff.mpr c6
      subst c6
      have H1 : (impl_ColumnOf.j0 k a1 true a0_0 a0_1 l0_2) = some (r1, r2) := by rw [if_neg (show ¬ (false = true) by decide)] at H; exact H
      clear H
      have H := H1
      clear H1
      have H' := Aside0.mk H
      clear H
      have hcz13_0 : w4.cell? ⟨gb183, 0, none⟩ = some (.string a0_0) := (blk_cell BK183.out 0).trans rfl
      have hcz13_1 : w4.cell? ⟨gb183, 1, none⟩ = some (.int .i64 a0_1) := (blk_cell BK183.out 1).trans rfl
      have hcz13_2 : w4.cell? ⟨gb183, 2, none⟩ = some (.slice A0_2 l0_2.length c0_2) := (blk_cell BK183.out 2).trans rfl
      have hfz13_0 := blk_frozen BK183.out 0
      have hfz13_1 := blk_frozen BK183.out 1
      have hfz13_2 := blk_frozen BK183.out 2
      go_wp2_with (first | ((with_reducible refine gate_callee (f := 36) rfl ?_); refine gL (some 10) Try.func36 #[.agg #[.string a0_0, .int .i64 a0_1, .slice A0_2 l0_2.length c0_2]] ?_; (with_reducible refine (impl_IsReport.calls k a0_0 a0_1 _ _ l0_2 false _ ?side1 ?side2 A5.out).mono ?_); (case side1 => exact cS (Kd.C_below HR0_2.out HB.out)); (case side2 => exact HC0_2.out); rintro e w14 ⟨rfl, hb⟩; refine ⟨_, rfl, ?_⟩; have n0_ := blkA BK183 hb; have n1_ := AZ (below_step (bS HB.out) hb); clear BK183; clear HB; have BK183 := n0_; have HB := n1_; clear n0_ n1_; (try clear hb)))
      go_meet
      case rel => exact ⟨_, (true), (by first | rfl | (simp; done) | (simp [*]; done)), H', ⟨by first | omega | exact Nat.le_refl _⟩, ⟨blkS BK183.out⟩, ⟨bS HB.out⟩⟩
  case rest =>
    clear HC3
    try clear p2
    try clear c3
    try clear c6
    try clear c7
    try clear c7b0
    try clear hcz10_0
    try clear hcz10_1
    try clear hcz10_2
    try clear hcz12_0
    try clear hcz12_1
    try clear hcz12_2
    try clear hcz13_0
    try clear hcz13_1
    try clear hcz13_2
    try clear hcz8_0
    try clear hcz8_1
    try clear hcz8_2
    try clear hfz10_0
    try clear hfz10_1
    try clear hfz10_2
    try clear hfz12_0
    try clear hfz12_1
    try clear hfz12_2
    try clear hfz13_0
    try clear hfz13_1
    try clear hfz13_2
    try clear hfz8_0
    try clear hfz8_1
    try clear hfz8_2
    obtain ⟨kq, x21_2, rfl, HA, HJ2, BK183, HB⟩ := hcut
    cases kq with
    | zero => exact absurd HA.out (by simp [impl_ColumnOf.j0])
    | succ kj2 =>
      have H := HA.out
      clear HA
      simp only [impl_ColumnOf.j0] at H
      by_cases c15 : x21_2 = true
      · subst c15
        have H1 : (some (([] : List Int), false)) = some (r1, r2) := by rw [if_pos rfl] at H; exact H
        clear H
        have H := H1
        clear H1
        simp only [Option.some.injEq, Prod.mk.injEq] at H
        obtain ⟨rfl, rfl⟩ := H
        go_wp2
        go_ret2
        exact ⟨_, by first | rfl | (simp [errW_none, errW_some] <;> rfl) | (simp [*, errW_none, errW_some] <;> rfl), by first | exact Kd.R_nil _ _ _ _ _ | exact Kd.N_nil _ _ _ _ _ | exact Kd.V_nil _ _ _ _ _ | exact Kd.Q_nil _ _ _ _ _ | exact Kd.S_nil _ _ _ _ _, bS HB.out⟩
      · replace c15 := Bool.eq_false_iff.mpr c15
        subst c15
        have H1 : (impl_ColumnOf.l0 kj2 a1 (([] : List Int)) l0_2 (l0_2.length : Int) 0) = some (r1, r2) := by rw [if_neg (show ¬ (false = true) by decide)] at H; exact H
        clear H
        have H := H1
        clear H1
        obtain ⟨y185, hy185⟩ : ∃ y_ : List Int, y_ = (([] : List Int)) := ⟨_, rfl⟩
        replace H : (impl_ColumnOf.l0 kj2 a1 y185 l0_2 (l0_2.length : Int) 0) = some (r1, r2) := by first | (rw [hy185]; with_reducible exact H) | (have H2_ := (Option.bind_some _ _).symm.trans H; rw [hy185]; with_reducible exact H2_) | (have H2_ := (Option.bind_some _ _).symm.trans H; with_reducible exact H2_) | with_reducible exact H | (rw [hy185]; exact H) | exact H
        have Ny185 := Aside0.mk hy185
        clear hy185
        have H' := Aside0.mk H
        clear H
        go_wp2_with (first | ((with_reducible refine gate_dst (N := 22) rfl ?_); refine Kd.R_lit (Kd.int .i64) _ 3 ?hg (N := 22) ?hd (xs := ([] : List Int)) (inner := []) (ok := fun _ => True) (okp := fun _ => True) ?hr ?hp (fun _ hk => hk) trivial (Below.refl _ _) (Nat.le_refl _) (by simp) ?_; (case hd => rfl); (case hg => rfl); (case hr => first | (go_simp; done) | (go_simp; rfl)); (case hp => exact (Reps.none _ _)); intro v186 w16 ho17 hb hg_ hnew_; clear hg_ hnew_; (first | rw [← Ny185.out] at ho17 | (simp only [Int.reduceToNat] at ho17; rw [← Ny185.out] at ho17)); have n0_ := AZ (Kd.R_lower ho17 (below_size (bS HB.out))); have n1_ := blkA BK183 hb; have n2_ := AZ (below_step (bS HB.out) hb); clear BK183; clear HB; have HO187 := n0_; have BK183 := n1_; have HB := n2_; clear n0_ n1_ n2_; clear hb ho17; have hcz18_0 : w16.cell? ⟨gb183, 0, none⟩ = some (.string a0_0) := (blk_cell BK183.out 0).trans rfl; have hcz18_1 : w16.cell? ⟨gb183, 1, none⟩ = some (.int .i64 a0_1) := (blk_cell BK183.out 1).trans rfl; have hcz18_2 : w16.cell? ⟨gb183, 2, none⟩ = some (.slice A0_2 l0_2.length c0_2) := (blk_cell BK183.out 2).trans rfl; have hfz18_0 := blk_frozen BK183.out 0; have hfz18_1 := blk_frozen BK183.out 1; have hfz18_2 := blk_frozen BK183.out 2))
        go_loopg [6, 26] kj2 (fun kq v6 v26 w' => ∃ (x6_2 : List Int) (x26_2 : Int), v26 = .int .i64 x26_2 ∧ Aside0 (impl_ColumnOf.l0 kq a1 x6_2 l0_2 (l0_2.length : Int) x26_2 = some (r1, r2)) ∧ Aside0 (kq ≤ kj2) ∧ Aside0 (Kd.R (Kd.int .i64) 3 w' w.heap.size (fun _ => True) v6 x6_2) ∧ Aside0 (w'.heap[gb183]? = some (.cells #[.string a0_0, .int .i64 a0_1, (.slice A0_2 l0_2.length c0_2)] 50 (0, 0))) ∧ Aside0 (Below w.heap.size w w'))
        case atStart => exact ⟨(y185), (0), (by first | rfl | (simp; done) | (simp [*]; done)), H', ⟨Nat.le_refl _⟩, ⟨rS HO187.out⟩, ⟨blkS BK183.out⟩, ⟨bS HB.out⟩⟩
        case round =>
          clear H'
          try clear c1
          try clear p2
          try clear c3
          try clear c6
          try clear c7
          try clear c7b0
          try clear c15
          try clear hcz10_0
          try clear hcz10_1
          try clear hcz10_2
          try clear hcz12_0
          try clear hcz12_1
          try clear hcz12_2
          try clear hcz13_0
          try clear hcz13_1
          try clear hcz13_2
          try clear hcz18_0
          try clear hcz18_1
          try clear hcz18_2
          try clear hcz8_0
          try clear hcz8_1
          try clear hcz8_2
          try clear hfz10_0
          try clear hfz10_1
          try clear hfz10_2
          try clear hfz12_0
          try clear hfz12_1
          try clear hfz12_2
          try clear hfz13_0
          try clear hfz13_1
          try clear hfz13_2
          try clear hfz18_0
          try clear hfz18_1
          try clear hfz18_2
          try clear hfz8_0
          try clear hfz8_1
          try clear hfz8_2
          try clear p2
          obtain ⟨x6_2, x26_2, rfl, HA, HK2, HO_6, BK183, HB⟩ := hrel
          cases gk with
          | zero => exact absurd HA.out (by simp [impl_ColumnOf.l0])
          | succ k2 =>
            have H := HA.out
            clear HA
            simp only [impl_ColumnOf.l0] at H
            by_cases c19 : x26_2 < (l0_2.length : Int)
            · rw [if_pos c19] at H
              have c19b0 : decide (x26_2 < (l0_2.length : Int)) = true := decide_eq_true c19
              clear c19
              by_cases c20 : 0 ≤ x26_2
              · rw [if_pos c20] at H
                have c20b0 : decide (0 ≤ x26_2) = true := decide_eq_true c20
                clear c20
                by_cases c21 : x26_2 < (l0_2.length : Int)
                · rw [if_pos c21] at H
                  have c21b0 : decide (x26_2 < (l0_2.length : Int)) = true := decide_eq_true c21
                  clear c21
                  by_cases c22 : 0 ≤ a1
                  · rw [if_pos c22] at H
                    have c22b0 : decide (0 ≤ a1) = true := decide_eq_true c22
                    clear c22
                    by_cases c23 : a1 < (((rd_T58 l0_2 x26_2).f1).length : Int)
                    · rw [if_pos c23] at H
                      have c23b0 : decide (a1 < (((rd_T58 l0_2 x26_2).f1).length : Int)) = true := decide_eq_true c23
                      clear c23
                      by_cases c24 : x6_2.length < 17592186044416
                      · rw [if_pos c24] at H
                        have LMc24 := Aside0.mk c24
                        clear c24
                        obtain ⟨y191, hy191⟩ : ∃ y_ : List Int, y_ = (x6_2 ++ [rd ((rd_T58 l0_2 x26_2).f1) a1]) := ⟨_, rfl⟩
                        replace H : (impl_ColumnOf.l0 k2 a1 y191 l0_2 (l0_2.length : Int) (wrap64 (x26_2 + 1))) = some (r1, r2) := by first | (rw [hy191]; with_reducible exact H) | (have H2_ := (Option.bind_some _ _).symm.trans H; rw [hy191]; with_reducible exact H2_) | (have H2_ := (Option.bind_some _ _).symm.trans H; with_reducible exact H2_) | with_reducible exact H | (rw [hy191]; exact H) | exact H
                        have Ny191 := Aside0.mk hy191
                        clear hy191
                        have H' := Aside0.mk H
                        clear H
                        have p188 : 0 ≤ (x26_2 : Int) := of_decide_eq_true (by assumption)
                        have q188 : x26_2 < (l0_2.length : Int) := of_decide_eq_true (by assumption)
                        obtain ⟨ad188, A188_1, c188_1, e188, hx188_0, hx188_1, hl188_1, hi188_1⟩ := at_T58 HR0_2.out x26_2 p188 q188
                        cases e188
                        replace hx188_0 := (HB.out.cell (World.block_lt_of_cell? w _ hx188_0)).trans hx188_0
                        replace hx188_1 := (HB.out.cell (World.block_lt_of_cell? w _ hx188_1)).trans hx188_1
                        have HR188_1 := Aside0.mk hi188_1
                        have HC188_1 := Aside0.mk hl188_1
                        clear hi188_1 hl188_1
                        replace p188 := eq_true p188
                        replace q188 := eq_true q188
                        go_wp2_with (first | ((with_reducible refine gate_dst (N := 8) rfl ?_); refine box_event ?hg (N := 8) ?hd (cs := #[.string (⟨#[]⟩ : ByteArray), .slice none 0 0]) (t := 58) ?hr ?_; (case hd => rfl); (case hg => rfl); (case hr => first | (go_simp; done) | (go_simp; rfl)); intro gb189 hg w25 hbox hb; have n0_ := AZ (Kd.R_below (rS HO_6.out) hb); have n1_ := blkA BK183 hb; have n2_ := AZ (below_step (bS HB.out) hb); have n3_ := AZ (hbox); have n4_ := AZ (geS hg HB.out); have n5_ := AZ (geS hg HB.out); have n6_ := AZ ((by rw [hg]; exact Nat.ne_of_lt (blkL BK183.out) : gb183 ≠ gb189)); have n7_ := AZ ((by rw [hg]; exact Nat.ne_of_gt (blkL BK183.out) : gb189 ≠ gb183)); clear HO_6; clear BK183; clear HB; have HO_6 := n0_; have BK183 := n1_; have HB := n2_; have BK189 := n3_; have GW189 := n4_; have GE189 := n5_; have NB183_189 := n6_; have NB189_183 := n7_; clear n0_ n1_ n2_ n3_ n4_ n5_ n6_ n7_; clear hb hbox hg; have hnb26 := NB189_183.out; have hnc26 := NB183_189.out; have hcz27_0 : w25.cell? ⟨gb189, 0, none⟩ = some (.string (⟨#[]⟩ : ByteArray)) := (blk_cell BK189.out 0).trans rfl; have hcz27_1 : w25.cell? ⟨gb189, 1, none⟩ = some (.slice none 0 0) := (blk_cell BK189.out 1).trans rfl; have hfz27_0 := blk_frozen BK189.out 0; have hfz27_1 := blk_frozen BK189.out 1; have p190 : 0 ≤ (a1 : Int) := of_decide_eq_true (by assumption); have q190 : a1 < (((rd_T58 l0_2 x26_2).f1).length : Int) := of_decide_eq_true (by assumption); obtain ⟨ad190, e190, hx190_0⟩ := Kd.at_int HR188_1.out a1 p190 q190; cases e190; have hn190_0 : ad190.block ≠ gb189 := Nat.ne_of_lt (Nat.lt_of_lt_of_le (by have := World.block_lt_of_cell? _ _ hx190_0; first | rwa [add_block] at this | exact this) GW189.out); have hn190_1 : ad190.block ≠ gb189 := Nat.ne_of_lt (Nat.lt_of_lt_of_le (by have := World.block_lt_of_cell? _ _ hx190_0; first | rwa [add_block] at this | exact this) GW189.out); replace hx190_0 := (HB.out.cell (World.block_lt_of_cell? w _ hx190_0)).trans hx190_0; replace hx190_0 := (cell_far (p := ⟨gb189, 0, none⟩) (by first | (rw [add_block]; exact hn190_0) | (show (Addr.add _ _).block ≠ _; rw [add_block]; exact hn190_0) | exact hn190_0) (.string ((rd_T58 l0_2 x26_2).f0))).trans hx190_0; replace hx190_0 := (cell_far (p := ⟨gb189, 1, none⟩) (by first | (rw [add_block]; exact hn190_1) | (show (Addr.add _ _).block ≠ _; rw [add_block]; exact hn190_1) | exact hn190_1) (.slice (some ad190) ((rd_T58 l0_2 x26_2).f1).length c188_1)).trans hx190_0; clear hn190_0; clear hn190_1; replace p190 := eq_true p190; replace q190 := eq_true q190) | ((with_reducible refine gate_builtin (b := .append) (xs := #[.tmp 30, .tmp 36]) rfl ?_); at_builtin; refine Kd.R_append (Kd.int .i64) (w0 := w) w.heap.size rfl (.tmp 30) (.tmp 36) 25 3 (.int .i64 0) 8 rfl Try.underlying25 info3 rfl (by decide) (by omega) u6 x6_2 (rd ((rd_T58 l0_2 x26_2).f1) a1) [.int .i64 (rd ((rd_T58 l0_2 x26_2).f1) a1)] (fun _ => True) (fun _ => False) rfl (by first | (go_simp; done) | (go_simp; rfl)) ?aP (fun _ hk => hk.elim) ?aF ?aO ?aB ?aS ?aL ?_; (case aP => exact rfl); (case aB => exact (bS HB.out)); (case aF => exact (fun _ _ => trivial)); (case aO => exact (by (with_reducible repeat (first | apply Kd.R_alloc | apply Kd.R_drewN | apply Kd.R_drew)); exact Kd.R_mono (Kd.R_far (Kd.R_far (Kd.R_types HO_6.out BK189.out (by decide)) (fun _ hk => hk.2) (.string ((rd_T58 l0_2 x26_2).f0))) (fun _ hk => hk.2) (.slice (some ad190) ((rd_T58 l0_2 x26_2).f1).length c188_1)) (fun _ hk => trivial))); (case aS => exact (below_size (bS HB.out))); (case aL => have := LMc24.out; omega); intro v192 w28 ho hb hg hat; rw [← Ny191.out] at ho; have n0_ := AZ (blk_grown (g := gb183) (o := .cells #[.string a0_0, .int .i64 a0_1, .slice (some ad188) l0_2.length c0_2] 50 (0, 0)) (by (with_reducible repeat (first | refine blk_drewN ?_ _ | refine blk_drew ?_ | refine blk_alloc ?_ _)); refine blk_far ?_ NB183_189.out _; (with_reducible repeat (first | refine blk_drewN ?_ _ | refine blk_drew ?_ | refine blk_alloc ?_ _)); refine blk_far ?_ NB183_189.out _; (with_reducible repeat (first | refine blk_drewN ?_ _ | refine blk_drew ?_ | refine blk_alloc ?_ _)); exact BK183.out) hg (Kd.R_ne HO_6.out BK183.out (by decide))); have n1_ := AZ (blk_grown (g := gb189) (o := .cells #[.string ((rd_T58 l0_2 x26_2).f0), .slice (some ad190) ((rd_T58 l0_2 x26_2).f1).length c188_1] 58 (0, 0)) (by (with_reducible repeat (first | refine blk_drewN ?_ _ | refine blk_drew ?_ | refine blk_alloc ?_ _)); refine blk_put (cs := #[.string ((rd_T58 l0_2 x26_2).f0), .slice none 0 0]) ?_ 1 _ rfl; (with_reducible repeat (first | refine blk_drewN ?_ _ | refine blk_drew ?_ | refine blk_alloc ?_ _)); refine blk_put (cs := #[.string (⟨#[]⟩ : ByteArray), .slice none 0 0]) ?_ 0 _ rfl; (with_reducible repeat (first | refine blk_drewN ?_ _ | refine blk_drew ?_ | refine blk_alloc ?_ _)); exact BK189.out) hg (Kd.R_ne HO_6.out BK189.out (by decide))); have n2_ := AZ (hb); have n3_ := AZ (ho); clear BK183; clear BK189; clear HB; clear HO_6; have BK183 := n0_; have BK189 := n1_; have HB := n2_; have HO193 := n3_; clear n0_ n1_ n2_ n3_; clear ho hb hg hat))
                        go_roundg k2
                        case measure => have := HJ2.out; have := HK2.out; omega
                        case rel => exact ⟨(y191), (wrap64 (x26_2 + 1)), (by first | rfl | (simp; done) | (simp [*]; done)), H', ⟨by have := HJ2.out; have := HK2.out; omega⟩, ⟨rS HO193.out⟩, ⟨blkS BK183.out⟩, ⟨bS HB.out⟩⟩
                      · rw [if_neg c24] at H
                        exact absurd H (by simp)
                    · rw [if_neg c23] at H
                      exact absurd H (by simp)
                  · rw [if_neg c22] at H
                    exact absurd H (by simp)
                · rw [if_neg c21] at H
                  exact absurd H (by simp)
              · rw [if_neg c20] at H
                exact absurd H (by simp)
            · rw [if_neg c19] at H
              have c19b0 : decide (x26_2 < (l0_2.length : Int)) = false := decide_eq_false c19
              clear c19
              simp only [Option.some.injEq, Prod.mk.injEq] at H
              obtain ⟨rfl, rfl⟩ := H
              go_wp2
              go_ret2
              exact ⟨_, by first | rfl | (simp [errW_none, errW_some] <;> rfl) | (simp [*, errW_none, errW_some] <;> rfl), by (with_reducible repeat (first | apply Kd.R_alloc | apply Kd.R_drewN | apply Kd.R_drew)); exact HO_6.out, bS HB.out⟩

/-! ### laws_markText: function 104 -/
def laws_markText.l0 : Nat → Int → ByteArray → Option (ByteArray)
  | 0, _, _ => none
  | k + 1, x0, x3 => if x0 > 0 then ((some (([(wrap64 (48 + (Int.tmod x0 10))) % 256] : List Int) : List Int)).bind fun y194 => (if (strOfNums y194).size + x3.size ≤ 9223372036854775807 then (laws_markText.l0 k (wrap64 (Int.tdiv x0 10)) ((strOfNums y194) ++ x3)) else (none))) else (if 1 + x3.size ≤ 9223372036854775807 then (some ((⟨#[109]⟩ : ByteArray) ++ x3)) else (none))
def laws_markText.f (k : Nat) (a0 : Int) : Option (ByteArray) := if a0 ≤ 0 then (some (⟨#[109, 48]⟩ : ByteArray)) else (laws_markText.l0 k a0 (⟨#[]⟩ : ByteArray))
set_option maxHeartbeats 8000000 in
set_option maxRecDepth 100000 in
theorem laws_markText.calls (k : Nat) (a0 : Int) (r : ByteArray) (w : World) (h : laws_markText.f k a0 = some r) :
    Calls Try.prog 104 #[.int .i64 a0] w fun e w' => e = .returned (.string r) ∧ Below w.heap.size w w' := by
  have HB := AZ (Below.refl w.heap.size w)
  have H : (if a0 ≤ 0 then (some (⟨#[109, 48]⟩ : ByteArray)) else (laws_markText.l0 k a0 (⟨#[]⟩ : ByteArray))) = some r := h
  clear h
  by_cases c2 : a0 ≤ 0
  · rw [if_pos c2] at H
    have c2b0 : decide (a0 ≤ 0) = true := decide_eq_true c2
    clear c2
    obtain rfl := Option.some.inj H
    go_enter Try.func104, Try.ntmps104
    go_wp2
    go_ret
    exact ⟨by first | rfl | (simp; done) | (simp [*]; done), bS HB.out⟩
  · rw [if_neg c2] at H
    have c2b0 : decide (a0 ≤ 0) = false := decide_eq_false c2
    clear c2
    have H' := Aside0.mk H
    clear H
    go_enter Try.func104, Try.ntmps104
    go_wp2
    go_loopg [0, 3] k (fun kq v0 v3 w' => ∃ (x0_1 : Int) (x3_1 : ByteArray), v0 = .int .i64 x0_1 ∧ v3 = .string x3_1 ∧ Aside0 (laws_markText.l0 kq x0_1 x3_1 = some r) ∧ Aside0 (kq ≤ k) ∧ Aside0 (Below w.heap.size w w'))
    case atStart => exact ⟨(a0), ((⟨#[]⟩ : ByteArray)), (by first | rfl | (simp; done) | (simp [*]; done)), (by first | rfl | (simp; done) | (simp [*]; done)), H', ⟨Nat.le_refl _⟩, ⟨bS HB.out⟩⟩
    case round =>
      clear H'
      try clear c1
      try clear c2
      try clear c2b0
      try clear p2
      obtain ⟨x0_1, x3_1, rfl, rfl, HA, HK1, HB⟩ := hrel
      cases gk with
      | zero => exact absurd HA.out (by simp [laws_markText.l0])
      | succ k1 =>
        have H := HA.out
        clear HA
        simp only [laws_markText.l0] at H
        by_cases c3 : x0_1 > 0
        · rw [if_pos c3] at H
          have c3b0 : decide (0 < x0_1) = true := decide_eq_true c3
          clear c3
          obtain ⟨y194, hy194⟩ : ∃ y_ : List Int, y_ = (([(wrap64 (48 + (Int.tmod x0_1 10))) % 256] : List Int)) := ⟨_, rfl⟩
          replace H : (if (strOfNums y194).size + x3_1.size ≤ 9223372036854775807 then (laws_markText.l0 k1 (wrap64 (Int.tdiv x0_1 10)) ((strOfNums y194) ++ x3_1)) else (none)) = some r := by first | (rw [hy194]; with_reducible exact H) | (have H2_ := (Option.bind_some _ _).symm.trans H; rw [hy194]; with_reducible exact H2_) | (have H2_ := (Option.bind_some _ _).symm.trans H; with_reducible exact H2_) | with_reducible exact H | (rw [hy194]; exact H) | exact H
          have Ny194 := Aside0.mk hy194
          clear hy194
          by_cases c4 : (strOfNums y194).size + x3_1.size ≤ 9223372036854775807
          · rw [if_pos c4] at H
            have c4b0 := eq_true c4
            have c4b1 : decide ((strOfNums y194).size + x3_1.size ≤ 9223372036854775807) = true := decide_eq_true c4
            try have c4b2 : (9223372036854775807 < (strOfNums y194).size + x3_1.size) = False := eq_false (Nat.not_lt.2 c4)
            have H' := Aside0.mk H
            clear H
            go_wp2_with (first | ((with_reducible refine gate_dst (N := 12) rfl ?_); refine Kd.R_lit (Kd.int .u8) _ 5 ?hg (N := 12) ?hd (xs := ([(wrap64 (48 + (Int.tmod x0_1 10))) % 256] : List Int)) (inner := [.int .u8 ((wrap64 (48 + (Int.tmod x0_1 10))) % 256)]) (ok := fun _ => True) (okp := fun _ => True) ?hr ?hp (fun _ hk => hk) trivial (Below.refl _ _) (Nat.le_refl _) (by simp) ?_; (case hd => rfl); (case hg => rfl); (case hr => first | (go_simp; done) | (go_simp; rfl)); (case hp => exact (Reps.one (show Kd.M (Kd.int .u8) _ _ _ ((wrap64 (48 + (Int.tmod x0_1 10))) % 256) [.int .u8 ((wrap64 (48 + (Int.tmod x0_1 10))) % 256)] from rfl) (Reps.none _ _))); intro v195 w5 ho6 hb hg_ hnew_; clear hg_ hnew_; (first | rw [← Ny194.out] at ho6 | (simp only [Int.reduceToNat] at ho6; rw [← Ny194.out] at ho6)); have n0_ := AZ (Kd.R_lower ho6 (below_size (bS HB.out))); have n1_ := AZ (below_step (bS HB.out) hb); clear HB; have HO196 := n0_; have HB := n1_; clear n0_ n1_; clear hb ho6; have hcv7 := own_string (P := Try.prog) Try.underlying120 Try.underlying5 Try.underlying9 (Kd.own_of_R HO196.out)))
            go_roundg k1
            case measure => have := HK1.out; omega
            case rel => exact ⟨(wrap64 (Int.tdiv x0_1 10)), ((strOfNums y194) ++ x3_1), (by first | rfl | (simp; done) | (simp [*]; done)), (by first | rfl | (simp; done) | (simp [*]; done)), H', ⟨by have := HK1.out; omega⟩, ⟨bS HB.out⟩⟩
          · rw [if_neg c4] at H
            exact absurd H (by simp)
        · rw [if_neg c3] at H
          have c3b0 : decide (0 < x0_1) = false := decide_eq_false c3
          clear c3
          by_cases c8 : 1 + x3_1.size ≤ 9223372036854775807
          · rw [if_pos c8] at H
            have c8b0 := eq_true c8
            have c8b1 : decide (1 + x3_1.size ≤ 9223372036854775807) = true := decide_eq_true c8
            try have c8b2 : (9223372036854775807 < 1 + x3_1.size) = False := eq_false (Nat.not_lt.2 c8)
            obtain rfl := Option.some.inj H
            go_wp2
            go_ret
            exact ⟨by first | rfl | (simp; done) | (simp [*]; done), bS HB.out⟩
          · rw [if_neg c8] at H
            exact absurd H (by simp)

/-! ### laws_markRowS: function 81 -/
/-! ### laws_markRowS: function 81 -/
def laws_markRowS.l0 : Nat → List S58 → Int → Int → Option (Int × (List S58))
  | 0, _, _, _ => none
  | k + 1, x0, x1, x5 => if x5 < (x0.length : Int) then (if 0 ≤ x5 then ((laws_markText.f k x1).bind fun s => (laws_markIntS.f k (rd_T58 x0 x5).f1 (wrap64 (x1 + 1))).bind fun bt => laws_markRowS.l0 k (x0.set x5.toNat ⟨s, bt.2⟩) bt.1 (wrap64 (x5 + 1))) else none) else some (x1, x0)
def laws_markRowS.f (k : Nat) (l0 : List S58) (a1 : Int) : Option (Int × (List S58)) := laws_markRowS.l0 k l0 a1 0
theorem rd_set_T' {α : Type} (xs : List α) (i : Nat) (v d : α) (h : i < xs.length) : (xs.set i v).getD i d = v := by
  rw [List.getD_eq_getElem?_getD, List.getElem?_set_self h]
  rfl
set_option maxHeartbeats 8000000 in
set_option maxRecDepth 100000 in
theorem laws_markRowS.calls (k : Nat) (P0_ : Nat → Prop) (u : Value) (l0 : List S58) (a1 : Int) (r1 : Int) (r2 : List S58) (w0 w : World) (hB : Below w0.heap.size w0 w)
    (ho0 : Kd.S k58 58 w w0.heap.size P0_ u l0) (h : laws_markRowS.f k l0 a1 = some (r1, r2)) :
    Calls Try.prog 81 #[u, .int .i64 a1] w fun e w' => e = .returned (.int .i64 r1) ∧ Kd.S k58 58 w' w0.heap.size P0_ u r2 ∧ Below w0.heap.size w0 w' ∧ Kept w w' (fun k_ => P0_ k_) := by
  have HO0 := Aside0.mk ho0
  have HK := AZ (Kept.refl w (fun k_ => P0_ k_))
  have HB := Aside0.mk hB
  clear hB ho0
  have H' := AZ (show laws_markRowS.l0 k l0 a1 0 = some (r1, r2) from h)
  clear h
  have hu := Try.underlying58
  go_enter Try.func81, Try.ntmps81
  go_wp2
  go_loopg [1, 5] k (fun kq v1 v5 w' => ∃ (x0_1 : List S58) (x1_1 : Int) (x5_1 : Int), v1 = .int .i64 x1_1 ∧ v5 = .int .i64 x5_1 ∧ Aside0 (laws_markRowS.l0 kq x0_1 x1_1 x5_1 = some (r1, r2)) ∧ Aside0 (kq ≤ k) ∧ Aside0 (Kd.S k58 58 w' w0.heap.size P0_ u x0_1) ∧ Aside0 (Kept w w' (fun k_ => P0_ k_)) ∧ Aside0 (Below w0.heap.size w0 w'))
  case atStart => exact ⟨l0, a1, 0, rfl, rfl, H', ⟨Nat.le_refl _⟩, HO0, HK, HB⟩
  case round =>
    clear H' HO0 HK HB
    obtain ⟨x0_1, x1_1, x5_1, rfl, rfl, HA, HK1, HO_0, HK, HB⟩ := hrel
    cases gk with
    | zero => exact absurd HA.out (by simp [laws_markRowS.l0])
    | succ k1 =>
      have H := HA.out
      clear HA
      simp only [laws_markRowS.l0] at H
      by_cases c3 : x5_1 < (x0_1.length : Int)
      · rw [if_pos c3] at H
        by_cases c4 : 0 ≤ x5_1
        · rw [if_pos c4] at H
          replace H := Option.bind_eq_some_iff.mp H
          obtain ⟨s, hs1, H⟩ := H
          replace H := Option.bind_eq_some_iff.mp H
          obtain ⟨⟨t1, t2⟩, h1, H⟩ := H
          have HT1 := Aside0.mk hs1
          have H1 := Aside0.mk h1
          have H' := AZ (show laws_markRowS.l0 k1 (x0_1.set x5_1.toNat ⟨s, t2⟩) t1 (wrap64 (x5_1 + 1)) = some (r1, r2) from H)
          clear H h1 hs1
          obtain ⟨g, cap, e1, gb, gl, cl, HG⟩ := Kd.S_form HO_0.out (by omega)
          obtain ⟨A0_, C0_, e2⟩ := Kd.S_slice HO_0.out
          subst e2
          (first | cases e1 | (injection e1 with ea_ en_ ec_; (first | subst ea_ | (injection ea_ with ea_; subst ea_)); subst ec_; clear en_))
          have GB := Aside0.mk gb
          have HMine := AZ (show P0_ g from HO_0.out.elim (fun f h => h.1 g rfl))
          clear gb gl cl HG
          have HI := AZ (And.intro c4 c3)
          have c3b : decide (x5_1 < (x0_1.length : Int)) = true := decide_eq_true c3
          have c4b : decide (0 ≤ x5_1) = true := decide_eq_true c4
          have p5 := eq_true c4
          have q5 := eq_true c3
          clear c3 c4
          have hlen : (x0_1.set x5_1.toNat ⟨s, (rd_T58 x0_1 x5_1).f1⟩).length = x0_1.length := List.length_set
          have HL := Aside0.mk hlen
          clear hlen
          go_wp2_with (first | ((with_reducible refine gate_callee (f := 104) rfl ?_); refine gL (some 15) Try.func104 #[.int .i64 x1_1] ?_; (with_reducible refine (laws_markText.calls k1 x1_1 s _ HT1.out).mono ?_); rintro e w2 ⟨rfl, hb⟩; refine ⟨_, rfl, ?_⟩; have n0 := AZ (Kd.S_below HO_0.out hb); have n1 := AZ (below_step HB.out hb); have n2 := AZ (Kept.below HK.out hb); clear HO_0 HB HK hb; obtain ⟨oki, c, hcl, hM, hcell, hfr, hoki, hH⟩ := Kd.S_elem (Kd.S_mono (ok' := fun k => P0_ k ∧ ¬ False) n0.out (fun k hk => ⟨hk, fun h => h⟩)) z58 x5_1 HI.out.1 HI.out.2; obtain ⟨_, _, rfl, rfl, ⟨v, rfl, hR⟩⟩ := hM; have hx := hcell 0 _ rfl; have hf := hfr 0; have HH := Aside0.mk hH; have HR := Aside0.mk hR; have hsz : (k58).sz = 2 := rfl; rw [hsz, Nat.add_zero] at hx hf; have HP := AZ (Kd.S_seg (okg := fun _ => False) (ok := P0_) HH.out HI.out.1 HI.out.2 (seg := [.string s]) (j := 0) (show 0 + 1 ≤ 2 from by decide) (x' := ⟨s, (rd_T58 x0_1 x5_1).f1⟩) (okp := oki) ⟨[.string s], [v], rfl, rfl, ⟨v, rfl, HR.out⟩⟩ (fun k hk => .inl hk) (fun k hk => hk.elim)); have NX1 := n1; have NX2 := n2; clear hcl hcell hfr hoki hH hR hsz HH HR n0 n1 n2) | ((with_reducible refine gate_store (t := 9) (p := 17) rfl ?_); refine store_event (t := 9) (p := 17) (v := ?vo) (w1 := w2.setCell ⟨g, x5_1.toNat * 2, none⟩ (.string s)) ?hg ?ho ?hn ?hr ?_; (case ho => rfl); (case hg => rfl); (case hn => rfl); (case hr => first | (go_simp; done) | (go_simp; rfl)); intro w3 hw; have q1 := AZ (show Kd.S k58 58 w3 w0.heap.size P0_ (.slice (some ⟨g, 0, none⟩) x0_1.length cap) (x0_1.set x5_1.toNat ⟨s, (rd_T58 x0_1 x5_1).f1⟩) from by rw [hw]; exact HP.out.1); have HB3 := AZ (show Below w0.heap.size w0 w3 from by rw [hw]; exact below_set NX1.out GB.out); have HK3 := AZ (show Kept w w3 (fun k_ => P0_ k_) from by rw [hw]; exact Kept.setCell NX2.out (.inl HMine.out) _); clear HP NX1 NX2 hw hx hf; obtain ⟨oki2, c2, hcl2, hM2, hcell2, hoki2, hH2⟩ := Kd.S_lend q1.out z58 x5_1 HI.out.1 HI.out.2; have HE := AZ (rd_set_T' x0_1 x5_1.toNat ⟨s, (rd_T58 x0_1 x5_1).f1⟩ z58 (by have := HI.out; omega)); rw [HE.out] at hM2; clear HE q1; obtain ⟨_, _, rfl, rfl, ⟨v2, rfl, hR2⟩⟩ := hM2; have hx2 := hcell2 1 _ rfl; have hsz2 : (k58).sz = 2 := rfl; rw [hsz2] at hx2; obtain ⟨Av, cv_, ev⟩ := Kd.R_slice hR2; subst ev; have HT := AZ (Kd.R_tight rfl hR2); have HOW := Aside0.mk hR2.1; have HH2 := Aside0.mk hH2; have HOK := Aside0.mk hoki2; clear hcl2 hcell2 hoki2 hH2 hsz2 hR2) | (go_at_call 25; (with_reducible refine (laws_markIntS.calls k1 (fun k_ => some k_ = (Value.slice Av ((rd_T58 x0_1 x5_1).f1).length cv_).ownBlock) _ _ (wrap64 (x1_1 + 1)) t1 t2 w0 _ HB3.out (Kd.R_mono HT.out (fun _ hk => hk)) H1.out).mono ?_); rintro e w4 ⟨rfl, hr2, hb2, hk2⟩; have HO_0 := AZ (Kd.H_back (Kd.H_kept HH2.out hk2 (fun k_ _ hn hs => hn (HOW.out k_ hs.symm))) (x' := ⟨s, t2⟩) (okp := oki2) ⟨_, _, rfl, rfl, ⟨_, rfl, Kd.R_mono (Kd.R_tight rfl hr2) (fun k_ hk_ => HOW.out k_ hk_.symm)⟩⟩ (fun _ h => h)); have HB2 := Aside0.mk hb2; have HK2 := AZ (Kept.then_ HK3.out hk2 (fun k_ hs => .inl (HOK.out k_ (HOW.out k_ hs.symm)).1)); clear hr2 hb2 hk2))
          rw [List.set_set] at HO_0
          go_roundg k1
          case measure => have := HK1.out; omega
          case rel => exact ⟨x0_1.set x5_1.toNat ⟨s, t2⟩, t1, wrap64 (x5_1 + 1), rfl, by first | rfl | (simp; done) | (simp [*]; done), H', ⟨by have := HK1.out; omega⟩, HO_0, HK2, HB2⟩
        · rw [if_neg c4] at H
          exact absurd H (by simp)
      · rw [if_neg c3] at H
        have c3b0 : decide (x5_1 < (x0_1.length : Int)) = false := decide_eq_false c3
        clear c3
        simp only [Option.some.injEq, Prod.mk.injEq] at H
        obtain ⟨rfl, rfl⟩ := H
        obtain ⟨Ao9, co9, eo9⟩ := Kd.S_slice HO_0.out
        subst eo9
        go_wp2
        go_ret
        exact ⟨rfl, HO_0.out, HB.out, HK.out⟩

/-! ### laws_markReport: function 40 -/
/-! ### laws_markReport: function 40 -/
def laws_markReport.f (k : Nat) (a0 : ByteArray) (a1 : Int) (l2 : List S58) (a : Int) : Option Int := (laws_markRowS.f k l2 a).bind fun b => some b.1
set_option maxHeartbeats 8000000 in
set_option maxRecDepth 100000 in
theorem laws_markReport.calls (k : Nat) (a0 : ByteArray) (a1 : Int) (P0 : Nat → Prop) (u0 : Value) (l2 : List S58) (a : Int) (r : Int) (w0 w : World) (hB : Below w0.heap.size w0 w)
    (ho0 : Kd.S k58 58 w w0.heap.size P0 u0 l2) (hp0 : ∀ k, P0 k → k < w.heap.size)
    (h : laws_markReport.f k a0 a1 l2 a = some r) :
    Calls Try.prog 40 #[.agg #[.string a0, .int .i64 a1, u0], .int .i64 a] w fun e w' => e = .returned (.int .i64 r) ∧ Below w0.heap.size w0 w' ∧ Kept w w' (fun k_ => P0 k_) := by
  unfold laws_markReport.f at h
  replace h := Option.bind_eq_some_iff.mp h
  obtain ⟨⟨b0, m0⟩, e0, h⟩ := h
  have hr := Option.some.inj h
  dsimp only at hr
  subst hr
  clear h
  have E0 := Aside0.mk e0
  have HO0 := Aside0.mk ho0
  have HB := Aside0.mk hB
  have HP0 := Aside0.mk hp0
  obtain ⟨A0_, c0_, q0⟩ := Kd.S_slice ho0
  subst q0
  clear ho0 hB hp0 e0
  have hu := Try.underlying50
  go_enter Try.func40, Try.ntmps40
  go_wp2_with (first | ((with_reducible refine gate_dst (N := 2) rfl ?_); refine box_event ?hg (N := 2) ?hd (cs := #[.string a0, .int .i64 a1, .slice A0_ l2.length c0_]) (t := 50) ?hr ?_; (case hd => rfl); (case hg => rfl); (case hr => first | (go_simp; done) | (go_simp; rfl)); intro gb hg w3 hbox hb; have BK := Aside0.mk hbox; have HBB := AZ (below_step HB.out hb); have n0 := AZ (Kd.S_below HO0.out hb); have HK := AZ (Kept.of_below hb (fun k_ => P0 k_)); clear HO0 hg hbox hb; have hc0 : w3.cell? ⟨gb, 2, none⟩ = some (.slice A0_ l2.length c0_) := (blk_cell BK.out 2).trans rfl; have hf0 := blk_frozen BK.out 2) | ((with_reducible refine gate_callee (f := 81) rfl ?_); refine goesL_ _ rfl rfl Try.func81 (by kernel_rfl) rfl #[.slice A0_ l2.length c0_, .int .i64 a] rfl (by (try simp only [List.map_toArray, List.map_cons, List.map_nil]); first | done | rfl) ?_; (with_reducible refine (laws_markRowS.calls k P0 _ l2 a b0 m0 w0 _ HBB.out n0.out E0.out).mono ?_); rintro e w4 ⟨rfl, hs, hb2, hk2⟩; refine ⟨_, rfl, ?_⟩; have HB2 := Aside0.mk hb2; have HK2 := AZ (Kept.then_ HK.out hk2 (fun k_ h => .inl h)); clear hs hb2 hk2 n0 BK HBB HK hc0 hf0))
  go_ret
  exact ⟨rfl, HB2.out, HK2.out⟩

end Go.Proofs.Ytoaefflonebgkaa.PFnExactColumnOf
