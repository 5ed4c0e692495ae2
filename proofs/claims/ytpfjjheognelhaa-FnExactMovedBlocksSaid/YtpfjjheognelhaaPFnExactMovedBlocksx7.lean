-- Written by a program of this claim (patch_print.py over the print): no hand has typed it.
import Derived.Test.YtpfjjheognelhaaPFnExactMovedBlocksx0
import Derived.Test.YtpfjjheognelhaaPFnExactMovedBlocksx6
namespace Go.Proofs.Ytpfjjheognelhaa.PFnExactMovedBlocks
open Go.RowKit Go.Proofs.YtpfjjheognelhaaW.PrintWords Go.Proofs.YtpfjjheognelhaaW.PrintLast Go.Proofs.YtpfjjheognelhaaW.PrintMore
attribute [local go_sem] max2_int min2_int max_two min_two max_three min_three max_four min_four   -- for this text's walks alone
set_option linter.unusedVariables false
set_option linter.unusedSimpArgs false

/-! ### laws_markIntSS: function 44 -/
/-! ### laws_markIntSS: function 44 -/
def laws_markIntSS.l0 : Nat → List (List Int) → Int → Int → Option (Int × (List (List Int)))
  | 0, _, _, _ => none
  | k + 1, x0, x1, x5 => if x5 < (x0.length : Int) then (if 0 ≤ x5 then ((laws_markIntS.f k (x0.getD x5.toNat []) x1).bind fun bt => laws_markIntSS.l0 k (x0.set x5.toNat bt.2) bt.1 (wrap64 (x5 + 1))) else none) else some (x1, x0)
def laws_markIntSS.f (k : Nat) (l0 : List (List Int)) (a1 : Int) : Option (Int × (List (List Int))) := laws_markIntSS.l0 k l0 a1 0
set_option maxHeartbeats 8000000 in
set_option maxRecDepth 100000 in
theorem laws_markIntSS.calls (k : Nat) (P0_ : Nat → Prop) (u : Value) (l0 : List (List Int)) (a1 : Int) (r1 : Int) (r2 : List (List Int)) (w0 w : World) (hB : Below w0.heap.size w0 w)
    (ho0 : Kd.S (Kd.slice 3 (Kd.int .i64)) 23 w w0.heap.size P0_ u l0) (h : laws_markIntSS.f k l0 a1 = some (r1, r2)) :
    Calls Try.prog 44 #[u, .int .i64 a1] w fun e w' => e = .returned (.int .i64 r1) ∧ Kd.S (Kd.slice 3 (Kd.int .i64)) 23 w' w0.heap.size P0_ u r2 ∧ Below w0.heap.size w0 w' ∧ Kept w w' (fun k_ => P0_ k_) := by
  have HO0 := Aside0.mk ho0
  have HK := AZ (Kept.refl w (fun k_ => P0_ k_))
  have HB := Aside0.mk hB
  clear hB ho0
  have H' := AZ (show laws_markIntSS.l0 k l0 a1 0 = some (r1, r2) from h)
  clear h
  go_enter Try.func44, Try.ntmps44
  go_wp2
  go_loopg [1, 5] k (fun kq v1 v5 w' => ∃ (x0_1 : List (List Int)) (x1_1 : Int) (x5_1 : Int), v1 = .int .i64 x1_1 ∧ v5 = .int .i64 x5_1 ∧ Aside0 (laws_markIntSS.l0 kq x0_1 x1_1 x5_1 = some (r1, r2)) ∧ Aside0 (kq ≤ k) ∧ Aside0 (Kd.S (Kd.slice 3 (Kd.int .i64)) 23 w' w0.heap.size P0_ u x0_1) ∧ Aside0 (Kept w w' (fun k_ => P0_ k_)) ∧ Aside0 (Below w0.heap.size w0 w'))
  case atStart => exact ⟨l0, a1, 0, rfl, rfl, H', ⟨Nat.le_refl _⟩, HO0, HK, HB⟩
  case round =>
    clear H' HO0 HK HB
    obtain ⟨x0_1, x1_1, x5_1, rfl, rfl, HA, HK1, HO_0, HK, HB⟩ := hrel
    cases gk with
    | zero => exact absurd HA.out (by simp [laws_markIntSS.l0])
    | succ k1 =>
      have H := HA.out
      clear HA
      simp only [laws_markIntSS.l0] at H
      by_cases c3 : x5_1 < (x0_1.length : Int)
      · rw [if_pos c3] at H
        by_cases c4 : 0 ≤ x5_1
        · rw [if_pos c4] at H
          replace H := Option.bind_eq_some_iff.mp H
          obtain ⟨⟨t1, t2⟩, h1, H⟩ := H
          have H1 := Aside0.mk h1
          have H' := AZ (show laws_markIntSS.l0 k1 (x0_1.set x5_1.toNat t2) t1 (wrap64 (x5_1 + 1)) = some (r1, r2) from H)
          clear H h1
          obtain ⟨g, cap, e1, gb, gl, cl, HG⟩ := Kd.S_form HO_0.out (by omega)
          have HS := HO_0
          obtain ⟨A0_, C0_, e2⟩ := Kd.S_slice HO_0.out
          subst e2
          (first | cases e1 | (injection e1 with ea_ en_ ec_; (first | subst ea_ | (injection ea_ with ea_; subst ea_)); subst ec_; clear en_))
          clear gb gl cl HG HO_0
          obtain ⟨oki, c, hcl, ⟨v, hcv, hR⟩, hcell, hoki, hH⟩ := Kd.S_lend HS.out [] x5_1 c4 c3
          generalize x0_1.getD x5_1.toNat [] = row at hR H1
          obtain ⟨Av, cv_, ev⟩ := Kd.R_slice hR
          have hcell0 := hcell 0 v (by rw [hcv]; rfl)
          have hown : ∀ k, v.ownBlock = some k → oki k := hR.1
          have hT := Kd.R_tight rfl hR
          have hval : c = [v] := hcv
          subst ev
          have c3b : decide (x5_1 < (x0_1.length : Int)) = true := decide_eq_true c3
          have c4b : decide (0 ≤ x5_1) = true := decide_eq_true c4
          have HH := Aside0.mk hH
          have HT := Aside0.mk hT
          have HV := Aside0.mk hval
          have HOW := Aside0.mk hown
          have HOK := Aside0.mk hoki
          have sz1 : (Kd.slice 3 (Kd.int .i64)).sz = 1 := rfl
          rw [sz1, Nat.mul_one, Nat.add_zero] at hcell0
          clear hH hT hval hown hoki hR hcell hcv hcl sz1
          have p5 := eq_true c4
          have q5 := eq_true c3
          clear c3 c4
          go_wp2_with (go_at_call 39; (with_reducible refine (laws_markIntS.calls k1 (fun k_ => some k_ = (Value.slice Av row.length cv_).ownBlock) _ row x1_1 t1 t2 w0 _ HB.out (Kd.R_mono HT.out (fun _ hk => hk)) H1.out).mono ?_); rintro e w2 ⟨rfl, hr2, hb2, hk2⟩; have HO_0 := AZ (Kd.H_back (Kd.H_kept HH.out hk2 (fun k_ _ hn hs => hn (HOW.out k_ hs.symm))) (x' := t2) (okp := oki) (by rw [HV.out]; exact ⟨_, rfl, Kd.R_mono (Kd.R_tight rfl hr2) (fun k_ hk_ => HOW.out k_ hk_.symm)⟩) (fun _ h => h)); have HB2 := Aside0.mk hb2; have HK2 := AZ (Kept.then_ HK.out hk2 (fun k_ hs => .inl (HOK.out k_ (HOW.out k_ hs.symm)).1)); clear hr2 hb2 hk2)
          go_roundg k1
          case measure => have := HK1.out; omega
          case rel => exact ⟨x0_1.set x5_1.toNat t2, t1, wrap64 (x5_1 + 1), rfl, by first | rfl | (simp; done) | (simp [*]; done), H', ⟨by have := HK1.out; omega⟩, HO_0, HK2, HB2⟩
        · rw [if_neg c4] at H
          exact absurd H (by simp)
      · rw [if_neg c3] at H
        have c3b0 : decide (x5_1 < (x0_1.length : Int)) = false := decide_eq_false c3
        clear c3
        simp only [Option.some.injEq, Prod.mk.injEq] at H
        obtain ⟨rfl, rfl⟩ := H
        obtain ⟨Ao9, co9, eo9⟩ := Kd.S_slice HO_0.out
        subst eo9
        go_wp2
        go_ret
        exact ⟨rfl, HO_0.out, HB.out, HK.out⟩

/-! ### laws_markJob: function 37 -/
/-! ### laws_markJob: function 37 -/
def laws_markJob.f (k : Nat) (l0 : List (List Int)) (l1 l2 : List Int) (a3 a4 a5 a6 a7 a : Int) : Option Int := (laws_markIntSS.f k l0 a).bind fun b0 => (laws_markIntS.f k l1 b0.1).bind fun b1 => (laws_markIntS.f k l2 b1.1).bind fun b2 => some b2.1
set_option maxHeartbeats 8000000 in
set_option maxRecDepth 100000 in
theorem laws_markJob.calls (k : Nat) (P0 : Nat → Prop) (u0 : Value) (l0 : List (List Int)) (P1 : Nat → Prop) (u1 : Value) (l1 : List Int) (P2 : Nat → Prop) (u2 : Value) (l2 : List Int) (a3 a4 a5 a6 a7 a : Int) (r : Int) (w0 w : World) (hB : Below w0.heap.size w0 w)
    (ho0 : Kd.S (Kd.slice 3 (Kd.int .i64)) 23 w w0.heap.size P0 u0 l0) (hp0 : ∀ k, P0 k → k < w.heap.size) (ho1 : Kd.R (Kd.int .i64) 3 w w0.heap.size P1 u1 l1) (hp1 : ∀ k, P1 k → k < w.heap.size) (ho2 : Kd.R (Kd.int .i64) 3 w w0.heap.size P2 u2 l2) (hp2 : ∀ k, P2 k → k < w.heap.size)
    (h01 : ∀ k, P1 k → ¬ P0 k) (h02 : ∀ k, P2 k → ¬ P0 k) (h12 : ∀ k, P2 k → ¬ P1 k)
    (h : laws_markJob.f k l0 l1 l2 a3 a4 a5 a6 a7 a = some r) :
    Calls Try.prog 37 #[.agg #[u0, u1, u2, .int .i64 a3, .int .i64 a4, .int .i64 a5, .int .i64 a6, .int .i64 a7], .int .i64 a] w fun e w' => e = .returned (.int .i64 r) ∧ Below w0.heap.size w0 w' ∧ Kept w w' (fun k_ => P0 k_ ∨ P1 k_ ∨ P2 k_) := by
  unfold laws_markJob.f at h
  replace h := Option.bind_eq_some_iff.mp h
  obtain ⟨⟨b0, m0⟩, e0, h⟩ := h
  replace h := Option.bind_eq_some_iff.mp h
  obtain ⟨⟨b1, m1⟩, e1, h⟩ := h
  replace h := Option.bind_eq_some_iff.mp h
  obtain ⟨⟨b2, m2⟩, e2, h⟩ := h
  have hr := Option.some.inj h
  dsimp only at hr e1 e2
  subst hr
  clear h
  have E0 := Aside0.mk e0
  have E1 := Aside0.mk e1
  have E2 := Aside0.mk e2
  have HO0 := Aside0.mk ho0
  have HO1 := Aside0.mk ho1
  have HO2 := Aside0.mk ho2
  have HB := Aside0.mk hB
  have HP0 := Aside0.mk hp0
  have HP1 := Aside0.mk hp1
  have HP2 := Aside0.mk hp2
  have H01 := Aside0.mk h01
  have H02 := Aside0.mk h02
  have H12 := Aside0.mk h12
  obtain ⟨A0_, c0_, q0⟩ := Kd.S_slice ho0
  obtain ⟨A1_, c1_, q1⟩ := Kd.R_slice ho1
  obtain ⟨A2_, c2_, q2⟩ := Kd.R_slice ho2
  subst q0 q1 q2
  clear ho0 ho1 ho2 hB hp0 hp1 hp2 h01 h02 h12 e0 e1 e2
  have hu := Try.underlying36
  go_enter Try.func37, Try.ntmps37
  go_wp2_with (first | ((with_reducible refine gate_dst (N := 2) rfl ?_); refine box_event ?hg (N := 2) ?hd (cs := #[.slice A0_ l0.length c0_, .slice A1_ l1.length c1_, .slice A2_ l2.length c2_, .int .i64 a3, .int .i64 a4, .int .i64 a5, .int .i64 a6, .int .i64 a7]) (t := 36) ?hr ?_; (case hd => rfl); (case hg => rfl); (case hr => first | (go_simp; done) | (go_simp; rfl)); intro gb hg w3 hbox hb; have GB := Aside0.mk hg; have BK := Aside0.mk hbox; have HBB := AZ (below_step HB.out hb); have n0 := AZ (Kd.S_below HO0.out hb); have n1 := AZ (Kd.R_below HO1.out hb); have n2 := AZ (Kd.R_below HO2.out hb); have HK := AZ (Kept.of_below hb (fun k_ => P0 k_ ∨ P1 k_ ∨ P2 k_)); clear HO0 HO1 HO2 hg hbox hb; have hc0 : w3.cell? ⟨gb, 0, none⟩ = some (.slice A0_ l0.length c0_) := (blk_cell BK.out 0).trans rfl; have hf0 := blk_frozen BK.out 0) | (go_at_call 44; (with_reducible refine (laws_markIntSS.calls k P0 _ l0 a b0 m0 w0 _ HBB.out n0.out E0.out).mono ?_); rintro e w4 ⟨rfl, hs, hb2, hk2⟩; have BK2 := AZ (blk_kept BK.out hk2 (fun hp => by have h1 := HP0.out _ hp; have h2 := GB.out; omega)); have HB2 := Aside0.mk hb2; have o1 := AZ (Kd.R_kept n1.out hk2 H01.out); have o2 := AZ (Kd.R_kept n2.out hk2 H02.out); have HK2 := AZ (Kept.then_ HK.out hk2 (fun k_ h => .inl (.inl h))); clear hs hb2 hk2 n0 n1 n2 BK HBB HK hc0 hf0; have hc0 : w4.cell? ⟨gb, 1, none⟩ = some (.slice A1_ l1.length c1_) := (blk_cell BK2.out 1).trans rfl; have hf0 := blk_frozen BK2.out 1))
  go_wp2_with (go_at_call 39; (with_reducible refine (laws_markIntS.calls k P1 _ l1 b0 b1 m1 w0 _ HB2.out o1.out E1.out).mono ?_); rintro e w5 ⟨rfl, hs, hb3, hk3⟩; have BK3 := AZ (blk_kept BK2.out hk3 (fun hp => by have h1 := HP1.out _ hp; have h2 := GB.out; omega)); have HB3 := Aside0.mk hb3; have o3 := AZ (Kd.R_kept o2.out hk3 H12.out); have HK3 := AZ (Kept.then_ HK2.out hk3 (fun k_ h => .inl (.inr (.inl h)))); clear hs hb3 hk3 o1 o2 BK2 HB2 HK2 hc0 hf0; have hc0 : w5.cell? ⟨gb, 2, none⟩ = some (.slice A2_ l2.length c2_) := (blk_cell BK3.out 2).trans rfl; have hf0 := blk_frozen BK3.out 2)
  go_wp2_with (go_at_call 39; (with_reducible refine (laws_markIntS.calls k P2 _ l2 b1 b2 m2 w0 _ HB3.out o3.out E2.out).mono ?_); rintro e w6 ⟨rfl, hs, hb4, hk4⟩; have HB4 := Aside0.mk hb4; have HK4 := AZ (Kept.then_ HK3.out hk4 (fun k_ h => .inl (.inr (.inr h)))); clear hs hb4 hk4 o3 BK3 HB3 HK3 hc0 hf0)
  go_ret
  exact ⟨rfl, HB4.out, HK4.out⟩

/-! ### laws_markPlan: function 38 -/
def laws_markPlan.f (k : Nat) (a0_0 : Int) (l0_1 : List Int) (a1 : Int) : Option (Int × List Int) := (laws_markIntS.f k l0_1 a1).bind fun bt242 => (some (bt242.1, bt242.2))
set_option maxHeartbeats 8000000 in
set_option maxRecDepth 100000 in
theorem laws_markPlan.calls (k : Nat) (a0_0 : Int) (P0_1_ : Nat → Prop) (u9000_ : Value) (l0_1 : List Int) (a1 : Int) (r1 : Int) (r2 : List Int) (w0 w : World) (hB : Below w0.heap.size w0 w) (ho0_1 : Kd.R (Kd.int .i64) 3 w w0.heap.size P0_1_ u9000_ l0_1) (h : laws_markPlan.f k a0_0 l0_1 a1 = some (r1, r2)) :
    Calls Try.prog 38 #[.agg #[.int .i64 a0_0, u9000_], .int .i64 a1] w fun e w' => e = .returned (.int .i64 r1) ∧ Kd.R (Kd.int .i64) 3 w' w0.heap.size (fun k_ => (P0_1_ k_ ∨ w.heap.size ≤ k_)) u9000_ r2 ∧ Below w0.heap.size w0 w' ∧ Kept w w' (fun k_ => P0_1_ k_) := by
  have hu38 := Try.underlying38
  have HO0_1 := AZ (show Kd.R (Kd.int .i64) 3 w w0.heap.size (fun k_ => (P0_1_ k_ ∨ w.heap.size ≤ k_)) u9000_ l0_1 from Kd.R_mono ho0_1 (fun k_ hk => (.inl hk)))
  have HK := AZ (Kept.refl w (fun k_ => P0_1_ k_))
  have HW0 := Aside0.mk hB.size
  have HB := Aside0.mk hB
  clear hB
  have H : ((laws_markIntS.f k l0_1 a1).bind fun bt242 => (some (bt242.1, bt242.2))) = some (r1, r2) := h
  clear h
  replace H := Option.bind_eq_some_iff.mp H
  obtain ⟨⟨t242, t243⟩, A30, H⟩ := H
  replace H : (some (t242, t243)) = some (r1, r2) := H
  have A3 := Aside0.mk A30
  clear A30
  simp only [Option.some.injEq, Prod.mk.injEq] at H
  obtain ⟨rfl, rfl⟩ := H
  obtain ⟨Ao4, co4, eo4⟩ := Kd.R_slice HO0_1.out
  subst eo4
  go_enter Try.func38, Try.ntmps38
  go_wp2_with (first | ((with_reducible refine gate_dst (N := 2) rfl ?_); refine box_event ?hg (N := 2) ?hd (cs := #[.int .i64 a0_0, .slice Ao4 l0_1.length co4]) (t := 38) ?hr ?_; (case hd => rfl); (case hg => rfl); (case hr => first | (go_simp; done) | (go_simp; rfl)); intro gb241 hg w5 hbox hb; have n0_ := AZ (Kd.R_below (rS HO0_1.out) hb); have n1_ := AZ (Kept.below (S := (fun k_ => P0_1_ k_)) (by repeat (first | (with_reducible first | exact HK.out | apply Kept.alloc | apply Kept.drewN | apply Kept.drew) | exact HK.out)) hb); have n2_ := AZ (below_step (bS HB.out) hb); have n3_ := AZ (hbox); have n4_ := AZ ((by rw [hg]; exact (by first | exact HK.out.1 | exact (show Kept w _ (fun k_ => P0_1_ k_) from by repeat (first | (with_reducible first | exact HK.out | apply Kept.alloc | apply Kept.drewN | apply Kept.drew) | exact HK.out)).1) : w.heap.size ≤ gb241)); have n5_ := AZ (geS hg HB.out); clear HO0_1; clear HK; clear HB; have HO0_1 := n0_; have HK := n1_; have HB := n2_; have BK241 := n3_; have GW241 := n4_; have GE241 := n5_; clear n0_ n1_ n2_ n3_ n4_ n5_; clear hb hbox hg; have hcz6_0 : w5.cell? ⟨gb241, 0, none⟩ = some (.int .i64 a0_0) := (blk_cell BK241.out 0).trans rfl; have hcz6_1 : w5.cell? ⟨gb241, 1, none⟩ = some (.slice Ao4 l0_1.length co4) := (blk_cell BK241.out 1).trans rfl; have hfz6_0 := blk_frozen BK241.out 0; have hfz6_1 := blk_frozen BK241.out 1) | ((with_reducible refine gate_callee (f := 39) rfl ?_); refine gL (some 8) Try.func39 #[.slice Ao4 l0_1.length co4, .int .i64 a1] ?_; (with_reducible refine (laws_markIntS.calls k (fun k_ => some k_ = (.slice Ao4 l0_1.length co4 : Value).ownBlock) (.slice Ao4 l0_1.length co4) l0_1 a1 t242 t243 w0 _ ?side1 ?side2 A3.out).mono ?_); (case side1 => repeat (first | (with_reducible first | exact HB.out | apply below_alloc | apply pw_below_drewN | apply below_drew1 | refine below_set ?_ GE241.out) | exact HB.out)); (case side2 => exact Kd.R_tight rfl HO0_1.out); rintro e w7 ⟨rfl, hy0, hb, hkp⟩; refine ⟨_, rfl, ?_⟩; have n0_ := AZ (Kd.R_reok rfl hy0 (fun k_ e_ => HO0_1.out.1 k_ e_)); have n1_ := AZ (blk_kept (blkS BK241.out) hkp (fun hs_ => (fun e_ => (Kd.R_ne HO0_1.out BK241.out (by decide)) e_) hs_)); have n2_ := AZ (Kept.then_ (S := (fun k_ => P0_1_ k_)) (by repeat (first | (with_reducible first | exact HK.out | apply Kept.alloc | apply Kept.drewN | apply Kept.drew | refine Kept.setCell ?_ (.inr GW241.out) _) | exact HK.out)) hkp (fun k_ hs_ => (fun e_ => (HO0_1.out.1 k_ e_.symm)) hs_)); have n3_ := AZ (hb); clear HO0_1; clear BK241; clear HK; clear HB; have HO0_1 := n0_; have BK241 := n1_; have HK := n2_; have HB := n3_; clear n0_ n1_ n2_ n3_; (try clear hb); (try clear hkp); (try clear hy0)))
  go_ret
  exact ⟨by first | rfl | (simp; done) | (simp [*]; done), by (with_reducible repeat (first | apply Kd.R_alloc | apply Kd.R_drewN | apply Kd.R_drew)); exact HO0_1.out, by repeat (first | (with_reducible first | exact HB.out | apply below_alloc | apply pw_below_drewN | apply below_drew1 | refine below_set ?_ GE241.out) | exact HB.out), by repeat (first | (with_reducible first | exact HK.out | apply Kept.alloc | apply Kept.drewN | apply Kept.drew | refine Kept.setCell ?_ (.inr GW241.out) _) | exact HK.out)⟩

/-! ### laws_heldIntS: function 40 -/
def laws_heldIntS.l0 : Nat → List Int → Int → Int → Option (Int)
  | 0, _, _, _ => none
  | k + 1, x0, x1, x5 => if x5 < (x0.length : Int) then (if 0 ≤ x5 then (if (rd x0 x5) = x1 then (laws_heldIntS.l0 k x0 (wrap64 (x1 + 1)) (wrap64 (x5 + 1))) else (some (-1))) else (none)) else (some x1)
def laws_heldIntS.f (k : Nat) (l0 : List Int) (a1 : Int) : Option (Int) := laws_heldIntS.l0 k l0 a1 0
set_option maxHeartbeats 8000000 in
set_option maxRecDepth 100000 in
theorem laws_heldIntS.calls (k : Nat) (A0 : Option Addr) (c0 : Nat) (l0 : List Int) (a1 : Int) (r : Int) (w : World) (hr0 : Kd.C (Kd.int .i64) w A0 l0.length l0) (hc0 : l0.length ≤ c0) (h : laws_heldIntS.f k l0 a1 = some r) :
    Calls Try.prog 40 #[.slice A0 l0.length c0, .int .i64 a1] w fun e w' => e = .returned (.int .i64 r) ∧ Drawn0 w w' := by
  have HR0 := Aside0.mk hr0
  have HC0 := Aside0.mk hc0
  clear hr0 hc0
  have H : (laws_heldIntS.l0 k l0 a1 0) = some r := h
  clear h
  have H' := Aside0.mk H
  clear H
  go_enter Try.func40, Try.ntmps40
  go_wp2
  go_loopg [1, 5] k (fun kq v1 v5 w' => ∃ (x1_1 : Int) (x5_1 : Int), v1 = .int .i64 x1_1 ∧ v5 = .int .i64 x5_1 ∧ Aside0 (laws_heldIntS.l0 kq l0 x1_1 x5_1 = some r) ∧ Aside0 (kq ≤ k) ∧ Drawn0 w w')
  case atStart => exact ⟨(a1), (0), (by first | rfl | (simp; done) | (simp [*]; done)), (by first | rfl | (simp; done) | (simp [*]; done)), H', ⟨Nat.le_refl _⟩, by repeat (first | exact Drawn0.refl _ | apply Drawn0.step)⟩
  case round =>
    clear H'
    try clear p2
    obtain ⟨x1_1, x5_1, rfl, rfl, HA, HK1, ⟨m1, rfl⟩⟩ := hrel
    cases gk with
    | zero => exact absurd HA.out (by simp [laws_heldIntS.l0])
    | succ k1 =>
      have H := HA.out
      clear HA
      simp only [laws_heldIntS.l0] at H
      by_cases c3 : x5_1 < (l0.length : Int)
      · rw [if_pos c3] at H
        have c3b0 : decide (x5_1 < (l0.length : Int)) = true := decide_eq_true c3
        clear c3
        by_cases c4 : 0 ≤ x5_1
        · rw [if_pos c4] at H
          have c4b0 : decide (0 ≤ x5_1) = true := decide_eq_true c4
          clear c4
          by_cases c5 : (rd l0 x5_1) = x1_1
          · rw [if_pos c5] at H
            have c5b0 : ((rd l0 x5_1) == x1_1) = true := beq_iff_eq.mpr c5
            have c5b1 : ((rd l0 x5_1) != x1_1) = false := bne_eq_false_iff_eq.mpr c5
            clear c5
            have H' := Aside0.mk H
            clear H
            have p244 : 0 ≤ (x5_1 : Int) := of_decide_eq_true (by assumption)
            have q244 : x5_1 < (l0.length : Int) := of_decide_eq_true (by assumption)
            obtain ⟨ad244, e244, hx244_0⟩ := Kd.at_int HR0.out x5_1 p244 q244
            cases e244
            replace p244 := eq_true p244
            replace q244 := eq_true q244
            go_wp2
            go_roundg k1
            case measure => have := HK1.out; omega
            case rel => exact ⟨(wrap64 (x1_1 + 1)), (wrap64 (x5_1 + 1)), (by first | rfl | (simp; done) | (simp [*]; done)), (by first | rfl | (simp; done) | (simp [*]; done)), H', ⟨by have := HK1.out; omega⟩, by repeat (first | exact Drawn0.refl _ | apply Drawn0.step)⟩
          · rw [if_neg c5] at H
            have c5b0 : ((rd l0 x5_1) == x1_1) = false := beq_eq_false_iff_ne.mpr c5
            have c5b1 : ((rd l0 x5_1) != x1_1) = true := bne_iff_ne.mpr c5
            obtain rfl := Option.some.inj H
            have p244 : 0 ≤ (x5_1 : Int) := of_decide_eq_true (by assumption)
            have q244 : x5_1 < (l0.length : Int) := of_decide_eq_true (by assumption)
            obtain ⟨ad244, e244, hx244_0⟩ := Kd.at_int HR0.out x5_1 p244 q244
            cases e244
            replace p244 := eq_true p244
            replace q244 := eq_true q244
            go_wp2
            go_ret
            exact ⟨by first | rfl | (simp; done) | (simp [*]; done), by repeat (first | exact Drawn0.refl _ | apply Drawn0.step)⟩
        · rw [if_neg c4] at H
          exact absurd H (by simp)
      · rw [if_neg c3] at H
        have c3b0 : decide (x5_1 < (l0.length : Int)) = false := decide_eq_false c3
        clear c3
        obtain rfl := Option.some.inj H
        go_wp2
        go_ret
        exact ⟨by first | rfl | (simp; done) | (simp [*]; done), by repeat (first | exact Drawn0.refl _ | apply Drawn0.step)⟩

end Go.Proofs.Ytpfjjheognelhaa.PFnExactMovedBlocks
