/- For every input the law FnExactWorthBetween returns true, and each argument reads afterwards as it read before. Conditions: none. -/
import Derived.Test.YtpfjjheognelhaaRows
import Derived.Test.YtpfjjheognelhaaSFnExactWorthBetween
import Derived.Test.YtpfjjheognelhaaPureFnExactWorthBetween
import Derived.WalkKit
import Derived.ProofKit
import Derived.OpenShut
import Derived.ShutString
import Derived.ChangeOld
import Derived.Below
import Derived.SizedLaws
import Derived.Lib.SmallJoins
namespace Go.Proofs.Ytpfjjheognelhaa.RFnExactWorthBetween
open Go.ChangeShapes Go.WideShapes Go.ChangeAt Go.RowKit Go.Proofs.Ytpfjjheognelhaa.PFnExactWorthBetween Go.Proofs.YtpfjjheognelhaaW.PrintWords Go.Proofs.Ytpfjjheognelhaa.SFnExactWorthBetween
open Go.ChangeMaps (open_string shut_string)
set_option linter.unusedVariables false
theorem own : ownKnob Try.prog.godebug = none := by kernel_rfl
theorem laidOut : laidOutB Try.prog = true := by kernel_rfl
set_option maxRecDepth 100000 in
theorem lifted (os : Os) (started : os.Started) (H : Type) (enc : TypeId × Value → H) :
    ReturnsInHanded {} Try.checked os 9 .any (Rows.fnExactWorthBetweenSpec.pre6 enc Try.prog Try.f9 Rows.fnExactWorthBetweenRow.domain false) (Rows.fnExactWorthBetweenSpec.post enc Try.prog Try.f9 false true false false) := by
  refine returnsInHanded_of_change_sized (C := Try.checked) own started (by kernel_rfl) Try.func9
    (ChangeSpec.witness6 (enc := enc) (C := Try.checked) false ⟨#[], #[.agg #[.slice none 0 0, .slice none 0 0, .slice none 0 0, .int .i64 0, .int .i64 0, .int .i64 0, .int .i64 0, .int .i64 0], .agg #[.int .i64 0, .slice none 0 0], .agg #[.int .i64 0, .slice none 0 0]], []⟩ 8 (by kernel_rfl) (by kernel_rfl) (by kernel_rfl) (by kernel_rfl)) ?_
  intro W base args ds gs before hval0 hW hcnd hsz0 _
  have hval : ∀ (j : Nat) t v, Try.f9.params[j]? = some t → args[j]? = some v → Value.okWide Try.prog W .any base t v := hval0
  have hW' := hW
  obtain ⟨p, q, hA0, hV, rfl, hfz, hnd⟩ := hW
  have hA : DataW.TrodAll enc Try.prog W 0 (fun _ => true) true Try.f9.params.toList args.toList ds p := hA0
  rw [Try.params9] at hA hval
  obtain ⟨v0, vs0, d0, ds0, p0, q0, hargs, rfl, rfl, h0, r0⟩ := trodAll_cons hA
  obtain ⟨v1, vs1, d1, ds1, p1, q1, rfl, rfl, rfl, h1, r1⟩ := trodAll_cons r0
  obtain ⟨v2, vs2, d2, ds2, p2, q2, rfl, rfl, rfl, h2, r2⟩ := trodAll_cons r1
  obtain ⟨rfl, rfl, rfl⟩ := trodAll_nil r2
  obtain rfl : args = #[v0, v1, v2] := by cases args; simp_all
  obtain ⟨rfl, rfl⟩ := trodVars_none hV
  obtain ⟨cs0, rfl, hsz0⟩ := okWide_struct Try.underlying27 (hval 0 27 v0 rfl rfl)
  have k0 := h0
  have lt0 : ∀ x ∈ p0, x.block < W.heap.size := by obtain ⟨m, hm⟩ := k0; exact DataW.trod_lt m _ _ _ hm
  obtain ⟨⟨l0_0, l0_1, l0_2, ⟨a0_3, a0_4⟩, a0_5, a0_6, a0_7⟩, hK0, ⟨q0_0, q0_1, q0_2, ⟨q0_3, q0_4⟩, q0_5, q0_6, q0_7⟩⟩ := Op.par_struct (Op.opens_struct (Op.fo_cons (Op.opens_slice (e' := 23) (Op.opens_slice (e' := 3) (Op.opens_i64 Try.underlying3) Try.underlying23 (by kernel_rfl)) Try.underlying22 (by kernel_rfl)) (Op.fo_cons (Op.opens_slice (e' := 3) (Op.opens_i64 Try.underlying3) Try.underlying23 (by kernel_rfl)) (Op.fo_cons (Op.opens_slice (e' := 3) (Op.opens_i64 Try.underlying3) Try.underlying23 (by kernel_rfl)) (Op.fo_cons (Op.opens_struct (Op.fo_cons (Op.opens_i64 Try.underlying3) (Op.fo_one (Op.opens_i64 Try.underlying3))) Try.underlying25 rfl (by kernel_rfl) (by kernel_rfl)) (Op.fo_cons (Op.opens_i64 Try.underlying3) (Op.fo_cons (Op.opens_i64 Try.underlying3) (Op.fo_one (Op.opens_i64 Try.underlying3)))))))) Try.underlying27 rfl (by kernel_rfl) (by kernel_rfl)) h0
  obtain ⟨_, _, hcs0, ⟨A0_0, c0_0, rfl, hl0_0, hC0_0⟩, ⟨_, _, rfl, ⟨A0_1, c0_1, rfl, hl0_1, hC0_1⟩, ⟨_, _, rfl, ⟨A0_2, c0_2, rfl, hl0_2, hC0_2⟩, ⟨_, _, rfl, ⟨_, _, rfl, rfl, rfl⟩, ⟨_, _, rfl, rfl, ⟨_, _, rfl, rfl, rfl⟩⟩⟩⟩⟩⟩ := hK0
  obtain rfl : cs0 = #[.slice A0_0 l0_0.length c0_0, .slice A0_1 l0_1.length c0_1, .slice A0_2 l0_2.length c0_2, .int .i64 a0_3, .int .i64 a0_4, .int .i64 a0_5, .int .i64 a0_6, .int .i64 a0_7] := Op.arr_of hcs0
  obtain ⟨cs1, rfl, hsz1⟩ := okWide_struct Try.underlying29 (hval 1 29 v1 rfl rfl)
  have k1 := h1
  have lt1 : ∀ x ∈ p1, x.block < W.heap.size := by obtain ⟨m, hm⟩ := k1; exact DataW.trod_lt m _ _ _ hm
  obtain ⟨⟨a1_0, l1_1⟩, hK1, ⟨q1_0, q1_1⟩⟩ := Op.par_struct (Op.opens_struct (Op.fo_cons (Op.opens_i64 Try.underlying3) (Op.fo_one (Op.opens_slice (e' := 3) (Op.opens_i64 Try.underlying3) Try.underlying23 (by kernel_rfl)))) Try.underlying29 rfl (by kernel_rfl) (by kernel_rfl)) h1
  obtain ⟨_, _, hcs1, rfl, ⟨A1_1, c1_1, rfl, hl1_1, hC1_1⟩⟩ := hK1
  obtain rfl : cs1 = #[.int .i64 a1_0, .slice A1_1 l1_1.length c1_1] := Op.arr_of hcs1
  obtain ⟨cs2, rfl, hsz2⟩ := okWide_struct Try.underlying29 (hval 2 29 v2 rfl rfl)
  have k2 := h2
  have lt2 : ∀ x ∈ p2, x.block < W.heap.size := by obtain ⟨m, hm⟩ := k2; exact DataW.trod_lt m _ _ _ hm
  obtain ⟨⟨a2_0, l2_1⟩, hK2, ⟨q2_0, q2_1⟩⟩ := Op.par_struct (Op.opens_struct (Op.fo_cons (Op.opens_i64 Try.underlying3) (Op.fo_one (Op.opens_slice (e' := 3) (Op.opens_i64 Try.underlying3) Try.underlying23 (by kernel_rfl)))) Try.underlying29 rfl (by kernel_rfl) (by kernel_rfl)) h2
  obtain ⟨_, _, hcs2, rfl, ⟨A2_1, c2_1, rfl, hl2_1, hC2_1⟩⟩ := hK2
  obtain rfl : cs2 = #[.int .i64 a2_0, .slice A2_1 l2_1.length c2_1] := Op.arr_of hcs2
  clear hA0 hval0 hsz0
  obtain ⟨k, hk⟩ := Pure.FnExactWorthBetween _ _ _ _ _ _ _ _ _ _ _ _ q0_0 q0_1 q0_2 q0_3 q0_4 q0_5 q0_6 q0_7 q1_0 q1_1 q2_0 q2_1
  refine (laws_FnExactWorthBetween.calls k _ _ l0_0 _ _ l0_1 _ _ l0_2 a0_3 a0_4 a0_5 a0_6 a0_7 a1_0 _ _ l1_1 a2_0 _ _ l2_1 true W hC0_0 hl0_0 hC0_1 hl0_1 hC0_2 hl0_2 hC1_1 hl1_1 hC2_1 hl2_1 hk).mono fun e W' ⟨he, hb_⟩ => ?_
  have bel : Below W.heap.size W W' := by first | exact hb_ | (obtain ⟨n_, rfl⟩ := hb_; exact Go.Joins.below_draws _ _ _)
  subst he
  exact ⟨_, rfl, _, _, _, [], _, [], hW', trodAll_mk1 (shut_bool Try.underlying4 _), (trodAll_cons_mk (Below.trod laidOut (by kernel_rfl) (of_decide_eq_true (by kernel_rfl)) k0 bel lt0) (trodAll_cons_mk (Below.trod laidOut (by kernel_rfl) (of_decide_eq_true (by kernel_rfl)) k1 bel lt1) (trodAll_cons_mk (Below.trod laidOut (by kernel_rfl) (of_decide_eq_true (by kernel_rfl)) k2 bel lt2) trodAll_mk0))), rfl, bel.frame _, fun h => by cases h⟩
theorem over : Rows.fnExactWorthBetweenRow.holds Try.pinned (OpenSpec.ofChange Rows.fnExactWorthBetweenSpec) :=
  OpenClaim.holds_of_wide 9 Try.f9 rfl rfl rfl rfl rfl rfl rfl ⟨rfl, rfl, rfl, rfl, rfl⟩ rfl rfl rfl rfl rfl (by kernel_rfl) Try.func9 (by kernel_rfl)
    (of_decide_eq_true (by kernel_rfl)) (by unfold Func.isWrapper; first | (rw [if_pos (by decide +kernel)]; kernel_rfl) | (rw [if_neg (by decide +kernel)]; exact ⟨rfl, rfl⟩))
    (fun os started H enc _ => lifted os started H enc)
theorem proved : Rows.FnExactWorthBetweenSaid := over
#print axioms proved
end Go.Proofs.Ytpfjjheognelhaa.RFnExactWorthBetween
namespace Go.Proofs.Ytpfjjheognelhaa
/-- The row, under a short name, for the claim. -/
theorem fnExactWorthBetween_holds : Rows.FnExactWorthBetweenSaid := RFnExactWorthBetween.proved
end Go.Proofs.Ytpfjjheognelhaa
