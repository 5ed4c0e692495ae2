/- For every input the law FnExactDifferRows returns true, and each argument reads afterwards as it read before. Conditions: none. -/
import Derived.Test.YtpfjjheognelhaaRows
import Derived.Test.YtpfjjheognelhaaSFnExactDifferRows
import Derived.Test.YtpfjjheognelhaaPureFnExactDifferRows
import Derived.WalkKit
import Derived.ProofKit
import Derived.OpenShut
import Derived.ShutString
import Derived.ChangeOld
import Derived.Below
import Derived.SizedLaws
import Derived.Lib.SmallJoins
namespace Go.Proofs.Ytpfjjheognelhaa.RFnExactDifferRows
open Go.ChangeShapes Go.WideShapes Go.ChangeAt Go.RowKit Go.Proofs.Ytpfjjheognelhaa.PFnExactDifferRows Go.Proofs.YtpfjjheognelhaaW.PrintWords Go.Proofs.Ytpfjjheognelhaa.SFnExactDifferRows
open Go.ChangeMaps (open_string shut_string)
set_option linter.unusedVariables false
theorem own : ownKnob Try.prog.godebug = none := by kernel_rfl
theorem laidOut : laidOutB Try.prog = true := by kernel_rfl
theorem open133 : Op.Opens Try.prog 133 k133 Q133 := Op.opens_mono (Op.opens_iso (Op.opens_struct (Op.fo_cons (Op.opens_string Try.underlying9) (Op.fo_one (Op.opens_slice (e' := 3) (Op.opens_i64 Try.underlying3) Try.underlying23 (by kernel_rfl)))) Try.underlying133 rfl (by kernel_rfl) (by kernel_rfl)) (fun x : S133 => (x.f0, x.f1)) (fun v => ⟨v.1, v.2⟩) (fun _ => rfl)) (fun _ h => h)
set_option maxRecDepth 100000 in
theorem lifted (os : Os) (started : os.Started) (H : Type) (enc : TypeId × Value → H) :
    ReturnsInHanded {} Try.checked os 5 .any (Rows.fnExactDifferRowsSpec.pre6 enc Try.prog Try.f5 Rows.fnExactDifferRowsRow.domain false) (Rows.fnExactDifferRowsSpec.post enc Try.prog Try.f5 false true false false) := by
  refine returnsInHanded_of_change_sized (C := Try.checked) own started (by kernel_rfl) Try.func5
    (ChangeSpec.witness6 (enc := enc) (C := Try.checked) false ⟨#[], #[.agg #[.string ByteArray.empty, .int .i64 0, .slice none 0 0], .agg #[.string ByteArray.empty, .int .i64 0, .slice none 0 0]], []⟩ 8 (by kernel_rfl) (by kernel_rfl) (by kernel_rfl) (by kernel_rfl)) ?_
  intro W base args ds gs before hval0 hW hcnd hsz0 _
  have hval : ∀ (j : Nat) t v, Try.f5.params[j]? = some t → args[j]? = some v → Value.okWide Try.prog W .any base t v := hval0
  have hW' := hW
  obtain ⟨p, q, hA0, hV, rfl, hfz, hnd⟩ := hW
  have hA : DataW.TrodAll enc Try.prog W 0 (fun _ => true) true Try.f5.params.toList args.toList ds p := hA0
  rw [Try.params5] at hA hval
  obtain ⟨v0, vs0, d0, ds0, p0, q0, hargs, rfl, rfl, h0, r0⟩ := trodAll_cons hA
  obtain ⟨v1, vs1, d1, ds1, p1, q1, rfl, rfl, rfl, h1, r1⟩ := trodAll_cons r0
  obtain ⟨rfl, rfl, rfl⟩ := trodAll_nil r1
  obtain rfl : args = #[v0, v1] := by cases args; simp_all
  obtain ⟨rfl, rfl⟩ := trodVars_none hV
  obtain ⟨cs0, rfl, hsz0⟩ := okWide_struct Try.underlying45 (hval 0 45 v0 rfl rfl)
  have k0 := h0
  have lt0 : ∀ x ∈ p0, x.block < W.heap.size := by obtain ⟨m, hm⟩ := k0; exact DataW.trod_lt m _ _ _ hm
  obtain ⟨⟨a0_0, a0_1, l0_2⟩, hK0, ⟨q0_0, q0_1, q0_2⟩⟩ := Op.par_struct (Op.opens_struct (Op.fo_cons (Op.opens_string Try.underlying9) (Op.fo_cons (Op.opens_i64 Try.underlying3) (Op.fo_one (Op.opens_slice (e' := 133) open133 Try.underlying43 (by kernel_rfl))))) Try.underlying45 rfl (by kernel_rfl) (by kernel_rfl)) h0
  obtain ⟨_, _, hcs0, rfl, ⟨_, _, rfl, rfl, ⟨A0_2, c0_2, rfl, hl0_2, hC0_2⟩⟩⟩ := hK0
  obtain rfl : cs0 = #[.string a0_0, .int .i64 a0_1, .slice A0_2 l0_2.length c0_2] := Op.arr_of hcs0
  obtain ⟨cs1, rfl, hsz1⟩ := okWide_struct Try.underlying45 (hval 1 45 v1 rfl rfl)
  have k1 := h1
  have lt1 : ∀ x ∈ p1, x.block < W.heap.size := by obtain ⟨m, hm⟩ := k1; exact DataW.trod_lt m _ _ _ hm
  obtain ⟨⟨a1_0, a1_1, l1_2⟩, hK1, ⟨q1_0, q1_1, q1_2⟩⟩ := Op.par_struct (Op.opens_struct (Op.fo_cons (Op.opens_string Try.underlying9) (Op.fo_cons (Op.opens_i64 Try.underlying3) (Op.fo_one (Op.opens_slice (e' := 133) open133 Try.underlying43 (by kernel_rfl))))) Try.underlying45 rfl (by kernel_rfl) (by kernel_rfl)) h1
  obtain ⟨_, _, hcs1, rfl, ⟨_, _, rfl, rfl, ⟨A1_2, c1_2, rfl, hl1_2, hC1_2⟩⟩⟩ := hK1
  obtain rfl : cs1 = #[.string a1_0, .int .i64 a1_1, .slice A1_2 l1_2.length c1_2] := Op.arr_of hcs1
  clear hA0 hval0 hsz0
  obtain ⟨k, hk⟩ := Pure.FnExactDifferRows _ _ _ _ _ _ q0_0 q0_1 q0_2 q1_0 q1_1 q1_2
  refine (laws_FnExactDifferRows.calls k a0_0 a0_1 _ _ l0_2 a1_0 a1_1 _ _ l1_2 true W hC0_2 hl0_2 hC1_2 hl1_2 hk).mono fun e W' ⟨he, hb_⟩ => ?_
  have bel : Below W.heap.size W W' := by first | exact hb_ | (obtain ⟨n_, rfl⟩ := hb_; exact Go.Joins.below_draws _ _ _)
  subst he
  exact ⟨_, rfl, _, _, _, [], _, [], hW', trodAll_mk1 (shut_bool Try.underlying4 _), (trodAll_cons_mk (Below.trod laidOut (by kernel_rfl) (of_decide_eq_true (by kernel_rfl)) k0 bel lt0) (trodAll_cons_mk (Below.trod laidOut (by kernel_rfl) (of_decide_eq_true (by kernel_rfl)) k1 bel lt1) trodAll_mk0)), rfl, bel.frame _, fun h => by cases h⟩
theorem over : Rows.fnExactDifferRowsRow.holds Try.pinned (OpenSpec.ofChange Rows.fnExactDifferRowsSpec) :=
  OpenClaim.holds_of_wide 5 Try.f5 rfl rfl rfl rfl rfl rfl rfl ⟨rfl, rfl, rfl, rfl, rfl⟩ rfl rfl rfl rfl rfl (by kernel_rfl) Try.func5 (by kernel_rfl)
    (of_decide_eq_true (by kernel_rfl)) (by unfold Func.isWrapper; first | (rw [if_pos (by decide +kernel)]; kernel_rfl) | (rw [if_neg (by decide +kernel)]; exact ⟨rfl, rfl⟩))
    (fun os started H enc _ => lifted os started H enc)
theorem proved : Rows.FnExactDifferRowsSaid := over
#print axioms proved
end Go.Proofs.Ytpfjjheognelhaa.RFnExactDifferRows
namespace Go.Proofs.Ytpfjjheognelhaa
/-- The row, under a short name, for the claim. -/
theorem fnExactDifferRows_holds : Rows.FnExactDifferRowsSaid := RFnExactDifferRows.proved
end Go.Proofs.Ytpfjjheognelhaa
