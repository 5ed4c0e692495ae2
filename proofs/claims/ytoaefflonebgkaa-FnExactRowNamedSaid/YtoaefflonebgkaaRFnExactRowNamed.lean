/- For every input the law FnExactRowNamed returns true, and each argument reads afterwards as it read before. Conditions: none. -/
import Derived.Test.YtoaefflonebgkaaRows
import Derived.Test.YtoaefflonebgkaaSFnExactRowNamed
import Derived.Test.YtoaefflonebgkaaPureFnExactRowNamed
import Derived.WalkKit
import Derived.ProofKit
import Derived.OpenShut
import Derived.ShutString
import Derived.ChangeOld
import Derived.Below
import Derived.SizedLaws
import Derived.Lib.SmallJoins
namespace Go.Proofs.Ytoaefflonebgkaa.RFnExactRowNamed
open Go.ChangeShapes Go.WideShapes Go.ChangeAt Go.RowKit Go.Proofs.Ytoaefflonebgkaa.PFnExactRowNamed Go.Proofs.YtoaefflonebgkaaW.PrintWords Go.Proofs.Ytoaefflonebgkaa.SFnExactRowNamed
open Go.ChangeMaps (open_string shut_string)
set_option linter.unusedVariables false
theorem own : ownKnob Try.prog.godebug = none := by kernel_rfl
theorem laidOut : laidOutB Try.prog = true := by kernel_rfl
theorem open84 : Op.Opens Try.prog 84 k84 Q84 := Op.opens_mono (Op.opens_iso (Op.opens_struct (Op.fo_cons (Op.opens_string Try.underlying9) (Op.fo_one (Op.opens_slice (e' := 3) (Op.opens_i64 Try.underlying3) Try.underlying25 (by kernel_rfl)))) Try.underlying84 rfl (by kernel_rfl) (by kernel_rfl)) (fun x : S84 => (x.f0, x.f1)) (fun v => ⟨v.1, v.2⟩) (fun _ => rfl)) (fun _ h => h)
set_option maxRecDepth 100000 in
theorem lifted (os : Os) (started : os.Started) (H : Type) (enc : TypeId × Value → H) :
    ReturnsInHanded {} Try.checked os 10 .any (Rows.fnExactRowNamedSpec.pre6 enc Try.prog Try.f10 Rows.fnExactRowNamedRow.domain false) (Rows.fnExactRowNamedSpec.post enc Try.prog Try.f10 false true false false) := by
  refine returnsInHanded_of_change_sized (C := Try.checked) own started (by kernel_rfl) Try.func10
    (ChangeSpec.witness6 (enc := enc) (C := Try.checked) false ⟨#[], #[.agg #[.string ByteArray.empty, .int .i64 0, .slice none 0 0], .string ByteArray.empty], []⟩ 8 (by kernel_rfl) (by kernel_rfl) (by kernel_rfl) (by kernel_rfl)) ?_
  intro W base args ds gs before hval0 hW hcnd hsz0 _
  have hval : ∀ (j : Nat) t v, Try.f10.params[j]? = some t → args[j]? = some v → Value.okWide Try.prog W .any base t v := hval0
  have hW' := hW
  obtain ⟨p, q, hA0, hV, rfl, hfz, hnd⟩ := hW
  have hA : DataW.TrodAll enc Try.prog W 0 (fun _ => true) true Try.f10.params.toList args.toList ds p := hA0
  rw [Try.params10] at hA hval
  obtain ⟨v0, vs0, d0, ds0, p0, q0, hargs, rfl, rfl, h0, r0⟩ := trodAll_cons hA
  obtain ⟨v1, vs1, d1, ds1, p1, q1, rfl, rfl, rfl, h1, r1⟩ := trodAll_cons r0
  obtain ⟨rfl, rfl, rfl⟩ := trodAll_nil r1
  obtain rfl : args = #[v0, v1] := by cases args; simp_all
  obtain ⟨rfl, rfl⟩ := trodVars_none hV
  obtain ⟨cs0, rfl, hsz0⟩ := okWide_struct Try.underlying45 (hval 0 45 v0 rfl rfl)
  have k0 := h0
  have lt0 : ∀ x ∈ p0, x.block < W.heap.size := by obtain ⟨m, hm⟩ := k0; exact DataW.trod_lt m _ _ _ hm
  obtain ⟨⟨a0_0, a0_1, l0_2⟩, hK0, ⟨q0_0, q0_1, q0_2⟩⟩ := Op.par_struct (Op.opens_struct (Op.fo_cons (Op.opens_string Try.underlying9) (Op.fo_cons (Op.opens_i64 Try.underlying3) (Op.fo_one (Op.opens_slice (e' := 84) open84 Try.underlying43 (by kernel_rfl))))) Try.underlying45 rfl (by kernel_rfl) (by kernel_rfl)) h0
  obtain ⟨_, _, hcs0, rfl, ⟨_, _, rfl, rfl, ⟨A0_2, c0_2, rfl, hl0_2, hC0_2⟩⟩⟩ := hK0
  obtain rfl : cs0 = #[.string a0_0, .int .i64 a0_1, .slice A0_2 l0_2.length c0_2] := Op.arr_of hcs0
  obtain ⟨a1, rfl⟩ := okWide_string Try.underlying9 (hval 1 9 v1 rfl rfl)
  have k1 := h1
  have lt1 : ∀ x ∈ p1, x.block < W.heap.size := by obtain ⟨m, hm⟩ := k1; exact DataW.trod_lt m _ _ _ hm
  obtain ⟨x1, hK1, q1⟩ := Op.par_any (Op.opens_string Try.underlying9) h1
  obtain rfl : a1 = x1 := by simpa [Kd.int, Kd.bool, Kd.string, Kd.scalar, Value.cells] using hK1
  clear hA0 hval0 hsz0
  obtain ⟨k, hk⟩ := Pure.FnExactRowNamed _ _ _ _ q0_0 q0_1 q0_2 q1
  refine (laws_FnExactRowNamed.calls k a0_0 a0_1 _ _ l0_2 a1 true W hC0_2 hl0_2 hk).mono fun e W' ⟨he, hb_⟩ => ?_
  have bel : Below W.heap.size W W' := by first | exact hb_ | (obtain ⟨n_, rfl⟩ := hb_; exact Go.Joins.below_draws _ _ _)
  subst he
  exact ⟨_, rfl, _, _, _, [], _, [], hW', trodAll_mk1 (shut_bool Try.underlying4 _), (trodAll_cons_mk (Below.trod laidOut (by kernel_rfl) (of_decide_eq_true (by kernel_rfl)) k0 bel lt0) (trodAll_cons_mk (Below.trod laidOut (by kernel_rfl) (of_decide_eq_true (by kernel_rfl)) k1 bel lt1) trodAll_mk0)), rfl, bel.frame _, fun h => by cases h⟩
theorem over : Rows.fnExactRowNamedRow.holds Try.pinned (OpenSpec.ofChange Rows.fnExactRowNamedSpec) :=
  OpenClaim.holds_of_wide 10 Try.f10 rfl rfl rfl rfl rfl rfl rfl ⟨rfl, rfl, rfl, rfl, rfl⟩ rfl rfl rfl rfl rfl (by kernel_rfl) Try.func10 (by kernel_rfl)
    (of_decide_eq_true (by kernel_rfl)) (by unfold Func.isWrapper; first | (rw [if_pos (by decide +kernel)]; kernel_rfl) | (rw [if_neg (by decide +kernel)]; exact ⟨rfl, rfl⟩))
    (fun os started H enc _ => lifted os started H enc)
theorem proved : Rows.FnExactRowNamedSaid := over
#print axioms proved
end Go.Proofs.Ytoaefflonebgkaa.RFnExactRowNamed
namespace Go.Proofs.Ytoaefflonebgkaa
/-- The row, under a short name, for the claim. -/
theorem fnExactRowNamed_holds : Rows.FnExactRowNamedSaid := RFnExactRowNamed.proved
end Go.Proofs.Ytoaefflonebgkaa
