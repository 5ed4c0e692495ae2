/- The pure statement of FnExactWorthBetween: no program and no memory in it. -/
import Derived.Test.YtpfjjheognelhaaPFnExactWorthBetweenx10
import Derived.Test.YtpfjjheognelhaaOp
namespace Go.Proofs.Ytpfjjheognelhaa.SFnExactWorthBetween
open Go.RowKit Go.Proofs.Ytpfjjheognelhaa.PFnExactWorthBetween Go.Proofs.YtpfjjheognelhaaW.PrintWords

def Pure : Prop := ∀ (l0_0 : List (List Int)) (l0_1 : List Int) (l0_2 : List Int) (a0_3 : Int) (a0_4 : Int) (a0_5 : Int) (a0_6 : Int) (a0_7 : Int) (a1_0 : Int) (l1_1 : List Int) (a2_0 : Int) (l2_1 : List Int), (l0_0.length ≤ maxLen ∧ ∀ y ∈ l0_0, (y.length ≤ maxLen ∧ ∀ z ∈ y, Op.I64 z)) → (l0_1.length ≤ maxLen ∧ ∀ y ∈ l0_1, Op.I64 y) → (l0_2.length ≤ maxLen ∧ ∀ y ∈ l0_2, Op.I64 y) → Op.I64 a0_3 → Op.I64 a0_4 → Op.I64 a0_5 → Op.I64 a0_6 → Op.I64 a0_7 → Op.I64 a1_0 → (l1_1.length ≤ maxLen ∧ ∀ y ∈ l1_1, Op.I64 y) → Op.I64 a2_0 → (l2_1.length ≤ maxLen ∧ ∀ y ∈ l2_1, Op.I64 y) → ∃ k, laws_FnExactWorthBetween.f k l0_0 l0_1 l0_2 a0_3 a0_4 a0_5 a0_6 a0_7 a1_0 l1_1 a2_0 l2_1 = some true
end Go.Proofs.Ytpfjjheognelhaa.SFnExactWorthBetween
