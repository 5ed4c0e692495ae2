/- The pure statement of FnExactDifferRows: no program and no memory in it. -/
import Derived.Test.YtpfjjheognelhaaPFnExactDifferRowsx9
import Derived.Test.YtpfjjheognelhaaOp
namespace Go.Proofs.Ytpfjjheognelhaa.SFnExactDifferRows
open Go.RowKit Go.Proofs.Ytpfjjheognelhaa.PFnExactDifferRows Go.Proofs.YtpfjjheognelhaaW.PrintWords
def Q133 (x : S133) : Prop := x.f0.size ≤ maxLen ∧ (x.f1.length ≤ maxLen ∧ ∀ y ∈ x.f1, Op.I64 y)
def Pure : Prop := ∀ (a0_0 : ByteArray) (a0_1 : Int) (l0_2 : List (S133)) (a1_0 : ByteArray) (a1_1 : Int) (l1_2 : List (S133)), a0_0.size ≤ maxLen → Op.I64 a0_1 → (l0_2.length ≤ maxLen ∧ ∀ y ∈ l0_2, Q133 y) → a1_0.size ≤ maxLen → Op.I64 a1_1 → (l1_2.length ≤ maxLen ∧ ∀ y ∈ l1_2, Q133 y) → ∃ k, laws_FnExactDifferRows.f k a0_0 a0_1 l0_2 a1_0 a1_1 l1_2 = some true
end Go.Proofs.Ytpfjjheognelhaa.SFnExactDifferRows
