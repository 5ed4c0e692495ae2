/- The pure statement of FnExactEditValues: no program and no memory in it. -/
import Derived.Test.YtoaefflonebgkaaPFnExactEditValuesx4
import Derived.Test.YtoaefflonebgkaaOp
namespace Go.Proofs.Ytoaefflonebgkaa.SFnExactEditValues
open Go.RowKit Go.Proofs.Ytoaefflonebgkaa.PFnExactEditValues Go.Proofs.YtoaefflonebgkaaW.PrintWords
def Q96 (x : S96) : Prop := Op.I64 x.f0 ∧ Op.I64 x.f1
def Pure : Prop := ∀ (l0 : List Int) (l1 : List (S96)), (l0.length ≤ maxLen ∧ ∀ y ∈ l0, Op.I64 y) → (l1.length ≤ maxLen ∧ ∀ y ∈ l1, Q96 y) → ∃ k, laws_FnExactEditValues.f k l0 l1 = some true
end Go.Proofs.Ytoaefflonebgkaa.SFnExactEditValues
