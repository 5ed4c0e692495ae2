/- The pure statement of FnExactEditsBetween: no program and no memory in it. -/
import Derived.Test.YtoaefflonebgkaaPFnExactEditsBetweenx4
import Derived.Test.YtoaefflonebgkaaOp
namespace Go.Proofs.Ytoaefflonebgkaa.SFnExactEditsBetween
open Go.RowKit Go.Proofs.Ytoaefflonebgkaa.PFnExactEditsBetween Go.Proofs.YtoaefflonebgkaaW.PrintWords

def Pure : Prop := ∀ (l0 : List Int) (l1 : List Int), (l0.length ≤ maxLen ∧ ∀ y ∈ l0, Op.I64 y) → (l1.length ≤ maxLen ∧ ∀ y ∈ l1, Op.I64 y) → ∃ k, laws_FnExactEditsBetween.f k l0 l1 = some true
end Go.Proofs.Ytoaefflonebgkaa.SFnExactEditsBetween
