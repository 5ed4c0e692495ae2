/- The pure statement of FnExactRowNamed: no program and no memory in it. -/
import Derived.Test.YtoaefflonebgkaaPFnExactRowNamedx8
import Derived.Test.YtoaefflonebgkaaOp
namespace Go.Proofs.Ytoaefflonebgkaa.SFnExactRowNamed
open Go.RowKit Go.Proofs.Ytoaefflonebgkaa.PFnExactRowNamed Go.Proofs.YtoaefflonebgkaaW.PrintWords
def Q84 (x : S84) : Prop := x.f0.size ≤ maxLen ∧ (x.f1.length ≤ maxLen ∧ ∀ y ∈ x.f1, Op.I64 y)
def Pure : Prop := ∀ (a0_0 : ByteArray) (a0_1 : Int) (l0_2 : List (S84)) (a1 : ByteArray), a0_0.size ≤ maxLen → Op.I64 a0_1 → (l0_2.length ≤ maxLen ∧ ∀ y ∈ l0_2, Q84 y) → a1.size ≤ maxLen → ∃ k, laws_FnExactRowNamed.f k a0_0 a0_1 l0_2 a1 = some true
end Go.Proofs.Ytoaefflonebgkaa.SFnExactRowNamed
