/- The pure statement of FnExactSumRow: no program and no memory in it. -/
import Derived.Test.YtoaefflonebgkaaPFnExactSumRowx8
import Derived.Test.YtoaefflonebgkaaOp
namespace Go.Proofs.Ytoaefflonebgkaa.SFnExactSumRow
open Go.RowKit Go.Proofs.Ytoaefflonebgkaa.PFnExactSumRow Go.Proofs.YtoaefflonebgkaaW.PrintWords
def Q84 (x : S84) : Prop := x.f0.size ≤ maxLen ∧ (x.f1.length ≤ maxLen ∧ ∀ y ∈ x.f1, Op.I64 y)
def Pure : Prop := ∀ (a0_0 : ByteArray) (a0_1 : Int) (l0_2 : List (S84)), a0_0.size ≤ maxLen → Op.I64 a0_1 → (l0_2.length ≤ maxLen ∧ ∀ y ∈ l0_2, Q84 y) → ∃ k, laws_FnExactSumRow.f k a0_0 a0_1 l0_2 = some true
end Go.Proofs.Ytoaefflonebgkaa.SFnExactSumRow
