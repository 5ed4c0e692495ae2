/- Laws of two strings of bytes. -/
import Derived.Test.YtnbfhbfnccihgaaT0
import Derived.Test.YtnbfhbfnccihgaaCfg
namespace Go.Proofs.Ytnbfhbfnccihgaa.E
open Go Go.Proofs
set_option linter.unusedSimpArgs false
set_option linter.unusedVariables false
def sp_LL : Sp
  | [(false, [.ls (.int .u8) x]), (false, [.ls (.int .u8) y])], [] =>
    if (x.length ≤ maxLen ∧ ∀ n ∈ x, 0 ≤ n ∧ n ≤ 255) ∧ (y.length ≤ maxLen ∧ ∀ n ∈ y, 0 ≤ n ∧ n ≤ 255) then some yes else none
  | _, _ => none
theorem wf_u8 {n : Int} (h : Wf (.int .u8) n) : 0 ≤ n ∧ n ≤ 255 := by
  have h1 : (decide (IntKind.u8.min ≤ n) && decide (n ≤ IntKind.u8.max)) = true := h
  have e1 : IntKind.u8.min = 0 := rfl
  have e2 : IntKind.u8.max = 255 := rfl
  rw [e1, e2, Bool.and_eq_true, decide_eq_true_eq, decide_eq_true_eq] at h1
  exact h1
theorem yes_LL {a b : den (.sl (.int .u8))} (ha : Wf (.sl (.int .u8)) a) (hb : Wf (.sl (.int .u8)) b) : sp_LL [(false, cvL (.sl (.int .u8)) a), (false, cvL (.sl (.int .u8)) b)] [] = some yes :=
  if_pos ⟨⟨ha.1, fun n hn => wf_u8 (ha.2 n hn)⟩, hb.1, fun n hn => wf_u8 (hb.2 n hn)⟩
end Go.Proofs.Ytnbfhbfnccihgaa.E
