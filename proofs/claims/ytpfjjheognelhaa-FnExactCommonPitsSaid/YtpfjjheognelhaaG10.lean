/- Laws of a job and two plans. -/
import Derived.Test.YtpfjjheognelhaaG3
namespace Go.Proofs.Ytpfjjheognelhaa.E
open Go Go.Proofs
set_option linter.unusedSimpArgs false
set_option linter.unusedVariables false
abbrev kPlan : K := .pair I64 SI
abbrev kJob : K := .pair (.sl SI) (.pair SI (.pair SI (.pair (.pair I64 I64) (.pair I64 (.pair I64 I64)))))
def sp_JPP : Sp
  | [(true, [.ls (.sl (.int .i64)) arcs, .ls (.int .i64) ton, .ls (.int .i64) val, .i .i64 mine, .i .i64 mill, .i .i64 per, .i .i64 num, .i .i64 dn]), (true, [.i .i64 pp, .ls (.int .i64) w]), (true, [.i .i64 qq, .ls (.int .i64) v])], [] =>
    if (arcs.length ≤ maxLen ∧ (∀ x ∈ arcs, x.length ≤ maxLen) ∧ ton.length ≤ maxLen ∧ val.length ≤ maxLen) ∧ w.length ≤ maxLen ∧ v.length ≤ maxLen then some yes else none
  | _, _ => none
theorem yes_JPP {x : den kJob} {a b : den kPlan} (hx : Wf kJob x) (ha : Wf kPlan a) (hb : Wf kPlan b) : sp_JPP [(true, cvL kJob x), (true, cvL kPlan a), (true, cvL kPlan b)] [] = some yes := by
  obtain ⟨arcs, ton, val, ⟨mine, mill⟩, per, num, dn⟩ := x
  obtain ⟨pp, w⟩ := a
  obtain ⟨qq, v⟩ := b
  obtain ⟨⟨h1, h2⟩, ⟨h3, -⟩, ⟨h4, -⟩, -⟩ := hx
  obtain ⟨-, h5, -⟩ := ha
  obtain ⟨-, h6, -⟩ := hb
  exact if_pos ⟨⟨h1, fun y hy => (h2 y hy).1, h3, h4⟩, h5, h6⟩
end Go.Proofs.Ytpfjjheognelhaa.E
