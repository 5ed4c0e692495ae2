/- A long function is shown in parts: code is cut between two of its regions. -/
import Derived.Test.YtnbfhbfnccihgaaEB
namespace Go.Proofs.Ytnbfhbfnccihgaa.E
open Go
set_option linter.unusedSimpArgs false
set_option linter.unusedVariables false
def preC : Nat → Code → Code
  | 0, _ => .skip
  | n + 1, .seq x y => .seq x (preC n y)
  | _ + 1, c => c
def tailC : Nat → Code → Code
  | 0, c => c
  | n + 1, .seq _ y => tailC n y
  | _ + 1, _ => .skip
/-- What holds where the first part ends. -/
def Kcut (R : St → Prop) (K : Kp) : Kp := fun e σ => match e with
  | .n => R σ
  | .x id => K (.x id) σ
  | .r => K .r σ
theorem wpE_cut {c : Cfg} {ev : Ev} {nt pn : Nat} {lv : List (Nat × List Nat)} {R : St → Prop} {K : Kp} : ∀ (n : Nat) (code : Code) (σ : St), wpE c ev nt pn lv (preC n code) σ (Kcut R K) → (∀ σ', R σ' → wpE c ev nt pn lv (tailC n code) σ' K) → wpE c ev nt pn lv code σ K := by
  intro n
  induction n with
  | zero => exact fun code σ h1 h2 => h2 σ h1
  | succ n ih =>
    intro code σ h1 h2
    have rest : wpE c ev nt pn lv code σ (Kcut R K) → (∀ σ', R σ' → K .n σ') → wpE c ev nt pn lv code σ K := fun g1 g2 => wpE_mono code σ _ _ (fun e σ' he => by
      cases e with
      | n => exact g2 σ' he
      | x id => exact he
      | r => exact he) g1
    cases code with
    | seq x y =>
      unfold preC at h1
      unfold tailC at h2
      unfold wpE at h1 ⊢
      refine wpE_mono x σ _ _ (fun e σ' he => ?_) h1
      cases e with
      | n => exact ih y σ' he h2
      | x id => exact he
      | r => exact he
    | _ => exact rest h1 h2
end Go.Proofs.Ytnbfhbfnccihgaa.E
