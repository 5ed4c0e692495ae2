/- What a function gives back need not be described wholly: from a walk that shows that some result with a property comes out, the result itself is gained. -/
import Derived.Test.YtnbfhbfnccihgaaT0
namespace Go.Proofs.Ytnbfhbfnccihgaa.E
open Go
set_option linter.unusedSimpArgs false
set_option linter.unusedVariables false
/-- Ends so and in that state. -/
def Exa (e : Ex) (σ : St) : Kp := fun e1 σ1 => e1 = e ∧ σ1 = σ
section
variable {c : Cfg} {ev : Ev} {nt pn : Nat} {lv : List (Nat × List Nat)}
/-- A loop that ends after n rounds. -/
inductive ReachN (step : St → Ex → St → Prop) : Nat → St → Ex → St → Prop
  | out {σ : St} {e : Ex} {σ' : St} : step σ e σ' → e ≠ .n → ReachN step 0 σ e σ'
  | more {n : Nat} {σ σ1 : St} {e : Ex} {σ' : St} : step σ .n σ1 → ReachN step n σ1 e σ' → ReachN step (n + 1) σ e σ'
theorem wpE_exact : ∀ (code : Code) (σ : St) (K : Kp), wpE c ev nt pn lv code σ K → ∃ e σ', K e σ' ∧ wpE c ev nt pn lv code σ (Exa e σ')
  | .skip, σ, K, h => ⟨.n, σ, h, rfl, rfl⟩
  | .exit id, σ, K, h => ⟨.x id, σ, h, rfl, rfl⟩
  | .ret, σ, K, h => ⟨.r, σ, h, rfl, rfl⟩
  | .region id ops draw, σ, K, h => by
    obtain ⟨σ1, h1, σ2, h2, h3⟩ := wpE_region.1 h
    exact ⟨.n, σ2, h3, wpE_region.2 ⟨σ1, h1, σ2, h2, rfl, rfl⟩⟩
  | .seq x y, σ, K, h => by
    unfold wpE at h
    obtain ⟨e, σ1, h1, h2⟩ := wpE_exact x σ _ h
    cases e with
    | n =>
      obtain ⟨e', σ2, h3, h4⟩ := wpE_exact y σ1 K h1
      refine ⟨e', σ2, h3, ?_⟩
      unfold wpE
      refine wpE_mono x σ _ _ (fun e1 s1 he => ?_) h2
      obtain ⟨rfl, rfl⟩ := he
      exact h4
    | x id =>
      refine ⟨.x id, σ1, h1, ?_⟩
      unfold wpE
      refine wpE_mono x σ _ _ (fun e1 s1 he => ?_) h2
      obtain ⟨rfl, rfl⟩ := he
      exact ⟨rfl, rfl⟩
    | r =>
      refine ⟨.r, σ1, h1, ?_⟩
      unfold wpE
      refine wpE_mono x σ _ _ (fun e1 s1 he => ?_) h2
      obtain ⟨rfl, rfl⟩ := he
      exact ⟨rfl, rfl⟩
  | .cond x t e, σ, K, h => by
    unfold wpE at h
    split at h
    · rename_i b hb
      split at h
      · rename_i e1
        obtain ⟨e', σ', h1, h2⟩ := wpE_exact t σ K h
        refine ⟨e', σ', h1, ?_⟩
        unfold wpE
        rw [hb]
        simp only [e1, if_true]
        exact h2
      · rename_i e1
        obtain ⟨e', σ', h1, h2⟩ := wpE_exact e σ K h
        refine ⟨e', σ', h1, ?_⟩
        unfold wpE
        rw [hb]
        simp only [e1, if_false]
        exact h2
    · exact h.elim
  | .block id body, σ, K, h => by
    unfold wpE at h
    obtain ⟨e, σ1, h1, h2⟩ := wpE_exact body σ _ h
    cases e with
    | n =>
      refine ⟨.n, σ1, h1, ?_⟩
      unfold wpE
      refine wpE_mono body σ _ _ (fun e1 s1 he => ?_) h2
      obtain ⟨rfl, rfl⟩ := he
      exact ⟨rfl, rfl⟩
    | x id' =>
      by_cases hi : id' = id
      · refine ⟨.n, σ1, by simpa [hi] using h1, ?_⟩
        unfold wpE
        refine wpE_mono body σ _ _ (fun e1 s1 he => ?_) h2
        obtain ⟨rfl, rfl⟩ := he
        simp only [hi, if_true]
        exact ⟨rfl, rfl⟩
      · refine ⟨.x id', σ1, by simpa [hi] using h1, ?_⟩
        unfold wpE
        refine wpE_mono body σ _ _ (fun e1 s1 he => ?_) h2
        obtain ⟨rfl, rfl⟩ := he
        simp only [hi, if_false]
        exact ⟨rfl, rfl⟩
    | r =>
      refine ⟨.r, σ1, h1, ?_⟩
      unfold wpE
      refine wpE_mono body σ _ _ (fun e1 s1 he => ?_) h2
      obtain ⟨rfl, rfl⟩ := he
      exact ⟨rfl, rfl⟩
  | .loop body, σ, K, h => by
    unfold wpE at h
    obtain ⟨I, ⟨n, hn⟩, hI⟩ := h
    have go : ∀ (n : Nat) (σ : St), I n σ → ∃ k e σ', (e ≠ .n ∧ K e σ') ∧ ReachN (fun s e s' => wpE c ev nt pn lv body s (Exa e s')) k σ e σ' := by
      intro n
      induction n using Nat.strongRecOn with
      | ind n ih =>
        intro σ hs
        obtain ⟨e, σ1, h1, h2⟩ := wpE_exact body σ _ (hI n σ hs)
        cases e with
        | n =>
          obtain ⟨m, hm, hm2⟩ := h1
          obtain ⟨k, e', σ', h3, h4⟩ := ih m hm σ1 hm2
          exact ⟨k + 1, e', σ', h3, .more h2 h4⟩
        | x id => exact ⟨0, .x id, σ1, ⟨by simp, h1⟩, .out h2 (by simp)⟩
        | r => exact ⟨0, .r, σ1, ⟨by simp, h1⟩, .out h2 (by simp)⟩
    obtain ⟨k, e, σ', ⟨hne, hk⟩, hr⟩ := go n σ hn
    refine ⟨e, σ', hk, ?_⟩
    unfold wpE
    refine ⟨fun n s => ReachN (fun s e s' => wpE c ev nt pn lv body s (Exa e s')) n s e σ', ⟨k, hr⟩, fun n s hs => ?_⟩
    cases hs with
    | out h1 h2 =>
      refine wpE_mono body s _ _ (fun e1 s1 he => ?_) h1
      obtain ⟨rfl, rfl⟩ := he
      cases e1 with
      | n => exact absurd rfl h2
      | x id => exact ⟨rfl, rfl⟩
      | r => exact ⟨rfl, rfl⟩
    | @more n _ s1 _ _ h1 h2 =>
      refine wpE_mono body s _ _ (fun e1 s2 he => ?_) h1
      obtain ⟨rfl, rfl⟩ := he
      exact ⟨n, Nat.lt_succ_self n, h2⟩
  | .label _, _, _, h => h.elim
  | .goto _, _, _, h => h.elim
/-- Some result with a property comes out: so one does. -/
theorem wpE_res {rs : List ResultVar} {Q : Res → Prop} {body : Code} {σ : St} (h : wpE c ev nt pn lv body σ (fun e σ' => ∃ res, Q res ∧ exitK c rs nt pn res e σ')) : ∃ res, Q res ∧ wpE c ev nt pn lv body σ (exitK c rs nt pn res) := by
  obtain ⟨e, σ', ⟨res, h1, h2⟩, h3⟩ := wpE_exact body σ _ h
  refine ⟨res, h1, wpE_mono body σ _ _ (fun e1 s1 he => ?_) h3⟩
  obtain ⟨rfl, rfl⟩ := he
  exact h2
end
/-- The function gives this result back, wherever it is called with these arguments. -/
def FnAt (P : Program) (f : Nat) (args : List (Bool × List CV)) (ins : List OV) (res : Res) : Prop :=
  HasFn P f ∧ ∀ w lab adr vals, Entry w lab adr args ins vals → Calls P f vals w (fun | .returned v, w' => ResR w lab adr ins.length res w' v | _, _ => False)
open Classical in
/-- The result, of which only a property is told. -/
noncomputable def spX (P : Program) (f : Nat) (Q : List (Bool × List CV) → List OV → Res → Prop) : Sp := fun args ins =>
  if h : ∃ res, Q args ins res ∧ FnAt P f args ins res then some (Classical.choose h) else none
theorem ok_of_spX {P : Program} {f : Nat} {Q : List (Bool × List CV) → List OV → Res → Prop} : FnOk P f (spX P f Q) := by
  intro args ins res h
  unfold spX at h
  split at h
  · rename_i hx
    cases h
    exact (Classical.choose_spec hx).2
  · cases h
theorem spX_get {P : Program} {f : Nat} {Q : List (Bool × List CV) → List OV → Res → Prop} {args : List (Bool × List CV)} {ins : List OV} (h : ∃ res, Q args ins res ∧ FnAt P f args ins res) : ∃ res, spX P f Q args ins = some res ∧ Q args ins res := by
  refine ⟨Classical.choose h, ?_, (Classical.choose_spec h).1⟩
  unfold spX
  rw [dif_pos h]
/-- From a walk. -/
theorem fn_ex {P : Program} {c : Cfg} {ev : Ev} (hf : P.follows .mixedOrders = true) (hE : EvOk P ev) (hT : TysOk P c.tt) {f : Nat} {fn : Func} {body : Code} (hfn : P.funcs[f]? = some fn) (hb : fn.body = some body) (hn : (fn.name == "runtime.NumGoroutine") = false) (lv : List (Nat × List Nat)) {args : List (Bool × List CV)} {ins : List OV} {Q : Res → Prop}
    (hl : args.length ≤ fn.ntmps) (H : wpE c ev fn.ntmps ins.length lv body (enter args ins) (fun e σ' => ∃ res, Q res ∧ exitK c fn.results.toList fn.ntmps ins.length res e σ')) : ∃ res, Q res ∧ FnAt P f args ins res := by
  obtain ⟨res, h1, h2⟩ := wpE_res H
  exact ⟨res, h1, fn_ok hf hE hT hfn hb hn lv hl h2⟩
end Go.Proofs.Ytnbfhbfnccihgaa.E
