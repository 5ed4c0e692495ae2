/- A verified evaluator of the program's form, second part. -/
import Derived.Test.YtnbfhbfnccihgaaEA
import Derived.ChangeArms
import Derived.ChangeSlices
import Derived.Deep.Slices
import Derived.WideShapes
import Derived.Below
import Derived.KernelRfl
import Derived.IntWalk
/- Names that go over to others. -/
namespace Go.Proofs.Ytnbfhbfnccihgaa.E
open Go
set_option linter.unusedVariables false
set_option linter.unusedSimpArgs false
section
variable {h : Hp} {lab lab' : Lb} {adr adr' : Nat → Value} {ob ob' : Nat → Option OV} {ρ : Nat → Option Nat}
structure Ren (h : Hp) (lab lab' : Lb) (adr adr' : Nat → Value) (ob ob' : Nat → Option OV) (ρ : Nat → Option Nat) : Prop where
  lf : ∀ b, lab b = none → h b ≠ none → lab' b = none
  lo : ∀ o o', ρ o = some o' → ∀ b q, lab b = some (o :: q) → h b ≠ none → lab' b = some (o' :: q)
  ad : ∀ o o', ρ o = some o' → adr' o' = adr o
  ob : ∀ o o', ρ o = some o' → ob' o' ≠ none ∧ (∀ k xs g hl, ob' o' = some (.arr k xs g hl) → ∃ g0, ob o = some (.arr k xs g0 hl)) ∧ (∀ cs, ob' o' = some (.box cs) → ∃ cs', ob o = some (.box cs'))
/-- A value of a cell under other names. -/
inductive RnC (ρ : Nat → Option Nat) (ob ob' : Nat → Option OV) : CV → CV → Prop where
  | u (c : CV) : RnC ρ ob ob' c .u
  | i (k : IntKind) (n : Int) : RnC ρ ob ob' (.i k n) (.i k n)
  | b (x : Bool) : RnC ρ ob ob' (.b x) (.b x)
  | s (x : ByteArray) : RnC ρ ob ob' (.s x) (.s x)
  | nil : RnC ρ ob ob' .nil .nil
  | ls (k : K) (xs : List (den k)) : RnC ρ ob ob' (.ls k xs) (.ls k xs)
  | fn (f : Nat) : RnC ρ ob ob' (.fn f) (.fn f)
  | pi (k : K) (xs : List (den k)) (i c : Nat) : RnC ρ ob ob' (.pi k xs i c) (.pi k xs i c)
  | sl {o o' : Nat} (e : ρ o = some o') : RnC ρ ob ob' (.sl o) (.sl o')
  | pc {o o' : Nat} (c : Nat) (e : ρ o = some o') : RnC ρ ob ob' (.pc o c) (.pc o' c)
  | pe {o o' : Nat} (i c : Nat) (e : ρ o = some o') : RnC ρ ob ob' (.pe o i c) (.pe o' i c)
  | vw {o o' g g' : Nat} (i c : Nat) (e : ρ o = some o') (h1 : ∃ k xs hl, ob o = some (.arr k xs g hl)) (h2 : ∃ k xs hl, ob' o' = some (.arr k xs g' hl)) : RnC ρ ob ob' (.vw o g i c) (.vw o' g' i c)
  | pe2 {o o' g g' : Nat} (i c j c2 : Nat) (e : ρ o = some o') (h1 : ∃ k xs hl, ob o = some (.arr k xs g hl)) (h2 : ∃ k xs hl, ob' o' = some (.arr k xs g' hl)) : RnC ρ ob ob' (.pe2 o g i c j c2) (.pe2 o' g' i c j c2)
theorem CVR.ren (R : Ren h lab lab' adr adr' ob ob' ρ) {c c' : CV} {v : Value} (hr : RnC ρ ob ob' c c') (r : CVR h lab adr ob c v) : CVR h lab' adr' ob' c' v := by
  cases hr with
  | u => trivial
  | i => exact r
  | b => exact r
  | s => exact r
  | nil => exact r
  | fn => exact r
  | ls k xs => exact Rep.frame (fun b q e hx => ⟨by rw [e]; exact R.lf b e hx, rfl⟩) r
  | pi k xs i c =>
    obtain ⟨r1, u, r2, r3⟩ := r
    exact ⟨r1, u, Rep.frame (fun b q e hx => ⟨by rw [e]; exact R.lf b e hx, rfl⟩) r2, r3⟩
  | sl e =>
    obtain ⟨r1, r2, r3⟩ := r
    obtain ⟨q1, q2, q3⟩ := R.ob _ _ e
    refine ⟨r1, q1, fun k xs g hl e2 => ?_⟩
    obtain ⟨g0, e3⟩ := q2 k xs g hl e2
    rw [R.ad _ _ e]; exact r3 k xs g0 hl e3
  | pc c e =>
    obtain ⟨r1, r2, r3⟩ := r
    obtain ⟨q1, q2, q3⟩ := R.ob _ _ e
    refine ⟨r1, q1, fun cs e2 => ?_⟩
    obtain ⟨cs', e3⟩ := q3 cs e2
    rw [R.ad _ _ e]; exact r3 cs' e3
  | pe i c e =>
    obtain ⟨r1, r2, r3⟩ := r
    obtain ⟨q1, q2, q3⟩ := R.ob _ _ e
    refine ⟨r1, q1, fun k xs g hl e2 => ?_⟩
    obtain ⟨g0, e3⟩ := q2 k xs g hl e2
    rw [R.ad _ _ e]; exact r3 k xs g0 hl e3
  | vw i c e h1 h2 =>
    obtain ⟨r1, r2, r3⟩ := r
    obtain ⟨q1, q2, q3⟩ := R.ob _ _ e
    refine ⟨r1, q1, fun k xs g' hl e2 => ?_⟩
    obtain ⟨k2, xs2, hl2, e4⟩ := h2
    rw [e4] at e2; cases e2
    refine ⟨Nat.le_refl _, fun _ => ?_⟩
    obtain ⟨g0, e3⟩ := q2 _ _ _ _ e4
    obtain ⟨k1, xs1, hl1, e5⟩ := h1
    rw [e5] at e3; cases e3
    obtain ⟨x1, x2, x3⟩ := (r3 _ _ _ _ e5).2 rfl
    exact ⟨x1, x2, by rw [R.ad _ _ e]; exact x3⟩
  | pe2 i c j c2 e h1 h2 =>
    obtain ⟨r1, r2, r3⟩ := r
    obtain ⟨q1, q2, q3⟩ := R.ob _ _ e
    refine ⟨r1, q1, fun k xs g' hl e2 => ?_⟩
    obtain ⟨k2, xs2, hl2, e4⟩ := h2
    rw [e4] at e2; cases e2
    refine ⟨Nat.le_refl _, fun _ => ?_⟩
    obtain ⟨g0, e3⟩ := q2 _ _ _ _ e4
    obtain ⟨k1, xs1, hl1, e5⟩ := h1
    rw [e5] at e3; cases e3
    intro e' ys hy
    obtain ⟨x1, x2, x4, x3⟩ := (r3 _ _ _ _ e5).2 rfl e' ys hy
    exact ⟨x1, x2, x4, by rw [R.ad _ _ e]; exact x3⟩
def RnCs (ρ : Nat → Option Nat) (ob ob' : Nat → Option OV) (l l' : List CV) : Prop := l'.length = l.length ∧ ∀ (j : Nat) (c c' : CV), l[j]? = some c → l'[j]? = some c' → RnC ρ ob ob' c c'
theorem CVRs.ren (R : Ren h lab lab' adr adr' ob ob' ρ) {l l' : List CV} {vs : List Value} (hr : RnCs ρ ob ob' l l') (r : CVRs h lab adr ob l vs) : CVRs h lab' adr' ob' l' vs := by
  refine ⟨by rw [hr.1]; exact r.1, fun j c' hj => ?_⟩
  have hjl : j < l.length := by have := (List.getElem?_eq_some_iff.1 hj).1; rw [hr.1] at this; exact this
  obtain ⟨v, h1, h2⟩ := r.2 j l[j] (List.getElem?_eq_getElem hjl)
  exact ⟨v, h1, CVR.ren R (hr.2 j _ _ (List.getElem?_eq_getElem hjl) hj) h2⟩
inductive RnA (ρ : Nat → Option Nat) (ob ob' : Nat → Option OV) : AV → AV → Prop where
  | u (v : AV) : RnA ρ ob ob' v (.one .u)
  | one {c c' : CV} (e : RnC ρ ob ob' c c') : RnA ρ ob ob' (.one c) (.one c')
  | agg {l l' : List CV} (e : RnCs ρ ob ob' l l') : RnA ρ ob ob' (.agg l) (.agg l')
theorem AVR.ren (R : Ren h lab lab' adr adr' ob ob' ρ) {x x' : AV} {v : Value} (hr : RnA ρ ob ob' x x') (r : AVR h lab adr ob x v) : AVR h lab' adr' ob' x' v := by
  cases hr with
  | u => trivial
  | one e => exact CVR.ren R e r
  | agg e =>
    obtain ⟨vs, e1, r1⟩ := r
    exact ⟨vs, e1, CVRs.ren R e r1⟩
inductive RnO (ρ : Nat → Option Nat) (ob ob' : Nat → Option OV) : OV → OV → Prop where
  | arr {k : K} {xs : List (den k)} {g g' : Nat} {hl : Option (Nat × Nat)} : RnO ρ ob ob' (.arr k xs g hl) (.arr k xs g' hl)
  | box {cs cs' : List CV} (e : RnCs ρ ob ob' cs cs') : RnO ρ ob ob' (.box cs) (.box cs')
theorem ObR.ren (R : Ren h lab lab' adr adr' ob ob' ρ) {o o' : Nat} {v v' : OV} (hr : RnO ρ ob ob' v v') (e : ρ o = some o') (r : ObR h lab adr ob o v) : ObR h lab' adr' ob' o' v' := by
  cases hr with
  | @arr k xs g g' hl =>
    cases hl with
    | none =>
      show Rep _ _ (.sl k) (some [o']) xs [adr' o']
      rw [R.ad _ _ e]
      exact Rep.relab (p := some [o]) (fun _ _ => ⟨_, rfl⟩) (fun b q hb hx => ⟨R.lo _ _ e b q (by simpa [ext] using hb) hx, rfl⟩) r
    | some ic =>
      obtain ⟨i, c⟩ := ic
      obtain ⟨r1, r2, ad, n, cp, r3, r4⟩ := r
      refine ⟨r1, r2, ad, n, cp, by rw [R.ad _ _ e]; exact r3, ?_⟩
      rw [R.ad _ _ e]
      exact Rep.relab (p := some [o]) (fun _ _ => ⟨_, rfl⟩) (fun b q hb hx => ⟨R.lo _ _ e b q (by simpa [ext] using hb) (setH_some hx), rfl⟩) r4
  | box ec =>
    obtain ⟨b, arr, t, r1, r2, r3, r4⟩ := r
    exact ⟨b, arr, t, by rw [R.ad _ _ e]; exact r1, R.lo _ _ e b [] r2 (by rw [r3]; simp), r3, r4.ren R ec⟩
end
end Go.Proofs.Ytnbfhbfnccihgaa.E

/- A state under fresh names. -/
namespace Go.Proofs.Ytnbfhbfnccihgaa.E
open Go
set_option linter.unusedVariables false
set_option linter.unusedSimpArgs false
def refsC : CV → List Nat
  | .sl o => [o]
  | .pc o _ => [o]
  | .pe o _ _ => [o]
  | .vw o _ _ _ => [o]
  | .pe2 o _ _ _ _ _ => [o]
  | _ => []
def cellsA : AV → List CV
  | .one c => [c]
  | .agg l => l
  | .tup _ => []
def addN (σ : St) (pn : Nat) (acc : List Nat) (o : Nat) : List Nat :=
  if o < pn ∨ acc.contains o = true then acc else match σ.o o with
    | some (.arr _ _ _ _) => acc ++ [o]
    | some (.box _) => acc ++ [o]
    | _ => acc
def addCs (σ : St) (pn : Nat) (acc : List Nat) (cs : List CV) : List Nat := (cs.flatMap refsC).foldl (addN σ pn) acc
def addB (σ : St) (pn : Nat) (acc : List Nat) (o : Nat) : List Nat := match σ.o o with | some (.box cs) => addCs σ pn acc cs | _ => acc
def names (σ : St) (pn : Nat) (live : List Nat) : List Nat :=
  let a1 := live.foldl (fun acc t => addCs σ pn acc (cellsA (σ.t t))) []
  (List.range pn ++ a1).foldl (addB σ pn) a1
def idxN : List Nat → Nat → Option Nat
  | [], _ => none
  | x :: l, o => if x = o then some 0 else (idxN l o).map (· + 1)
def rhoN (pn : Nat) (acc : List Nat) (o : Nat) : Option Nat := if o < pn then some o else (idxN acc o).map (500 + ·)
def nrC (σ : St) (ρ : Nat → Option Nat) : CV → CV
  | .sl o => match ρ o, σ.o o with | some o', some (.arr _ _ _ _) => .sl o' | _, _ => .u
  | .pc o c => match ρ o, σ.o o with | some o', some (.box _) => .pc o' c | _, _ => .u
  | .pe o i c => match ρ o, σ.o o with | some o', some (.arr _ _ _ _) => .pe o' i c | _, _ => .u
  | .vw o g i c => match ρ o, σ.o o with | some o', some (.arr _ _ g' _) => if g' = g then .vw o' 0 i c else .u | _, _ => .u
  | .pe2 o g i c j c2 => match ρ o, σ.o o with | some o', some (.arr _ _ g' _) => if g' = g then .pe2 o' 0 i c j c2 else .u | _, _ => .u
  | c => c
def nrA (σ : St) (ρ : Nat → Option Nat) : AV → AV
  | .one c => .one (nrC σ ρ c)
  | .agg l => .agg (l.map (nrC σ ρ))
  | .tup _ => .one .u
def nrO (σ : St) (ρ : Nat → Option Nat) : OV → OV
  | .arr k xs _ hl => .arr k xs 0 hl
  | .box cs => .box (cs.map (nrC σ ρ))
  | .dead => .dead
def norm0 (pn : Nat) (live : List Nat) (σ : St) : Option St :=
  let acc := names σ pn live
  let ρ := rhoN pn acc
  if acc.length ≤ 400 ∧ acc.contains X = false ∧ nodupB acc = true ∧ (acc.all fun o => decide (pn ≤ o)) = true then
    some ⟨live.map fun t => (t, nrA σ ρ (σ.t t)), ((List.range pn).map fun o => (o, nrO σ ρ ((σ.o o).getD .dead))) ++ (acc.zipIdx.map fun p => (500 + p.2, nrO σ ρ ((σ.o p.1).getD .dead)))⟩
  else none
section
variable {n0 : Nat} {h0 : Ent} {lab0 : Lb} {nt : Nat} {σ σ' : St} {a : Act} {w : World}
theorem look_map {α : Type} (f : Nat → α) : ∀ (l : List Nat) (n : Nat), look (l.map fun t => (t, f t)) n = if n ∈ l then some (f n) else none
  | [], n => by simp [look]
  | x :: l, n => by
    simp only [List.map_cons, look]
    by_cases e : x = n
    · subst e; simp
    · rw [if_neg e, look_map f l n]
      have e' : n ≠ x := fun h => e h.symm
      simp [e']
theorem look_zip {α : Type} (f : Nat → α) : ∀ (l : List Nat) (k n : Nat), look ((l.zipIdx k).map fun p => (500 + p.2, f p.1)) n = if 500 + k ≤ n then (l[n - (500 + k)]?).map f else none
  | [], k, n => by simp [look]
  | x :: l, k, n => by
    rw [List.zipIdx_cons, List.map_cons]
    simp only [look]
    rw [look_zip f l (k + 1) n]
    by_cases e : 500 + k = n
    · subst e; simp
    · rw [if_neg e]
      by_cases h : 500 + k ≤ n
      · rw [if_pos h, if_pos (by omega), show n - (500 + k) = (n - (500 + (k + 1))) + 1 from by omega, List.getElem?_cons_succ]
      · rw [if_neg h, if_neg (by omega)]
theorem idxN_some : ∀ {l : List Nat} {o i : Nat}, idxN l o = some i → l[i]? = some o
  | [], _, _, h => by cases h
  | x :: l, o, i, h => by
    unfold idxN at h
    split at h
    · cases h; rename_i e; simp [e]
    · obtain ⟨j, h1, rfl⟩ := Option.map_eq_some_iff.1 h
      simpa using idxN_some h1
theorem idxN_mem : ∀ {l : List Nat} {o i : Nat}, idxN l o = some i → o ∈ l := fun h => List.mem_of_getElem? (idxN_some h)
theorem idxN_at : ∀ {l : List Nat} {o i : Nat}, nodupB l = true → l[i]? = some o → idxN l o = some i
  | [], _, _, _, h => by simp at h
  | x :: l, o, 0, _, h => by simp at h; simp [idxN, h]
  | x :: l, o, i + 1, hn, h => by
    simp only [nodupB, Bool.and_eq_true, Bool.not_eq_true'] at hn
    rw [List.getElem?_cons_succ] at h
    unfold idxN
    rw [if_neg (fun e => ?_), idxN_at hn.2 h]; rfl
    subst e
    have : l.contains x = true := by simpa using List.mem_of_getElem? h
    rw [this] at hn; cases hn.1
theorem norm0_R {live : List Nat} (hpn : h0.pn ≤ 500) (hn : norm0 h0.pn live σ = some σ') (R : Rel n0 h0 lab0 nt σ a w) : Rel n0 h0 lab0 nt σ' a w := by
  unfold norm0 at hn
  simp only at hn
  generalize names σ h0.pn live = acc at hn
  split at hn <;> try (cases hn; done)
  rename_i hc
  obtain ⟨hc1, hc2, hc3, hc4⟩ := hc
  cases hn
  obtain ⟨lab, adr, M, T⟩ := R.mem
  have hXa : X ∉ acc := by
    intro h
    have : acc.contains X = true := by simpa using h
    rw [this] at hc2; cases hc2
  have hXp : ¬ X < h0.pn := by unfold X; omega
  have hrX : rhoN h0.pn acc X = none := by
    unfold rhoN
    rw [if_neg hXp]
    cases hi : idxN acc X with
    | none => rfl
    | some i => exact absurd (idxN_mem hi) hXa
  let lab' : Lb := fun b => match lab b with
    | some (o :: q) => if o = X then some (X :: q) else (rhoN h0.pn acc o).map (· :: q)
    | _ => none
  let adr' : Nat → Value := fun n => if n < h0.pn then adr n else (acc[n - 500]?.map adr).getD undef
  let ob' : Nat → Option OV := (⟨live.map fun t => (t, nrA σ (rhoN h0.pn acc) (σ.t t)), ((List.range h0.pn).map fun o => (o, nrO σ (rhoN h0.pn acc) ((σ.o o).getD .dead))) ++ (acc.zipIdx.map fun p => (500 + p.2, nrO σ (rhoN h0.pn acc) ((σ.o p.1).getD .dead)))⟩ : St).o
  have hob : ∀ n, ob' n = if n < h0.pn then some (nrO σ (rhoN h0.pn acc) ((σ.o n).getD .dead)) else if 500 ≤ n then (acc[n - 500]?).map fun o => nrO σ (rhoN h0.pn acc) ((σ.o o).getD .dead) else none := by
    intro n
    show look _ n = _
    rw [look_app, look_map (fun o => nrO σ (rhoN h0.pn acc) ((σ.o o).getD .dead)), look_zip (fun o => nrO σ (rhoN h0.pn acc) ((σ.o o).getD .dead))]
    by_cases h : n < h0.pn
    · simp [h]
    · simp [h]
  have hρ : ∀ o o', rhoN h0.pn acc o = some o' → ob' o' = some (nrO σ (rhoN h0.pn acc) ((σ.o o).getD .dead)) ∧ adr' o' = adr o ∧ o ≠ X := by
    intro o o' e
    refine ⟨?_, ?_, fun h => by rw [h, hrX] at e; cases e⟩
    all_goals
      unfold rhoN at e
      split at e
    · cases e; rename_i h; rw [hob, if_pos h]
    · obtain ⟨i, h1, rfl⟩ := Option.map_eq_some_iff.1 e
      have := idxN_some h1
      rw [hob, if_neg (by omega), if_pos (by omega), show 500 + i - 500 = i from by omega, this]; rfl
    · cases e; rename_i h; show (if _ then _ else _) = _; rw [if_pos h]
    · obtain ⟨i, h1, rfl⟩ := Option.map_eq_some_iff.1 e
      have := idxN_some h1
      show (if _ then _ else _) = _
      rw [if_neg (by omega), show 500 + i - 500 = i from by omega, this]; rfl
  have hnr : ∀ v o', ob' o' = some v → ∀ o, rhoN h0.pn acc o = some o' → v = nrO σ (rhoN h0.pn acc) ((σ.o o).getD .dead) := by
    intro v o' e o e2
    rw [(hρ o o' e2).1] at e
    exact (Option.some.inj e).symm
  have RN : Ren (hp w) lab lab' adr adr' σ.o ob' (rhoN h0.pn acc) := by
    refine ⟨fun b hb _ => by show (match lab b with | some (o :: q) => _ | _ => none) = _; rw [hb], fun o o' e b q hb hx => ?_, fun o o' e => (hρ o o' e).2.1, fun o o' e => ⟨by rw [(hρ o o' e).1]; simp, fun k xs g hl e2 => ?_, fun cs e2 => ?_⟩⟩
    · show (match lab b with | some (o :: q) => (if o = X then some (X :: q) else (rhoN h0.pn acc o).map (· :: q)) | _ => none) = _
      rw [hb]
      dsimp only
      rw [if_neg (hρ o o' e).2.2, e]; rfl
    · rw [(hρ o o' e).1] at e2
      cases hv : σ.o o with
      | none => rw [hv] at e2; simp [nrO] at e2
      | some v =>
        rw [hv] at e2
        cases v with
        | arr k' xs' g' hl' => simp [nrO] at e2; obtain ⟨rfl, e3, rfl, rfl⟩ := e2; cases e3; exact ⟨_, rfl⟩
        | box cs => simp [nrO] at e2
        | dead => simp [nrO] at e2
    · rw [(hρ o o' e).1] at e2
      cases hv : σ.o o with
      | none => rw [hv] at e2; simp [nrO] at e2
      | some v =>
        rw [hv] at e2
        cases v with
        | arr k' xs' g' hl' => simp [nrO] at e2
        | box cs => exact ⟨_, rfl⟩
        | dead => simp [nrO] at e2
  have hC : ∀ c, RnC (rhoN h0.pn acc) σ.o ob' c (nrC σ (rhoN h0.pn acc) c) := by
    intro c
    cases c <;> simp only [nrC]
    case u => exact .u _
    case i => exact .i _ _
    case b => exact .b _
    case s => exact .s _
    case nil => exact .nil
    case ls => exact .ls _ _
    case fn => exact .fn _
    case pi => exact .pi _ _ _ _
    case sl => split; · exact .sl (by assumption)
               · exact .u _
    case pc => split; · exact .pc _ (by assumption)
               · exact .u _
    case pe => split; · exact .pe _ _ (by assumption)
               · exact .u _
    case vw =>
      split
      · rename_i o' k xs g' hl e1 e2
        split
        · rename_i hg; subst hg
          exact .vw _ _ e1 ⟨_, _, _, e2⟩ ⟨k, xs, hl, by rw [(hρ _ _ e1).1, e2]; rfl⟩
        · exact .u _
      · exact .u _
    case pe2 =>
      split
      · rename_i o' k xs g' hl e1 e2
        split
        · rename_i hg; subst hg
          exact .pe2 _ _ _ _ e1 ⟨_, _, _, e2⟩ ⟨k, xs, hl, by rw [(hρ _ _ e1).1, e2]; rfl⟩
        · exact .u _
      · exact .u _
  have hCs : ∀ l : List CV, RnCs (rhoN h0.pn acc) σ.o ob' l (l.map (nrC σ (rhoN h0.pn acc))) := by
    intro l
    refine ⟨by simp, fun j c c' h1 h2 => ?_⟩
    rw [List.getElem?_map, h1] at h2
    cases h2
    exact hC c
  have hO : ∀ o o' v, rhoN h0.pn acc o = some o' → ob' o' = some v → v ≠ .dead → ObR (hp w) lab' adr' ob' o' v := by
    intro o o' v e1 e2 hnd
    have := hnr v o' e2 o e1
    subst this
    cases hv : σ.o o with
    | none => rw [hv] at hnd; exact absurd rfl hnd
    | some v =>
      rw [hv] at hnd
      have r := M.objs o v hv
      cases v with
      | dead => simp [nrO] at hnd
      | arr k xs g hl => exact ObR.ren RN .arr e1 r
      | box cs => exact ObR.ren RN (.box (hCs cs)) e1 r
  refine ⟨R.dfr, R.tms, lab', adr', ⟨fun n v hv => ?_, fun b hb hl => ?_, fun b hb => ?_, M.siz, M.sm, ?_, fun o ho => ?_, M.ent, M.glob⟩, fun t => ?_⟩
  · by_cases hd : v = .dead
    · subst hd; trivial
    · have hv' := hob n
      rw [show ob' n = some v from hv] at hv'
      by_cases h : n < h0.pn
      · exact hO n n v (by unfold rhoN; rw [if_pos h]) hv hd
      · rw [if_neg h] at hv'
        by_cases h5 : 500 ≤ n
        · rw [if_pos h5] at hv'
          obtain ⟨o, ho, _⟩ := Option.map_eq_some_iff.1 hv'.symm
          have hge : h0.pn ≤ o := of_decide_eq_true (List.all_eq_true.1 hc4 o (List.mem_of_getElem? ho))
          exact hO o n v (by unfold rhoN; rw [if_neg (by omega), idxN_at hc3 ho]; simp; omega) hv hd
        · rw [if_neg h5] at hv'; cases hv'
  · obtain ⟨e1, e2⟩ := M.frz b hb hl
    refine ⟨e1, ?_⟩
    cases hl0 : lab0 b with
    | none => show (match lab b with | some (o :: q) => _ | _ => none) = _; rw [e2, hl0]
    | some l =>
      obtain ⟨o, r, rfl, ho'⟩ := M.ent b l hl0
      have hoX : o = X := by
        rcases ho' with h | h
        · have := hl o r hl0; omega
        · exact h
      subst hoX
      show (match lab b with | some (o :: q) => (if o = X then some (X :: q) else (rhoN h0.pn acc o).map (· :: q)) | _ => none) = _
      rw [e2, hl0]; simp
  · refine M.bnd b (fun e => hb ?_)
    show (match lab b with | some (o :: q) => _ | _ => none) = _
    rw [e]
  · show ob' X = none
    rw [hob, if_neg hXp, if_pos (by unfold X; omega)]
    have : acc[X - 500]? = none := by rw [List.getElem?_eq_none]; unfold X; omega
    rw [this]; rfl
  · obtain ⟨p1, p2⟩ := M.par o ho
    have e1 : rhoN h0.pn acc o = some o := by unfold rhoN; rw [if_pos ho]
    refine ⟨by show ob' o ≠ none; rw [(hρ o o e1).1]; simp, fun v hv hnd => ?_⟩
    rw [show adr' o = adr o from (hρ o o e1).2.1]
    have := hnr v o hv o e1
    cases hs : σ.o o with
    | none => exact absurd hs p1
    | some v0 =>
      refine p2 v0 hs (fun h => hnd ?_)
      rw [this, hs, h]; rfl
  · show AVR _ _ _ _ ((look (live.map fun t => (t, nrA σ (rhoN h0.pn acc) (σ.t t))) t).getD (.one .u)) _
    rw [look_map (fun t => nrA σ (rhoN h0.pn acc) (σ.t t))]
    split
    · show AVR (hp w) lab' adr' ob' (nrA σ (rhoN h0.pn acc) (σ.t t)) _
      refine AVR.ren RN ?_ (T t)
      cases σ.t t with
      | one c => exact .one (hC c)
      | agg l => exact .agg (hCs l)
      | tup l => exact .u _
    · trivial
variable {h : Hp} {lab : Lb} {adr : Nat → Value} {ob : Nat → Option OV}
def adN (k : Nat) (adr : Nat → Value) : Nat → Value := fun o => if o = k then .slice none 0 0 else adr o
def obN (e : K) (k : Nat) (ob : Nat → Option OV) : Nat → Option OV := fun o => if o = k then some (.arr e [] 0 none) else ob o
theorem goesN {e : K} {k : Nat} (hk : ob k = none) (o : Nat) : Goes h h adr (adN k adr) ob (obN e k ob) o := by
  by_cases c : o = k
  · subst c; exact .inl hk
  · refine .inr (.inr (.inl ⟨by unfold obN; rw [if_neg c], by unfold adN; rw [if_neg c], fun _ _ _ _ => rfl⟩))
theorem nilC_R {h : Hp} {lab : Lb} {adr : Nat → Value} {ob : Nat → Option OV} {e : K} {k : Nat} (hk : ob k = none) {v : Value} (r : CVR h lab adr ob .nil v) : CVR h lab (adN k adr) (obN e k ob) (.sl k) v := by
  have hv : v = .slice none 0 0 := r
  subst hv
  refine ⟨⟨_, _, _, rfl⟩, by unfold obN; rw [if_pos rfl]; simp, fun _ _ _ _ _ => ?_⟩
  unfold adN; rw [if_pos rfl]
theorem keepC_R {e : K} {k : Nat} (hk : ob k = none) {c : CV} {v : Value} (r : CVR h lab adr ob c v) : CVR h lab (adN k adr) (obN e k ob) c v :=
  CVR.over (fun b h1 _ => ⟨h1, rfl⟩) (goesN hk) c v r

/-! own lists without elements in place of nil: asked for in the list of what is live (number of the temporary + 1000 * kinds of its cells, to the base 32) -/
def kTab : List K := [.int .i64, .int .i64, .sl (.int .i64), .str, .sl .str, .pair (.int .i64) (.pair (.int .i64) (.int .i64)), .sl (.pair (.int .i64) (.pair (.int .i64) (.int .i64))), .int .u8, .pair .str (.sl (.int .i64)), .bool, .pair (.int .i64) (.int .i64)]
def kNo (n : Nat) : K := kTab.getD n .bool
def nilAt (k i : Nat) (l : List CV) : Option (List CV) := match l[i]? with | some .nil => some (l.set i (.sl k)) | _ => none
def matV (k i : Nat) : AV → Option AV
  | .one .nil => if i = 0 then some (.one (.sl k)) else none
  | .agg l => (nilAt k i l).map .agg
  | _ => none
def mat1 (e : K) (k t i : Nat) (σ : St) : St :=
  match σ.o k with
  | some _ => σ
  | none => if k = X then σ else match σ.t t with
    | .one (.pc o _) => (match σ.o o with
      | some (.box cs) => (match nilAt k i cs with | some cs' => σ.put [] [(k, .arr e [] 0 none), (o, .box cs')] | none => σ)
      | _ => σ)
    | v => (match matV k i v with | some v' => σ.put [(t, v')] [(k, .arr e [] 0 none)] | none => σ)
def matD (t : Nat) : Nat → Nat → Nat → St → St
  | 0, _, _, σ => σ
  | f + 1, i, n, σ => if n = 0 then σ else matD t f (i + 1) (n / 32) (if n % 32 = 0 then σ else mat1 (kNo (n % 32)) (10000000 + t * 100 + i) t i σ)
def mats : List Nat → St → St
  | [], σ => σ
  | n :: l, σ => mats l (if n < 1000 then σ else matD (n % 1000) 12 0 (n / 1000) σ)
def norm (pn : Nat) (live : List Nat) (σ : St) : Option St := norm0 pn (live.map (· % 1000)) (mats live σ)
theorem nilAt_R {h : Hp} {lab : Lb} {adr adr' : Nat → Value} {ob ob' : Nat → Option OV} {k i : Nat} {l l' : List CV} {vs : List Value} (hl : nilAt k i l = some l') (hg : ∀ o, Goes h h adr adr' ob ob' o) (hk : adr' k = .slice none 0 0) (hk2 : ob' k ≠ none) (r : CVRs h lab adr ob l vs) : CVRs h lab adr' ob' l' vs := by
  unfold nilAt at hl
  split at hl <;> try (cases hl; done)
  rename_i hi
  cases hl
  refine ⟨by rw [List.length_set]; exact r.1, fun j c hj => ?_⟩
  rw [List.getElem?_set] at hj
  split at hj
  · rename_i e
    subst e
    split at hj <;> cases hj
    obtain ⟨v, h1, h2⟩ := r.2 i _ hi
    have hv : v = .slice none 0 0 := h2
    subst hv
    exact ⟨_, h1, ⟨_, _, _, rfl⟩, hk2, fun _ _ _ _ _ => hk.symm⟩
  · obtain ⟨v, h1, h2⟩ := r.2 j c hj
    exact ⟨v, h1, CVR.over (fun b h1 _ => ⟨h1, rfl⟩) hg c v h2⟩
theorem mat_obj {h : Hp} {lab : Lb} {adr : Nat → Value} {ob : Nat → Option OV} {e : K} {k : Nat} (ha : adr k = .slice none 0 0) : ObR h lab adr ob k (.arr e [] 0 none) :=
  ⟨none, 0, 0, by rw [ha], rfl, Nat.le_refl _, fun P _ => ⟨fun _ => by simp, fun ad h => by cases h⟩, fun h => absurd h (by omega), fun ad h => by cases h⟩
theorem mat1_R {e : K} {k t i : Nat} (R : Rel n0 h0 lab0 nt σ a w) : Rel n0 h0 lab0 nt (mat1 e k t i σ) a w := by
  unfold mat1
  split
  · exact R
  rename_i hk
  split
  · exact R
  rename_i hX
  obtain ⟨lab, adr, M, T⟩ := R.mem
  have hadk : adN k adr k = .slice none 0 0 := by unfold adN; rw [if_pos rfl]
  have hpar : ∀ o, o < h0.pn → o ≠ k := fun o ho e => (M.par o ho).1 (by rw [e]; exact hk)
  -- what holds of any such state
  have go : ∀ (ob' : Nat → Option OV) (tm' : Nat → AV), ob' k = some (.arr e [] 0 none) → (∀ q, q ≠ k → ob' q = σ.o q ∨ ∃ cs cs', σ.o q = some (.box cs) ∧ ob' q = some (.box cs') ∧ nilAt k i cs = some cs') →
      ((∀ o, Goes (hp w) (hp w) adr (adN k adr) σ.o ob' o) → ∀ t, AVR (hp w) lab (adN k adr) ob' (tm' t) (a.tmps.getD t undef)) → ∀ σ' : St, σ'.o = ob' → σ'.t = tm' → Rel n0 h0 lab0 nt σ' a w := by
    intro ob' tm' g1 g2 g3 σ' e1 e2
    have hg : ∀ o, Goes (hp w) (hp w) adr (adN k adr) σ.o ob' o := by
      intro o
      by_cases c : o = k
      · subst c; exact .inl hk
      · have ha : adN k adr o = adr o := by unfold adN; rw [if_neg c]
        rcases g2 o c with g | ⟨cs, cs', x1, x2, _⟩
        · exact .inr (.inr (.inl ⟨g, ha, fun _ _ _ _ => rfl⟩))
        · exact .inr (.inr (.inr (.inl ⟨cs, cs', x1, x2, ha⟩)))
    refine ⟨R.dfr, R.tms, lab, adN k adr, ⟨fun q v hv => ?_, M.frz, M.bnd, M.siz, M.sm, ?_, fun o ho => ?_, M.ent, M.glob⟩, fun t => ?_⟩
    · rw [e1] at hv ⊢
      by_cases c : q = k
      · subst c
        rw [g1] at hv; cases hv
        exact mat_obj hadk
      · have ha : adN k adr q = adr q := by unfold adN; rw [if_neg c]
        rcases g2 q c with g | ⟨cs, cs', x1, x2, x3⟩
        · exact ObR.same (fun b h1 _ => ⟨h1, rfl⟩) hg ha (fun b q h1 _ => ⟨rfl, rfl⟩) (M.objs q v (by rw [← g]; exact hv))
        · rw [x2] at hv; cases hv
          obtain ⟨b, arr, t, r1, r2, r3, r4⟩ := M.objs q _ x1
          exact ⟨b, arr, t, by rw [ha, r1], r2, r3, nilAt_R x3 hg hadk (by rw [g1]; simp) r4⟩
    · rw [e1]
      rcases g2 X (fun e => hX e.symm) with g | ⟨cs, cs', x1, _⟩
      · rw [g]; exact M.nox
      · rw [M.nox] at x1; cases x1
    · obtain ⟨p1, p2⟩ := M.par o ho
      have ha : adN k adr o = adr o := by unfold adN; rw [if_neg (hpar o ho)]
      rw [e1, ha]
      rcases g2 o (hpar o ho) with g | ⟨cs, cs', x1, x2, _⟩
      · rw [g]; exact ⟨p1, p2⟩
      · rw [x2]; exact ⟨by simp, fun v _ _ => p2 _ x1 (by simp)⟩
    · rw [e1, e2]; exact g3 hg t
  have keep : ∀ {ob' : Nat → Option OV}, (∀ o, Goes (hp w) (hp w) adr (adN k adr) σ.o ob' o) → ∀ t, AVR (hp w) lab (adN k adr) ob' (σ.t t) (a.tmps.getD t undef) := fun hg t => AVR.over (fun b h1 _ => ⟨h1, rfl⟩) hg (T t)
  split
  · rename_i o c ht
    split
    · rename_i cs ho
      split
      · rename_i cs' hc
        have hok : o ≠ k := fun e => by rw [e, hk] at ho; cases ho
        refine go (fun q => if k = q then some (.arr e [] 0 none) else if o = q then some (.box cs') else σ.o q) σ.t (by rw [if_pos rfl]) (fun q hq => ?_) (fun hg t => keep hg t) _ ?_ ?_
        · rw [if_neg (fun e => hq e.symm)]
          by_cases x : o = q
          · subst x; exact .inr ⟨cs, cs', ho, by rw [if_pos rfl], hc⟩
          · exact .inl (by rw [if_neg x])
        · funext q
          show look (_ ++ σ.ob) q = _
          simp only [List.cons_append, List.nil_append, look]
          rfl
        · rfl
      · exact R
    · exact R
  · split
    · rename_i v' hv
      refine go (fun q => if k = q then some (.arr e [] 0 none) else σ.o q) (fun n => if t = n then v' else σ.t n) (by rw [if_pos rfl]) (fun q hq => .inl (by rw [if_neg (fun e => hq e.symm)])) (fun hg n => ?_) _ ?_ ?_
      · split
        · rename_i ht
          subst ht
          have hT := T t
          have hs : ∀ v, CVR (hp w) lab adr σ.o .nil v → CVR (hp w) lab (adN k adr) (fun q => if k = q then some (.arr e [] 0 none) else σ.o q) (.sl k) v := fun v hv => by
            have hv : v = .slice none 0 0 := hv
            subst hv
            exact ⟨⟨_, _, _, rfl⟩, by dsimp only; rw [if_pos rfl]; simp, fun _ _ _ _ _ => hadk.symm⟩
          unfold matV at hv
          split at hv
          · rename_i hone
            split at hv <;> cases hv
            rw [hone] at hT
            exact hs _ hT
          · rename_i l hagg
            obtain ⟨l', h1, rfl⟩ := Option.map_eq_some_iff.1 hv
            rw [hagg] at hT
            obtain ⟨vs, x1, x2⟩ := hT
            exact ⟨vs, x1, nilAt_R h1 hg hadk (by rw [if_pos rfl]; simp) x2⟩
          · cases hv
        · exact keep hg n
      · funext q
        show look (_ ++ σ.ob) q = _
        simp only [List.cons_append, List.nil_append, look]
        rfl
      · funext n
        exact St.put_t_one σ t v' _ n
    · exact R
theorem matD_R {t : Nat} : ∀ (f i n : Nat) {σ : St}, Rel n0 h0 lab0 nt σ a w → Rel n0 h0 lab0 nt (matD t f i n σ) a w
  | 0, _, _, _, R => R
  | f + 1, i, n, σ, R => by
    unfold matD
    split
    · exact R
    · refine matD_R f _ _ ?_
      split
      · exact R
      · exact mat1_R R
theorem mats_R : ∀ (l : List Nat) {σ : St}, Rel n0 h0 lab0 nt σ a w → Rel n0 h0 lab0 nt (mats l σ) a w
  | [], _, R => R
  | n :: l, σ, R => by
    unfold mats
    refine mats_R l ?_
    split
    · exact R
    · exact matD_R _ _ _ R
theorem norm_R {live : List Nat} (hpn : h0.pn ≤ 500) (hn : norm h0.pn live σ = some σ') (R : Rel n0 h0 lab0 nt σ a w) : Rel n0 h0 lab0 nt σ' a w := norm0_R hpn hn (mats_R live R)
end
end Go.Proofs.Ytnbfhbfnccihgaa.E

/- Regions. -/
namespace Go.Proofs.Ytnbfhbfnccihgaa.E
open Go
set_option linter.unusedVariables false
set_option linter.unusedSimpArgs false
def opG (c : Cfg) (ops : Array Oper) (o : Oper) : Pg :=
  match o.guard with
  | none => opPg c o
  | some (j, want) => match (ops[j]?).bind (·.dst) with
    | some d => .rdT d fun
      | .one (.b b) => if want = true then .br b (opPg c o) (ret o.dst (.tup [])) else .br b (ret o.dst (.tup [])) (opPg c o)
      | .tup [] => ret o.dst (.tup [])
      | _ => .fail
    | none => .fail
def evSeq {R : Type} (c : Cfg) (ev : Ev) (ops : Array Oper) : List Oper → St → (St → Option R) → Option R
  | [], σ, K => K σ
  | o :: l, σ, K => (opG c ops o).go ev σ fun σ' => evSeq c ev ops l σ' K
structure Rc where
  rt : List Nat
  ro : List Nat
  wt : List Nat
  wo : List Nat
def edgesOf (o : Oper) : List Nat := (o.after.toList.filter (Region.binds .any)).map (·.on)
/-- Each number once. -/
def insL (l : List Nat) (x : Nat) : List Nat := match l.contains x with
  | true => l
  | false => x :: l
def nubL (l : List Nat) : List Nat := l.foldl insL []
theorem mem_insL {l : List Nat} {x y : Nat} (h : y ∈ insL l x) : y ∈ l ∨ y = x := by
  unfold insL at h
  split at h
  · exact .inl h
  · exact (List.mem_cons.1 h).symm
theorem mem_foldL : ∀ {l a : List Nat} {y : Nat}, y ∈ l.foldl insL a → y ∈ a ∨ y ∈ l
  | [], a, y, h => .inl h
  | x :: l, a, y, h => by
    rcases mem_foldL (l := l) (a := insL a x) h with h1 | h1
    · rcases mem_insL h1 with h2 | h2
      · exact .inl h2
      · exact .inr (by rw [h2]; exact List.mem_cons_self)
    · exact .inr (List.mem_cons_of_mem _ h1)
theorem mem_nubL {l : List Nat} {y : Nat} (h : y ∈ nubL l) : y ∈ l := (mem_foldL h).elim (fun h => absurd h List.not_mem_nil) id
def ancs : List Oper → List (List Nat) → List (List Nat)
  | [], acc => acc
  | o :: l, acc => ancs l (acc ++ [nubL ((edgesOf o).flatMap fun j => j :: acc.getD j [])])
def disj (a b : List Nat) : Bool := a.all fun x => !b.contains x
def conf (r s : Rc) : Bool := disj r.wt s.rt && disj r.wt s.wt && disj r.wo s.ro && disj r.wo s.wo && disj s.wt r.rt && disj s.wo r.ro
def indepB (an : List (List Nat)) (recs : List Rc) : Bool :=
  recs.zipIdx.all fun s => recs.zipIdx.all fun r => !(decide (r.2 < s.2)) || (an.getD s.2 []).contains r.2 || conf r.1 s.1
def backB (ops : List Oper) : Bool := ops.zipIdx.all fun p => (edgesOf p.1).all fun j => decide (j < p.2)
def evDraw {R : Type} (c : Cfg) (ev : Ev) (ops : Array Oper) : List Oper → List Rc → St → (St → Option R) → Option R
  | [], recs, σ, K => if indepB (ancs ops.toList []) recs = true ∧ backB ops.toList = true then K σ else none
  | o :: l, recs, σ, K => (opG c ops o).goR ev σ [] [] fun rt ro ws => evDraw c ev ops l (recs ++ [⟨rt, ro, ws.1.map (·.1), ws.2.map (·.1)⟩]) (σ.put ws.1 ws.2) K
def dstB (nt : Nat) (ops : List Oper) : Bool := ops.all fun o => match o.dst with | some d => decide (d < nt) | none => true
section
variable {n0 : Nat} {h0 : Ent} {lab0 : Lb} {nt : Nat} {σ σ' : St} {a : Act} {w : World} {ev : Ev} {P : Program} {c : Cfg} {R : Type}
def OpS (P : Program) (c : Cfg) (ev : Ev) (n0 : Nat) (h0 : Ent) (lab0 : Lb) (nt : Nat) : Prop :=
  ∀ (o : Oper) (σ : St) (a : Act) (w : World) (ws : List (Nat × AV)) (os : List (Nat × OV)), Rel n0 h0 lab0 nt σ a w → (∀ d, o.dst = some d → d < nt) → (opPg c o).wr ev σ = some (ws, os) →
    ∀ (K : Act → World → Prop) (Q : Exit → Act → World → Prop), (∀ a' w', Rel n0 h0 lab0 nt (σ.put ws os) a' w' → K a' w') → o.wp P a w K Q
theorem dstB_spec {ops : List Oper} (h : dstB nt ops = true) {o : Oper} (ho : o ∈ ops) : ∀ d, o.dst = some d → d < nt := by
  intro d hd
  have := List.all_eq_true.1 h o ho
  rw [hd] at this
  exact of_decide_eq_true this
theorem opG_ok (S : OpS P c ev n0 h0 lab0 nt) {ops : Array Oper} {o : Oper} {ws : List (Nat × AV)} {os : List (Nat × OV)} (r : Rel n0 h0 lab0 nt σ a w) (hd : ∀ d, o.dst = some d → d < nt) (hds : ∀ (j : Nat) (d : Tmp), (ops[j]?).bind (fun x : Oper => x.dst) = some d → d < nt) (h : (opG c ops o).wr ev σ = some (ws, os)) {K : Act → World → Prop} {Q : Exit → Act → World → Prop} (hk : ∀ a' w', Rel n0 h0 lab0 nt (σ.put ws os) a' w' → K a' w') :
    if Region.wanted o (yielded ops a.tmps) = true then o.wp P a w K Q ∨ (o.asks P a w ∧ LetsOut Q) else K (a.put o.dst undef) w := by
  unfold opG at h
  split at h
  · rename_i hg
    have : Region.wanted o (yielded ops a.tmps) = true := by unfold Region.wanted; rw [hg]
    rw [if_pos this]
    exact .inl (S o σ a w ws os r hd h K Q hk)
  · rename_i j want hg
    split at h <;> try (cases h; done)
    rename_i d hdj
    rw [Pg.wr] at h
    have hU : ∀ h lab adr ob, AVR h lab adr ob (.tup []) undef := fun _ _ _ _ => ⟨#[], rfl, rfl, fun j p hj => by simp at hj⟩
    obtain ⟨lab, adr, M, T⟩ := r.mem
    have ht := T d
    have hlt : d < a.tmps.size := by rw [r.tms]; exact hds j d hdj
    have skip : (ret o.dst (.tup [])).wr ev σ = some (ws, os) → K (a.put o.dst undef) w := fun h => hk _ _ (rel_ret r M T hd h (hU _ _ _ _))
    split at h <;> try (cases h; done)
    · rename_i b hb
      rw [hb] at ht
      have hv : a.tmps[d]? = some (.bool b) := by
        have : a.tmps.getD d undef = .bool b := ht
        rw [Array.getD_eq_getD_getElem?, Array.getElem?_eq_getElem hlt] at this
        rw [Array.getElem?_eq_getElem hlt]
        exact congrArg some this
      have hy : yielded ops a.tmps j = some b := by unfold yielded; rw [hdj]; simp [hv]
      have hw : Region.wanted o (yielded ops a.tmps) = (some b == some want) := by unfold Region.wanted; rw [hg]; simp [hy]
      rw [hw]
      cases want <;> cases b <;> simp [Pg.wr] at h
      · exact .inl (S o σ a w ws os r hd h K Q hk)
      · exact skip h
      · exact skip h
      · exact .inl (S o σ a w ws os r hd h K Q hk)
    · rename_i hb
      rw [hb] at ht
      obtain ⟨vs, e1, e2, _⟩ := ht
      have hvs : vs = #[] := Array.size_eq_zero_iff.1 e2.symm
      subst hvs
      have hv : a.tmps[d]? = some (.tuple #[]) := by
        rw [Array.getD_eq_getD_getElem?, Array.getElem?_eq_getElem hlt] at e1
        rw [Array.getElem?_eq_getElem hlt]
        exact congrArg some e1
      have hy : yielded ops a.tmps j = none := by unfold yielded; rw [hdj]; simp [hv]
      have hw : Region.wanted o (yielded ops a.tmps) = false := by unfold Region.wanted; rw [hg]; simp [hy]
      rw [hw]
      exact skip h
theorem go_wr {p : Pg} {K : St → Option R} {r : R} (h : p.go ev σ K = some r) : ∃ ws os, p.wr ev σ = some (ws, os) ∧ K (σ.put ws os) = some r := by
  rw [Pg.go_run] at h
  obtain ⟨⟨x, y, ws, os⟩, h1, h2⟩ := Option.bind_eq_some_iff.1 h
  exact ⟨ws, os, by rw [← Pg.run_wr, h1]; rfl, h2⟩
theorem hds_of {ops : Array Oper} (h : dstB nt ops.toList = true) : ∀ (j : Nat) (d : Tmp), (ops[j]?).bind (fun x : Oper => x.dst) = some d → d < nt := by
  intro j d hd
  obtain ⟨o, h1, h2⟩ := Option.bind_eq_some_iff.1 hd
  exact dstB_spec h (List.mem_of_getElem? (by simpa using h1)) d h2
theorem evSeq_ok (S : OpS P c ev n0 h0 lab0 nt) {ops : Array Oper} (hds : dstB nt ops.toList = true) {Q : Exit → Act → World → Prop} {K : St → Option R} {r : R} : ∀ (m : Nat) (i : Nat) (σ : St) (a : Act) (w : World), i + m = ops.size → Rel n0 h0 lab0 nt σ a w → evSeq c ev ops (ops.toList.drop i) σ K = some r →
    (∀ σ' a' w', Rel n0 h0 lab0 nt σ' a' w' → K σ' = some r → Q .normal a' w') → wpOps P ops Q ((List.range ops.size).drop i) a w := by
  intro m
  induction m with
  | zero =>
    intro i σ a w hi rl h hq
    have e1 : ops.toList.drop i = [] := by simp; omega
    have e2 : (List.range ops.size).drop i = [] := by simp; omega
    rw [e1] at h
    rw [e2]
    exact hq σ a w rl h
  | succ m ih =>
    intro i σ a w hi rl h hq
    have hlt : i < ops.size := by omega
    have e1 : ops.toList.drop i = ops[i] :: ops.toList.drop (i + 1) := by rw [List.drop_eq_getElem_cons (by simpa using hlt)]; simp
    have e2 : (List.range ops.size).drop i = i :: (List.range ops.size).drop (i + 1) := by rw [List.drop_eq_getElem_cons (by simpa using hlt)]; simp
    rw [e1] at h
    rw [e2]
    obtain ⟨ws, os, h1, h2⟩ := go_wr h
    have hmem : ops[i] ∈ ops.toList := by simp
    have := opG_ok S (K := wpOps P ops Q ((List.range ops.size).drop (i + 1))) (Q := Q) rl (dstB_spec hds hmem) (hds_of hds) h1 (fun a' w' r' => ih (i + 1) _ a' w' (by omega) r' h2 hq)
    rw [wpOps]
    have e3 : ops[i]? = some ops[i] := Array.getElem?_eq_getElem hlt
    rw [e3]
    exact this
end
end Go.Proofs.Ytnbfhbfnccihgaa.E

/- Regions whose order is drawn. -/
namespace Go.Proofs.Ytnbfhbfnccihgaa.E
open Go
set_option linter.unusedVariables false
set_option linter.unusedSimpArgs false
section
variable {n0 : Nat} {h0 : Ent} {lab0 : Lb} {nt : Nat} {σ σ' : St} {a : Act} {w : World} {ev : Ev} {P : Program} {c : Cfg} {R : Type}
/-- Two states that tell the same. -/
def Same (σ σ' : St) : Prop := (∀ t, σ.t t = σ'.t t) ∧ ∀ o, σ.o o = σ'.o o
theorem Same.refl (σ : St) : Same σ σ := ⟨fun _ => rfl, fun _ => rfl⟩
theorem Same.symm (h : Same σ σ') : Same σ' σ := ⟨fun t => (h.1 t).symm, fun o => (h.2 o).symm⟩
theorem Same.trans {σ'' : St} (h : Same σ σ') (h2 : Same σ' σ'') : Same σ σ'' := ⟨fun t => (h.1 t).trans (h2.1 t), fun o => (h.2 o).trans (h2.2 o)⟩
theorem Rel.same (h : Same σ σ') (r : Rel n0 h0 lab0 nt σ a w) : Rel n0 h0 lab0 nt σ' a w := by
  obtain ⟨lab, adr, M, T⟩ := r.mem
  have e : σ'.o = σ.o := funext fun o => (h.2 o).symm
  exact ⟨r.dfr, r.tms, lab, adr, by rw [e]; exact M, fun t => by rw [e, ← h.1 t]; exact T t⟩
theorem look_key {α : Type} {l : List (Nat × α)} {n : Nat} (h : look l n ≠ none) : n ∈ l.map (·.1) := by
  induction l with
  | nil => exact absurd rfl h
  | cons p l ih =>
    obtain ⟨m, v⟩ := p
    simp only [look] at h
    split at h
    · rename_i e; simp [e]
    · simp only [List.map_cons, List.mem_cons]; exact .inr (ih h)
theorem look_not {α : Type} {l : List (Nat × α)} {n : Nat} (h : n ∉ l.map (·.1)) : look l n = none := by
  cases e : look l n with
  | none => rfl
  | some v => exact absurd (look_key (by rw [e]; simp)) h
theorem put_o_not {ws : List (Nat × AV)} {os : List (Nat × OV)} {n : Nat} (h : n ∉ os.map (·.1)) : (σ.put ws os).o n = σ.o n := by rw [St.put_o, look_not h]; rfl
theorem put_t_not {ws : List (Nat × AV)} {os : List (Nat × OV)} {n : Nat} (h : n ∉ ws.map (·.1)) : (σ.put ws os).t n = σ.t n := by rw [St.put_t, look_not h]; rfl
theorem Same.put (h : Same σ σ') (ws : List (Nat × AV)) (os : List (Nat × OV)) : Same (σ.put ws os) (σ'.put ws os) := by
  refine ⟨fun t => ?_, fun o => by rw [St.put_o, St.put_o, h.2]⟩
  rw [St.put_t, St.put_t]
  cases look ws t with
  | some v => rfl
  | none => exact h.1 t
theorem put_comm {w1 w2 : List (Nat × AV)} {o1 o2 : List (Nat × OV)} (h1 : ∀ n ∈ w1.map (·.1), n ∉ w2.map (·.1)) (h2 : ∀ n ∈ o1.map (·.1), n ∉ o2.map (·.1)) : Same ((σ.put w1 o1).put w2 o2) ((σ.put w2 o2).put w1 o1) := by
  refine ⟨fun t => ?_, fun o => ?_⟩
  · by_cases m1 : t ∈ w1.map (·.1)
    · rw [put_t_not (h1 t m1), St.put_t, St.put_t]
      cases e : look w1 t with
      | some v => rfl
      | none => exact absurd (by simpa using m1) (fun hm => by
          have : look w1 t ≠ none := by
            clear e h1
            induction w1 with
            | nil => simp at hm
            | cons p l ih =>
              obtain ⟨m, v⟩ := p
              simp only [look]
              split
              · simp
              · rename_i hne
                exact ih (by simp only [List.map_cons, List.mem_cons] at m1; rcases m1 with h | h; · exact absurd h.symm hne
                             · exact h) (by simp only [List.map_cons, List.mem_cons] at m1; rcases m1 with h | h; · exact absurd h.symm hne
                                            · simpa using h)
          exact this e)
    · rw [put_t_not (σ := σ.put w2 o2) m1]
      rw [St.put_t, St.put_t]
      cases look w2 t with
      | some v => rfl
      | none => exact put_t_not m1
  · by_cases m1 : o ∈ o1.map (·.1)
    · rw [put_o_not (h2 o m1), St.put_o, St.put_o]
      cases e : look o1 o with
      | some v => rfl
      | none => exact absurd (by simpa using m1) (fun hm => by
          have : look o1 o ≠ none := by
            clear e h2
            induction o1 with
            | nil => simp at hm
            | cons p l ih =>
              obtain ⟨m, v⟩ := p
              simp only [look]
              split
              · simp
              · rename_i hne
                exact ih (by simp only [List.map_cons, List.mem_cons] at m1; rcases m1 with h | h; · exact absurd h.symm hne
                             · exact h) (by simp only [List.map_cons, List.mem_cons] at m1; rcases m1 with h | h; · exact absurd h.symm hne
                                            · simpa using h)
          exact this e)
    · rw [put_o_not (σ := σ.put w2 o2) m1, St.put_o (σ.put w1 o1) w2 o2 o, St.put_o σ w2 o2 o, put_o_not m1]
abbrev Full := List Nat × List Nat × Ws
def rcOf (r : Full) : Rc := ⟨r.1.reverse, r.2.1.reverse, r.2.2.1.map (·.1), r.2.2.2.map (·.1)⟩
/-- The rest is done, one after the other. -/
def RunSeq (ev : Ev) (p : Nat → Pg) (r : Nat → Full) (σn : St) : List Nat → St → Prop
  | [], σ => Same σ σn
  | i :: U, σ => (p i).run ev σ = some (r i) ∧ RunSeq ev p r σn U (σ.put (r i).2.2.1 (r i).2.2.2)
variable {p : Nat → Pg} {r : Nat → Full} {σn : St}
theorem run_same {q : Pg} {f : Full} (h : Same σ σ') (e : q.run ev σ = some f) : q.run ev σ' = some f := Pg.run_local ev q f e (fun n _ => (h.1 n).symm) (fun n _ => (h.2 n).symm)
theorem RunSeq.same : ∀ {U : List Nat} {σ σ' : St}, Same σ σ' → RunSeq ev p r σn U σ → RunSeq ev p r σn U σ'
  | [], _, _, h, e => h.symm.trans e
  | i :: U, _, _, h, ⟨e1, e2⟩ => ⟨run_same h e1, RunSeq.same (h.put _ _) e2⟩
theorem disj_spec {x y : List Nat} (h : disj x y = true) : ∀ n ∈ x, n ∉ y := by
  intro n hn
  have := List.all_eq_true.1 h n hn
  simpa using this
theorem RunSeq.front {i : Nat} {B : List Nat} : ∀ {A : List Nat} {σ : St}, (∀ a ∈ A, conf (rcOf (r a)) (rcOf (r i)) = true) → RunSeq ev p r σn (A ++ i :: B) σ → (p i).run ev σ = some (r i) ∧ RunSeq ev p r σn (A ++ B) (σ.put (r i).2.2.1 (r i).2.2.2)
  | [], σ, _, h => h
  | a :: A, σ, hc, ⟨h1, h2⟩ => by
    obtain ⟨h3, h4⟩ := RunSeq.front (fun x hx => hc x (List.mem_cons_of_mem _ hx)) h2
    have hca := hc a List.mem_cons_self
    simp only [conf, Bool.and_eq_true] at hca
    obtain ⟨⟨⟨⟨⟨c1, c2⟩, c3⟩, c4⟩, c5⟩, c6⟩ := hca
    have d1 := disj_spec c1
    have d2 := disj_spec c2
    have d3 := disj_spec c3
    have d4 := disj_spec c4
    have d5 := disj_spec c5
    have d6 := disj_spec c6
    have e1 : (p i).run ev σ = some (r i) := Pg.run_local ev (p i) (r i) h3 (fun n hn => (put_t_not (fun hm => d1 n hm (List.mem_reverse.2 hn))).symm) (fun n hn => (put_o_not (fun hm => d3 n hm (List.mem_reverse.2 hn))).symm)
    refine ⟨e1, ?_, ?_⟩
    · exact Pg.run_local ev (p a) (r a) h1 (fun n hn => put_t_not (fun hm => d5 n hm (List.mem_reverse.2 hn))) (fun n hn => put_o_not (fun hm => d6 n hm (List.mem_reverse.2 hn)))
    · exact RunSeq.same (put_comm d2 d4) h4
/-- What has not been done yet. -/
def unl (n : Nat) (l : Array Bool) : List Nat := (List.range n).filter fun i => !l.getD i true
theorem mem_unl {n i : Nat} {l : Array Bool} : i ∈ unl n l ↔ i < n ∧ l.getD i true = false := by simp [unl]
theorem unl_split {n i : Nat} {l : Array Bool} (hi : i ∈ unl n l) (hn : l.size = n) : ∃ A B, unl n l = A ++ i :: B ∧ unl n (l.setIfInBounds i true) = A ++ B ∧ ∀ a ∈ A, a < i := by
  obtain ⟨h1, h2⟩ := mem_unl.1 hi
  have hg : ∀ j, (l.setIfInBounds i true).getD j true = if i = j then true else l.getD j true := by
    intro j
    rw [Array.getD_eq_getD_getElem?, Array.getD_eq_getD_getElem?]
    by_cases e : i = j
    · subst e; rw [if_pos rfl, Array.getElem?_setIfInBounds_self_of_lt (by omega)]; rfl
    · rw [if_neg e, Array.getElem?_setIfInBounds_ne e]
  have hs : List.range n = List.range i ++ i :: (List.range (n - i - 1)).map (· + (i + 1)) := by
    have := List.range_add (n := i) (m := n - i)
    rw [show i + (n - i) = n from by omega] at this
    rw [this, show n - i = (n - i - 1) + 1 from by omega, List.range_succ_eq_map]
    simp only [List.map_cons, List.map_map]
    congr 2
    · simp; intro a _; omega
  refine ⟨(List.range i).filter fun j => !l.getD j true, ((List.range (n - i - 1)).map (· + (i + 1))).filter fun j => !l.getD j true, ?_, ?_, ?_⟩
  · unfold unl
    rw [hs, List.filter_append, List.filter_cons, if_pos (by simp [h2])]
  · unfold unl
    rw [hs, List.filter_append, List.filter_cons, if_neg (by simp [hg])]
    congr 1
    · apply List.filter_congr
      intro j hj
      rw [hg, if_neg (by simp at hj; omega)]
    · apply List.filter_congr
      intro j hj
      rw [hg, if_neg (by simp at hj; omega)]
  · intro a ha
    simp at ha
    omega
theorem getD_setI {l : Array Bool} {i j : Nat} (h : i < l.size) : (l.setIfInBounds i true).getD j true = if i = j then true else l.getD j true := by
  rw [Array.getD_eq_getD_getElem?, Array.getD_eq_getD_getElem?]
  by_cases e : i = j
  · subst e; rw [if_pos rfl, Array.getElem?_setIfInBounds_self_of_lt h]; rfl
  · rw [if_neg e, Array.getElem?_setIfInBounds_ne e]
/-- Every order does. -/
theorem any_ok (S : OpS P c ev n0 h0 lab0 nt) {ops : Array Oper} (hds : dstB nt ops.toList = true) {an : List (List Nat)} (hp : ∀ i (h : i < ops.size), p i = opG c ops ops[i])
    (hback : ∀ i (h : i < ops.size), ∀ j ∈ edgesOf ops[i], j < i) (hconf : ∀ i j, i < j → j < ops.size → i ∉ an.getD j [] → conf (rcOf (r i)) (rcOf (r j)) = true)
    (han : ∀ i (h : i < ops.size), ∀ x ∈ an.getD i [], ∃ j ∈ edgesOf ops[i], x = j ∨ x ∈ an.getD j []) {Q : Exit → Act → World → Prop} (hq : ∀ a' w', Rel n0 h0 lab0 nt σn a' w' → Q .normal a' w') :
    ∀ (fuel : Nat) (l : Array Bool) (σ : St) (a : Act) (w : World), l.size = ops.size → (unl ops.size l).length = fuel → (∀ i (h : i < ops.size), l.getD i true = true → ∀ j ∈ edgesOf ops[i], l.getD j true = true) → Rel n0 h0 lab0 nt σ a w → RunSeq ev p r σn (unl ops.size l) σ → wpAny P .any ops Q fuel l a w := by
  have hready : ∀ {l : Array Bool} {i : Nat}, i ∈ Region.ready .any ops l → l.size = ops.size → ∃ h : i < ops.size, l.getD i true = false ∧ ∀ j ∈ edgesOf ops[i], l.getD j true = true := by
    intro l i hi hsz
    unfold Region.ready at hi
    rw [List.mem_filter] at hi
    obtain ⟨h1, h2⟩ := hi
    have hlt : i < ops.size := by simpa using h1
    rw [Bool.and_eq_true, Array.getElem?_eq_getElem hlt] at h2
    refine ⟨hlt, by simpa using h2.1, fun j hj => ?_⟩
    have h3 := h2.2
    simp only [Option.map_some, Option.getD_some, Array.all_eq_true] at h3
    unfold edgesOf at hj
    rw [List.mem_map] at hj
    obtain ⟨e, he, rfl⟩ := hj
    rw [List.mem_filter] at he
    obtain ⟨k, hk, rfl⟩ := List.getElem_of_mem he.1
    have := h3 k (by simpa using hk)
    simp at this
    have hb : Region.binds .any (ops[i].after[k]'(by simpa using hk)) = true := by simpa using he.2
    rw [hb] at this
    simp only [Array.getElem_toList]
    rcases this with h | h
    · cases h
    · rw [Array.getD_eq_getD_getElem?] at *
      cases hq2 : l[ops[i].after[k].on]? with
      | none => rfl
      | some v =>
        rw [Array.getElem?_eq_some_iff] at hq2
        obtain ⟨hl, hv⟩ := hq2
        simp [hl] at h
        rw [← hv]; exact h
  intro fuel
  induction fuel with
  | zero =>
    intro l σ a w hsz hu hdc rl rs
    have hnil : unl ops.size l = [] := List.length_eq_zero_iff.1 hu
    rw [hnil] at rs
    refine ⟨?_, hq a w (rl.same rs)⟩
    apply List.eq_nil_iff_forall_not_mem.2
    intro i hi
    obtain ⟨h1, h2, _⟩ := hready hi hsz
    have : i ∈ unl ops.size l := mem_unl.2 ⟨h1, h2⟩
    rw [hnil] at this; cases this
  | succ fuel ih =>
    intro l σ a w hsz hu hdc rl rs
    refine ⟨fun hnone => ?_, fun i hi => ?_⟩
    · exfalso
      -- the least that has not been done is ready
      cases hul : unl ops.size l with
      | nil => rw [hul] at hu; cases hu
      | cons i U =>
        have hi : i ∈ unl ops.size l := by rw [hul]; exact List.mem_cons_self
        obtain ⟨h1, h2⟩ := mem_unl.1 hi
        have hmin : ∀ j, j < i → l.getD j true = true := by
          intro j hj
          obtain ⟨A, B, e1, e2, e3⟩ := unl_split hi hsz
          cases A with
          | cons x A =>
            rw [hul] at e1
            simp at e1
            have := e3 x List.mem_cons_self
            omega
          | nil =>
            cases hlj : l.getD j true with
            | true => rfl
            | false =>
              have hjm : j ∈ unl ops.size l := mem_unl.2 ⟨by omega, hlj⟩
              obtain ⟨A', B', f1, f2, f3⟩ := unl_split hjm hsz
              rw [hul] at f1
              cases A' with
              | nil => simp at f1; omega
              | cons y A' =>
                simp at f1
                have := f3 y List.mem_cons_self
                omega
        have : i ∈ Region.ready .any ops l := by
          unfold Region.ready
          rw [List.mem_filter]
          refine ⟨by simpa using h1, ?_⟩
          rw [Array.getElem?_eq_getElem h1]
          simp only [Option.map_some, Option.getD_some, Bool.and_eq_true, Array.all_eq_true]
          refine ⟨by rw [h2]; rfl, fun k hk => ?_⟩
          cases hb : Region.binds .any (ops[i].after[k]) with
          | false => rfl
          | true =>
            have hj : (ops[i].after[k]).on ∈ edgesOf ops[i] := by
              unfold edgesOf
              rw [List.mem_map]
              exact ⟨ops[i].after[k], by rw [List.mem_filter]; exact ⟨by simp, hb⟩, rfl⟩
            have hlt := hback i h1 _ hj
            have := hmin _ hlt
            have hl2 : (ops[i].after[k]).on < l.size := by omega
            simp [Array.getD, hl2] at this ⊢
            exact this
        rw [hnone] at this; cases this
    · obtain ⟨h1, h2, h3⟩ := hready hi hsz
      have him : i ∈ unl ops.size l := mem_unl.2 ⟨h1, h2⟩
      obtain ⟨A, B, e1, e2, e3⟩ := unl_split him hsz
      have hanc : ∀ x ∈ an.getD i [], l.getD x true = true := by
        have key : ∀ m i, i < m → ∀ (h : i < ops.size), (∀ j ∈ edgesOf ops[i], l.getD j true = true) → ∀ x ∈ an.getD i [], l.getD x true = true := by
          intro m
          induction m with
          | zero => intro i hi; omega
          | succ m ihm =>
            intro i hi h hd x hx
            obtain ⟨j, hj, hxj⟩ := han i h x hx
            have hlt := hback i h j hj
            rcases hxj with rfl | hxj
            · exact hd _ hj
            · exact ihm j (by omega) (by omega) (hdc j (by omega) (hd j hj)) x hxj
        exact key (i + 1) i (by omega) h1 h3
      rw [e1] at rs
      obtain ⟨f1, f2⟩ := RunSeq.front (fun a ha => hconf a i (e3 a ha) h1 (fun hm => by
        have hau : a ∈ unl ops.size l := by rw [e1]; exact List.mem_append_left _ ha
        have := (mem_unl.1 hau).2
        rw [hanc a hm] at this; cases this)) rs
      rw [hp i h1] at f1
      have hwr : (opG c ops ops[i]).wr ev σ = some ((r i).2.2.1, (r i).2.2.2) := by rw [← Pg.run_wr, f1]; rfl
      have hlen : (unl ops.size (l.setIfInBounds i true)).length = fuel := by
        rw [e2]; rw [e1] at hu; simp at hu ⊢; omega
      have hmem : ops[i] ∈ ops.toList := by simp
      unfold wpOp
      rw [Array.getElem?_eq_getElem h1]
      exact opG_ok S rl (dstB_spec hds hmem) (hds_of hds) hwr (fun a' w' r' => ih _ _ a' w' (by rw [Array.size_setIfInBounds]; exact hsz) hlen (fun j hj hlj k hk => by
        rw [getD_setI (by omega)] at hlj ⊢
        split
        · rfl
        · split at hlj
          · rename_i e; subst e; exact h3 k hk
          · exact hdc j hj hlj k hk) r' (by rw [e2]; exact f2))
end
end Go.Proofs.Ytnbfhbfnccihgaa.E

/- Regions and code. -/
namespace Go.Proofs.Ytnbfhbfnccihgaa.E
open Go
set_option linter.unusedVariables false
set_option linter.unusedSimpArgs false
def evReg {R : Type} (c : Cfg) (ev : Ev) (nt : Nat) (ops : Array Oper) (draw : Bool) (σ : St) (K : St → Option R) : Option R :=
  if dstB nt ops.toList = true then (if draw = true then evDraw c ev ops ops.toList [] σ K else evSeq c ev ops ops.toList σ K) else none
inductive Ex where
  | n
  | x (id : Nat)
  | r
def evX (σ : St) : Operand → CV
  | .tmp t => match σ.t t with | .one c => c | _ => .u
  | .const v => cst v
  | _ => .u
abbrev Kt := Ex → St → Option Res
def evC' (c : Cfg) (ev : Ev) (nt pn : Nat) (lv : List (Nat × List Nat)) (rec : Code → St → Kt → Option Res) : Code → St → Kt → Option Res
  | .skip, σ, K => K .n σ
  | .region id ops draw, σ, K => match look lv id with
    | some live => match norm pn live σ with
      | some σ' => evReg c ev nt ops draw σ' (K .n)
      | none => none
    | none => evReg c ev nt ops draw σ (K .n)
  | .seq x y, σ, K => evC' c ev nt pn lv rec x σ fun e σ' => match e with
    | .n => evC' c ev nt pn lv rec y σ' K
    | .x id => K (.x id) σ'
    | .r => K .r σ'
  | .cond x t e, σ, K => match evX σ x with
    | .b b => if b = true then evC' c ev nt pn lv rec t σ K else evC' c ev nt pn lv rec e σ K
    | _ => none
  | .block id body, σ, K => evC' c ev nt pn lv rec body σ fun e σ' => match e with
    | .x id' => if id' = id then K .n σ' else K (.x id') σ'
    | .n => K .n σ'
    | .r => K .r σ'
  | .loop body, σ, K => rec body σ fun e σ' => match e with
    | .n => rec (.loop body) σ' K
    | .x id => K (.x id) σ'
    | .r => K .r σ'
  | .exit id, σ, K => K (.x id) σ
  | .ret, σ, K => K .r σ
  | _, _, _ => none
section
variable {n0 : Nat} {h0 : Ent} {lab0 : Lb} {nt pn : Nat} {σ σ' : St} {a : Act} {w : World} {ev : Ev} {P : Program} {c : Cfg} {R : Type}
theorem ancs_spec : ∀ (l : List Oper) (acc : List (List Nat)), ∃ rest, ancs l acc = acc ++ rest ∧ rest.length = l.length ∧ ∀ k (hk : k < l.length), rest[k]? = some (nubL ((edgesOf l[k]).flatMap fun j => j :: (acc ++ rest.take k).getD j []))
  | [], acc => ⟨[], by simp [ancs], rfl, fun k hk => absurd hk (Nat.not_lt_zero _)⟩
  | o :: l, acc => by
    obtain ⟨rest, h1, h2, h3⟩ := ancs_spec l (acc ++ [nubL ((edgesOf o).flatMap fun j => j :: acc.getD j [])])
    refine ⟨nubL ((edgesOf o).flatMap fun j => j :: acc.getD j []) :: rest, ?_, by simp [h2], fun k hk => ?_⟩
    · rw [ancs, h1]; simp
    · cases k with
      | zero => simp
      | succ k =>
        have := h3 k (by simpa using hk)
        simp only [List.getElem?_cons_succ, List.getElem_cons_succ, List.take_succ_cons]
        rw [this]; simp
theorem anc_ok (ops : Array Oper) : ∀ i (h : i < ops.size), ∀ x ∈ (ancs ops.toList []).getD i [], ∃ j ∈ edgesOf ops[i], x = j ∨ x ∈ (ancs ops.toList []).getD j [] := by
  intro i h x hx
  obtain ⟨rest, h1, h2, h3⟩ := ancs_spec ops.toList []
  rw [List.nil_append] at h1
  rw [h1] at hx ⊢
  have h4 := h3 i (by simpa using h)
  rw [List.getD_eq_getElem?_getD, h4, Option.getD_some] at hx
  have hx := mem_nubL hx
  simp only [List.mem_flatMap, List.mem_cons, List.nil_append, Array.getElem_toList] at hx
  obtain ⟨j, hj, hx⟩ := hx
  refine ⟨j, hj, hx.imp id fun hx => ?_⟩
  rw [List.getD_eq_getElem?_getD] at hx ⊢
  rw [List.getElem?_take] at hx
  split at hx
  · exact hx
  · simp at hx
theorem indepB_spec {an : List (List Nat)} {recs : List Rc} (h : indepB an recs = true) {i j : Nat} {r s : Rc} (hij : i < j) (hi : recs[i]? = some r) (hj : recs[j]? = some s) (hn : i ∉ an.getD j []) : conf r s = true := by
  have h1 := List.all_eq_true.1 h (s, j) (by rw [List.mem_iff_getElem?]; exact ⟨j, by rw [List.getElem?_zipIdx, hj]; simp⟩)
  have h2 := List.all_eq_true.1 h1 (r, i) (by rw [List.mem_iff_getElem?]; exact ⟨i, by rw [List.getElem?_zipIdx, hi]; simp⟩)
  simp [hij] at h2
  rcases h2 with h2 | h2
  · exact absurd (by simpa using h2) hn
  · exact h2
theorem backB_spec {ops : Array Oper} (h : backB ops.toList = true) : ∀ i (hi : i < ops.size), ∀ j ∈ edgesOf ops[i], j < i := by
  intro i hi j hj
  have h1 := List.all_eq_true.1 h (ops[i], i) (by rw [List.mem_iff_getElem?]; exact ⟨i, by rw [List.getElem?_zipIdx]; simp [hi]⟩)
  exact of_decide_eq_true (List.all_eq_true.1 h1 j hj)
theorem RunSeq.congr {p : Nat → Pg} {f g : Nat → Full} {σn : St} : ∀ {U : List Nat} {σ : St}, (∀ j ∈ U, f j = g j) → RunSeq ev p f σn U σ → RunSeq ev p g σn U σ
  | [], _, _, h => h
  | i :: U, σ, hc, ⟨h1, h2⟩ => by
    rw [hc i List.mem_cons_self] at h1 h2
    exact ⟨h1, RunSeq.congr (fun j hj => hc j (List.mem_cons_of_mem _ hj)) h2⟩
theorem evDraw_run {ops : Array Oper} {K : St → Option R} {r : R} : ∀ (m i : Nat) (recs : List Rc) (σ : St), i + m = ops.size → evDraw c ev ops (ops.toList.drop i) recs σ K = some r →
    ∃ (fr : Nat → Full) (σn : St), RunSeq ev (fun i => if h : i < ops.size then opG c ops ops[i] else .fail) fr σn ((List.range ops.size).drop i) σ ∧ K σn = some r ∧ indepB (ancs ops.toList []) (recs ++ ((List.range ops.size).drop i).map fun j => rcOf (fr j)) = true ∧ backB ops.toList = true := by
  intro m
  induction m with
  | zero =>
    intro i recs σ hi h
    have e1 : ops.toList.drop i = [] := by simp; omega
    have e2 : (List.range ops.size).drop i = [] := by simp; omega
    rw [e1] at h
    rw [e2]
    unfold evDraw at h
    split at h <;> try (cases h; done)
    rename_i hc
    exact ⟨fun _ => ([], [], [], []), σ, Same.refl σ, h, by simpa using hc.1, hc.2⟩
  | succ m ih =>
    intro i recs σ hi h
    have hlt : i < ops.size := by omega
    have e1 : ops.toList.drop i = ops[i] :: ops.toList.drop (i + 1) := by rw [List.drop_eq_getElem_cons (by simpa using hlt)]; simp
    have e2 : (List.range ops.size).drop i = i :: (List.range ops.size).drop (i + 1) := by rw [List.drop_eq_getElem_cons (by simpa using hlt)]; simp
    rw [e1] at h
    rw [evDraw, Pg.goR_run] at h
    obtain ⟨f, h1, h2⟩ := Option.bind_eq_some_iff.1 h
    obtain ⟨fr, σn, g1, g2, g3, g4⟩ := ih (i + 1) _ _ (by omega) h2
    have hagree : ∀ j ∈ (List.range ops.size).drop (i + 1), (if j = i then f else fr j) = fr j := by
      intro j hj
      rw [if_neg]
      intro e
      obtain ⟨k, hk, e2⟩ := List.getElem_of_mem hj
      simp at e2
      omega
    refine ⟨fun j => if j = i then f else fr j, σn, ?_, g2, ?_, g4⟩
    · rw [e2]
      refine ⟨?_, ?_⟩
      · simp only [dif_pos hlt, if_true]; exact h1
      · simp only [if_true]
        exact RunSeq.congr (fun j hj => (hagree j hj).symm) g1
    · rw [e2, List.map_cons, List.map_congr_left (fun j hj => congrArg rcOf (hagree j hj))]
      simp only [if_true]
      simpa [rcOf] using g3
/-- A region. -/
theorem reg_ok (hf : P.follows .mixedOrders = true) (S : OpS P c ev n0 h0 lab0 nt) {id : Nat} {ops : Array Oper} {draw : Bool} {K : St → Option R} {r : R} (rl : Rel n0 h0 lab0 nt σ a w) (h : evReg c ev nt ops draw σ K = some r) {Q : Exit → Act → World → Prop}
    (hq : ∀ σ' a' w', Rel n0 h0 lab0 nt σ' a' w' → K σ' = some r → Q .normal a' w') : (Code.region id ops draw).wp P Q a w := by
  unfold evReg at h
  split at h <;> try (cases h; done)
  rename_i hds
  split at h
  · rename_i hd
    subst hd
    have h' : evDraw c ev ops (ops.toList.drop 0) [] σ K = some r := h
    obtain ⟨fr, σn, g1, g2, g3, g4⟩ := evDraw_run ops.size 0 [] σ (by omega) h'
    have rl' : Rel n0 h0 lab0 nt σ a { w with drawn := w.drawn + 1 } := by
      obtain ⟨lab, adr, M, T⟩ := rl.mem
      exact ⟨rl.dfr, rl.tms, lab, adr, ⟨M.objs, M.frz, M.bnd, M.siz, M.sm.trans ⟨rfl, rfl, rfl⟩, M.nox, M.par, M.ent, M.glob⟩, T⟩
    have hu : unl ops.size (Array.replicate ops.size false) = List.range ops.size := by
      unfold unl
      rw [List.filter_eq_self]
      intro i hi
      have : i < ops.size := by simpa using hi
      simp [Array.getD, this]
    refine wp_region_any hf (any_ok S hds (an := ancs ops.toList []) (p := fun i => if h : i < ops.size then opG c ops ops[i] else .fail) (r := fr) (σn := σn) (fun i h => dif_pos h) (backB_spec g4) ?_ (anc_ok ops) (fun a' w' r' => hq σn a' w' r' g2) ops.size _ σ a _ (by simp) (by rw [hu]; simp) ?_ rl' (by rw [hu]; exact g1))
    · intro i j hij hj hn
      have e : ∀ k, k < ops.size → (([] : List Rc) ++ ((List.range ops.size).drop 0).map fun j => rcOf (fr j))[k]? = some (rcOf (fr k)) := by
        intro k hk
        simp [hk]
      exact indepB_spec g3 hij (e i (by omega)) (e j hj) hn
    · intro i hi hl
      simp [Array.getD, hi] at hl
  · rename_i hd
    have hd' : draw = false := by simpa using hd
    subst hd'
    exact wp_region (evSeq_ok S hds ops.size 0 σ a w (by omega) rl h hq)
end
end Go.Proofs.Ytnbfhbfnccihgaa.E

/- Code: what holds of every end of it. -/
namespace Go.Proofs.Ytnbfhbfnccihgaa.E
open Go
set_option linter.unusedVariables false
set_option linter.unusedSimpArgs false
def holds : Option Prop → Prop
  | some p => p
  | none => False
abbrev Kp := Ex → St → Prop
/-- What the code does, said of a state of the evaluator. A loop is shown by an invariant whose number falls. -/
def wpE (c : Cfg) (ev : Ev) (nt pn : Nat) (lv : List (Nat × List Nat)) : Code → St → Kp → Prop
  | .skip, σ, K => K .n σ
  | .region id ops draw, σ, K => match look lv id with
    | some live => (match norm pn live σ with
      | some σ' => holds (evReg c ev nt ops draw σ' fun σ2 => some (K .n σ2))
      | none => False)
    | none => holds (evReg c ev nt ops draw σ fun σ2 => some (K .n σ2))
  | .seq x y, σ, K => wpE c ev nt pn lv x σ fun e σ' => match e with
    | .n => wpE c ev nt pn lv y σ' K
    | .x id => K (.x id) σ'
    | .r => K .r σ'
  | .cond x t e, σ, K => match evX σ x with
    | .b b => if b = true then wpE c ev nt pn lv t σ K else wpE c ev nt pn lv e σ K
    | _ => False
  | .block id body, σ, K => wpE c ev nt pn lv body σ fun e σ' => match e with
    | .x id' => if id' = id then K .n σ' else K (.x id') σ'
    | .n => K .n σ'
    | .r => K .r σ'
  | .loop body, σ, K => ∃ I : Nat → St → Prop, (∃ n, I n σ) ∧ ∀ n σ', I n σ' → wpE c ev nt pn lv body σ' fun e σ2 => match e with
    | .n => ∃ m, m < n ∧ I m σ2
    | .x id => K (.x id) σ2
    | .r => K .r σ2
  | .exit id, σ, K => K (.x id) σ
  | .ret, σ, K => K .r σ
  | _, _, _ => False
def exOf : Ex → Exit
  | .n => .normal
  | .x id => .exit id
  | .r => .ret
section
variable {n0 : Nat} {h0 : Ent} {lab0 : Lb} {nt : Nat} {σ σ' : St} {a : Act} {w : World} {ev : Ev} {P : Program} {c : Cfg} {R : Type}
def PostK (n0 : Nat) (h0 : Ent) (lab0 : Lb) (nt : Nat) (K : Kp) (e : Exit) (a : Act) (w : World) : Prop := ∃ x σ, exOf x = e ∧ Rel n0 h0 lab0 nt σ a w ∧ K x σ
theorem evSeq_bind {ops : Array Oper} {K : St → Option R} : ∀ (l : List Oper) (σ : St), evSeq c ev ops l σ K = (evSeq c ev ops l σ some).bind K
  | [], σ => rfl
  | o :: l, σ => by
    rw [evSeq, evSeq, Pg.go_run, Pg.go_run, Option.bind_assoc]
    congr 1; funext r
    exact evSeq_bind l _
theorem evDraw_bind {ops : Array Oper} {K : St → Option R} : ∀ (l : List Oper) (acc : List Rc) (σ : St), evDraw c ev ops l acc σ K = (evDraw c ev ops l acc σ some).bind K
  | [], acc, σ => by
    unfold evDraw
    split <;> rfl
  | o :: l, acc, σ => by
    rw [evDraw, evDraw, Pg.goR_run, Pg.goR_run, Option.bind_assoc]
    congr 1; funext r
    exact evDraw_bind l _ _
theorem evReg_bind {ops : Array Oper} {draw : Bool} {K : St → Option R} : evReg c ev nt ops draw σ K = (evReg c ev nt ops draw σ some).bind K := by
  unfold evReg
  split
  · split
    · exact evDraw_bind _ _ _
    · exact evSeq_bind _ _
  · rfl
theorem holds_reg {ops : Array Oper} {draw : Bool} {K : St → Prop} : holds (evReg c ev nt ops draw σ fun σ2 => some (K σ2)) ↔ ∃ σ2, evReg c ev nt ops draw σ some = some σ2 ∧ K σ2 := by
  rw [evReg_bind]
  cases evReg c ev nt ops draw σ some with
  | none => simp [holds]
  | some x => simp [holds]
/-- The state that a region starts with. -/
def nrm (pn : Nat) (lv : List (Nat × List Nat)) (id : Nat) (σ : St) : Option St := match look lv id with | some live => norm pn live σ | none => some σ
theorem wpE_region {pn : Nat} {lv : List (Nat × List Nat)} {id : Nat} {ops : Array Oper} {draw : Bool} {K : Kp} : wpE c ev nt pn lv (.region id ops draw) σ K ↔ ∃ σ1, nrm pn lv id σ = some σ1 ∧ ∃ σ2, evReg c ev nt ops draw σ1 some = some σ2 ∧ K .n σ2 := by
  unfold wpE nrm
  split
  · rename_i live hl
    split
    · rename_i σ' hσ
      rw [holds_reg (K := fun s => K .n s)]
      simp [hσ]
    · rename_i hσ; simp [hσ]
  · rw [holds_reg (K := fun s => K .n s)]; simp
theorem wpE_mono {pn : Nat} {lv : List (Nat × List Nat)} : ∀ (code : Code) (σ : St) (K K' : Kp), (∀ x σ, K x σ → K' x σ) → wpE c ev nt pn lv code σ K → wpE c ev nt pn lv code σ K'
  | .skip, σ, K, K', hk, h => hk _ _ h
  | .exit id, σ, K, K', hk, h => hk _ _ h
  | .ret, σ, K, K', hk, h => hk _ _ h
  | .seq x y, σ, K, K', hk, h => by
    unfold wpE at h ⊢
    refine wpE_mono x σ _ _ (fun e σ' he => ?_) h
    cases e with
    | n => exact wpE_mono y σ' K K' hk he
    | x id => exact hk _ _ he
    | r => exact hk _ _ he
  | .cond x t e, σ, K, K', hk, h => by
    unfold wpE at h ⊢
    split at h
    · rename_i b hb
      split at h
      · rename_i e1; rw [if_pos e1]; exact wpE_mono t σ K K' hk h
      · rename_i e1; rw [if_neg e1]; exact wpE_mono e σ K K' hk h
    · exact h.elim
  | .block id body, σ, K, K', hk, h => by
    unfold wpE at h ⊢
    refine wpE_mono body σ _ _ (fun e σ' he => ?_) h
    cases e with
    | n => exact hk _ _ he
    | x id' =>
      simp only at he ⊢
      split at he
      · rename_i e; rw [if_pos e]; exact hk _ _ he
      · rename_i e; rw [if_neg e]; exact hk _ _ he
    | r => exact hk _ _ he
  | .loop body, σ, K, K', hk, h => by
    unfold wpE at h ⊢
    obtain ⟨I, h1, h2⟩ := h
    refine ⟨I, h1, fun n σ' hi => wpE_mono body σ' _ _ (fun e σ2 he => ?_) (h2 n σ' hi)⟩
    cases e with
    | n => exact he
    | x id => exact hk _ _ he
    | r => exact hk _ _ he
  | .region id ops draw, σ, K, K', hk, h => by
    obtain ⟨σ1, h1, σ2, h2, h3⟩ := wpE_region.1 h
    exact wpE_region.2 ⟨σ1, h1, σ2, h2, hk _ _ h3⟩
  | .label _, _, _, _, _, h => h.elim
  | .goto _, _, _, _, _, h => h.elim
theorem nrm_R {pn : Nat} {lv : List (Nat × List Nat)} {id : Nat} (hp : pn = h0.pn) (hpn : h0.pn ≤ 500) (h : nrm pn lv id σ = some σ') (r : Rel n0 h0 lab0 nt σ a w) : Rel n0 h0 lab0 nt σ' a w := by
  unfold nrm at h
  split at h
  · subst hp; exact norm_R hpn h r
  · cases h; exact r
/-- The evaluator tells the truth about code. -/
theorem wpE_ok (hf : P.follows .mixedOrders = true) (S : OpS P c ev n0 h0 lab0 nt) (hpn : h0.pn ≤ 500) {lv : List (Nat × List Nat)} : ∀ (code : Code) (σ : St) (a : Act) (w : World) (K : Kp), Rel n0 h0 lab0 nt σ a w → wpE c ev nt h0.pn lv code σ K → code.wp P (PostK n0 h0 lab0 nt K) a w
  | .skip, σ, a, w, K, r, h => wp_skip ⟨.n, σ, rfl, r, h⟩
  | .exit id, σ, a, w, K, r, h => wp_exit ⟨.x id, σ, rfl, r, h⟩
  | .ret, σ, a, w, K, r, h => wp_ret ⟨.r, σ, rfl, r, h⟩
  | .seq x y, σ, a, w, K, r, h => by
    unfold wpE at h
    refine wp_seq (wp_mono (wpE_ok hf S hpn x σ a w _ r h) ?_)
    rintro e a' w' ⟨x', σ', rfl, r', hk⟩
    cases x' with
    | n => exact wpE_ok hf S hpn y σ' a' w' K r' hk
    | x id => exact ⟨.x id, σ', rfl, r', hk⟩
    | r => exact ⟨.r, σ', rfl, r', hk⟩
  | .cond x t e, σ, a, w, K, r, h => by
    unfold wpE at h
    split at h
    · rename_i b hb
      have hv : a.eval x = .bool b := by
        obtain ⟨lab, adr, M, T⟩ := r.mem
        cases x with
        | tmp n =>
          simp only [evX] at hb
          split at hb
          · rename_i cv hcv
            have := T n
            rw [hcv, hb] at this
            exact this
          · cases hb
        | const v =>
          simp only [evX] at hb
          have := cst_R (hp w) lab adr σ.o v
          rw [hb] at this
          exact this
        | _ => cases hb
      refine wp_cond hv ?_
      split at h
      · rename_i e1; rw [if_pos e1]; exact wpE_ok hf S hpn t σ a w K r h
      · rename_i e1; rw [if_neg e1]; exact wpE_ok hf S hpn e σ a w K r h
    · exact h.elim
  | .block id body, σ, a, w, K, r, h => by
    unfold wpE at h
    refine wp_block (wp_mono (wpE_ok hf S hpn body σ a w _ r h) ?_)
    rintro e a' w' ⟨x', σ', rfl, r', hk⟩
    cases x' with
    | n => exact ⟨.n, σ', rfl, r', hk⟩
    | x id' =>
      simp only [exOf, Exit.inBlock] at hk ⊢
      split at hk
      · rename_i e; rw [if_pos e]; exact ⟨.n, σ', rfl, r', hk⟩
      · rename_i e; rw [if_neg e]; exact ⟨.x id', σ', rfl, r', hk⟩
    | r => exact ⟨.r, σ', rfl, r', hk⟩
  | .loop body, σ, a, w, K, r, h => by
    unfold wpE at h
    obtain ⟨I, ⟨n, hi⟩, hs⟩ := h
    intro b k cs
    have key : ∀ n σ a w, I n σ → Rel n0 h0 lab0 nt σ a w → ∃ e a' w', PostK n0 h0 lab0 nt K e a' w' ∧ Arrives P (lone (b.at a (.code body :: .inLoop body :: k)) cs w) b k cs e a' w' := by
      intro n
      induction n using Nat.strongRecOn with
      | _ n ih =>
        intro σ a w hi r
        obtain ⟨e, a₁, w₁, ⟨x', σ', rfl, r', hk⟩, harr⟩ := wpE_ok hf S hpn body σ a w _ r (hs n σ hi) b (.inLoop body :: k) cs
        cases x' with
        | n =>
          obtain ⟨m, hm, hi'⟩ := hk
          obtain ⟨e₂, a₂, w₂, hq₂, harr₂⟩ := ih m hm σ' a₁ w₁ hi' r'
          exact ⟨e₂, a₂, w₂, hq₂, .of_steps (Steps.trans harr (.one step_inLoop)) harr₂⟩
        | x id => exact ⟨_, a₁, w₁, ⟨.x id, σ', rfl, r', hk⟩, .pass (x := .inLoop body) rfl (fun _ _ => .inl (by simp [exOf])) harr⟩
        | r => exact ⟨_, a₁, w₁, ⟨.r, σ', rfl, r', hk⟩, .pass (x := .inLoop body) rfl (fun _ _ => .inl (by simp [exOf])) harr⟩
    obtain ⟨e, a', w', hq, harr⟩ := key n σ a w hi r
    exact ⟨e, a', w', hq, .of_steps (.one step_loop) harr⟩
  | .region id ops draw, σ, a, w, K, r, h => by
    obtain ⟨σ1, h1, σ2, h2, h3⟩ := wpE_region.1 h
    exact reg_ok hf S (nrm_R rfl hpn h1 r) h2 (fun σ' a' w' r' e => ⟨.n, σ', rfl, r', by cases e; exact h3⟩)
  | .label _, _, _, _, _, _, h => h.elim
  | .goto _, _, _, _, _, _, h => h.elim
end
end Go.Proofs.Ytnbfhbfnccihgaa.E

/- Calls: what is handed over. -/
namespace Go.Proofs.Ytnbfhbfnccihgaa.E
open Go
set_option linter.unusedVariables false
set_option linter.unusedSimpArgs false
section
variable {n0 : Nat} {h0 : Ent} {lab0 : Lb} {nt : Nat} {σ σ' : St} {a : Act} {w : World} {ev : Ev} {P : Program} {c : Cfg} {ob : Nat → Option OV} {lab : Lb} {adr : Nat → Value} {h : Hp}
theorem wr_rdOs {W : Ws} : ∀ (l : List Nat) (acc : List (Nat × OV)) (k : List (Nat × OV) → Pg), (∀ o v, look acc o = some v → σ.o o = some v) → (rdOs l acc k).wr ev σ = some W → ∃ m, (k m).wr ev σ = some W ∧ (∀ o v, look m o = some v → σ.o o = some v) ∧ ∀ o, o ∈ l ∨ look acc o ≠ none → look m o = σ.o o
  | [], acc, k, ha, h => ⟨acc, h, ha, fun o ho => by
      rcases ho with ho | ho
      · cases ho
      · cases e : look acc o with
        | none => exact absurd e ho
        | some v => exact (ha o v e).symm⟩
  | o :: l, acc, k, ha, h => by
    rw [rdOs, Pg.wr] at h
    cases e : σ.o o with
    | none =>
      rw [e] at h
      obtain ⟨m, h1, h2, h3⟩ := wr_rdOs l acc k ha h
      refine ⟨m, h1, h2, fun o' ho => ?_⟩
      rcases ho with ho | ho
      · rcases List.mem_cons.1 ho with rfl | ho
        · cases e2 : look m o' with
          | none => exact e.symm
          | some v => exact (h2 o' v e2).symm
        · exact h3 o' (.inl ho)
      · exact h3 o' (.inr ho)
    | some v =>
      rw [e] at h
      obtain ⟨m, h1, h2, h3⟩ := wr_rdOs l ((o, v) :: acc) k (fun o' v' hv => by
        simp only [look] at hv
        split at hv
        · rename_i e2; subst e2; cases hv; exact e
        · exact ha o' v' hv) h
      refine ⟨m, h1, h2, fun o' ho => ?_⟩
      rcases ho with ho | ho
      · rcases List.mem_cons.1 ho with rfl | ho
        · exact h3 o' (.inr (by simp [look]))
        · exact h3 o' (.inl ho)
      · refine h3 o' (.inr ?_)
        simp only [look]
        split
        · simp
        · exact ho
/-- What a cell becomes on its way into a call. -/
inductive CvA (ob : Nat → Option OV) (A : AC) : CV → CV → Prop where
  | sl {o q : Nat} (e : A.org[q]? = some ⟨o, none⟩) : CvA ob A (.sl o) (.sl q)
  | slv {o g i c q : Nat} {e e' : K} {xs : List (den e)} {ys : List (den e')} (h : A.org[q]? = some ⟨o, some (i, c, i * sz e + c, i :: leafP e c)⟩) (h1 : ob o = some (.arr e xs g none)) (hi : i < xs.length) (hc : c < sz e) (h3 : leafGet e (xs.getD i (dflt e)) c = ⟨.sl e', ys⟩) : CvA ob A (.vw o g i c) (.sl q)
  | pc {o q : Nat} (c : Nat) (e : A.org[q]? = some ⟨o, none⟩) : CvA ob A (.pc o c) (.pc q c)
  | shl {o : Nat} {e : K} {xs : List (den e)} {g : Nat} (h1 : ob o = some (.arr e xs g none)) (h2 : o ∈ A.sh) : CvA ob A (.sl o) (.ls e xs)
  | shv {o g i c : Nat} {e e' : K} {xs : List (den e)} {ys : List (den e')} (h1 : ob o = some (.arr e xs g none)) (h2 : o ∈ A.sh) (hi : i < xs.length) (hc : c < sz e) (h3 : leafGet e (xs.getD i (dflt e)) c = ⟨.sl e', ys⟩) : CvA ob A (.vw o g i c) (.ls e' ys)
  | i (k : IntKind) (n : Int) : CvA ob A (.i k n) (.i k n)
  | b (x : Bool) : CvA ob A (.b x) (.b x)
  | s (x : ByteArray) : CvA ob A (.s x) (.s x)
  | nil : CvA ob A .nil .nil
  | ls (k : K) (xs : List (den k)) : CvA ob A (.ls k xs) (.ls k xs)
  | fn (f : Nat) : CvA ob A (.fn f) (.fn f)
def CvsA (ob : Nat → Option OV) (A : AC) (l l' : List CV) : Prop := l'.length = l.length ∧ ∀ (j : Nat) (c c' : CV), l[j]? = some c → l'[j]? = some c' → CvA ob A c c'
inductive ArgO (ob : Nat → Option OV) (A : AC) : Og → OV → OV → Prop where
  | arr {o : Nat} {e : K} {xs : List (den e)} {g : Nat} : ArgO ob A ⟨o, none⟩ (.arr e xs g none) (.arr e xs 0 none)
  | box {o : Nat} {cs cs' : List CV} (h : CvsA ob A cs cs') : ArgO ob A ⟨o, none⟩ (.box cs) (.box cs')
  | vw {o i c : Nat} {e e' : K} {xs : List (den e)} {ys : List (den e')} {g : Nat} (hi : i < xs.length) (hc : c < sz e) (h3 : leafGet e (xs.getD i (dflt e)) c = ⟨.sl e', ys⟩) : ArgO ob A ⟨o, some (i, c, i * sz e + c, i :: leafP e c)⟩ (.arr e xs g none) (.arr e' ys 0 none)
def InvA (ob : Nat → Option OV) (A : AC) : Prop := A.ins.length = A.org.length ∧ ∀ (q : Nat) (v : OV), A.ins[q]? = some v → ∃ o u, A.org[q]? = some o ∧ ob o.o = some u ∧ ArgO ob A o u v
def LeA (A B : AC) : Prop := (∃ l, B.org = A.org ++ l) ∧ ∀ o ∈ A.sh, o ∈ B.sh
theorem LeA.refl (A : AC) : LeA A A := ⟨⟨[], by simp⟩, fun _ h => h⟩
theorem LeA.trans {A B C : AC} (h : LeA A B) (h2 : LeA B C) : LeA A C := by
  obtain ⟨⟨l, e⟩, s⟩ := h
  obtain ⟨⟨l2, e2⟩, s2⟩ := h2
  exact ⟨⟨l ++ l2, by rw [e2, e, List.append_assoc]⟩, fun o ho => s2 o (s o ho)⟩
theorem LeA.at {A B : AC} (h : LeA A B) {q : Nat} {o : Og} (e : A.org[q]? = some o) : B.org[q]? = some o := by
  obtain ⟨⟨l, e2⟩, _⟩ := h
  rw [e2, List.getElem?_append_left (List.getElem?_eq_some_iff.1 e).1]; exact e
theorem CvA.le {A B : AC} (h : LeA A B) {c c' : CV} (r : CvA ob A c c') : CvA ob B c c' := by
  cases r with
  | sl e => exact .sl (h.at e)
  | slv e h1 hi hc h3 => exact .slv (h.at e) h1 hi hc h3
  | pc c e => exact .pc c (h.at e)
  | shl h1 h2 => exact .shl h1 (h.2 _ h2)
  | shv h1 h2 hi hc h3 => exact .shv h1 (h.2 _ h2) hi hc h3
  | i k n => exact .i k n
  | b x => exact .b x
  | s x => exact .s x
  | nil => exact .nil
  | ls k xs => exact .ls k xs
  | fn f => exact .fn f
theorem CvsA.le {A B : AC} (h : LeA A B) {l l' : List CV} (r : CvsA ob A l l') : CvsA ob B l l' := ⟨r.1, fun j c c' h1 h2 => (r.2 j c c' h1 h2).le h⟩
theorem ArgO.le {A B : AC} (h : LeA A B) {o : Og} {u v : OV} (r : ArgO ob A o u v) : ArgO ob B o u v := by
  cases r with
  | arr => exact .arr
  | vw hi hc h3 => exact .vw hi hc h3
  | box r => exact .box (r.le h)
theorem InvA.le {A B : AC} (h : LeA A B) (hi : A.ins = B.ins) (ho : A.org = B.org) (r : InvA ob A) : InvA ob B := by
  refine ⟨by rw [← hi, ← ho]; exact r.1, fun q v hq => ?_⟩
  obtain ⟨o, u, h1, h2, h3⟩ := r.2 q v (by rw [hi]; exact hq)
  exact ⟨o, u, by rw [← ho]; exact h1, h2, h3.le h⟩
theorem InvA.push {A : AC} {o : Og} {u v : OV} (r : InvA ob A) (h1 : ob o.o = some u) (h2 : ArgO ob A o u v) : InvA ob ⟨A.ins ++ [v], A.org ++ [o], A.sh⟩ ∧ LeA A ⟨A.ins ++ [v], A.org ++ [o], A.sh⟩ ∧ (A.org ++ [o])[A.ins.length]? = some o := by
  have le : LeA A ⟨A.ins ++ [v], A.org ++ [o], A.sh⟩ := ⟨⟨[o], rfl⟩, fun _ h => h⟩
  refine ⟨⟨by simp [r.1], fun q v' hq => ?_⟩, le, by rw [r.1]; simp⟩
  dsimp only at hq ⊢
  rcases Nat.lt_or_ge q A.ins.length with hl | hl
  · rw [List.getElem?_append_left hl] at hq
    obtain ⟨o', u', g1, g2, g3⟩ := r.2 q v' hq
    exact ⟨o', u', le.at g1, g2, g3.le le⟩
  · have hq2 := (List.getElem?_eq_some_iff.1 hq).1
    simp at hq2
    obtain rfl : q = A.ins.length := by omega
    simp at hq
    subst hq
    exact ⟨o, u, by rw [r.1]; simp, h1, h2.le le⟩
theorem idxO_spec : ∀ {l : List Og} {o n q : Nat}, idxO o l n = some q → n ≤ q ∧ l[q - n]? = some ⟨o, none⟩
  | [], _, _, _, h => by cases h
  | r :: l, o, n, q, h => by
    unfold idxO at h
    split at h
    · cases h
      rename_i e
      refine ⟨Nat.le_refl _, ?_⟩
      obtain ⟨ro, rv⟩ := r
      obtain ⟨e1, e2⟩ := e
      dsimp only at e1 e2
      subst e1
      cases rv with
      | none => simp
      | some _ => cases e2
    · obtain ⟨h1, h2⟩ := idxO_spec h
      refine ⟨by omega, ?_⟩
      rw [show q - n = (q - (n + 1)) + 1 from by omega, List.getElem?_cons_succ]; exact h2
theorem cvA_ok {own : Bool} {c c' : CV} {A B : AC} (I : InvA ob A) (h : cvA ob own c A = some (c', B)) : InvA ob B ∧ LeA A B ∧ CvA ob B c c' := by
  have same : ∀ {x : CV}, some (x, A) = some (c', B) → CvA ob A c x → InvA ob B ∧ LeA A B ∧ CvA ob B c c' := by
    intro x e hx
    cases e
    exact ⟨I, LeA.refl _, hx⟩
  unfold cvA at h
  split at h
  · rename_i o
    split at h <;> try (cases h; done)
    rename_i e xs g he
    split at h
    · split at h
      · rename_i q hq
        exact same h (.sl (by simpa using (idxO_spec hq).2))
      · cases h
        obtain ⟨p1, p2, p3⟩ := I.push (o := ⟨o, none⟩) he .arr
        exact ⟨p1, p2, .sl p3⟩
    · cases h
      have le : LeA A ⟨A.ins, A.org, o :: A.sh⟩ := ⟨⟨[], by simp⟩, fun _ h => List.mem_cons_of_mem _ h⟩
      exact ⟨I.le le rfl rfl, le, .shl he List.mem_cons_self⟩
  · rename_i o g i c
    split at h <;> try (cases h; done)
    rename_i e xs g' he
    split at h <;> try (cases h; done)
    rename_i hg
    split at h <;> try (cases h; done)
    rename_i e' ys hl
    split at h
    · cases h
      obtain ⟨rfl, h1, h2⟩ := hg
      obtain ⟨p1, p2, p3⟩ := I.push (o := ⟨o, some (i, c, i * sz e + c, i :: leafP e c)⟩) he (.vw h1 h2 hl)
      exact ⟨p1, p2, .slv p3 he h1 h2 hl⟩
    cases h
    have le : LeA A ⟨A.ins, A.org, o :: A.sh⟩ := ⟨⟨[], by simp⟩, fun _ h => List.mem_cons_of_mem _ h⟩
    obtain ⟨rfl, h1, h2⟩ := hg
    exact ⟨I.le le rfl rfl, le, .shv he List.mem_cons_self h1 h2 hl⟩
  · exact same h (.i _ _)
  · exact same h (.b _)
  · exact same h (.s _)
  · exact same h .nil
  · exact same h (.ls _ _)
  · exact same h (.fn _)
  · cases h
theorem CvsA.cons {A : AC} {x y : CV} {l l' : List CV} (h : CvA ob A x y) (r : CvsA ob A l l') : CvsA ob A (x :: l) (y :: l') := by
  refine ⟨by simp [r.1], fun j c c' h1 h2 => ?_⟩
  cases j with
  | zero => simp at h1 h2; subst h1; subst h2; exact h
  | succ j => exact r.2 j c c' (by simpa using h1) (by simpa using h2)
theorem boxA_ok : ∀ {cs cs' : List CV} {A B : AC}, InvA ob A → boxA ob cs A = some (cs', B) → InvA ob B ∧ LeA A B ∧ CvsA ob B cs cs'
  | [], cs', A, B, I, h => by cases h; exact ⟨I, LeA.refl _, rfl, fun j c c' h => by simp at h⟩
  | c :: cs, cs', A, B, I, h => by
    unfold boxA at h
    split at h <;> try (cases h; done)
    rename_i c1 A1 h1
    split at h <;> try (cases h; done)
    rename_i cs1 A2 h2
    cases h
    obtain ⟨i1, l1, r1⟩ := cvA_ok I h1
    obtain ⟨i2, l2, r2⟩ := boxA_ok i1 h2
    exact ⟨i2, l1.trans l2, .cons (r1.le l2) r2⟩
theorem cvP_ok {own : Bool} {c c' : CV} {A B : AC} (I : InvA ob A) (h : cvP ob own c A = some (c', B)) : InvA ob B ∧ LeA A B ∧ CvA ob B c c' := by
  unfold cvP at h
  split at h
  · rename_i o c
    split at h
    · rename_i q hq
      cases h
      exact ⟨I, LeA.refl _, .pc _ (by simpa using (idxO_spec hq).2)⟩
    · split at h <;> try (cases h; done)
      rename_i cs he
      split at h <;> try (cases h; done)
      rename_i cs' A' hb
      cases h
      obtain ⟨i1, l1, r1⟩ := boxA_ok I hb
      obtain ⟨p1, p2, p3⟩ := i1.push (o := ⟨o, none⟩) he (.box r1)
      exact ⟨p1, l1.trans p2, .pc _ p3⟩
  · exact cvA_ok I h
theorem cvsA_ok {own : Bool} : ∀ {cs cs' : List CV} {A B : AC}, InvA ob A → cvsA ob own cs A = some (cs', B) → InvA ob B ∧ LeA A B ∧ CvsA ob B cs cs'
  | [], cs', A, B, I, h => by cases h; exact ⟨I, LeA.refl _, rfl, fun j c c' h => by simp at h⟩
  | c :: cs, cs', A, B, I, h => by
    unfold cvsA at h
    split at h <;> try (cases h; done)
    rename_i c1 A1 h1
    split at h <;> try (cases h; done)
    rename_i cs1 A2 h2
    cases h
    obtain ⟨i1, l1, r1⟩ := cvP_ok I h1
    obtain ⟨i2, l2, r2⟩ := cvsA_ok i1 h2
    exact ⟨i2, l1.trans l2, .cons (r1.le l2) r2⟩
/-- What arguments become. -/
def Args (ob : Nat → Option OV) (A : AC) (vs : List AV) (as : List (Bool × List CV)) : Prop := as.length = vs.length ∧ ∀ (j : Nat) (v : AV) (p : Bool × List CV), vs[j]? = some v → as[j]? = some p → ∃ l, av1 v = some (p.1, l) ∧ CvsA ob A l p.2
theorem argsA_ok : ∀ {vs : List (Bool × AV)} {as : List (Bool × List CV)} {A B : AC}, InvA ob A → argsA ob vs A = some (as, B) → InvA ob B ∧ LeA A B ∧ Args ob B (vs.map (·.2)) as
  | [], as, A, B, I, h => by cases h; exact ⟨I, LeA.refl _, rfl, fun j c c' h => by simp at h⟩
  | (own, v) :: vs, as, A, B, I, h => by
    unfold argsA at h
    split at h <;> try (cases h; done)
    rename_i b l hv
    split at h <;> try (cases h; done)
    rename_i l' A1 h1
    split at h <;> try (cases h; done)
    rename_i r A2 h2
    cases h
    obtain ⟨i1, l1, r1⟩ := cvsA_ok I h1
    obtain ⟨i2, l2, r2⟩ := argsA_ok i1 h2
    refine ⟨i2, l1.trans l2, by simp [r2.1], fun j v' p g1 g2 => ?_⟩
    cases j with
    | zero => simp at g1 g2; subst g1; subst g2; exact ⟨l, hv, r1.le l2⟩
    | succ j => exact r2.2 j v' p (by simpa using g1) (by simpa using g2)
end
end Go.Proofs.Ytnbfhbfnccihgaa.E

/- Calls: how one is entered, and what comes back. -/
namespace Go.Proofs.Ytnbfhbfnccihgaa.E
open Go
set_option linter.unusedVariables false
set_option linter.unusedSimpArgs false
def obI (ins : List OV) (q : Nat) : Option OV := ins[q]?
structure Entry (w : World) (lab : Lb) (adr : Nat → Value) (args : List (Bool × List CV)) (ins : List OV) (vals : Array Value) : Prop where
  len : ins.length ≤ 500
  objs : ∀ q v, ins[q]? = some v → ObR (hp w) lab adr (obI ins) q v
  bnd : ∀ b, lab b ≠ none → b < w.heap.size
  ent : ∀ b l, lab b = some l → ∃ o r, l = o :: r ∧ (o < ins.length ∨ o = X)
  argl : args.length = vals.size
  arg : ∀ (j : Nat) (p : Bool × List CV), args[j]? = some p → ∃ u, vals[j]? = some u ∧ A1R (hp w) lab adr (obI ins) p u
  glob : Glob w.heap.size (hp w) lab
def obR (pn : Nat) (res : Res) (q : Nat) : Option OV := if q < pn then res.outs[q]? else if 500 ≤ q then res.news[q - 500]? else none
structure ResR1 (w : World) (lab : Lb) (adr : Nat → Value) (pn : Nat) (res : Res) (w' : World) (v : Value) (lab' : Lb) (adr' : Nat → Value) : Prop where
  objs : ∀ q u, obR pn res q = some u → ObR (hp w') lab' adr' (obR pn res) q u
  adr : ∀ q u, q < pn → res.outs[q]? = some u → u ≠ .dead → adr' q = adr q
  frz : ∀ b, b < w.heap.size → (∀ q r, lab b = some (q :: r) → pn ≤ q) → w'.heap[b]? = w.heap[b]? ∧ lab' b = lab b
  bnd : ∀ b, lab' b ≠ none → b < w'.heap.size
  siz : w.heap.size ≤ w'.heap.size
  sm : Sm w w'
  ret : AVR (hp w') lab' adr' (obR pn res) (retAV res.rets) v
def ResR (w : World) (lab : Lb) (adr : Nat → Value) (pn : Nat) (res : Res) (w' : World) (v : Value) : Prop := ∃ lab' adr', ResR1 w lab adr pn res w' v lab' adr'
/-- What the caller counts on. -/
def EvOk (P : Program) (ev : Ev) : Prop := ∀ f args ins res, ev f args ins = some res → (∃ fn : Func, P.funcs[f]? = some fn ∧ (fn.name == "runtime.NumGoroutine") = false ∧ fn.body.isNone = false) ∧ ∀ w lab adr vals, Entry w lab adr args ins vals → Calls P f vals w (fun | .returned v, w' => ResR w lab adr ins.length res w' v | _, _ => False)
section
variable {n0 : Nat} {h0 : Ent} {lab0 : Lb} {nt : Nat} {σ σ' : St} {a : Act} {w : World} {ev : Ev} {P : Program} {c : Cfg} {ob : Nat → Option OV} {lab : Lb} {adr : Nat → Value} {h : Hp}
def strip : List Nat → List Nat → Option (List Nat)
  | [], r => some r
  | x :: p, y :: r => if x = y then strip p r else none
  | _ :: _, [] => none
theorem strip_app : ∀ (p r : List Nat), strip p (p ++ r) = some r
  | [], r => rfl
  | x :: p, r => by rw [List.cons_append, strip, if_pos rfl]; exact strip_app p r
theorem strip_some : ∀ {p r r' : List Nat}, strip p r = some r' → r = p ++ r'
  | [], r, r', h => by cases h; rfl
  | x :: p, [], r', h => by cases h
  | x :: p, y :: r, r', h => by
    unfold strip at h
    split at h
    · rename_i e; rw [e, strip_some h]; rfl
    · cases h
def idxG (o : Nat) : List Og → Nat → Option (Nat × Og)
  | [], _ => none
  | r :: l, n => if r.o = o then some (n, r) else idxG o l (n + 1)
def labC (A : AC) (lab : Lb) : Lb := fun b => match lab b with
  | none => none
  | some [] => some [X]
  | some (o :: r) => if A.sh.contains o = true then none else match idxG o A.org 0 with
    | some (q, ⟨_, none⟩) => some (q :: r)
    | some (q, ⟨_, some (_, _, _, pt)⟩) => (match strip pt r with | some r' => some (q :: r') | none => some (X :: r))
    | none => some (X :: r)
def adrC (A : AC) (h : Hp) (adr : Nat → Value) : Nat → Value := fun q => match A.org[q]? with
  | some ⟨o, none⟩ => adr o
  | some ⟨o, some (_, _, m, _)⟩ => (match adr o with | .slice (some ad) _ _ => (cellAt h (ad.add m)).getD undef | _ => undef)
  | none => undef
theorem idxG_none : ∀ {l : List Og} {o n : Nat}, o ∉ l.map (·.o) → idxG o l n = none
  | [], _, _, _ => rfl
  | r :: l, o, n, h => by
    unfold idxG
    simp only [List.map_cons, List.mem_cons, not_or] at h
    rw [if_neg (fun e => h.1 e.symm)]
    exact idxG_none h.2
theorem idxG_at : ∀ {l : List Og} {r : Og} {n q : Nat}, nodupB (l.map (·.o)) = true → l[q]? = some r → idxG r.o l n = some (n + q, r)
  | [], _, _, _, _, h => by simp at h
  | r :: l, o, n, 0, hn, h => by simp at h; subst h; unfold idxG; rw [if_pos rfl]; rfl
  | r :: l, o, n, q + 1, hn, h => by
    simp only [List.map_cons, nodupB, Bool.and_eq_true, Bool.not_eq_true'] at hn
    rw [List.getElem?_cons_succ] at h
    unfold idxG
    rw [if_neg (fun e => ?_), idxG_at hn.2 h]
    · congr 2; omega
    · have : (l.map (·.o)).contains r.o = true := by
        rw [e]
        simpa using ⟨o, List.mem_of_getElem? h, rfl⟩
      rw [this] at hn; cases hn.1
theorem idxG_spec : ∀ {l : List Og} {o n q : Nat} {r : Og}, idxG o l n = some (q, r) → r.o = o ∧ n ≤ q ∧ l[q - n]? = some r
  | [], _, _, _, _, h => by cases h
  | r :: l, o, n, q, r', h => by
    unfold idxG at h
    split at h
    · cases h; rename_i e; exact ⟨e, Nat.le_refl _, by simp⟩
    · obtain ⟨h0, h1, h2⟩ := idxG_spec h
      refine ⟨h0, by omega, ?_⟩
      rw [show q - n = (q - (n + 1)) + 1 from by omega, List.getElem?_cons_succ]; exact h2
structure Ok (A : AC) : Prop where
  nd : nodupB (A.org.map (·.o)) = true
  ns : ∀ (q : Nat) (r : Og), A.org[q]? = some r → A.sh.contains r.o = false
  le : A.org.length ≤ 500
theorem labC_org {A : AC} (O : Ok A) {q o b : Nat} {r : List Nat} (e : A.org[q]? = some ⟨o, none⟩) (hb : lab b = some (o :: r)) : labC A lab b = some (q :: r) := by
  unfold labC
  rw [hb]; dsimp only
  have e1 := O.ns q _ e
  have e2 := idxG_at (n := 0) O.nd e
  dsimp only at e1 e2
  rw [e1, e2]
  simp
theorem labC_view {A : AC} (O : Ok A) {q o b i c m : Nat} {pt r : List Nat} (e : A.org[q]? = some ⟨o, some (i, c, m, pt)⟩) (hb : lab b = some (o :: (pt ++ r))) : labC A lab b = some (q :: r) := by
  unfold labC
  rw [hb]; dsimp only
  have e1 := O.ns q _ e
  have e2 := idxG_at (n := 0) O.nd e
  dsimp only at e1 e2
  rw [e1, e2]
  simp [strip_app]
theorem labC_rest {A : AC} (O : Ok A) {q o b i c m : Nat} {pt r : List Nat} (e : A.org[q]? = some ⟨o, some (i, c, m, pt)⟩) (hb : lab b = some (o :: r)) (hr : ∀ r', r ≠ pt ++ r') : labC A lab b = some (X :: r) := by
  unfold labC
  rw [hb]; dsimp only
  have e1 := O.ns q _ e
  have e2 := idxG_at (n := 0) O.nd e
  dsimp only at e1 e2
  rw [e1, e2]
  simp only [Bool.false_eq_true, if_false]
  cases hs : strip pt r with
  | none => rfl
  | some r' => exact absurd (strip_some hs) (hr r')
theorem labC_none {A : AC} {b : Nat} (hb : lab b = none) : labC A lab b = none := by unfold labC; rw [hb]
theorem labC_sh {A : AC} {o b : Nat} {r : List Nat} (e : o ∈ A.sh) (hb : lab b = some (o :: r)) : labC A lab b = none := by
  unfold labC; rw [hb]; dsimp only; rw [if_pos (by simpa using e)]
theorem labC_out {A : AC} {o b : Nat} {r : List Nat} (e : o ∉ A.org.map (·.o)) (hb : lab b = some (o :: r)) : labC A lab b = none ∨ labC A lab b = some (X :: r) := by
  unfold labC; rw [hb]; dsimp only
  split
  · exact .inl rfl
  · rw [idxG_none e]; exact .inr rfl
theorem labC_inv {A : AC} {b q : Nat} {r : List Nat} (hb : labC A lab b = some (q :: r)) : q = X ∨ q < A.org.length := by
  unfold labC at hb
  split at hb
  · cases hb
  · cases hb; exact .inl rfl
  · rename_i o r' hl
    split at hb
    · cases hb
    · split at hb
      · rename_i q' o' hq
        cases hb
        have := (List.getElem?_eq_some_iff.1 (idxG_spec hq).2.2).1
        exact .inr (by omega)
      · rename_i q' o' i c m pt hq
        have := (List.getElem?_eq_some_iff.1 (idxG_spec hq).2.2).1
        split at hb
        · cases hb; exact .inr (by omega)
        · cases hb; exact .inl rfl
      · cases hb; exact .inl rfl
theorem labC_nil {A : AC} {b : Nat} : labC A lab b ≠ some [] := by
  intro hb
  unfold labC at hb
  split at hb <;> try (cases hb; done)
  split at hb <;> try (cases hb; done)
  split at hb <;> try (cases hb; done)
  split at hb <;> cases hb
theorem sz_lt_X {A : AC} (O : Ok A) {q : Nat} {o : Og} (e : A.org[q]? = some o) : q < 500 := by
  have := (List.getElem?_eq_some_iff.1 e).1
  have := O.le
  omega
theorem getD_e {α : Type} (xs : List α) (i : Nat) (d : α) (hi : i < xs.length) : xs.getD i d = xs[i] := by rw [List.getD_eq_getElem?_getD, List.getElem?_eq_getElem hi]; rfl
/-- A row within an object, in memory. -/
theorem row_R (M : Mem n0 h0 lab0 ob w lab adr) {o i c g : Nat} {e e' : K} {xs : List (den e)} {ys : List (den e')} (h1 : ob o = some (.arr e xs g none)) (hi : i < xs.length) (hc : c < sz e) (h3 : leafGet e (xs.getD i (dflt e)) c = ⟨.sl e', ys⟩) :
    ∃ ad n cp u, adr o = .slice (some ad) n cp ∧ cellAt (hp w) (ad.add (i * sz e + c)) = some u ∧ Rep (hp w) lab (.sl e') (some (o :: i :: leafP e c)) ys [u] := by
  have ro := M.objs o _ h1
  simp only [ObR] at ro
  obtain ⟨a', n, cp, e1, _⟩ := id ro
  simp at e1
  rw [e1] at ro
  obtain ⟨ad, e2, _, _⟩ := Rep.hasAddr ro hi
  subst e2
  obtain ⟨u, hu, hr⟩ := Rep.elem ro hi hc
  rw [getD_e xs i _ hi] at h3
  rw [h3] at hr
  exact ⟨ad, n, cp, u, e1, hu, by simpa [ext] using hr⟩
/-- A cell goes over into the call. -/
theorem CvA.R {A : AC} (O : Ok A) (I : InvA ob A) (M : Mem n0 h0 lab0 ob w lab adr) {c c' : CV} {v : Value} (r : CvA ob A c c') (hc : CVR (hp w) lab adr ob c v) : CVR (hp w) (labC A lab) (adrC A (hp w) adr) (obI A.ins) c' v := by
  have nn : ∀ {q : Nat} {o : Og}, A.org[q]? = some o → ∃ u v, A.ins[q]? = some v ∧ ob o.o = some u ∧ ArgO ob A o u v := by
    intro q o e
    have hlt := (List.getElem?_eq_some_iff.1 e).1
    have hlt2 : q < A.ins.length := by rw [I.1]; exact hlt
    obtain ⟨o', u, h1, h2, h3⟩ := I.2 q A.ins[q] (List.getElem?_eq_getElem hlt2)
    rw [e] at h1; cases h1
    exact ⟨u, _, List.getElem?_eq_getElem hlt2, h2, h3⟩
  cases r with
  | @sl o q e =>
    obtain ⟨r1, r2, r3⟩ := hc
    obtain ⟨u, v', h1, h2, h3⟩ := nn e
    refine ⟨r1, by unfold obI; rw [h1]; simp, fun k xs g hl e2 => ?_⟩
    unfold obI at e2
    rw [h1] at e2; cases e2
    unfold adrC
    rw [e]
    cases h3 with
    | arr => exact r3 _ _ _ _ h2
  | @slv o g i c q e e' xs ys hq h1 hi hc' h3 =>
    obtain ⟨r1, r2, r3⟩ := hc
    obtain ⟨u, v', k1, k2, k3⟩ := nn hq
    refine ⟨r1, by unfold obI; rw [k1]; simp, fun k zs g hl e2 => ?_⟩
    obtain ⟨_, r4⟩ := r3 _ _ _ _ h1
    obtain ⟨_, _, ad, n, cp, e3, e4⟩ := r4 rfl
    unfold adrC
    rw [hq]
    dsimp only
    rw [e3]
    dsimp only
    rw [e4]; rfl
  | @pc o q c e =>
    obtain ⟨r1, r2, r3⟩ := hc
    obtain ⟨u, v', h1, h2, h3⟩ := nn e
    refine ⟨r1, by unfold obI; rw [h1]; simp, fun cs e2 => ?_⟩
    unfold obI at e2
    rw [h1] at e2; cases e2
    unfold adrC
    rw [e]
    cases h3 with
    | box _ => exact r3 _ h2
  | @shl o e xs g h1 h2 =>
    show Rep _ _ (.sl e) none xs [v]
    have := M.objs o _ h1
    rw [hc.2.2 _ _ _ _ h1]
    exact Rep.relab (p := some [o]) (fun _ h => by cases h) (fun b q hb _ => ⟨labC_sh h2 (by simpa [ext] using hb), rfl⟩) this
  | @shv o g i c e e' xs ys h1 h2 hi hc' h3 =>
    show Rep _ _ (.sl e') none ys [v]
    obtain ⟨r1, r2, r3⟩ := hc
    obtain ⟨_, r4⟩ := r3 _ _ _ _ h1
    obtain ⟨_, _, ad, n, cp, e1, e2⟩ := r4 rfl
    have ro := M.objs o _ h1
    simp only [ObR] at ro
    rw [e1] at ro
    obtain ⟨u, hu, hr⟩ := Rep.elem ro hi hc'
    rw [e2] at hu; cases hu
    have eg : xs.getD i (dflt e) = xs[i] := by rw [List.getD_eq_getElem?_getD, List.getElem?_eq_getElem hi]; rfl
    rw [eg] at h3
    rw [h3] at hr
    exact Rep.relab (p := ext (some [o]) (i :: leafP e c)) (fun _ h => by cases h) (fun b q hb _ => ⟨labC_sh h2 (by simpa [ext] using hb), rfl⟩) hr
  | i k n => exact hc
  | b x => exact hc
  | s x => exact hc
  | nil => exact hc
  | ls k xs => exact Rep.frame (fun b q hb _ => ⟨by rw [hb]; exact labC_none hb, rfl⟩) hc
  | fn f => exact hc
theorem CvsA.R {A : AC} (O : Ok A) (I : InvA ob A) (M : Mem n0 h0 lab0 ob w lab adr) {l l' : List CV} {vs : List Value} (r : CvsA ob A l l') (hc : CVRs (hp w) lab adr ob l vs) : CVRs (hp w) (labC A lab) (adrC A (hp w) adr) (obI A.ins) l' vs := by
  refine ⟨by rw [r.1]; exact hc.1, fun j c' hj => ?_⟩
  have hjl : j < l.length := by have := (List.getElem?_eq_some_iff.1 hj).1; rw [r.1] at this; exact this
  obtain ⟨v, h1, h2⟩ := hc.2 j l[j] (List.getElem?_eq_getElem hjl)
  exact ⟨v, h1, CvA.R O I M (r.2 j _ _ (List.getElem?_eq_getElem hjl) hj) h2⟩
theorem entry_ok {A : AC} (O : Ok A) (I : InvA ob A) (M : Mem n0 h0 lab0 ob w lab adr) {vs : List AV} {as : List (Bool × List CV)} {vals : Array Value} (ha : Args ob A vs as) (hl : vs.length = vals.size) (hv : ∀ (j : Nat) (v : AV), vs[j]? = some v → ∃ u, vals[j]? = some u ∧ AVR (hp w) lab adr ob v u) :
    Entry w (labC A lab) (adrC A (hp w) adr) as A.ins vals := by
  refine ⟨by rw [I.1]; exact O.le, fun q v hq => ?_, fun b hb => ?_, fun b l hb => ?_, by rw [ha.1, hl], fun j p hj => ?_, fun p hp' => let ⟨g1, g2, g3⟩ := M.globNow p hp'; ⟨g1, labC_none g2, g3⟩⟩
  · obtain ⟨o, u, h1, h2, h3⟩ := I.2 q v hq
    have r := M.objs o.o u h2
    cases h3 with
    | @arr o e xs g =>
      show Rep _ _ (.sl e) (some [q]) xs [adrC A (hp w) adr q]
      unfold adrC
      rw [h1]
      exact Rep.relab (p := some [o]) (fun _ _ => ⟨_, rfl⟩) (fun b q hb _ => ⟨labC_org O h1 (by simpa [ext] using hb), rfl⟩) r
    | @vw o i c e e' xs ys g hi hc h3 =>
      obtain ⟨ad, n, cp, u, k1, k2, k3⟩ := row_R M h2 hi hc h3
      show Rep _ _ (.sl e') (some [q]) ys [adrC A (hp w) adr q]
      unfold adrC
      rw [h1]
      dsimp only
      rw [k1]
      dsimp only
      rw [k2]
      exact Rep.relab (p := some (o :: i :: leafP e c)) (fun _ _ => ⟨_, rfl⟩) (fun b r hb _ => ⟨labC_view O h1 (by simpa [ext] using hb), rfl⟩) k3
    | @box o cs cs' hc =>
      obtain ⟨b, arr, t, r1, r2, r3, r4⟩ := r
      exact ⟨b, arr, t, by unfold adrC; rw [h1]; exact r1, labC_org O h1 r2, r3, hc.R O I M r4⟩
  · refine M.bnd b (fun e => hb (labC_none e))
  · cases l with
    | nil =>
      exact absurd hb labC_nil
    | cons q r =>
      refine ⟨q, r, rfl, ?_⟩
      rcases labC_inv hb with h | h
      · exact .inr h
      · left; rw [I.1]; exact h
  · have hjl : j < vs.length := by have := (List.getElem?_eq_some_iff.1 hj).1; rw [ha.1] at this; exact this
    obtain ⟨u, h1, h2⟩ := hv j vs[j] (List.getElem?_eq_getElem hjl)
    refine ⟨u, h1, ?_⟩
    obtain ⟨l, g1, g2⟩ := ha.2 j _ p (List.getElem?_eq_getElem hjl) hj
    obtain ⟨b, l'⟩ := p
    generalize vs[j] = v at h2 g1
    cases v with
    | tup l => cases g1
    | one c =>
      simp only [av1, Option.some.injEq, Prod.mk.injEq] at g1
      obtain ⟨rfl, rfl⟩ := g1
      obtain ⟨g3, g4⟩ := g2
      cases l' with
      | nil => simp at g3
      | cons c' l' =>
        cases l' with
        | cons _ _ => simp at g3
        | nil => exact CvA.R O I M (g4 0 c c' rfl rfl) h2
    | agg l0 =>
      simp only [av1, Option.some.injEq, Prod.mk.injEq] at g1
      obtain ⟨rfl, rfl⟩ := g1
      obtain ⟨vs', e, r⟩ := h2
      exact ⟨vs', e, CvsA.R O I M g2 r⟩
end
end Go.Proofs.Ytnbfhbfnccihgaa.E

/- Calls: the way back. -/
namespace Go.Proofs.Ytnbfhbfnccihgaa.E
open Go
set_option linter.unusedVariables false
set_option linter.unusedSimpArgs false
section
variable {n0 : Nat} {h0 : Ent} {lab0 : Lb} {nt : Nat} {σ σ' : St} {a : Act} {w w' : World} {ev : Ev} {P : Program} {c : Cfg} {ob : Nat → Option OV} {lab lab' : Lb} {adr adr' : Nat → Value} {h : Hp} {d nn : Nat} {A : AC} {res : Res} {v : Value} {ob' : Nat → Option OV}
def keepB (labc : Lb) (b : Nat) : Bool := match labc b with | some (q :: _) => q == X | _ => true
/-- A label, under the caller's names. -/
def lbN (d : Nat) (org : List Og) (nn : Nat) (q : Nat) (r : List Nat) : List Nat :=
  if q < org.length then (match org[q]? with | some ⟨o, none⟩ => o :: r | some ⟨o, some (_, _, _, pt)⟩ => o :: (pt ++ r) | none => X :: r)
  else if 500 ≤ q ∧ q < 500 + nn then nm d (q - 500) :: r else X :: r
def labB (w : World) (labc lab lab' : Lb) (d : Nat) (org : List Og) (nn : Nat) : Lb := fun b => if b < w.heap.size ∧ keepB labc b = true then lab b else match lab' b with
  | none => none
  | some [] => some [X]
  | some (q :: r) => some (lbN d org nn q r)
def adrB (d nn : Nat) (adr adr' : Nat → Value) : Nat → Value := fun x => if nm d 0 ≤ x ∧ x < nm d 0 + nn then adr' (500 + (x - nm d 0)) else adr x
/-- An object, before and behind the way back. -/
inductive OutR (d : Nat) (org : List Og) (nn : Nat) (sh : List Nat) : OV → OV → Prop where
  | arr {e : K} {xs : List (den e)} {g g' : Nat} : OutR d org nn sh (.arr e xs g none) (.arr e xs g' none)
  | box {cs cs' : List CV} (h : rnCs d org nn sh cs = some cs') : OutR d org nn sh (.box cs) (.box cs')
  | dead : OutR d org nn sh .dead .dead
/-- The names, before and behind. -/
structure Back (d : Nat) (A : AC) (res : Res) (adr' adrb : Nat → Value) (ob' : Nat → Option OV) : Prop where
  nm : ∀ q o' u, rnN d A.org res.news.length q = some o' → obR A.org.length res q = some u → ∃ x, ob' o' = some x ∧ OutR d A.org res.news.length A.sh u x ∧ (u ≠ .dead → adrb o' = adr' q)
theorem labB_at {labc : Lb} {org : List Og} (hk : ∀ b, b < w.heap.size → keepB labc b = true → lab' b = labc b) {b q : Nat} {r : List Nat} (hq : q ≠ X) (hb : lab' b = some (q :: r)) : labB w labc lab lab' d org nn b = some (lbN d org nn q r) := by
  unfold labB
  rw [if_neg, hb]
  rintro ⟨h1, h2⟩
  have := hk b h1 h2
  rw [hb] at this
  unfold keepB at h2
  rw [← this] at h2
  simp at h2
  exact hq h2
theorem lbN_nm {org : List Og} {q o' : Nat} {r : List Nat} (hn : rnN d org nn q = some o') : lbN d org nn q r = o' :: r := by
  unfold rnN at hn
  unfold lbN
  split at hn
  · rename_i hq
    rw [if_pos hq]
    split at hn
    · rename_i o e; cases hn; rw [e]
    · cases hn
  · rename_i hq
    rw [if_neg hq]
    split at hn
    · rename_i h5; rw [if_pos h5, Option.some.inj hn]
    · cases hn
theorem labB_new {labc : Lb} {org : List Og} (hk : ∀ b, b < w.heap.size → keepB labc b = true → lab' b = labc b) {b q o' : Nat} {r : List Nat} (hq : q ≠ X) (hn : rnN d org nn q = some o') (hb : lab' b = some (q :: r)) : labB w labc lab lab' d org nn b = some (o' :: r) := by
  rw [labB_at hk hq hb, lbN_nm hn]
theorem obR_X {pn : Nat} (hp : pn ≤ 500) (hn : res.news.length ≤ 400) {q : Nat} {u : OV} (h : obR pn res q = some u) : q ≠ X := by
  unfold obR at h
  rintro rfl
  rw [if_neg (by unfold X; omega), if_pos (by unfold X; omega)] at h
  have := (List.getElem?_eq_some_iff.1 h).1
  unfold X at this
  omega
theorem rnC_R {labc : Lb} (hB : Back d A res adr' (adrB d nn adr adr') ob') (hk : ∀ b, b < w.heap.size → keepB labc b = true → lab' b = labc b) (hsh : A.sh = [] → ∀ b, labc b = none → lab b = none) {c c' : CV} {v : Value}
    (hr : rnC d A.org res.news.length A.sh c = some c') (hc : CVR (hp w') lab' adr' (obR A.org.length res) c v) : CVR (hp w') (labB w labc lab lab' d A.org res.news.length) (adrB d nn adr adr') ob' c' v := by
  cases c <;> simp only [rnC] at hr <;> try (cases hr; done)
  case u => cases hr; trivial
  case i => cases hr; exact hc
  case b => cases hr; exact hc
  case s => cases hr; exact hc
  case nil => cases hr; exact hc
  case fn => cases hr; exact hc
  case ls k xs =>
    split at hr <;> try (cases hr; done)
    rename_i hs
    cases hr
    have hs' : A.sh = [] := by simpa using hs
    refine Rep.frame (fun b q e _ => ⟨?_, rfl⟩) hc
    rw [e]
    show labB _ _ _ _ _ _ _ b = none
    unfold labB
    split
    · rename_i hb
      exact hsh hs' b (by rw [← hk b hb.1 hb.2]; exact e)
    · rw [show lab' b = none from e]
  case sl q =>
    obtain ⟨o', ho', rfl⟩ := Option.map_eq_some_iff.1 hr
    obtain ⟨r1, r2, r3⟩ := hc
    cases hu : obR A.org.length res q with
    | none => exact absurd hu r2
    | some u =>
      obtain ⟨x, h2, h3, h4⟩ := hB.nm q o' u ho' hu
      refine ⟨r1, by rw [h2]; simp, fun k xs g hl e => ?_⟩
      rw [h2] at e; cases e
      cases h3 with
      | arr => rw [h4 (by simp)]; exact r3 _ _ _ _ hu
  case pc q cc =>
    obtain ⟨o', ho', rfl⟩ := Option.map_eq_some_iff.1 hr
    obtain ⟨r1, r2, r3⟩ := hc
    cases hu : obR A.org.length res q with
    | none => exact absurd hu r2
    | some u =>
      obtain ⟨x, h2, h3, h4⟩ := hB.nm q o' u ho' hu
      refine ⟨r1, by rw [h2]; simp, fun cs e => ?_⟩
      rw [h2] at e; cases e
      cases h3 with
      | box _ => rw [h4 (by simp)]; exact r3 _ hu
theorem rnCs_spec {org : List Og} {sh : List Nat} : ∀ {cs cs' : List CV}, rnCs d org nn sh cs = some cs' → cs'.length = cs.length ∧ ∀ (j : Nat) (c' : CV), cs'[j]? = some c' → ∃ c, cs[j]? = some c ∧ rnC d org nn sh c = some c'
  | [], cs', h => by cases h; exact ⟨rfl, fun j c' h => by simp at h⟩
  | c :: cs, cs', h => by
    unfold rnCs at h
    split at h <;> try (cases h; done)
    rename_i c1 cs1 h1 h2
    cases h
    obtain ⟨l, r⟩ := rnCs_spec h2
    refine ⟨by simp [l], fun j c' hj => ?_⟩
    cases j with
    | zero => simp at hj; subst hj; exact ⟨c, rfl, h1⟩
    | succ j => obtain ⟨c2, g1, g2⟩ := r j c' (by simpa using hj); exact ⟨c2, by simpa using g1, g2⟩
theorem rnCs_R {labc : Lb} (hB : Back d A res adr' (adrB d nn adr adr') ob') (hk : ∀ b, b < w.heap.size → keepB labc b = true → lab' b = labc b) (hsh : A.sh = [] → ∀ b, labc b = none → lab b = none) {cs cs' : List CV} {vs : List Value}
    (hr : rnCs d A.org res.news.length A.sh cs = some cs') (hc : CVRs (hp w') lab' adr' (obR A.org.length res) cs vs) : CVRs (hp w') (labB w labc lab lab' d A.org res.news.length) (adrB d nn adr adr') ob' cs' vs := by
  obtain ⟨l, r⟩ := rnCs_spec hr
  refine ⟨by rw [l]; exact hc.1, fun j c' hj => ?_⟩
  obtain ⟨c, h1, h2⟩ := r j c' hj
  obtain ⟨v, h3, h4⟩ := hc.2 j c h1
  exact ⟨v, h3, rnC_R hB hk hsh h2 h4⟩
theorem outR_R {labc : Lb} (hB : Back d A res adr' (adrB d nn adr adr') ob') (hk : ∀ b, b < w.heap.size → keepB labc b = true → lab' b = labc b) (hsh : A.sh = [] → ∀ b, labc b = none → lab b = none) {q o' : Nat} {u x : OV} (hq : q ≠ X)
    (hn : rnN d A.org res.news.length q = some o') (hx : OutR d A.org res.news.length A.sh u x) (ha : u ≠ .dead → adrB d nn adr adr' o' = adr' q) (r : ObR (hp w') lab' adr' (obR A.org.length res) q u) :
    ObR (hp w') (labB w labc lab lab' d A.org res.news.length) (adrB d nn adr adr') ob' o' x := by
  cases hx with
  | @arr e xs g g' =>
    show Rep _ _ (.sl e) (some [o']) xs [_]
    rw [ha (by simp)]
    exact Rep.relab (p := some [q]) (fun _ _ => ⟨_, rfl⟩) (fun b r hb _ => ⟨labB_new hk hq hn (by simpa [ext] using hb), rfl⟩) r
  | @box cs cs' hc =>
    obtain ⟨b, arr, t, r1, r2, r3, r4⟩ := r
    exact ⟨b, arr, t, by rw [ha (by simp)]; exact r1, labB_new hk hq hn r2, r3, rnCs_R hB hk hsh hc r4⟩
  | dead => trivial
theorem rnA_R {labc : Lb} (hB : Back d A res adr' (adrB d nn adr adr') ob') (hk : ∀ b, b < w.heap.size → keepB labc b = true → lab' b = labc b) (hsh : A.sh = [] → ∀ b, labc b = none → lab b = none) {b : Bool} {l l' : List CV} {v : Value}
    (hr : rnCs d A.org res.news.length A.sh l = some l') (hc : A1R (hp w') lab' adr' (obR A.org.length res) (b, l) v) : A1R (hp w') (labB w labc lab lab' d A.org res.news.length) (adrB d nn adr adr') ob' (b, l') v := by
  obtain ⟨e1, e2⟩ := rnCs_spec hr
  cases b with
  | true =>
    obtain ⟨vs, e, r⟩ := hc
    exact ⟨vs, e, rnCs_R hB hk hsh hr r⟩
  | false =>
    cases l with
    | nil => exact hc.elim
    | cons c l =>
      cases l with
      | cons _ _ => exact hc.elim
      | nil =>
        cases l' with
        | nil => simp at e1
        | cons c' l' =>
          cases l' with
          | cons _ _ => simp at e1
          | nil =>
            obtain ⟨c0, g1, g2⟩ := e2 0 c' rfl
            cases g1
            exact rnC_R hB hk hsh g2 hc
end
end Go.Proofs.Ytnbfhbfnccihgaa.E

/- Calls: the state behind. -/
namespace Go.Proofs.Ytnbfhbfnccihgaa.E
open Go
set_option linter.unusedVariables false
set_option linter.unusedSimpArgs false
section
variable {n0 : Nat} {h0 : Ent} {lab0 : Lb} {nt : Nat} {σ σ' : St} {a : Act} {w w' : World} {ev : Ev} {P : Program} {c : Cfg} {ob : Nat → Option OV} {lab lab' : Lb} {adr adr' : Nat → Value} {h : Hp} {d nn : Nat} {A : AC} {res : Res} {v : Value} {ob' : Nat → Option OV} {org : List Og} {sh : List Nat}
theorem outsF_spec : ∀ {l : List Og} {vs : List OV} {r : List (Nat × OV)}, outsF d org nn sh ob l vs = some r → l.length = vs.length ∧ (∀ o, o ∉ l.map (·.o) → look r o = none) ∧ (nodupB (l.map (·.o)) = true → ∀ (q : Nat) (o : Og) (v : OV), l[q]? = some o → vs[q]? = some v → ∃ v', outG d org nn sh ob o v = some v' ∧ look r o.o = some v')
  | [], [], r, h => by cases h; exact ⟨rfl, fun _ _ => rfl, fun _ q o v h => by simp at h⟩
  | [], _ :: _, r, h => by cases h
  | _ :: _, [], r, h => by cases h
  | o :: l, v :: vs, r, h => by
    unfold outsF at h
    split at h <;> try (cases h; done)
    rename_i v' r' h1 h2
    cases h
    obtain ⟨g1, g2, g3⟩ := outsF_spec h2
    refine ⟨by simp [g1], fun o' ho => ?_, fun hn q o' u hq hu => ?_⟩
    · simp only [List.map_cons, List.mem_cons, not_or] at ho
      simp only [look]
      rw [if_neg (fun e => ho.1 e.symm)]
      exact g2 o' ho.2
    · simp only [List.map_cons, nodupB, Bool.and_eq_true, Bool.not_eq_true'] at hn
      cases q with
      | zero => simp at hq hu; subst hq; subst hu; exact ⟨v', h1, by simp [look]⟩
      | succ q =>
        obtain ⟨u', k1, k2⟩ := g3 hn.2 q o' u (by simpa using hq) (by simpa using hu)
        refine ⟨u', k1, ?_⟩
        simp only [look]
        rw [if_neg (fun e => ?_)]
        · exact k2
        · have : (l.map (·.o)).contains o.o = true := by
            rw [e]
            simpa using ⟨o', List.mem_of_getElem? (by simpa using hq), rfl⟩
          rw [this] at hn; cases hn.1
theorem newsF_spec : ∀ {vs : List OV} {j0 : Nat} {r : List (Nat × OV)}, newsF d org nn sh j0 vs = some r → (∀ o, (∀ j, j < vs.length → o ≠ nm d (j0 + j)) → look r o = none) ∧ ∀ (j : Nat) (v : OV), vs[j]? = some v → ∃ v', rnO d org nn sh v = some v' ∧ look r (nm d (j0 + j)) = some v'
  | [], j0, r, h => by cases h; exact ⟨fun _ _ => rfl, fun j v h => by simp at h⟩
  | v :: vs, j0, r, h => by
    unfold newsF at h
    split at h <;> try (cases h; done)
    rename_i v' r' h1 h2
    cases h
    obtain ⟨g2, g3⟩ := newsF_spec h2
    refine ⟨fun o ho => ?_, fun j u hj => ?_⟩
    · simp only [look]
      rw [if_neg (fun e => ho 0 (by simp) e.symm)]
      exact g2 o (fun j hj => by have := ho (j + 1) (by simpa using hj); rwa [show j0 + (j + 1) = j0 + 1 + j from by omega] at this)
    · cases j with
      | zero => simp at hj; subst hj; exact ⟨v', h1, by simp [look]⟩
      | succ j =>
        obtain ⟨u', k1, k2⟩ := g3 j u (by simpa using hj)
        refine ⟨u', k1, ?_⟩
        simp only [look]
        rw [if_neg (by unfold nm; omega), show j0 + (j + 1) = j0 + 1 + j from by omega]
        exact k2
theorem rnR_spec : ∀ {l l' : List (Bool × List CV)}, rnR d org nn sh l = some l' → l'.length = l.length ∧ ∀ (j : Nat) (p' : Bool × List CV), l'[j]? = some p' → ∃ p, l[j]? = some p ∧ p'.1 = p.1 ∧ rnCs d org nn sh p.2 = some p'.2
  | [], l', h => by cases h; exact ⟨rfl, fun j c' h => by simp at h⟩
  | (b, l0) :: l, l', h => by
    unfold rnR at h
    split at h <;> try (cases h; done)
    rename_i c1 cs1 h1 h2
    cases h
    obtain ⟨g1, r⟩ := rnR_spec h2
    refine ⟨by simp [g1], fun j c' hj => ?_⟩
    cases j with
    | zero => simp at hj; subst hj; exact ⟨(b, l0), rfl, rfl, h1⟩
    | succ j => obtain ⟨c2, k1, k2⟩ := r j c' (by simpa using hj); exact ⟨c2, by simpa using k1, k2⟩
theorem retAV_R {labc : Lb} (hB : Back d A res adr' (adrB d nn adr adr') ob') (hk : ∀ b, b < w.heap.size → keepB labc b = true → lab' b = labc b) (hsh : A.sh = [] → ∀ b, labc b = none → lab b = none) {l l' : List (Bool × List CV)} {v : Value}
    (hr : rnR d A.org res.news.length A.sh l = some l') (hc : AVR (hp w') lab' adr' (obR A.org.length res) (retAV l) v) : AVR (hp w') (labB w labc lab lab' d A.org res.news.length) (adrB d nn adr adr') ob' (retAV l') v := by
  obtain ⟨e1, e2⟩ := rnR_spec hr
  have tup : retAV l = .tup l → retAV l' = .tup l' → AVR (hp w') (labB w labc lab lab' d A.org res.news.length) (adrB d nn adr adr') ob' (retAV l') v := by
    intro h1 h2
    rw [h1] at hc
    rw [h2]
    obtain ⟨vs, g1, g2, g3⟩ := hc
    refine ⟨vs, g1, by rw [e1]; exact g2, fun j p' hj => ?_⟩
    obtain ⟨p, k1, k2, k3⟩ := e2 j p' hj
    obtain ⟨u, k4, k5⟩ := g3 j p k1
    refine ⟨u, k4, ?_⟩
    have := rnA_R (b := p.1) (l := p.2) hB hk hsh k3 k5
    rw [← k2] at this
    exact this
  cases l with
  | nil => cases l' with
    | nil => exact tup rfl rfl
    | cons _ _ => simp at e1
  | cons p l =>
    cases l' with
    | nil => simp at e1
    | cons p' l' =>
      cases l with
      | cons p2 l2 => cases l' with
        | nil => simp at e1
        | cons _ _ => exact tup rfl rfl
      | nil =>
        cases l' with
        | cons _ _ => simp at e1
        | nil =>
          obtain ⟨p0, k1, k2, k3⟩ := e2 0 p' rfl
          cases k1
          show AVR _ _ _ _ (a1 p') v
          replace hc : AVR (hp w') lab' adr' (obR A.org.length res) (a1 p) v := hc
          obtain ⟨b, cs⟩ := p
          obtain ⟨b', cs'⟩ := p'
          dsimp only at k2 k3
          subst k2
          obtain ⟨f1, f2⟩ := rnCs_spec k3
          have agg : a1 (b', cs) = .agg cs → a1 (b', cs') = .agg cs' → AVR (hp w') (labB w labc lab lab' d A.org res.news.length) (adrB d nn adr adr') ob' (a1 (b', cs')) v := by
            intro h1 h2
            rw [h1] at hc
            rw [h2]
            obtain ⟨vs, g1, g2⟩ := hc
            exact ⟨vs, g1, rnCs_R hB hk hsh k3 g2⟩
          cases b' with
          | true => exact agg rfl rfl
          | false =>
            cases cs with
            | nil => cases cs' with
              | nil => exact agg rfl rfl
              | cons _ _ => simp at f1
            | cons c cs => cases cs' with
              | nil => simp at f1
              | cons c' cs' => cases cs with
                | cons _ _ => cases cs' with
                  | nil => simp at f1
                  | cons _ _ => exact agg rfl rfl
                | nil => cases cs' with
                  | cons _ _ => simp at f1
                  | nil =>
                    obtain ⟨c0, q1, q2⟩ := f2 0 c' rfl
                    cases q1
                    exact rnC_R hB hk hsh q2 hc
theorem nm_inj {d j j2 : Nat} (h : nm d j = nm d j2) : j = j2 := by unfold nm at h; omega
theorem call_back (R : Rel n0 h0 lab0 nt σ a w) (M : Mem n0 h0 lab0 σ.o w lab adr) (T : ∀ t, AVR (hp w) lab adr σ.o (σ.t t) (a.tmps.getD t undef)) (O : Ok A) (I : InvA σ.o A) (hres : ResR w (labC A lab) (adrC A (hp w) adr) A.org.length res w' v)
    (hlen : res.outs.length = A.org.length) (hnn : res.news.length ≤ 400) (hnew : ∀ j, j < res.news.length → σ.o (nm d j) = none) {rets : List (Bool × List CV)} {os1 os2 : List (Nat × OV)} (hob : ∀ o v, ob o = some v → σ.o o = some v)
    (h1 : rnR d A.org res.news.length A.sh res.rets = some rets) (h2 : outsF d A.org res.news.length A.sh ob A.org res.outs = some os1) (h3 : newsF d A.org res.news.length A.sh 0 res.news = some os2) (hd : d < nt) :
    Rel n0 h0 lab0 nt (σ.put [(d, retAV rets)] (os1 ++ os2)) (a.put (some d) v) w' := by
  obtain ⟨lab', adr', hr⟩ := hres
  obtain ⟨o1, o2, o3⟩ := outsF_spec h2
  obtain ⟨s1, s2⟩ := newsF_spec h3
  have hfr : ∀ b, b < w.heap.size → keepB (labC A lab) b = true → w'.heap[b]? = w.heap[b]? ∧ lab' b = labC A lab b := by
    intro b hb hk
    refine hr.frz b hb (fun q r e => ?_)
    unfold keepB at hk
    rw [e] at hk
    have : q = X := by simpa using hk
    have := O.le
    subst q; unfold X; omega
  have hk : ∀ b, b < w.heap.size → keepB (labC A lab) b = true → lab' b = labC A lab b := fun b hb h => (hfr b hb h).2
  have hsh : A.sh = [] → ∀ b, labC A lab b = none → lab b = none := by
    intro e b hb
    unfold labC at hb
    split at hb
    · assumption
    · cases hb
    · rw [e] at hb
      simp only [List.contains_nil, Bool.false_eq_true, if_false] at hb
      split at hb <;> try (cases hb; done)
      split at hb <;> cases hb
  have horg : ∀ {q : Nat} {o : Og}, A.org[q]? = some o → ∃ u, A.ins[q]? = some u ∧ ∃ u0, σ.o o.o = some u0 ∧ ArgO σ.o A o u0 u := by
    intro q o e
    have hlt := (List.getElem?_eq_some_iff.1 e).1
    have hlt2 : q < A.ins.length := by rw [I.1]; exact hlt
    obtain ⟨o', u, g1, g2, g3⟩ := I.2 q A.ins[q] (List.getElem?_eq_getElem hlt2)
    rw [e] at g1; cases g1
    exact ⟨_, List.getElem?_eq_getElem hlt2, u, g2, g3⟩
  have hmem : ∀ {o : Nat}, o ∈ A.org.map (·.o) → ∃ (q : Nat) (g : Og), A.org[q]? = some g ∧ g.o = o := by
    intro o h
    obtain ⟨g, h1, h2⟩ := List.mem_map.1 h
    obtain ⟨q, hq⟩ := List.getElem?_of_mem h1
    exact ⟨q, g, hq, h2⟩
  have hsome : ∀ {o : Nat}, o ∈ A.org.map (·.o) → σ.o o ≠ none := by
    intro o h
    obtain ⟨q, g, hq, rfl⟩ := hmem h
    obtain ⟨_, _, u0, g, _⟩ := horg hq
    rw [g]; simp
  have hlo : ∀ o, o ∈ A.org.map (·.o) → ∀ j, j < res.news.length → o ≠ nm d j := by
    intro o ho j hj e
    exact hsome ho (by rw [e]; exact hnew j hj)
  let st := σ.put [(d, retAV rets)] (os1 ++ os2)
  have lk : ∀ o, st.o o = ((look os1 o).or (look os2 o)).or (σ.o o) := by
    intro o
    show (σ.put _ _).o o = _
    rw [St.put_o, look_app]
  have lk1 : ∀ {q : Nat} {o : Og} {u : OV}, A.org[q]? = some o → res.outs[q]? = some u → ∃ x, outG d A.org res.news.length A.sh ob o u = some x ∧ st.o o.o = some x := by
    intro q o u e hu
    obtain ⟨x, g1, g2⟩ := o3 O.nd q o u e hu
    exact ⟨x, g1, by rw [lk, g2]; rfl⟩
  have lk2 : ∀ {j : Nat} {u : OV}, res.news[j]? = some u → ∃ x, rnO d A.org res.news.length A.sh u = some x ∧ st.o (nm d j) = some x := by
    intro j u hu
    obtain ⟨x, g1, g2⟩ := s2 j u hu
    refine ⟨x, g1, ?_⟩
    rw [lk, o2 (nm d j) (fun hm => hlo _ hm j (List.getElem?_eq_some_iff.1 hu).1 rfl)]
    rw [Nat.zero_add] at g2
    rw [g2]; rfl
  have lk3 : ∀ {o : Nat}, o ∉ A.org.map (·.o) → (∀ j, j < res.news.length → o ≠ nm d j) → st.o o = σ.o o := by
    intro o h1 h2
    rw [lk, o2 o h1, s1 o (fun j hj => by rw [Nat.zero_add]; exact h2 j hj)]; rfl
  have ad1 : ∀ {o : Nat}, (∀ j, j < res.news.length → o ≠ nm d j) → adrB d res.news.length adr adr' o = adr o := by
    intro o ho
    unfold adrB
    rw [if_neg]
    rintro ⟨g1, g2⟩
    exact ho (o - nm d 0) (by omega) (by unfold nm at *; omega)
  have ad2 : ∀ {j : Nat}, j < res.news.length → adrB d res.news.length adr adr' (nm d j) = adr' (500 + j) := by
    intro j hj
    unfold adrB
    rw [if_pos (by unfold nm; omega), show nm d j - nm d 0 = j from by unfold nm; omega]
  have hB : Back d A res adr' (adrB d res.news.length adr adr') st.o := by
    refine ⟨fun q o' u hn hu => ?_⟩
    unfold obR at hu
    split at hu
    · rename_i hq
      have e : A.org[q]? = some ⟨o', none⟩ := by
        unfold rnN at hn
        rw [if_pos hq] at hn
        split at hn
        · rename_i o e; cases hn; exact e
        · cases hn
      obtain ⟨x, g1, g2⟩ := lk1 e hu
      replace g1 : out1 d A.org res.news.length A.sh (ob o') u = some x := g1
      refine ⟨x, g2, ?_, fun hnd => ?_⟩
      · unfold out1 at g1
        split at g1
        · split at g1
          · cases g1; exact .arr
          · cases g1
        · obtain ⟨cs', g3, rfl⟩ := Option.map_eq_some_iff.1 g1
          exact .box g3
        · cases g1; exact .dead
        · cases g1
      · rw [ad1 (hlo _ (List.mem_map.2 ⟨_, List.mem_of_getElem? e, rfl⟩)), hr.adr q u hq hu hnd]
        unfold adrC
        rw [e]
    · rename_i hq
      split at hu <;> try (cases hu; done)
      rename_i hq5
      have hjl := (List.getElem?_eq_some_iff.1 hu).1
      obtain ⟨x, g1, g2⟩ := lk2 hu
      have ho' : o' = nm d (q - 500) := by
        unfold rnN at hn
        rw [if_neg hq, if_pos (by omega)] at hn
        exact (Option.some.inj hn).symm
      rw [ho']
      refine ⟨x, g2, ?_, fun _ => by rw [ad2 hjl, Nat.add_sub_cancel' hq5]⟩
      unfold rnO at g1
      split at g1
      · cases g1; exact .arr
      · obtain ⟨cs', g3, rfl⟩ := Option.map_eq_some_iff.1 g1
        exact .box g3
      · cases g1; exact .dead
      · cases g1
  have hXo : ∀ {q : Nat} {u : OV}, obR A.org.length res q = some u → q ≠ X := fun h => obR_X O.le hnn h
  have hobj : ∀ {q o : Nat} {u x : OV}, obR A.org.length res q = some u → rnN d A.org res.news.length q = some o → st.o o = some x → ObR (hp w') (labB w (labC A lab) lab lab' d A.org res.news.length) (adrB d res.news.length adr adr') st.o o x := by
    intro q o u x hu hn hx
    obtain ⟨x', g2, g3, g4⟩ := hB.nm q o u hn hu
    rw [hx] at g2; cases g2
    exact outR_R hB hk hsh (hXo hu) hn g3 g4 (hr.objs q u hu)
  refine rel_upd (lab' := labB w (labC A lab) lab lab' d A.org res.news.length) (adr' := adrB d res.news.length adr adr') (v := retAV rets) (d := some d) R M T (fun d' e => by cases e; exact hd) rfl ⟨hr.siz, hr.sm⟩ (fun b hb hx => ?_) (fun b hb => ?_) ?_ (fun o => ?_) (fun _ => retAV_R hB hk hsh h1 hr.ret)
  · have hlt := hp_lt hx
    have hc := labC_none (A := A) hb
    have hkb : keepB (labC A lab) b = true := by unfold keepB; rw [hc]
    refine ⟨by unfold labB; rw [if_pos ⟨hlt, hkb⟩]; exact hb, (hfr b hlt hkb).1⟩
  · unfold labB at hb
    split at hb
    · rename_i h; have := hr.siz; omega
    · refine hr.bnd b (fun e => hb ?_)
      rw [e]
  · show st.o X = none
    rw [lk3 (fun hm => ?_) (fun j _ e => nmX d j e.symm)]
    · exact M.nox
    · exact hsome hm M.nox
  · by_cases ho : o ∈ A.org.map (·.o)
    · obtain ⟨q, og, hq, hog⟩ := hmem ho
      have hlt := (List.getElem?_eq_some_iff.1 hq).1
      have hlt2 : q < res.outs.length := by omega
      have hu : res.outs[q]? = some res.outs[q] := List.getElem?_eq_getElem hlt2
      generalize hue : res.outs[q] = u at hu
      obtain ⟨x, g1, g2⟩ := lk1 hq hu
      rw [hog] at g2
      have hur : obR A.org.length res q = some u := by unfold obR; rw [if_pos hlt]; exact hu
      have hoX : o ≠ X := by
        rintro rfl
        exact hsome ho M.nox
      obtain ⟨ui, f1, u0, f2, f3⟩ := horg hq
      rw [hog] at f2
      have hado := ad1 (hlo o ho)
      cases f3 with
      | @vw o1 i c e e' xs ys gg hi hc h3 =>
        dsimp only at hog
        subst hog
        replace g1 : outV i c (ob o1) u = some x := g1
        unfold outV at g1
        split at g1 <;> try (cases g1; done)
        rename_i e2 ys2 gx e3 xs3 g3 hold
        have hs := hob o1 _ hold
        rw [f2] at hs
        cases hs
        obtain ⟨x', hx', rfl⟩ := Option.map_eq_some_iff.1 g1
        refine .inr (.inr ⟨hoX, .inr (.inr (.inr (.inr ⟨e, xs, xs.set i x', gg, gg + 1, none, none, f2, g2, Nat.lt_succ_self _, by simp, hado⟩))), fun _ v hv => ?_⟩)
        rw [g2] at hv; cases hv
        show Rep _ _ (.sl e) (some [o1]) (xs.set i x') [adrB d res.news.length adr adr' o1]
        rw [hado]
        obtain ⟨ad, n, cp, uu, k1, k2, k3⟩ := row_R M f2 hi hc h3
        obtain ⟨sp, lb, arr, ta, fr, hblk, hfz, hsz⟩ := M.blk f2 k1
        have hrest : ∀ b r, lab b = some (o1 :: r) → (¬ ∃ r', r = i :: leafP e c ++ r') → hp w b ≠ none → labB w (labC A lab) lab lab' d A.org res.news.length b = lab b ∧ hp w' b = hp w b := by
          intro b r hb hr' hx
          have hlt3 := hp_lt hx
          have := labC_rest O hq hb (fun r' e => hr' ⟨r', by simpa using e⟩)
          have hkb : keepB (labC A lab) b = true := by unfold keepB; rw [this]; simp
          exact ⟨by unfold labB; rw [if_pos ⟨hlt3, hkb⟩], (hfr b hlt3 hkb).1⟩
        have ro := M.objs o1 _ f2
        simp only [ObR] at ro
        rw [k1] at ro ⊢
        rw [getD_e xs i _ hi] at hx'
        refine Rep.setCell (u := uu) ro hi hc hx' (fun arr2 t2 fr2 h2 _ => ?_) (fun b r hb hr' hx => ?_) ?_
        · have h2' := h2
          rw [hblk] at h2'
          cases h2'
          have hh := (hrest ad.block [] lb (by simp) (by rw [h2]; simp)).2
          rw [hh, h2]
          rw [cellAt_add hblk sp] at k2
          congr 2
          apply Array.ext_getElem?
          intro m
          by_cases em : ad.off + (i * sz e + c) = m
          · subst em
            rw [k2, Array.getElem?_setIfInBounds_self_of_lt (Array.getElem?_eq_some_iff.1 k2).1]
          · rw [Array.getElem?_setIfInBounds_ne em]
        · have := hrest b r (by simpa using hb) hr' hx
          exact ⟨this.1, fun _ => this.2⟩
        · have r1 := hr.objs q _ hur
          simp only [ObR] at r1
          have e4 : adr' q = uu := by
            rw [hr.adr q _ hlt hu (by simp)]
            unfold adrC
            rw [hq]
            dsimp only
            rw [k1]
            dsimp only
            rw [k2]; rfl
          rw [e4] at r1
          refine Rep.relab (p := some [q]) (fun _ _ => ⟨_, rfl⟩) (fun b r hb _ => ⟨?_, rfl⟩) r1
          rw [labB_at hk (hXo hur) (by simpa [ext] using hb)]
          unfold lbN
          rw [if_pos hlt, hq]
          simp [ext]
      | @arr o1 e xs0 gg =>
        dsimp only at hog
        subst hog
        have hnq : rnN d A.org res.news.length q = some o1 := by unfold rnN; rw [if_pos hlt, hq]
        replace g1 : out1 d A.org res.news.length A.sh (ob o1) u = some x := g1
        unfold out1 at g1
        split at g1
        · rename_i e2 xs g0 e0 xs3 g3 hold
          split at g1 <;> try (cases g1; done)
          rename_i hee; subst hee
          cases g1
          have hs := hob o1 _ hold
          rw [f2] at hs
          cases hs
          refine .inr (.inr ⟨hoX, .inr (.inr (.inr (.inr ⟨e, xs0, xs, gg, gg + 1, none, none, f2, g2, Nat.lt_succ_self _, ?_, hado⟩))), fun _ v hv => hobj hur hnq hv⟩)
          have r0 := M.objs o1 _ f2
          have r1 := hr.objs q _ hur
          simp only [ObR] at r0 r1
          have : adr' q = adr o1 := by
            rw [hr.adr q _ hlt hu (by simp)]
            unfold adrC; rw [hq]
          rw [this] at r1
          obtain ⟨a1, n1, c1, k1, k2, _⟩ := r0
          obtain ⟨a2, n2, c2, k3, k4, _⟩ := r1
          rw [k1] at k3
          simp at k3
          omega
        · rename_i cs cs0 hold
          have hs := hob o1 _ hold
          rw [f2] at hs; cases hs
        · cases g1
          exact .inr (.inl g2)
        · cases g1
      | @box o1 cs0 cs1 hcs =>
        dsimp only at hog
        subst hog
        have hnq : rnN d A.org res.news.length q = some o1 := by unfold rnN; rw [if_pos hlt, hq]
        replace g1 : out1 d A.org res.news.length A.sh (ob o1) u = some x := g1
        unfold out1 at g1
        split at g1
        · rename_i e2 xs g0 e0 xs3 g3 hold
          have hs := hob o1 _ hold
          rw [f2] at hs; cases hs
        · rename_i cs csx hold
          obtain ⟨cs', g3, rfl⟩ := Option.map_eq_some_iff.1 g1
          exact .inr (.inr ⟨hoX, .inr (.inr (.inr (.inl ⟨cs0, cs', f2, g2, hado⟩))), fun _ v hv => hobj hur hnq hv⟩)
        · cases g1
          exact .inr (.inl g2)
        · cases g1
    · by_cases hj : ∃ j, j < res.news.length ∧ o = nm d j
      · obtain ⟨j, hj, rfl⟩ := hj
        have hu : res.news[j]? = some res.news[j] := List.getElem?_eq_getElem hj
        have hpl := O.le
        obtain ⟨q, hq⟩ : ∃ q, q = 500 + j := ⟨_, rfl⟩
        have hqj : q - 500 = j := by omega
        have hur : obR A.org.length res q = some res.news[j] := by
          unfold obR
          rw [if_neg (by omega), if_pos (by omega), hqj]; exact hu
        have hnq : rnN d A.org res.news.length q = some (nm d j) := by
          unfold rnN
          rw [if_neg (by omega), if_pos (by omega), hqj]
        exact .inr (.inr ⟨nmX d j, .inl (hnew j hj), fun _ v hv => hobj hur hnq hv⟩)
      · have hj' : ∀ j, j < res.news.length → o ≠ nm d j := fun j h e => hj ⟨j, h, e⟩
        refine .inl ⟨lk3 ho hj', ad1 hj', fun b q hb hx => ?_⟩
        have hlt := hp_lt hx
        have hkb : keepB (labC A lab) b = true := by
          unfold keepB
          rcases labC_out ho hb with e | e
          · rw [e]
          · rw [e]; simp
        refine ⟨by unfold labB; rw [if_pos ⟨hlt, hkb⟩], (hfr b hlt hkb).1⟩
end
end Go.Proofs.Ytnbfhbfnccihgaa.E

/- All operations. -/
namespace Go.Proofs.Ytnbfhbfnccihgaa.E
open Go
set_option linter.unusedVariables false
set_option linter.unusedSimpArgs false
section
variable {n0 : Nat} {h0 : Ent} {lab0 : Lb} {nt : Nat} {σ σ' : St} {a : Act} {w w' : World} {ev : Ev} {P : Program} {c : Cfg} {lab : Lb} {adr : Nat → Value} {d : Nat} {ws : List (Nat × AV)} {os : List (Nat × OV)}
theorem nodupO {l : List Og} {sh : List Nat} (h1 : nodupB (l.map (·.o)) = true) (h2 : ((l.map (·.o)).all fun o => !sh.contains o) = true) (h3 : l.length ≤ 500) (ins : List OV) : Ok ⟨ins, l, sh⟩ :=
  ⟨h1, fun q o e => by
    have := List.all_eq_true.1 h2 o.o (List.mem_map.2 ⟨o, List.mem_of_getElem? e, rfl⟩)
    simpa using this, h3⟩
theorem CvA.up {ob ob' : Nat → Option OV} {A : AC} (ho : ∀ o v, ob o = some v → ob' o = some v) {c c' : CV} (r : CvA ob A c c') : CvA ob' A c c' := by
  cases r with
  | sl e => exact .sl e
  | slv e h1 hi hc h3 => exact .slv e (ho _ _ h1) hi hc h3
  | pc c e => exact .pc c e
  | shl h1 h2 => exact .shl (ho _ _ h1) h2
  | shv h1 h2 hi hc h3 => exact .shv (ho _ _ h1) h2 hi hc h3
  | i k n => exact .i k n
  | b x => exact .b x
  | s x => exact .s x
  | nil => exact .nil
  | ls k xs => exact .ls k xs
  | fn f => exact .fn f
theorem CvsA.up {ob ob' : Nat → Option OV} {A : AC} (ho : ∀ o v, ob o = some v → ob' o = some v) {l l' : List CV} (h : CvsA ob A l l') : CvsA ob' A l l' :=
  ⟨h.1, fun j c c' g1 g2 => (h.2 j c c' g1 g2).up ho⟩
theorem InvA.up {ob ob' : Nat → Option OV} {A : AC} (ho : ∀ o v, ob o = some v → ob' o = some v) (I : InvA ob A) : InvA ob' A := by
  refine ⟨I.1, fun q v hq => ?_⟩
  obtain ⟨o, u, h1, h2, h3⟩ := I.2 q v hq
  refine ⟨o, u, h1, ho _ _ h2, ?_⟩
  cases h3 with
  | arr => exact .arr
  | box h => exact .box (h.up ho)
  | vw hi hc h3 => exact .vw hi hc h3
theorem look_mem {α : Type} : ∀ {l : List (Nat × α)} {n : Nat} {v : α}, (n, v) ∈ l → look l n ≠ none
  | (m, v) :: l, n, u, h => by
    simp only [look]
    split
    · simp
    · rename_i hne
      rcases List.mem_cons.1 h with h | h
      · cases h; exact absurd rfl hne
      · exact look_mem h
theorem pcall_ok (hE : EvOk P ev) (R : Rel n0 h0 lab0 nt σ a w) (M : Mem n0 h0 lab0 σ.o w lab adr) (T : ∀ t, AVR (hp w) lab adr σ.o (σ.t t) (a.tmps.getD t undef)) (hd : d < nt) {f : Nat} {vs : List (Bool × AV)} {vals : Array Value} (hv : AVRs (hp w) lab adr σ.o (vs.map (·.2)) vals.toList)
    (h : (pcall d f vs).wr ev σ = some (ws, os)) : (∃ fn : Func, P.funcs[f]? = some fn ∧ (fn.name == "runtime.NumGoroutine") = false ∧ fn.body.isNone = false) ∧ Calls P f vals w (fun | .returned v, w' => Rel n0 h0 lab0 nt (σ.put ws os) (a.put (some d) v) w' | _, _ => False) := by
  unfold pcall at h
  obtain ⟨m1, h1, hm1, _⟩ := wr_rdOs _ _ _ (fun _ _ h => by cases h) h
  obtain ⟨m, h2, hm, _⟩ := wr_rdOs _ _ _ hm1 h1
  split at h2 <;> try (cases h2; done)
  rename_i as A hA
  split at h2 <;> try (cases h2; done)
  rename_i hc
  rw [Pg.wr] at h2
  obtain ⟨res, hev, h3⟩ := Option.bind_eq_some_iff.1 h2
  split at h3 <;> try (cases h3; done)
  rename_i hl
  obtain ⟨m3, h4, hm3, hm4⟩ := wr_rdOs _ _ _ (fun _ _ h => by cases h) h3
  split at h4 <;> try (cases h4; done)
  rename_i he
  split at h4 <;> try (cases h4; done)
  rename_i rets os1 os2 e1 e2 e3
  simp only [Pg.wr, Option.some.injEq, Prod.mk.injEq] at h4
  obtain ⟨rfl, rfl⟩ := h4
  obtain ⟨I0, _, ha⟩ := argsA_ok (A := ⟨[], [], []⟩) ⟨rfl, fun q v h => by simp at h⟩ hA
  have I : InvA σ.o A := I0.up hm
  have O : Ok A := nodupO hc.1 hc.2.1 hc.2.2 A.ins
  have ha' : Args σ.o A (vs.map (·.2)) as := ⟨ha.1, fun j v p g1 g2 => by
    obtain ⟨l, k1, k2⟩ := ha.2 j v p g1 g2
    exact ⟨l, k1, k2.up hm⟩⟩
  have hen : Entry w (labC A lab) (adrC A (hp w) adr) as A.ins vals := entry_ok O I M ha' (by simpa using hv.1) (fun j v hj => by
    obtain ⟨u, k1, k2⟩ := hv.2 j v hj
    exact ⟨u, by simpa using k1, k2⟩)
  obtain ⟨g1, g2⟩ := hE f as A.ins res hev
  refine ⟨g1, Calls.mono (g2 w _ _ vals hen) (fun e w' hr => ?_)⟩
  cases e with
  | returned v =>
    rw [I.1] at hr
    refine call_back R M T O I hr hl.1 hl.2 (fun j hj => ?_) hm e1 e2 e3 hd
    have hmem : nm d j ∈ (List.range res.news.length).map (nm d) := List.mem_map.2 ⟨j, by simpa using hj, rfl⟩
    have := hm4 (nm d j) (.inl hmem)
    rw [← this]
    cases m3 with
    | nil => rfl
    | cons _ _ => cases he
  | panicked _ => exact hr
  | outgrown => exact hr
theorem zipOwn_map (own : List Nat) : ∀ (vs : List AV) (i : Nat), (zipOwn own i vs).map (·.2) = vs
  | [], _ => rfl
  | v :: vs, i => by rw [zipOwn, List.map_cons, zipOwn_map own vs]
theorem run_callFunc {f : Nat} {args : Array Value} (h : ∃ fn : Func, P.funcs[f]? = some fn ∧ (fn.name == "runtime.NumGoroutine") = false ∧ fn.body.isNone = false) : (callFunc f args).run P w = .ok (.enter f args) w := by
  obtain ⟨fn, h1, h2, h3⟩ := h
  have h4 : ¬ fn.name = "runtime.NumGoroutine" := by simpa using h2
  have h5 : ¬ fn.body = none := by
    intro e; rw [e] at h3; cases h3
  unfold callFunc
  simp [h1, h4, h5]
theorem do_call (hE : EvOk P ev) (R : Rel n0 h0 lab0 nt σ a w) (M : Mem n0 h0 lab0 σ.o w lab adr) (T : ∀ t, AVR (hp w) lab adr σ.o (σ.t t) (a.tmps.getD t undef)) (hd : d < nt) {o : Oper} {f : Nat} {cl : Operand} {xs : Array Operand} {ts : Array TypeId} {own : List Nat} (hod : o.dst = some d)
    (ho : o.op = .call { callee := .value cl, args := xs, argTypes := ts }) (hcl : a.eval cl = .func (.func f) #[] #[])
    (h : (rdXs xs.toList [] fun vs => pcall d f (zipOwn own 0 vs)).wr ev σ = some (ws, os)) {K : Act → World → Prop} {Q : Exit → Act → World → Prop} (hk : ∀ a' w', Rel n0 h0 lab0 nt (σ.put ws os) a' w' → K a' w') : o.wp P a w K Q := by
  obtain ⟨vs, hvs, h1⟩ := wr_rdXs T _ [] [] _ _ ⟨rfl, fun j v h => by simp at h⟩ h
  rw [List.nil_append] at hvs
  obtain ⟨g1, g2⟩ := pcall_ok (vals := xs.map a.eval) hE R M T hd (by rw [zipOwn_map]; simpa using hvs) h1
  have hrun : (execOp a.eval o).run P w = .ok (.enter f (xs.map a.eval)) w := by
    have := run_callFunc (w := w) (args := xs.map a.eval) g1
    simp [execOp, ho, resolve, hcl, Deferred.ofValue, invoke, this]
  unfold Oper.wp
  rw [hrun, Oper.upon_enter]
  refine Calls.mono g2 (fun e w' hr => ?_)
  cases e with
  | returned v => dsimp only at hr ⊢; rw [← hod] at hr; exact hk _ _ hr
  | panicked _ => exact hr.elim
  | outgrown => exact hr.elim
end
end Go.Proofs.Ytnbfhbfnccihgaa.E

/- Whatever the evaluator does, the model does. -/
namespace Go.Proofs.Ytnbfhbfnccihgaa.E
open Go
set_option linter.unusedVariables false
set_option linter.unusedSimpArgs false
section
variable {n0 : Nat} {h0 : Ent} {lab0 : Lb} {nt : Nat} {σ σ' : St} {a : Act} {w w' : World} {ev : Ev} {P : Program} {c : Cfg} {lab : Lb} {adr : Nat → Value} {d : Nat} {ws : List (Nat × AV)} {os : List (Nat × OV)}
theorem arr0 {α : Type} {x : Array α} (h : x.size = 0) : x = #[] := Array.size_eq_zero_iff.1 h
theorem arr1 {α : Type} {x : Array α} {a : α} (h : x.toList = [a]) : x = #[a] := by
  have := congrArg List.toArray h; simpa using this
theorem arr2 {α : Type} {x : Array α} {a b : α} (h : x.toList = [a, b]) : x = #[a, b] := by
  have := congrArg List.toArray h; simpa using this
theorem call_eta (cl : Call) {ce : Callee} {xs : Array Operand} {ts : Array TypeId} (h1 : cl.callee = ce) (h2 : cl.args = xs) (h3 : cl.argTypes = ts) : cl = { callee := ce, args := xs, argTypes := ts } := by
  cases cl; simp at h1 h2 h3; subst h1; subst h2; subst h3; rfl
theorem opS_ok (hE : EvOk P ev) (hT : TysOk P c.tt) : OpS P c ev n0 h0 lab0 nt := by
  intro o σ a w ws os R hd h K Q hk
  have hop : ∃ op, o.op = op := ⟨_, rfl⟩
  obtain ⟨op, hop⟩ := hop
  unfold opPg at h
  rw [hop] at h
  cases op <;> (try dsimp only at h) <;> try (cases h; done)
  case move x => exact (do_move R hd (.inl hop) h).wp hk
  case assign x => exact (do_move R hd (.inr hop) h).wp hk
  case pick x y z => exact (do_pick R hd hop h).wp hk
  case extract x n => exact (do_extract R hd hop h).wp hk
  case binOp op t x y t2 =>
    refine (do_bin (bt := kOf c t == some .bool) R hd hop (fun e => ?_) h).wp hk
    have e' : kOf c t = some .bool := by simpa using e
    obtain ⟨ty, g1, g2, g3⟩ := kOf_spec e'
    exact (hT t ty g1).boo g2 g3
  case unOp op t x => exact (do_un R hd hop h).wp hk
  case alloc t =>
    split at h <;> try (cases h; done)
    rename_i ty hty
    exact (do_alloc (hT _ _ hty) R hd hop h).wp hk
  case box t x => exact (do_box (t := t) R hd hop h).wp hk
  case load t x =>
    split at h <;> try (cases h; done)
    rename_i ty hty
    exact (do_load (hT _ _ hty) R hd hop h).wp hk
  case store t x y =>
    split at h <;> try (cases h; done)
    rename_i ty hty hdn
    exact (do_store (hT _ _ hty) R hop hdn h).wp hk
  case fieldAddr t x f =>
    split at h <;> try (cases h; done)
    rename_i ty hty
    split at h <;> try (cases h; done)
    rename_i ha
    split at h <;> try (cases h; done)
    rename_i off hoff
    exact (do_fld (hT _ _ hty) ha hoff R hd hop h).wp hk
  case indexAddr t x y =>
    split at h <;> try (cases h; done)
    rename_i e he
    obtain ⟨ty, g1, g2, g3⟩ := kOf_spec he
    exact (do_idx (hT _ _ g1) hT g2 g3 R hd hop h).wp hk
  case index t x y =>
    split at h <;> try (cases h; done)
    rename_i he
    obtain ⟨ty, g1, g2, g3⟩ := kOf_spec he
    exact (do_index (hT _ _ g1) g2 g3 R hd hop h).wp hk
  case nilCheck x => exact (do_nilCheck R hd hop h).wp hk
  case build t parts =>
    split at h <;> try (cases h; done)
    rename_i ty hty
    split at h <;> try (cases h; done)
    rename_i ha
    exact (do_build (hT _ _ hty) ha R hd hop h).wp hk
  case buildSlice t len parts =>
    split at h <;> try (cases h; done)
    rename_i e d he hdd
    split at h <;> try (cases h; done)
    rename_i hc
    obtain ⟨ty, g1, g2, g3⟩ := kOf_spec he
    exact (do_buildSlice (hT _ _ g1) hT g2 g3 R hdd hd hop hc.1 hc.2 h).wp hk
  case makeSlice t x y =>
    split at h <;> try (cases h; done)
    rename_i ty d hty hdd
    split at h <;> try (cases h; done)
    rename_i e te he hte
    obtain ⟨ty', g1, g2, g3⟩ := kOf_spec he
    rw [hty] at g1; cases g1
    exact (do_makeSlice (d := d) (hT _ _ hty) hT g2 g3 hte R hd hop h).wp hk
  case slice t x lo hi mx =>
    cases mx with
    | some m => cases h
    | none =>
      dsimp only at h
      split at h <;> try (cases h; done)
      rename_i k he
      obtain ⟨ty, g1, g2, g3⟩ := kOf_spec he
      subst g3
      exact (do_slice (hT _ _ g1) hT g2 R hd hop h).wp hk
  case makeFunc fn first caps =>
    cases fn with
    | func f =>
      dsimp only at h
      split at h <;> try (cases h; done)
      rename_i hc
      have e1 := arr0 hc.1
      have e2 := arr0 hc.2
      subst e1; subst e2
      exact (do_makeFunc R hd hop h).wp hk
    | _ => cases h
  case convert src t x =>
    split at h <;> try (cases h; done)
    · rename_i k1 k2 h1 h2
      obtain ⟨ty, g1, g2, g3⟩ := kOf_spec h1
      obtain ⟨ty', g4, g5, g6⟩ := kOf_spec h2
      exact (do_convI (hT _ _ g4) g5 g6 (hT _ _ g1) g2 g3 R hd hop h).wp hk
    · rename_i h1 h2
      obtain ⟨ty, g1, g2, g3⟩ := kOf_spec h1
      obtain ⟨ty', g4, g5, g6⟩ := kOf_spec h2
      rw [g1] at h
      dsimp only at h
      split at h <;> try (cases h; done)
      rename_i h3
      obtain ⟨te, g7, g8, g9⟩ := kOf_spec h3
      exact (do_convS (tys := ty) (te := te) ((hT _ _ g4).str g5 g6) ((hT _ _ g1).sl g2 g3).1 ((hT _ _ g7).int g8 g9) R hd hop h).wp hk
    · rename_i h1 h2
      obtain ⟨ty, g1, g2, g3⟩ := kOf_spec h1
      obtain ⟨ty', g4, g5, g6⟩ := kOf_spec h2
      rw [g4] at h
      dsimp only at h
      split at h <;> try (cases h; done)
      rename_i h3
      obtain ⟨te, g7, g8, g9⟩ := kOf_spec h3
      exact (do_convB ((hT _ _ g1).str g2 g3) ((hT _ _ g4).sl g5 g6).1 ((hT _ _ g7).int g8 g9) R hd hop h).wp hk
  case call cl =>
    obtain ⟨lab, adr, M, T⟩ := R.mem
    split at h <;> try (cases h; done)
    · rename_i x t h1 h2 h3
      split at h <;> try (cases h; done)
      rename_i k he
      obtain ⟨ty, g1, g2, g3⟩ := kOf_spec he
      subst g3
      have := call_eta cl h1 (arr1 h2) (arr1 h3)
      subst this
      exact (do_len (hT _ _ g1) g2 R hd hop h).wp hk
    · rename_i s x t t' h1 h2 h3
      split at h <;> try (cases h; done)
      rename_i htt; subst htt
      split at h <;> try (cases h; done)
      rename_i ty d hty hdd
      split at h <;> try (cases h; done)
      rename_i e te he hte
      obtain ⟨ty', g1, g2, g3⟩ := kOf_spec he
      rw [hty] at g1; cases g1
      obtain ⟨hu, te', k1, k2⟩ := (hT _ _ hty).sl g2 g3
      rw [hte] at k1; cases k1
      have := call_eta cl h1 (arr2 h2) (arr2 h3)
      subst this
      exact (do_app (hT _ _ hty) hT hu hte k2 R hdd hd hop h).wp hk
    · rename_i x y t t' h1 h2 h3
      have := call_eta cl h1 (arr2 h2) (arr2 h3)
      subst this
      exact (do_minmax true R hd hop h).wp hk
    · rename_i x y t t' h1 h2 h3
      have := call_eta cl h1 (arr2 h2) (arr2 h3)
      subst this
      exact (do_minmax false R hd hop h).wp hk
    · rename_i f h1
      split at h <;> try (cases h; done)
      rename_i d hdd
      have := call_eta cl h1 rfl rfl
      exact do_call hE R M T (hd d hdd) hdd (by rw [hop, this]) rfl h hk
    · rename_i t h1
      split at h <;> try (cases h; done)
      rename_i d hdd
      rw [Pg.wr] at h
      split at h <;> try (cases h; done)
      rename_i f hf
      have ht : a.eval (.tmp t) = .func (.func f) #[] #[] := by
        have := T t
        rw [hf] at this
        exact this
      have := call_eta cl h1 rfl rfl
      exact do_call hE R M T (hd d hdd) hdd (by rw [hop, this]) ht h hk
end
end Go.Proofs.Ytnbfhbfnccihgaa.E

/- Functions. -/
namespace Go.Proofs.Ytnbfhbfnccihgaa.E
open Go
set_option linter.unusedVariables false
set_option linter.unusedSimpArgs false
def enter (args : List (Bool × List CV)) (ins : List OV) : St := ⟨args.zipIdx.map fun p => (p.2, a1 p.1), ins.zipIdx.map fun p => (p.2, p.1)⟩
/-- The value of a result. -/
def resV (c : Cfg) (σ : St) : ResultVar → Option AV
  | .tmp t => some (σ.t t)
  | .cell a t => match look c.tt t, σ.t a with
    | some ty, .one (.pc o 0) => (match σ.o o with | some (.box cs) => if cs.length = sz ty.k then some (mkA ty.agg cs) else none | _ => none)
    | _, _ => none
def resVs (c : Cfg) (σ : St) : List ResultVar → Option (List AV)
  | [] => some []
  | r :: l => match resV c σ r, resVs c σ l with | some v, some vs => some (v :: vs) | _, _ => none
def avs1 (σ : St) : List Nat → Option (List (Bool × List CV))
  | [] => some []
  | t :: l => match av1 (σ.t t), avs1 σ l with | some p, some r => some (p :: r) | _, _ => none
def exitR (c : Cfg) (rs : List ResultVar) (nt pn : Nat) (σ : St) : Option Res :=
  match resVs c σ rs with
  | some vs => (match norm0 pn ((List.range vs.length).map (nt + ·)) (σ.put (vs.zipIdx.map fun p => (nt + p.2, p.1)) []) with
    | some σ' => (match avs1 σ' ((List.range vs.length).map (nt + ·)) with
      | some rets => some ⟨rets, (σ'.ob.take pn).map (·.2), (σ'.ob.drop pn).map (·.2)⟩
      | none => none)
    | none => none)
  | none => none
def HasFn (P : Program) (f : Nat) : Prop := ∃ fn : Func, P.funcs[f]? = some fn ∧ (fn.name == "runtime.NumGoroutine") = false ∧ fn.body.isNone = false
abbrev Sp := List (Bool × List CV) → List OV → Option Res
def FnOk (P : Program) (f : Nat) (sp : Sp) : Prop := ∀ args ins res, sp args ins = some res → HasFn P f ∧ ∀ w lab adr vals, Entry w lab adr args ins vals → Calls P f vals w (fun | .returned v, w' => ResR w lab adr ins.length res w' v | _, _ => False)
theorem evOk_iff {P : Program} {ev : Ev} : EvOk P ev ↔ ∀ f, FnOk P f (ev f) := ⟨fun h f args ins res e => h f args ins res e, fun h f args ins res e => h f args ins res e⟩
def tab : List (Nat × Sp) → Ev
  | [], _, _, _ => none
  | (g, sp) :: l, f, args, ins => if g = f then sp args ins else tab l f args ins
section
variable {n0 : Nat} {h0 : Ent} {lab0 : Lb} {nt : Nat} {σ σ' : St} {a : Act} {w w' : World} {ev : Ev} {P : Program} {c : Cfg} {lab : Lb} {adr : Nat → Value} {d : Nat}
theorem tab_nil : EvOk P (tab []) := fun f args ins res h => by cases h
theorem tab_cons {l : List (Nat × Sp)} {f : Nat} {sp : Sp} (h : FnOk P f sp) (hl : EvOk P (tab l)) : EvOk P (tab ((f, sp) :: l)) := by
  intro g args ins res e
  unfold tab at e
  split at e
  · rename_i hg; subst hg; exact h args ins res e
  · exact hl g args ins res e
theorem look_enter {α β : Type} (f : α → β) : ∀ (l : List α) (k n : Nat), look ((l.zipIdx k).map fun p => (p.2, f p.1)) n = if k ≤ n then (l[n - k]?).map f else none
  | [], k, n => by simp [look]
  | x :: l, k, n => by
    rw [List.zipIdx_cons, List.map_cons]
    simp only [look]
    rw [look_enter f l (k + 1) n]
    by_cases e : k = n
    · subst e; simp
    · rw [if_neg e]
      by_cases h : k ≤ n
      · rw [if_pos h, if_pos (by omega), show n - k = (n - (k + 1)) + 1 from by omega, List.getElem?_cons_succ]
      · rw [if_neg h, if_neg (by omega)]
theorem enter_o {args : List (Bool × List CV)} {ins : List OV} (q : Nat) : (enter args ins).o q = obI ins q := by
  show look (ins.zipIdx.map fun p => (p.2, p.1)) q = _
  rw [look_enter (fun x : OV => x) ins 0 q]
  simp [obI]
theorem enter_t {args : List (Bool × List CV)} {ins : List OV} (t : Nat) : (enter args ins).t t = ((args[t]?).map a1).getD (.one .u) := by
  show (look (args.zipIdx.map fun p => (p.2, a1 p.1)) t).getD _ = _
  rw [look_enter a1 args 0 t]
  simp
theorem enter_R {args : List (Bool × List CV)} {ins : List OV} {vals : Array Value} (E : Entry w lab adr args ins vals) (hn : args.length ≤ nt) : Rel w.heap.size ⟨w, hp w, ins.length, adr⟩ lab nt (enter args ins) { tmps := vals ++ Array.replicate (nt - vals.size) undef, defers := [] } w := by
  have eo : (enter args ins).o = obI ins := funext fun q => enter_o q
  refine ⟨rfl, ?_, lab, adr, ⟨fun o v h => ?_, fun b _ _ => ⟨rfl, rfl⟩, E.bnd, Nat.le_refl _, Sm.refl _, ?_, fun o ho => ⟨?_, fun _ _ _ => rfl⟩, E.ent, E.glob⟩, fun t => ?_⟩
  · have := E.argl
    simp; omega
  · rw [eo] at h ⊢
    exact E.objs o v h
  · rw [eo]
    unfold obI
    have := E.len
    rw [List.getElem?_eq_none]; unfold X; omega
  · rw [eo]
    unfold obI
    have : o < ins.length := ho
    rw [List.getElem?_eq_getElem this]; simp
  · rw [enter_t, eo]
    cases e : args[t]? with
    | none => trivial
    | some p =>
      obtain ⟨u, h1, h2⟩ := E.arg t p e
      have hlt := (Array.getElem?_eq_some_iff.1 h1).1
      have : (vals ++ Array.replicate (nt - vals.size) undef).getD t undef = u := by
        rw [Array.getD_eq_getD_getElem?, Array.getElem?_append_left hlt, h1]; rfl
      show AVR _ _ _ _ (a1 p) ((vals ++ Array.replicate (nt - vals.size) undef).getD t undef)
      rw [this]
      exact a1_R h2
/-- One result, read. -/
def rdRes (tmps : Array Value) : ResultVar → Sem Value
  | .tmp t => pure (tmps.getD t undef)
  | .cell a t => do loadVar t (← asAddr (tmps.getD a undef))
theorem results_run {fn : Func} {vals : List Value} {tmps : Array Value} (h : fn.results.toList.length = vals.length) (hv : ∀ (j : Nat) (r : ResultVar), fn.results.toList[j]? = some r → ∃ u, vals[j]? = some u ∧ (rdRes tmps r).run P w = .ok u w) :
    (results fn tmps).run P w = .ok (if vals.length = 1 then vals.headD undef else .tuple vals.toArray) w := by
  have key : ∀ (rs : List ResultVar) (vals : List Value), rs.length = vals.length → (∀ (j : Nat) (r : ResultVar), rs[j]? = some r → ∃ u, vals[j]? = some u ∧ (rdRes tmps r).run P w = .ok u w) → (List.mapM (m := Sem) (rdRes tmps) rs).run P w = .ok vals w := by
    intro rs
    induction rs with
    | nil => intro vals hl _; cases vals with
      | nil => rfl
      | cons _ _ => simp at hl
    | cons r l ih =>
      intro vals hl hv
      cases vals with
      | nil => simp at hl
      | cons v vals =>
        obtain ⟨u, h1, h2⟩ := hv 0 r rfl
        simp at h1; subst h1
        rw [List.mapM_cons, Sem.run_bind, h2, Result.andThen_ok, Sem.run_bind, ih vals (by simpa using hl) (fun j r hj => by
          obtain ⟨u, g1, g2⟩ := hv (j + 1) r (by simpa using hj)
          exact ⟨u, by simpa using g1, g2⟩), Result.andThen_ok]
        rfl
  have e : fn.results = fn.results.toList.toArray := by simp
  unfold results
  rw [e, List.mapM_toArray]
  rw [Sem.run_bind, map_eq_pure_bind, Sem.run_bind]
  erw [key fn.results.toList vals h hv]
  simp only [Result.andThen_ok, Sem.run_pure]
  congr 1
  cases vals with
  | nil => rfl
  | cons t l => cases l with
    | nil => rfl
    | cons t2 l => simp
end
end Go.Proofs.Ytnbfhbfnccihgaa.E

/- Functions: what is shown of the body is so of the call. -/
namespace Go.Proofs.Ytnbfhbfnccihgaa.E
open Go
set_option linter.unusedVariables false
set_option linter.unusedSimpArgs false
section
variable {n0 : Nat} {h0 : Ent} {lab0 : Lb} {nt : Nat} {σ σ' : St} {a : Act} {w w' : World} {ev : Ev} {P : Program} {c : Cfg} {lab : Lb} {adr : Nat → Value} {d : Nat}
theorem norm_ob {pn : Nat} {live : List Nat} (hpn : pn ≤ 500) (h : norm0 pn live σ = some σ') (rets : List (Bool × List CV)) : ((σ'.ob.take pn).map (·.2)).length = pn ∧ ∀ q, obR pn ⟨rets, (σ'.ob.take pn).map (·.2), (σ'.ob.drop pn).map (·.2)⟩ q = σ'.o q := by
  unfold norm0 at h
  simp only at h
  generalize names σ pn live = acc at h
  split at h <;> try (cases h; done)
  cases h
  dsimp only [St.o]
  generalize hf : (fun o => nrO σ (rhoN pn acc) ((look σ.ob o).getD .dead)) = f
  have e1 : ((List.range pn).map fun o => (o, nrO σ (rhoN pn acc) ((look σ.ob o).getD .dead))) = (List.range pn).map fun o => (o, f o) := by rw [← hf]
  have e2 : (acc.zipIdx.map fun p => (500 + p.2, nrO σ (rhoN pn acc) ((look σ.ob p.1).getD .dead))) = acc.zipIdx.map fun p => (500 + p.2, f p.1) := by rw [← hf]
  rw [e1, e2]
  have l1 : ((List.range pn).map fun o => (o, f o)).length = pn := by simp
  have t1 : (((List.range pn).map fun o => (o, f o)) ++ (acc.zipIdx.map fun p : Nat × Nat => (500 + p.2, f p.1))).take pn = (List.range pn).map fun o => (o, f o) := by rw [List.take_append_of_le_length (by omega), List.take_of_length_le (by omega)]
  have t2 : (((List.range pn).map fun o => (o, f o)) ++ (acc.zipIdx.map fun p : Nat × Nat => (500 + p.2, f p.1))).drop pn = acc.zipIdx.map fun p : Nat × Nat => (500 + p.2, f p.1) := by rw [List.drop_append_of_le_length (by omega), List.drop_of_length_le (by omega), List.nil_append]
  rw [t1, t2]
  refine ⟨by simp, fun q => ?_⟩
  unfold obR
  rw [look_app, look_map f, look_zip f]
  by_cases hq : q < pn
  · simp [hq]
  · have hm : q ∉ List.range pn := by simpa using hq
    rw [if_neg hq, if_neg hm, Option.none_or, Nat.add_zero]
    by_cases h5 : 500 ≤ q
    · rw [if_pos h5, if_pos h5]
      simp
      rfl
    · rw [if_neg h5, if_neg h5]
theorem avs1_spec : ∀ {ts : List Nat} {l : List (Bool × List CV)}, avs1 σ ts = some l → l.length = ts.length ∧ ∀ (j : Nat) (p : Bool × List CV), l[j]? = some p → ∃ t, ts[j]? = some t ∧ av1 (σ.t t) = some p
  | [], l, h => by cases h; exact ⟨rfl, fun j c' h => by simp at h⟩
  | t :: ts, l, h => by
    unfold avs1 at h
    split at h <;> try (cases h; done)
    rename_i c1 cs1 h1 h2
    cases h
    obtain ⟨g1, r⟩ := avs1_spec h2
    refine ⟨by simp [g1], fun j c' hj => ?_⟩
    cases j with
    | zero => simp at hj; subst hj; exact ⟨t, rfl, h1⟩
    | succ j => obtain ⟨c2, k1, k2⟩ := r j c' (by simpa using hj); exact ⟨c2, by simpa using k1, k2⟩
theorem av1_R {ob : Nat → Option OV} {h : Hp} {v : AV} {p : Bool × List CV} {u : Value} (e : av1 v = some p) (r : AVR h lab adr ob v u) : A1R h lab adr ob p u ∧ AVR h lab adr ob (a1 p) u := by
  cases v with
  | one c => cases e; exact ⟨r, r⟩
  | agg l => cases e; exact ⟨r, r⟩
  | tup l => cases e
theorem resV_R (hT : TysOk P c.tt) {adr : Nat → Value} (M : Mem n0 h0 lab0 σ.o w lab adr) (T : ∀ t, AVR (hp w) lab adr σ.o (σ.t t) (a.tmps.getD t undef)) {r : ResultVar} {v : AV} (h : resV c σ r = some v) : ∃ u, AVR (hp w) lab adr σ.o v u ∧ (rdRes a.tmps r).run P w = .ok u w := by
  cases r with
  | tmp t => cases h; exact ⟨_, T t, rfl⟩
  | cell x t =>
    simp only [resV] at h
    split at h <;> try (cases h; done)
    rename_i ty o hty hx
    split at h <;> try (cases h; done)
    rename_i cs ho
    split at h <;> try (cases h; done)
    rename_i hl
    cases h
    have ht := T x
    rw [hx] at ht
    obtain ⟨_, _, hc⟩ := ht
    obtain ⟨b, e1, e2⟩ := hc cs ho
    obtain ⟨b', arr, ta, m1, m2, m3, m4⟩ := M.objs o _ ho
    rw [m1] at e1
    simp at e1
    subst e1
    have hTy := hT _ _ hty
    have hlen : arr.toList.length = sz ty.k := by rw [← m4.1]; exact hl
    refine ⟨_, mk_R (ty := ty) (fun ha => by rw [hlen]; exact hTy.one ha) m4, ?_⟩
    have hrun := run_loadVar (P := P) (w := w) (p := ⟨b', 0, none⟩) hTy hlen (fun j u hu => by
      show cellAt (hp w) _ = _
      rw [cellAt_add (a := ⟨b', 0, none⟩) m3 rfl]
      simpa using hu)
    show (do loadVar t (← asAddr (a.tmps.getD x undef)) : Sem Value).run P w = _
    rw [e2]
    simp [asAddr, hrun]
theorem resVs_R (hT : TysOk P c.tt) {adr : Nat → Value} (M : Mem n0 h0 lab0 σ.o w lab adr) (T : ∀ t, AVR (hp w) lab adr σ.o (σ.t t) (a.tmps.getD t undef)) : ∀ {rs : List ResultVar} {vs : List AV}, resVs c σ rs = some vs → ∃ vals : List Value, vals.length = rs.length ∧ vals.length = vs.length ∧ (∀ (j : Nat) (r : ResultVar), rs[j]? = some r → ∃ u, vals[j]? = some u ∧ (rdRes a.tmps r).run P w = .ok u w) ∧
    ∀ (j : Nat) (v : AV), vs[j]? = some v → ∃ u, vals[j]? = some u ∧ AVR (hp w) lab adr σ.o v u
  | [], vs, h => by cases h; exact ⟨[], rfl, rfl, fun j r h => by simp at h, fun j r h => by simp at h⟩
  | r :: rs, vs, h => by
    unfold resVs at h
    split at h <;> try (cases h; done)
    rename_i v vs' h1 h2
    cases h
    obtain ⟨u, k1, k2⟩ := resV_R hT M T h1
    obtain ⟨vals, g1, g2, g3, g4⟩ := resVs_R hT M T h2
    refine ⟨u :: vals, by simp [g1], by simp [g2], fun j x hj => ?_, fun j x hj => ?_⟩
    · cases j with
      | zero => simp at hj; subst hj; exact ⟨u, rfl, k2⟩
      | succ j => obtain ⟨u', f1, f2⟩ := g3 j x (by simpa using hj); exact ⟨u', by simpa using f1, f2⟩
    · cases j with
      | zero => simp at hj; subst hj; exact ⟨u, rfl, k1⟩
      | succ j => obtain ⟨u', f1, f2⟩ := g4 j x (by simpa using hj); exact ⟨u', by simpa using f1, f2⟩
theorem look_off {α : Type} (k : Nat) : ∀ (l : List α) (m n : Nat), look ((l.zipIdx m).map fun p => (k + p.2, p.1)) n = if k + m ≤ n then l[n - (k + m)]? else none
  | [], m, n => by simp [look]
  | x :: l, m, n => by
    rw [List.zipIdx_cons, List.map_cons]
    simp only [look]
    rw [look_off k l (m + 1) n]
    by_cases e : k + m = n
    · subst e; simp
    · rw [if_neg e]
      by_cases h : k + m ≤ n
      · rw [if_pos h, if_pos (by omega), show n - (k + m) = (n - (k + (m + 1))) + 1 from by omega, List.getElem?_cons_succ]
      · rw [if_neg h, if_neg (by omega)]
theorem exit_ok (hT : TysOk P c.tt) {fn : Func} {pn : Nat} {res : Res} (R : Rel w.heap.size ⟨w, hp w, pn, adr⟩ lab nt σ a w') (hpn : pn ≤ 500) (h : exitR c fn.results.toList nt pn σ = some res) : ∃ v, (results fn a.tmps).run P w' = .ok v w' ∧ ResR w lab adr pn res w' v := by
  unfold exitR at h
  split at h <;> try (cases h; done)
  rename_i vs hvs
  split at h <;> try (cases h; done)
  rename_i σ' hσ
  split at h <;> try (cases h; done)
  rename_i rets hr
  cases h
  obtain ⟨vals, v1, v2, v3, v4⟩ : ∃ vals : List Value, vals.length = fn.results.toList.length ∧ vals.length = vs.length ∧ (∀ (j : Nat) (r : ResultVar), fn.results.toList[j]? = some r → ∃ u, vals[j]? = some u ∧ (rdRes a.tmps r).run P w' = .ok u w') ∧
      ∃ lab1 adr1, Mem w.heap.size ⟨w, hp w, pn, adr⟩ lab σ.o w' lab1 adr1 ∧ (∀ t, AVR (hp w') lab1 adr1 σ.o (σ.t t) (a.tmps.getD t undef)) ∧ ∀ (j : Nat) (v : AV), vs[j]? = some v → ∃ u, vals[j]? = some u ∧ AVR (hp w') lab1 adr1 σ.o v u := by
    obtain ⟨lab1, adr1, M, T⟩ := R.mem
    obtain ⟨vals, g1, g2, g3, g4⟩ := resVs_R hT M T hvs
    exact ⟨vals, g1, g2, g3, lab1, adr1, M, T, g4⟩
  obtain ⟨lab1, adr1, M1, T1, v5⟩ := v4
  have ha2 : ∀ j, (a.tmps ++ vals.toArray).getD (nt + j) undef = (vals[j]?).getD undef := by
    intro j
    have := R.tms
    rw [Array.getD_eq_getD_getElem?, Array.getElem?_append_right (by omega), show nt + j - a.tmps.size = j from by omega]
    simp
  have R1 : Rel w.heap.size ⟨w, hp w, pn, adr⟩ lab (nt + vals.length) (σ.put (vs.zipIdx.map fun p => (nt + p.2, p.1)) []) { a with tmps := a.tmps ++ vals.toArray } w' := by
    refine ⟨R.dfr, by have := R.tms; simp [this], lab1, adr1, M1, fun t => ?_⟩
    show AVR (hp w') lab1 adr1 σ.o ((look (vs.zipIdx.map (fun p => (nt + p.2, p.1)) ++ σ.tm) t).getD (.one .u)) ((a.tmps ++ vals.toArray).getD t undef)
    rw [look_app, look_off nt vs 0 t]
    by_cases ht : nt ≤ t
    · obtain ⟨j, rfl⟩ : ∃ j, t = nt + j := ⟨t - nt, by omega⟩
      rw [if_pos (by omega), ha2, show nt + j - (nt + 0) = j from by omega]
      cases hv : vs[j]? with
      | some v =>
        obtain ⟨u, k1, k2⟩ := v5 j v hv
        rw [k1]; exact k2
      | none =>
        have hge : vs.length ≤ j := by
          rcases Nat.lt_or_ge j vs.length with h | h
          · rw [List.getElem?_eq_getElem h] at hv; cases hv
          · exact h
        rw [List.getElem?_eq_none (by omega)]
        have := T1 (nt + j)
        have hs := R.tms
        rw [Array.getD_eq_getD_getElem?, Array.getElem?_eq_none (by omega)] at this
        exact this
    · rw [if_neg (by omega)]
      have := T1 t
      have hs := R.tms
      have e : (a.tmps ++ vals.toArray).getD t undef = a.tmps.getD t undef := by
        rw [Array.getD_eq_getD_getElem?, Array.getD_eq_getD_getElem?, Array.getElem?_append_left (by omega)]
      rw [e]; exact this
  have R' := norm0_R (h0 := ⟨w, hp w, pn, adr⟩) hpn hσ R1
  obtain ⟨lab', adr', M, T⟩ := R'.mem
  obtain ⟨e1, e2⟩ := norm_ob hpn hσ rets
  obtain ⟨g1, g2⟩ := avs1_spec hr
  have eo : obR pn ⟨rets, (σ'.ob.take pn).map (·.2), (σ'.ob.drop pn).map (·.2)⟩ = σ'.o := funext e2
  refine ⟨_, results_run v1.symm v3, lab', adr', ?_⟩
  refine ⟨fun q u hu => ?_, fun q u hq hu hnd => ?_, fun b hb hl => ?_, M.bnd, M.siz, M.sm, ?_⟩
  · rw [eo] at hu ⊢
    exact M.objs q u hu
  · refine (M.par q hq).2 u ?_ hnd
    rw [← e2 q]
    unfold obR
    rw [if_pos hq]; exact hu
  · exact M.frz b hb hl
  · rw [eo]
    dsimp only
    have hrl : rets.length = vals.length := by rw [g1, v2]; simp
    have comp : ∀ (j : Nat) (p : Bool × List CV), rets[j]? = some p → A1R (hp w') lab' adr' σ'.o p ((vals[j]?).getD undef) ∧ AVR (hp w') lab' adr' σ'.o (a1 p) ((vals[j]?).getD undef) := by
      intro j p hj
      obtain ⟨t, k1, k2⟩ := g2 j p hj
      have ht : t = nt + j := by
        rw [List.getElem?_map] at k1
        obtain ⟨m, k3, k4⟩ := Option.map_eq_some_iff.1 k1
        have hm := (List.getElem?_eq_some_iff.1 k3).1
        rw [List.getElem?_range (by simpa using hm)] at k3
        cases k3; exact k4.symm
      subst ht
      have := T (nt + j)
      rw [show ({ a with tmps := a.tmps ++ vals.toArray } : Act).tmps = a.tmps ++ vals.toArray from rfl, ha2] at this
      exact av1_R k2 this
    have tup : vals.length ≠ 1 → retAV rets = .tup rets → AVR (hp w') lab' adr' σ'.o (retAV rets) (if vals.length = 1 then vals.headD undef else .tuple vals.toArray) := by
      intro h1 h2
      rw [if_neg h1, h2]
      refine ⟨_, rfl, by simp [hrl], fun j p hj => ?_⟩
      have hlt : j < vals.length := by rw [← hrl]; exact (List.getElem?_eq_some_iff.1 hj).1
      have := (comp j p hj).1
      rw [List.getElem?_eq_getElem hlt] at this
      exact ⟨vals[j], by simp [hlt], this⟩
    cases rets with
    | nil => exact tup (by rw [← hrl]; simp) rfl
    | cons p l => cases l with
      | cons p2 l => exact tup (by rw [← hrl]; simp) rfl
      | nil =>
        have k3 := (comp 0 p rfl).2
        have hl : vals.length = 1 := by rw [← hrl]; rfl
        rw [if_pos hl]
        cases vals with
        | nil => simp at hl
        | cons u vals => exact k3
def exitK (c : Cfg) (rs : List ResultVar) (nt pn : Nat) (res : Res) : Kp := fun x σ => (match x with | .n => True | .r => True | .x _ => False) ∧ exitR c rs nt pn σ = some res
/-- A function does what its body is shown to do. -/
theorem fn_ok (hf : P.follows .mixedOrders = true) (hE : EvOk P ev) (hT : TysOk P c.tt) {f : Nat} {fn : Func} {body : Code} (hfn : P.funcs[f]? = some fn) (hb : fn.body = some body) (hn : (fn.name == "runtime.NumGoroutine") = false) (lv : List (Nat × List Nat)) {args : List (Bool × List CV)} {ins : List OV} {res : Res}
    (hl : args.length ≤ fn.ntmps) (H : wpE c ev fn.ntmps ins.length lv body (enter args ins) (exitK c fn.results.toList fn.ntmps ins.length res)) :
    HasFn P f ∧ ∀ w lab adr vals, Entry w lab adr args ins vals → Calls P f vals w (fun | .returned v, w' => ResR w lab adr ins.length res w' v | _, _ => False) := by
  refine ⟨⟨fn, hfn, hn, by rw [hb]; rfl⟩, fun w lab adr vals E => ?_⟩
  have R := enter_R (nt := fn.ntmps) E hl
  refine calls_of_wp hfn hb (wp_mono (wpE_ok (h0 := ⟨w, hp w, ins.length, adr⟩) hf (opS_ok hE hT) E.len body _ _ _ _ R H) ?_)
  rintro e a' w' ⟨x, σ', rfl, R', hk⟩
  cases x with
  | n => exact ⟨R'.dfr, exit_ok hT R' E.len hk.2⟩
  | x id => exact hk.1.elim
  | r => exact ⟨R'.dfr, exit_ok hT R' E.len hk.2⟩
end
end Go.Proofs.Ytnbfhbfnccihgaa.E

/- Parameters: whatever can be read as data is a value of its kind. -/
namespace Go.Proofs.Ytnbfhbfnccihgaa.E
open Go Go.RowKit Go.ChangeShapes Go.WideShapes
set_option linter.unusedVariables false
set_option linter.unusedSimpArgs false
def pairK (f : TypeId → Option K) : List TypeId → Option K
  | [] => none
  | [t] => f t
  | t :: t2 :: ts => match f t, pairK f (t2 :: ts) with | some a, some b => some (.pair a b) | _, _ => none
def kindB (P : Program) : Nat → TypeId → Option K
  | 0, _ => none
  | n + 1, t => match (match P.underlying t with
      | some (.int k) => some (.int k)
      | some .bool => some .bool
      | some .string => some .str
      | some (.slice e) => (match kindB P n e with | some k => some (.sl k) | none => none)
      | some (.struct fs) => if fs.toList.map (·.offset) = (List.range fs.size).map (fun j => (((fs.toList.map (·.type)).take j).map P.cellsOf).sum) ∧ P.cellsOf t = ((fs.toList.map (·.type)).map P.cellsOf).sum then pairK (kindB P n) (fs.toList.map (·.type)) else none
      | _ => none) with
    | some k => if P.cellsOf t = sz k then some k else none
    | none => none
def Wf : (k : K) → den k → Prop
  | .int ik, x => (Lit.int ik x).wf = true
  | .bool, _ => True
  | .str, s => s.size ≤ maxLen
  | .sl e, xs => xs.length ≤ maxLen ∧ ∀ x ∈ xs, Wf e x
  | .pair a b, x => Wf a x.1 ∧ Wf b x.2
section
variable {P : Program} {H : Type} {enc : TypeId × Value → H} {W : World} {spare : Nat → Bool} {held : Bool}
def OpK (P : Program) (t : TypeId) (k : K) : Prop := ∀ {H : Type} (enc : TypeId × Value → H) (W : World) (spare : Nat → Bool) (held : Bool) (fuel : Nat) (cs : List Value) (x : DataW H × List MemPlace), DataW.trod enc P W 0 spare held fuel t cs = some x → ∃ v : den k, Rep (hp W) (fun _ => none) k none v cs ∧ Wf k v
theorem exists_list {α : Type} {p : Nat → α → Prop} : ∀ n, (∀ i, i < n → ∃ x, p i x) → ∃ xs : List α, xs.length = n ∧ ∀ j x, xs[j]? = some x → p j x
  | 0, _ => ⟨[], rfl, fun j x h => by simp at h⟩
  | n + 1, h => by
    obtain ⟨xs, hl, hx⟩ := exists_list n (fun i hi => h i (by omega))
    obtain ⟨x, hp⟩ := h n (by omega)
    refine ⟨xs ++ [x], by simp [hl], fun j y hj => ?_⟩
    rcases Nat.lt_or_ge j xs.length with hlt | hge
    · rw [List.getElem?_append_left hlt] at hj
      exact hx j y hj
    · have hj2 : j < (xs ++ [x]).length := (List.getElem?_eq_some_iff.1 hj).1
      rw [List.length_append, List.length_singleton] at hj2
      obtain rfl : j = xs.length := by omega
      have e : x = y := by simpa using hj
      subst e
      rw [hl]
      exact hp
theorem opK_slice {t e : TypeId} {k : K} (hd : OpK P e k) (ht : P.underlying t = some (.slice e)) (hc : P.cellsOf e = sz k) : OpK P t (.sl k) := by
  intro H enc W spare held fuel cs x h
  rcases DataW.trod_slice ht h with ⟨rfl, _⟩ | ⟨a, len, cap, elems, rest, n, _, rfl, _, _, hl, hm, hlen, hel, _⟩
  · exact ⟨[], ⟨none, 0, 0, rfl, rfl, Nat.le_refl _, fun _ h => (by cases h), fun h => absurd h (Nat.lt_irrefl 0), fun ad h => (by cases h)⟩, Nat.zero_le _, fun x h => (by cases h)⟩
  · have key : ∀ i, i < len → ∃ v : den k, Wf k v ∧ ∃ c, c.length = sz k ∧ Rep (hp W) (fun _ => none) k none v c ∧ ∀ j u, c[j]? = some u → W.cell? (a.add (i * sz k + j)) = some u := by
      intro i hi
      have hi2 : i < elems.length := by omega
      have h1 := hel i hi
      rw [List.getElem?_eq_getElem hi2] at h1
      obtain ⟨c, hc1, hc2⟩ := Option.bind_eq_some_iff.1 h1
      obtain ⟨v, hk, hq⟩ := hd enc W spare held n c _ hc2
      obtain ⟨_, hcl, hcell⟩ := World.cells?_some hc1
      refine ⟨v, hq, c, by rw [hcl, hc], hk, fun j u hu => ?_⟩
      have hk2 : j < c.length := (List.getElem?_eq_some_iff.1 hu).1
      have h2 := hcell j (by omega)
      rw [Go.Deep.add_add, hc] at h2
      rw [h2, hu]
    obtain ⟨xs, hxl, hx⟩ := exists_list len key
    refine ⟨xs, ⟨some a, len, cap, rfl, hxl.symm, hl, fun _ h => (by cases h), fun _ => ⟨a, rfl, rfl⟩, fun ad e i hi => ?_⟩, ?_, fun x hx2 => ?_⟩
    · cases e
      obtain ⟨_, c, c1, c2, c3⟩ := hx i xs[i] (List.getElem?_eq_getElem hi)
      exact ⟨c, c1, c2, c3⟩
    · unfold maxLen at hm ⊢
      omega
    · obtain ⟨j, hj⟩ := List.getElem?_of_mem hx2
      exact (hx j x hj).1
theorem opK_fields {f : TypeId → Option K} (hf : ∀ t k, f t = some k → OpK P t k) : ∀ (ts : List TypeId) (k : K), pairK f ts = some k → ∀ {H : Type} (enc : TypeId × Value → H) (W : World) (spare : Nat → Bool) (held : Bool) (n : Nat) (cs : List Value),
    cs.length = (ts.map P.cellsOf).sum →
    (∀ (j : Nat) (t : TypeId), ts[j]? = some t → ∃ y, DataW.trod enc P W 0 spare held n t ((cs.drop ((ts.take j).map P.cellsOf).sum).take (P.cellsOf t)) = some y) →
    ∃ v : den k, Rep (hp W) (fun _ => none) k none v cs ∧ Wf k v
  | [], k, h => by cases h
  | [t], k, h => by
    intro enc W spare held n cs hl hj
    obtain ⟨y, hy⟩ := hj 0 t rfl
    simp at hl
    simp only [List.take_zero, List.map_nil, List.sum_nil, List.drop_zero, ← hl, List.take_length] at hy
    exact hf t k h enc W spare held n cs y hy
  | t :: t2 :: ts, k, h => by
    intro enc W spare held n cs hl hj
    unfold pairK at h
    split at h <;> try (cases h; done)
    rename_i a b h1 h2
    cases h
    simp only [List.map_cons, List.sum_cons] at hl
    obtain ⟨y, hy⟩ := hj 0 t rfl
    simp only [List.take_zero, List.map_nil, List.sum_nil, List.drop_zero] at hy
    obtain ⟨v, hv, hq⟩ := hf t a h1 enc W spare held n _ y hy
    obtain ⟨v', hv', hq'⟩ := opK_fields hf (t2 :: ts) b h2 enc W spare held n (cs.drop (P.cellsOf t)) (by rw [List.length_drop]; simp; omega) (fun j u hu => by
      obtain ⟨z, hz⟩ := hj (j + 1) u hu
      refine ⟨z, ?_⟩
      rw [List.drop_drop]
      simpa using hz)
    exact ⟨(v, v'), ⟨_, _, (List.take_append_drop _ _).symm, hv, hv'⟩, hq, hq'⟩
theorem opK_ok : ∀ (n : Nat) (t : TypeId) (k : K), kindB P n t = some k → OpK P t k ∧ P.cellsOf t = sz k
  | 0, t, k, h => by cases h
  | n + 1, t, k, h => by
    unfold kindB at h
    split at h <;> try (cases h; done)
    rename_i k' h1
    split at h <;> try (cases h; done)
    rename_i hc
    cases h
    refine ⟨?_, hc⟩
    split at h1 <;> try (cases h1; done)
    · rename_i ik ht
      cases h1
      intro H enc W spare held fuel cs x h
      obtain ⟨n, rfl, _, hw⟩ := DataW.trod_int ht h
      exact ⟨n, rfl, hw⟩
    · rename_i ht
      cases h1
      intro H enc W spare held fuel cs x h
      obtain ⟨n, rfl, _⟩ := DataW.trod_bool ht h
      exact ⟨n, rfl, trivial⟩
    · rename_i ht
      cases h1
      intro H enc W spare held fuel cs x h
      obtain ⟨n, rfl, _, hs⟩ := DataW.trod_string ht h
      exact ⟨n, rfl, hs⟩
    · rename_i e ht
      split at h1 <;> try (cases h1; done)
      rename_i k2 he
      cases h1
      obtain ⟨g1, g2⟩ := opK_ok n e k2 he
      exact opK_slice g1 ht g2
    · rename_i fs ht
      split at h1 <;> try (cases h1; done)
      rename_i hcond
      obtain ⟨ho, hct⟩ := hcond
      intro H enc W spare held fuel cs x hx
      obtain ⟨xs, m, _, _, hl, hxl, hf⟩ := DataW.trod_struct ht hx
      refine opK_fields (fun t k h => (opK_ok n t k h).1) _ _ h1 enc W spare held m cs (hl.trans hct) (fun j u hu => ?_)
      have hj2 : j < fs.toList.length := by have := (List.getElem?_eq_some_iff.1 hu).1; simpa using this
      have hj3 : j < fs.size := by simpa using hj2
      have h1 : fs[j]? = some fs[j] := Array.getElem?_eq_getElem hj3
      have h2 := hf j fs[j] h1
      have e1 : (fs[j]).type = u := by
        rw [List.getElem?_map, List.getElem?_eq_getElem hj2] at hu
        simpa using hu
      have e2 : (fs[j]).offset = (((fs.toList.map (·.type)).take j).map P.cellsOf).sum := by
        have := congrArg (fun l : List Nat => l[j]?) ho
        simp only [List.getElem?_map, List.getElem?_eq_getElem hj2, List.getElem?_range hj3] at this
        simpa using this
      rw [e1, e2] at h2
      rw [h2]
      exact ⟨_, List.getElem?_eq_getElem (by omega)⟩
end
end Go.Proofs.Ytnbfhbfnccihgaa.E

/- Parameters of a law, and what its call leaves. -/
namespace Go.Proofs.Ytnbfhbfnccihgaa.E
open Go Go.RowKit Go.ChangeShapes Go.WideShapes
set_option linter.unusedVariables false
set_option linter.unusedSimpArgs false
/-- The cells of a value that is only read. -/
def cvL : (k : K) → den k → List CV
  | .int ik, x => [.i ik x]
  | .bool, x => [.b x]
  | .str, x => [.s x]
  | .sl e, x => [.ls e x]
  | .pair a b, x => cvL a x.1 ++ cvL b x.2
def aggB (P : Program) (t : TypeId) : Bool := match P.underlying t with | some (.struct _) => true | _ => false
section
variable {P : Program} {H : Type} {enc : TypeId × Value → H} {W W' : World} {spare : Nat → Bool} {held : Bool} {lab : Lb} {adr : Nat → Value} {ob : Nat → Option OV} {h : Hp}
theorem CVRs.app {l l' : List CV} {vs vs' : List Value} (r : CVRs h lab adr ob l vs) (r' : CVRs h lab adr ob l' vs') : CVRs h lab adr ob (l ++ l') (vs ++ vs') := by
  refine ⟨by simp [r.1, r'.1], fun j c hj => ?_⟩
  by_cases hl : j < l.length
  · rw [List.getElem?_append_left hl] at hj
    obtain ⟨v, h1, h2⟩ := r.2 j c hj
    exact ⟨v, by rw [List.getElem?_append_left (by rw [← r.1]; exact hl)]; exact h1, h2⟩
  · rw [List.getElem?_append_right (by omega)] at hj
    obtain ⟨v, h1, h2⟩ := r'.2 _ c hj
    exact ⟨v, by rw [List.getElem?_append_right (by rw [← r.1]; omega), ← r.1]; exact h1, h2⟩
theorem CVRs.one {c : CV} {v : Value} (r : CVR h lab adr ob c v) : CVRs h lab adr ob [c] [v] := ⟨rfl, fun j c' hj => by
  cases j with
  | zero => simp at hj; subst hj; exact ⟨v, rfl, r⟩
  | succ j => simp at hj⟩
theorem cvL_R : ∀ {k : K} {x : den k} {vs : List Value}, Rep h lab k none x vs → CVRs h lab adr ob (cvL k x) vs
  | .int ik, x, vs, r => by rw [show vs = _ from r]; exact CVRs.one rfl
  | .bool, x, vs, r => by rw [show vs = _ from r]; exact CVRs.one rfl
  | .str, x, vs, r => by rw [show vs = _ from r]; exact CVRs.one rfl
  | .sl e, x, vs, r => by
    have r0 := r
    obtain ⟨a, n, c, e1, _⟩ := r
    subst e1
    exact CVRs.one r0
  | .pair a b, x, vs, ⟨us, ws, e, r1, r2⟩ => by
    subst e
    exact CVRs.app (cvL_R r1) (cvL_R r2)
theorem par_E (n : Nat) {t : TypeId} {k : K} (hk : kindB P n t = some k) {base : Nat} {v : Value} {d : DataW H} {ps : List MemPlace} (hok : Value.okWide P W .any base t v) (hd : DataW.Trod enc P W 0 spare held t v d ps) :
    ∃ x : den k, A1R (hp W) (fun _ => none) adr ob (aggB P t, cvL k x) v ∧ Wf k x := by
  obtain ⟨fuel, hf⟩ := hd
  obtain ⟨x, hx, hw⟩ := (opK_ok n t k hk).1 enc W spare held fuel _ _ hf
  refine ⟨x, ?_, hw⟩
  have hr := cvL_R (lab := fun _ => none) (adr := adr) (ob := ob) hx
  have agg : ∀ {fs : Array Field}, P.underlying t = some (.struct fs) → A1R (hp W) (fun _ => none) adr ob (aggB P t, cvL k x) v := by
    intro fs ht
    obtain ⟨cs, rfl, _⟩ := okWide_struct ht hok
    unfold aggB
    rw [ht]
    exact ⟨cs, rfl, by simpa [Value.cells] using hr⟩
  have one : aggB P t = false → v.cells = #[v] → A1R (hp W) (fun _ => none) adr ob (aggB P t, cvL k x) v := by
    intro h1 h2
    rw [h1]
    rw [h2] at hr
    cases hc : cvL k x with
    | nil => rw [hc] at hr; have := hr.1; simp at this
    | cons c l => cases l with
      | cons _ _ => rw [hc] at hr; have := hr.1; simp at this
      | nil =>
        rw [hc] at hr
        obtain ⟨u, h3, h4⟩ := hr.2 0 c rfl
        simp at h3; subst h3
        exact h4
  cases n with
  | zero => cases hk
  | succ n =>
    unfold kindB at hk
    split at hk <;> try (cases hk; done)
    rename_i k' h1
    split at h1 <;> try (cases h1; done)
    · rename_i ik ht; obtain ⟨m, rfl⟩ := okWide_int ht hok; exact one (by unfold aggB; rw [ht]) rfl
    · rename_i ht; obtain ⟨m, rfl⟩ := okWide_bool ht hok; exact one (by unfold aggB; rw [ht]) rfl
    · rename_i ht; obtain ⟨m, rfl⟩ := okWide_string ht hok; exact one (by unfold aggB; rw [ht]) rfl
    · rename_i e ht; obtain ⟨a, len, cap, rfl⟩ := okWide_slice ht hok; exact one (by unfold aggB; rw [ht]) rfl
    · rename_i fs ht; exact agg ht
def AllR (h : Hp) (lab : Lb) (adr : Nat → Value) (ob : Nat → Option OV) : List (Bool × List CV) → List Value → Prop
  | [], [] => True
  | p :: l, v :: vs => A1R h lab adr ob p v ∧ AllR h lab adr ob l vs
  | _, _ => False
theorem AllR.at : ∀ {l : List (Bool × List CV)} {vs : List Value}, AllR h lab adr ob l vs → l.length = vs.length ∧ ∀ (j : Nat) (p : Bool × List CV), l[j]? = some p → ∃ u, vs[j]? = some u ∧ A1R h lab adr ob p u
  | [], [], _ => ⟨rfl, fun j p h => by simp at h⟩
  | p :: l, v :: vs, ⟨h1, h2⟩ => by
    obtain ⟨g1, g2⟩ := AllR.at h2
    refine ⟨by simp [g1], fun j q hj => ?_⟩
    cases j with
    | zero => simp at hj; subst hj; exact ⟨v, rfl, h1⟩
    | succ j => obtain ⟨u, k1, k2⟩ := g2 j q (by simpa using hj); exact ⟨u, by simpa using k1, k2⟩
theorem law_entry {args : List (Bool × List CV)} {vals : Array Value} (h : AllR (hp W) (fun _ => none) (fun _ => undef) (obI []) args vals.toList) (hG : Glob W.heap.size (hp W) (fun _ => none)) : Entry W (fun _ => none) (fun _ => undef) args [] vals := by
  obtain ⟨h1, h2⟩ := AllR.at h
  refine ⟨Nat.zero_le _, fun q v e => by simp at e, fun b hb => absurd rfl hb, fun b l e => (by cases e), by simpa using h1, fun j p hj => ?_, hG⟩
  obtain ⟨u, k1, k2⟩ := h2 j p hj
  exact ⟨u, by simpa using k1, k2⟩
theorem law_exit {v : Value} (h : ResR W (fun _ => none) (fun _ => undef) 0 ⟨[(false, [.b true])], [], []⟩ W' v) : v = .bool true ∧ Below W.heap.size W W' := by
  obtain ⟨lab', adr', r⟩ := h
  exact ⟨r.ret, ⟨r.sm.os, r.sm.tape, r.sm.out, r.siz, fun k hk => (r.frz k hk (fun q r e => (by cases e))).1⟩⟩
theorem glob_nil (h : gl = []) {n : Nat} {hh : Hp} {lab : Lb} : Glob n hh lab := fun p hp' => by rw [h] at hp'; cases hp'
/-- What the law comes to. -/
def yes : Res := ⟨[(false, [.b true])], [], []⟩
theorem law_calls {f : Nat} {sp : Sp} (ok : FnOk P f sp) {args : List (Bool × List CV)} {vals : Array Value} (hs : sp args [] = some yes) (h : AllR (hp W) (fun _ => none) (fun _ => undef) (obI []) args vals.toList) (hG : Glob W.heap.size (hp W) (fun _ => none)) :
    Calls P f vals W (fun e W' => e = .returned (.bool true) ∧ Below W.heap.size W W') := by
  refine Calls.mono ((ok args [] yes hs).2 W _ _ vals (law_entry h hG)) (fun e W' hr => ?_)
  cases e with
  | returned v => obtain ⟨rfl, hb⟩ := law_exit hr; exact ⟨rfl, hb⟩
  | panicked _ => exact hr.elim
  | outgrown => exact hr.elim
end
end Go.Proofs.Ytnbfhbfnccihgaa.E

/- Types, looked up once. -/
namespace Go.Proofs.Ytnbfhbfnccihgaa.E
open Go
set_option linter.unusedVariables false
set_option linter.unusedSimpArgs false
def cvB : Value → CV → Bool
  | .int k n, .i k' n' => decide (k = k') && decide (n = n')
  | .bool b, .b b' => b == b'
  | .string s, .s s' => decide (s.size = 0) && decide (s'.size = 0)
  | .slice none 0 0, .nil => true
  | _, _ => false
def cvsB : List Value → List CV → Bool
  | [], [] => true
  | v :: vs, c :: cs => cvB v c && cvsB vs cs
  | _, _ => false
def tyB (P : Program) (tt : Tys) (t : TypeId) (ty : Ty) : Bool :=
  (match P.info? t with
  | some i => (match i.zero with
    | some z => decide (i.size = sz ty.k) && decide (i.bytes = ty.bytes) && cvsB z.cells.toList (zeros ty.k)
    | none => false)
  | none => false) &&
  (match P.underlying t with
  | some (.struct fs) => ty.agg && decide (fs.toList.map (·.offset) = ty.offs) && decide (fs.toList.map (P.cellsOf ·.type) = ty.szs) && fs.toList.all fun f => decide (0 < P.cellsOf f.type)
  | some (.int k) => !ty.agg && decide (ty.k = .int k)
  | some .bool => !ty.agg && decide (ty.k = .bool)
  | some .string => !ty.agg && decide (ty.k = .str)
  | some (.slice e) => !ty.agg && decide (ty.elem = e) && (match look tt e with | some te => decide (ty.k = .sl te.k) | none => false)
  | _ => false)
section
variable {P : Program} {tt : Tys} {t : TypeId} {ty : Ty}
theorem empty_of {s : ByteArray} (h : s.size = 0) : s = ByteArray.empty := by
  cases s with
  | mk d =>
    have : d.size = 0 := h
    have := Array.size_eq_zero_iff.1 this
    subst this; rfl
theorem cvB_ok {v : Value} {c : CV} (h : cvB v c = true) : v = cvV c := by
  unfold cvB at h
  split at h
  · simp at h; obtain ⟨rfl, rfl⟩ := h; rfl
  · simp at h; subst h; rfl
  · simp at h; rw [h.1, h.2]; rfl
  · rfl
  · cases h
theorem cvsB_ok : ∀ {vs : List Value} {cs : List CV}, cvsB vs cs = true → vs = cs.map cvV
  | [], [], _ => rfl
  | v :: vs, c :: cs, h => by
    simp only [cvsB, Bool.and_eq_true] at h
    rw [cvB_ok h.1, cvsB_ok h.2]; rfl
  | [], _ :: _, h => by cases h
  | _ :: _, [], h => by cases h
theorem tyB_ok (h : tyB P tt t ty = true) : TyOk P tt t ty := by
  unfold tyB at h
  rw [Bool.and_eq_true] at h
  obtain ⟨h1, h2⟩ := h
  refine ⟨?_, ?_⟩
  · split at h1 <;> try (cases h1; done)
    rename_i i hi
    split at h1 <;> try (cases h1; done)
    rename_i z hz
    simp only [Bool.and_eq_true, decide_eq_true_eq] at h1
    exact ⟨i, z, hi, h1.1.1, h1.1.2, hz, cvsB_ok h1.2⟩
  · split at h2 <;> try (cases h2; done)
    · rename_i fs hu
      simp only [Bool.and_eq_true, decide_eq_true_eq, List.all_eq_true] at h2
      exact .inl ⟨h2.1.1.1, fs, hu, h2.1.1.2, h2.1.2, h2.2⟩
    · rename_i k hu
      simp only [Bool.and_eq_true, decide_eq_true_eq, Bool.not_eq_true'] at h2
      refine .inr ⟨h2.1, ?_⟩
      rw [h2.2]; exact hu
    · rename_i hu
      simp only [Bool.and_eq_true, decide_eq_true_eq, Bool.not_eq_true'] at h2
      refine .inr ⟨h2.1, ?_⟩
      rw [h2.2]; exact hu
    · rename_i hu
      simp only [Bool.and_eq_true, decide_eq_true_eq, Bool.not_eq_true'] at h2
      refine .inr ⟨h2.1, ?_⟩
      rw [h2.2]; exact hu
    · rename_i e hu
      simp only [Bool.and_eq_true, decide_eq_true_eq, Bool.not_eq_true'] at h2
      obtain ⟨⟨g1, g2⟩, g3⟩ := h2
      split at g3 <;> try (cases g3; done)
      rename_i te hte
      have g4 := of_decide_eq_true g3
      refine .inr ⟨g1, ?_⟩
      rw [g4]; exact ⟨by rw [g2]; exact hu, te, by rw [g2]; exact hte, rfl⟩
theorem tysOk_of : ∀ (l : List (Nat × Ty)), (l.all fun p => tyB P tt p.1 p.2) = true → ∀ t ty, look l t = some ty → TyOk P tt t ty
  | [], _, t, ty, h => by cases h
  | (m, v) :: l, ha, t, ty, h => by
    rw [List.all_cons, Bool.and_eq_true] at ha
    simp only [look] at h
    split at h
    · rename_i e; subst e; cases h; exact tyB_ok ha.1
    · exact tysOk_of l ha.2 t ty h
theorem tysB_ok (h : (tt.all fun p => tyB P tt p.1 p.2) = true) : TysOk P tt := tysOk_of tt h
end
end Go.Proofs.Ytnbfhbfnccihgaa.E

/- How a function is evaluated: rules for simp. -/
namespace Go.Proofs.Ytnbfhbfnccihgaa.E
open Go
set_option linter.unusedVariables false
set_option linter.unusedSimpArgs false
theorem mx0 : max 1 0 = 1 := rfl
theorem mx1 : max 1 1 = 1 := rfl
theorem mx2 : max 1 2 = 2 := rfl
theorem mx4 : max 1 4 = 4 := rfl
theorem mx8 : max 1 8 = 8 := rfl
theorem mx16 : max 1 16 = 16 := rfl
theorem mx24 : max 1 24 = 24 := rfl
theorem mx32 : max 1 32 = 32 := rfl
theorem mx40 : max 1 40 = 40 := rfl
theorem mx48 : max 1 48 = 48 := rfl
theorem mx56 : max 1 56 = 56 := rfl
theorem mx64 : max 1 64 = 64 := rfl
theorem mx72 : max 1 72 = 72 := rfl
theorem mx80 : max 1 80 = 80 := rfl
theorem mx88 : max 1 88 = 88 := rfl
theorem mx96 : max 1 96 = 96 := rfl
theorem mx104 : max 1 104 = 104 := rfl
theorem mx112 : max 1 112 = 112 := rfl
theorem mx120 : max 1 120 = 120 := rfl
theorem mx128 : max 1 128 = 128 := rfl
theorem holds_ite {p : Prop} [Decidable p] {a b : Option Prop} : holds (if p then a else b) = if p then holds a else holds b := by split <;> rfl
theorem holds_some {p : Prop} : holds (some p) = p := rfl
theorem holds_none : holds none = False := rfl
/-- What comes behind, in order (never opened before the state is known). -/
def Kseq (c : Cfg) (ev : Ev) (nt pn : Nat) (lv : List (Nat × List Nat)) (y : Code) (K : Kp) : Kp := fun e σ => match e with
  | .n => wpE c ev nt pn lv y σ K
  | .x id => K (.x id) σ
  | .r => K .r σ
def Kblk (id : Nat) (K : Kp) : Kp := fun e σ => match e with
  | .x id' => if id' = id then K .n σ else K (.x id') σ
  | .n => K .n σ
  | .r => K .r σ
def goP (ev : Ev) (p : Pg) (σ : St) (k : St → Prop) : Prop := holds (p.go ev σ fun σ' => some (k σ'))
def seqP (c : Cfg) (ev : Ev) (ops : Array Oper) (l : List Oper) (K : Kp) (σ : St) : Prop := holds (evSeq c ev ops l σ fun σ' => some (K .n σ'))
def drawP (c : Cfg) (ev : Ev) (ops : Array Oper) (K : Kp) (σ : St) : Prop := holds (evDraw c ev ops ops.toList [] σ fun σ' => some (K .n σ'))
/-- Behind a round of a loop. -/
def Klp {S : Type} (f : S → St) (μ : S → Nat) (inv : S → Prop) (pn : Nat) (live : List Nat) (n : Nat) (K : Kp) : Kp := fun e σ => match e with
  | .n => ∃ s', inv s' ∧ μ s' < n ∧ norm pn live σ = some (f s')
  | .x id => K (.x id) σ
  | .r => K .r σ
def dP (c : Cfg) (ev : Ev) (ops : Array Oper) (l : List Oper) (recs : List Rc) (K : Kp) (σ : St) : Prop := holds (evDraw c ev ops l recs σ fun σ' => some (K .n σ'))
def goRP (ev : Ev) (p : Pg) (σ : St) (rt ro : List Nat) (k : List Nat → List Nat → Ws → Prop) : Prop := holds (p.goR ev σ rt ro fun a b w => some (k a b w))
def dK (c : Cfg) (ev : Ev) (ops : Array Oper) (l : List Oper) (recs : List Rc) (K : Kp) (σ : St) : List Nat → List Nat → Ws → Prop := fun rt ro ws => dP c ev ops l (recs ++ [⟨rt, ro, ws.1.map (·.1), ws.2.map (·.1)⟩]) K (σ.put ws.1 ws.2)
/-- What holds of a state that is there. -/
structure optK (o : Option St) (k : St → Prop) : Prop where
  ex : ∃ σ, o = some σ ∧ k σ
theorem optK_some {σ : St} {k : St → Prop} : optK (some σ) k = k σ := propext ⟨fun ⟨_, h, g⟩ => by cases h; exact g, fun h => ⟨σ, rfl, h⟩⟩
theorem optK_none {k : St → Prop} : optK none k = False := propext ⟨fun ⟨_, h, _⟩ => by (cases h), fun h => h.elim⟩
theorem optK_intro {o : Option St} {k : St → Prop} (σ : St) (h : o = some σ) (hk : k σ) : optK o k := ⟨σ, h, hk⟩
theorem optK_eq {o : Option St} {k : St → Prop} : optK o k = (match o with | some σ => k σ | none => False) := by
  cases o with
  | none => exact optK_none
  | some σ => exact optK_some
/-- The end of a function of whose result only a property is told. -/
theorem ex_end {c : Cfg} {rs : List ResultVar} {nt pn : Nat} {Q : Res → Prop} {σ : St} (res : Res) (hQ : Q res) (h : exitR c rs nt pn σ = some res) : ∃ res, Q res ∧ exitK c rs nt pn res .r σ := ⟨res, hQ, trivial, h⟩
section
variable {nt : Nat} {σ σ' : St} {ev : Ev} {c : Cfg} {pn : Nat} {lv : List (Nat × List Nat)} {K : Kp}
/-- A loop, by states of one form. -/
theorem wpE_loop {S : Type} (f : S → St) (μ : S → Nat) (inv : S → Prop) {live : List Nat} {body : Code} (s0 : S) (hi : inv s0) (h0 : norm pn live σ = some (f s0))
    (step : ∀ s σ, inv s → norm pn live σ = some (f s) → wpE c ev nt pn lv body σ (Klp f μ inv pn live (μ s) K)) :
    wpE c ev nt pn lv (.loop body) σ K := by
  unfold wpE
  refine ⟨fun n σ => ∃ s, inv s ∧ μ s = n ∧ norm pn live σ = some (f s), ⟨_, s0, hi, rfl, h0⟩, ?_⟩
  rintro n σ' ⟨s, h1, rfl, h2⟩
  refine wpE_mono _ _ _ _ (fun e σ2 h => ?_) (step s σ' h1 h2)
  cases e with
  | n =>
    obtain ⟨s', g1, g2, g3⟩ := h
    exact ⟨_, g2, s', g1, rfl, g3⟩
  | x id => exact h
  | r => exact h
theorem wE_skip : wpE c ev nt pn lv .skip σ K = K .n σ := rfl
theorem wE_ret : wpE c ev nt pn lv .ret σ K = K .r σ := rfl
theorem wE_exit {id : Nat} : wpE c ev nt pn lv (.exit id) σ K = K (.x id) σ := rfl
theorem wE_seq {x y : Code} : wpE c ev nt pn lv (.seq x y) σ K = wpE c ev nt pn lv x σ (Kseq c ev nt pn lv y K) := rfl
theorem wE_blk {id : Nat} {x : Code} : wpE c ev nt pn lv (.block id x) σ K = wpE c ev nt pn lv x σ (Kblk id K) := rfl
theorem wE_cond {x : Operand} {t e : Code} : wpE c ev nt pn lv (.cond x t e) σ K = (match evX σ x with | .b b => if b = true then wpE c ev nt pn lv t σ K else wpE c ev nt pn lv e σ K | _ => False) := rfl
theorem wE_reg {id : Nat} {ops : Array Oper} (hd : dstB nt ops.toList = true) : wpE c ev nt pn lv (.region id ops false) σ K = optK (nrm pn lv id σ) (seqP c ev ops ops.toList K) := by
  rw [optK_eq]
  unfold wpE seqP evReg nrm
  cases look lv id with
  | none => simp only [hd, if_true, Bool.false_eq_true, if_false]
  | some live =>
    simp only [hd, if_true, Bool.false_eq_true, if_false]
    all_goals (cases norm pn live σ <;> rfl)
theorem wE_draw {id : Nat} {ops : Array Oper} (hd : dstB nt ops.toList = true) : wpE c ev nt pn lv (.region id ops true) σ K = optK (nrm pn lv id σ) (drawP c ev ops K) := by
  rw [optK_eq]
  unfold wpE drawP evReg nrm
  cases look lv id with
  | none => simp only [hd, if_true, Bool.false_eq_true, if_false]
  | some live =>
    simp only [hd, if_true, Bool.false_eq_true, if_false]
    all_goals (cases norm pn live σ <;> rfl)
theorem drawP_eq {ops : Array Oper} : drawP c ev ops K σ = dP c ev ops ops.toList [] K σ := rfl
theorem dP_nil {ops : Array Oper} {recs : List Rc} : dP c ev ops [] recs K σ = ((indepB (ancs ops.toList []) recs = true ∧ backB ops.toList = true) ∧ K .n σ) := by
  unfold dP
  rw [evDraw]
  by_cases h : indepB (ancs ops.toList []) recs = true ∧ backB ops.toList = true
  · rw [if_pos h]; simp [holds, h]
  · rw [if_neg h]; simp [holds, h]
theorem dP_cons {ops : Array Oper} {o : Oper} {l : List Oper} {recs : List Rc} : dP c ev ops (o :: l) recs K σ = goRP ev (opG c ops o) σ [] [] (dK c ev ops l recs K σ) := by
  unfold dP goRP
  rw [evDraw, Pg.goR_run, Pg.goR_run]
  cases (opG c ops o).run ev σ <;> simp [holds, dK, dP]
theorem dK_eq {ops : Array Oper} {l : List Oper} {recs : List Rc} {rt ro : List Nat} {ws : Ws} : dK c ev ops l recs K σ rt ro ws = dP c ev ops l (recs ++ [⟨rt, ro, ws.1.map (·.1), ws.2.map (·.1)⟩]) K (σ.put ws.1 ws.2) := rfl
theorem goRP_done {ws : List (Nat × AV)} {os : List (Nat × OV)} {rt ro : List Nat} {k : List Nat → List Nat → Ws → Prop} : goRP ev (.done ws os) σ rt ro k = k rt ro (ws, os) := rfl
theorem goRP_fail {rt ro : List Nat} {k : List Nat → List Nat → Ws → Prop} : goRP ev .fail σ rt ro k = False := rfl
theorem goRP_rdT {n : Nat} {f : AV → Pg} {rt ro : List Nat} {k : List Nat → List Nat → Ws → Prop} : goRP ev (.rdT n f) σ rt ro k = goRP ev (f (σ.t n)) σ (n :: rt) ro k := rfl
theorem goRP_rdO {n : Nat} {f : Option OV → Pg} {rt ro : List Nat} {k : List Nat → List Nat → Ws → Prop} : goRP ev (.rdO n f) σ rt ro k = goRP ev (f (σ.o n)) σ rt (n :: ro) k := rfl
theorem goRP_br {b : Bool} {t e : Pg} {rt ro : List Nat} {k : List Nat → List Nat → Ws → Prop} : goRP ev (.br b t e) σ rt ro k = if b = true then goRP ev t σ rt ro k else goRP ev e σ rt ro k := by
  unfold goRP
  rw [Pg.goR]
  split <;> rfl
theorem goRP_brf {b : Bool} {t : Pg} {rt ro : List Nat} {k : List Nat → List Nat → Ws → Prop} : goRP ev (.br b t .fail) σ rt ro k = (b = true ∧ goRP ev t σ rt ro k) := by
  rw [goRP_br]
  cases b <;> simp [goRP_fail]
theorem seqP_nil {ops : Array Oper} : seqP c ev ops [] K σ = K .n σ := rfl
theorem seqP_cons {ops : Array Oper} {o : Oper} {l : List Oper} : seqP c ev ops (o :: l) K σ = goP ev (opG c ops o) σ (seqP c ev ops l K) := by
  unfold seqP goP
  rw [evSeq, Pg.go_run, Pg.go_run]
  cases (opG c ops o).run ev σ <;> simp [holds]
theorem Kseq_n {y : Code} : Kseq c ev nt pn lv y K .n σ = wpE c ev nt pn lv y σ K := rfl
theorem Kseq_x {y : Code} {id : Nat} : Kseq c ev nt pn lv y K (.x id) σ = K (.x id) σ := rfl
theorem Kseq_r {y : Code} : Kseq c ev nt pn lv y K .r σ = K .r σ := rfl
theorem Kblk_n {id : Nat} : Kblk id K .n σ = K .n σ := rfl
theorem Kblk_x {id id' : Nat} : Kblk id K (.x id') σ = if id' = id then K .n σ else K (.x id') σ := rfl
theorem Kblk_r {id : Nat} : Kblk id K .r σ = K .r σ := rfl
theorem Klp_x {S : Type} {f : S → St} {μ : S → Nat} {inv : S → Prop} {live : List Nat} {n id : Nat} : Klp f μ inv pn live n K (.x id) σ = K (.x id) σ := rfl
theorem Klp_r {S : Type} {f : S → St} {μ : S → Nat} {inv : S → Prop} {live : List Nat} {n : Nat} : Klp f μ inv pn live n K .r σ = K .r σ := rfl
theorem Klp_n {S : Type} {f : S → St} {μ : S → Nat} {inv : S → Prop} {live : List Nat} {n : Nat} (s' : S) (h : norm pn live σ = some (f s')) (h1 : inv s') (h2 : μ s' < n) : Klp f μ inv pn live n K .n σ := ⟨s', h1, h2, h⟩
theorem goP_done {ws : List (Nat × AV)} {os : List (Nat × OV)} {k : St → Prop} : goP ev (.done ws os) σ k = k (σ.put ws os) := rfl
theorem goP_fail {k : St → Prop} : goP ev .fail σ k = False := rfl
theorem goP_rdT {n : Nat} {f : AV → Pg} {k : St → Prop} : goP ev (.rdT n f) σ k = goP ev (f (σ.t n)) σ k := rfl
theorem goP_rdO {n : Nat} {f : Option OV → Pg} {k : St → Prop} : goP ev (.rdO n f) σ k = goP ev (f (σ.o n)) σ k := rfl
theorem goP_br {b : Bool} {t e : Pg} {k : St → Prop} : goP ev (.br b t e) σ k = if b = true then goP ev t σ k else goP ev e σ k := by
  unfold goP
  rw [Pg.go]
  split <;> rfl
theorem goP_brf {b : Bool} {t : Pg} {k : St → Prop} : goP ev (.br b t .fail) σ k = (b = true ∧ goP ev t σ k) := by
  rw [goP_br]
  cases b <;> simp [goP_fail]
/-- What a call hands back. -/
def callP (o : Option Res) (g : Res → Prop) : Prop := match o with | some r => g r | none => False
theorem callP_some {r : Res} {g : Res → Prop} : callP (some r) g = g r := rfl
theorem callP_none {g : Res → Prop} : callP none g = False := rfl
theorem callP_ite {p : Prop} [Decidable p] {a b : Option Res} {g : Res → Prop} : callP (if p then a else b) g = if p then callP a g else callP b g := by split <;> rfl
theorem goP_callP {f : Nat} {as : List (Bool × List CV)} {is : List OV} {r : Res → Pg} {k : St → Prop} : goP ev (.call f as is r) σ k = callP (ev f as is) (fun res => goP ev (r res) σ k) := by
  unfold goP callP
  rw [Pg.go]
  cases ev f as is <;> rfl
theorem goRP_callP {f : Nat} {as : List (Bool × List CV)} {is : List OV} {r : Res → Pg} {rt ro : List Nat} {k : List Nat → List Nat → Ws → Prop} : goRP ev (.call f as is r) σ rt ro k = callP (ev f as is) (fun res => goRP ev (r res) σ rt ro k) := by
  unfold goRP callP
  rw [Pg.goR]
  cases ev f as is <;> rfl
theorem goP_call {f : Nat} {as : List (Bool × List CV)} {is : List OV} {r : Res → Pg} {k : St → Prop} {res : Res} (h : ev f as is = some res) : goP ev (.call f as is r) σ k = goP ev (r res) σ k := by
  unfold goP
  rw [Pg.go, h]; rfl
end
/-- What is asked is known in the branches (with simp +contextual). -/
theorem ite_cg {α : Sort _} {b c : Prop} {x y u v : α} {s : Decidable b} [Decidable c] (h1 : b = c) (h2 : c → x = u) (h3 : ¬ c → y = v) : ite b x y = ite c u v := ite_congr h1 h2 h3
/-- Two ways; neither is looked at before the test is known. -/
def brP (p : Prop) (A B : St → Prop) (σ : St) : Prop := (p → A σ) ∧ (¬ p → B σ)
theorem brP_intro {p : Prop} {A B : St → Prop} {σ : St} (h1 : p → A σ) (h2 : ¬ p → B σ) : brP p A B σ := ⟨h1, h2⟩
theorem brP_T {A B : St → Prop} {σ : St} : brP True A B σ = A σ := by simp [brP]
theorem brP_F {A B : St → Prop} {σ : St} : brP False A B σ = B σ := by simp [brP]
def goQ (ev : Ev) (p : Pg) (k : St → Prop) (σ : St) : Prop := goP ev p σ k
theorem goQ_eq {ev : Ev} {p : Pg} {k : St → Prop} {σ : St} : goQ ev p k σ = goP ev p σ k := rfl
theorem goP_brB {ev : Ev} {b : Bool} {t e : Pg} {k : St → Prop} {σ : St} : goP ev (.br b t e) σ k = brP (b = true) (goQ ev t k) (goQ ev e k) σ := by
  rw [goP_br]
  unfold brP goQ
  cases b <;> simp
def goRQ (ev : Ev) (p : Pg) (rt ro : List Nat) (k : List Nat → List Nat → Ws → Prop) (σ : St) : Prop := goRP ev p σ rt ro k
theorem goRQ_eq {ev : Ev} {p : Pg} {rt ro : List Nat} {k : List Nat → List Nat → Ws → Prop} {σ : St} : goRQ ev p rt ro k σ = goRP ev p σ rt ro k := rfl
theorem goRP_brB {ev : Ev} {b : Bool} {t e : Pg} {rt ro : List Nat} {k : List Nat → List Nat → Ws → Prop} {σ : St} : goRP ev (.br b t e) σ rt ro k = brP (b = true) (goRQ ev t rt ro k) (goRQ ev e rt ro k) σ := by
  rw [goRP_br]
  unfold brP goRQ
  cases b <;> simp
theorem brP_f1 {ev : Ev} {p : Prop} {A : St → Prop} {k : St → Prop} {σ : St} : brP p A (goQ ev .fail k) σ = (p ∧ A σ) := by
  unfold brP goQ
  rw [goP_fail]
  by_cases h : p <;> simp [h]
theorem brP_f2 {ev : Ev} {p : Prop} {A : St → Prop} {rt ro : List Nat} {k : List Nat → List Nat → Ws → Prop} {σ : St} : brP p A (goRQ ev .fail rt ro k) σ = (p ∧ A σ) := by
  unfold brP goRQ
  rw [goRP_fail]
  by_cases h : p <;> simp [h]
def wQ (c : Cfg) (ev : Ev) (nt pn : Nat) (lv : List (Nat × List Nat)) (x : Code) (K : Kp) (σ : St) : Prop := wpE c ev nt pn lv x σ K
theorem wQ_eq {c : Cfg} {ev : Ev} {nt pn : Nat} {lv : List (Nat × List Nat)} {x : Code} {K : Kp} {σ : St} : wQ c ev nt pn lv x K σ = wpE c ev nt pn lv x σ K := rfl
theorem wE_condB {c : Cfg} {ev : Ev} {nt pn : Nat} {lv : List (Nat × List Nat)} {K : Kp} {σ : St} {x : Operand} {t e : Code} : wpE c ev nt pn lv (.cond x t e) σ K = (match evX σ x with | .b b => brP (b = true) (wQ c ev nt pn lv t K) (wQ c ev nt pn lv e K) σ | _ => False) := by
  rw [wE_cond]
  split
  · rename_i b hb
    unfold brP wQ
    cases b <;> simp
  · rfl
theorem callP_itef {p : Prop} [Decidable p] {r : Res} {g : Res → Prop} : callP (if p then some r else none) g = (p ∧ g r) := by
  by_cases h : p <;> simp [h, callP]
abbrev I64 : K := .int .i64
abbrev SI : K := .sl I64
theorem w64 {x : Int} (h1 : -9223372036854775808 ≤ x) (h2 : x ≤ 9223372036854775807) : IntKind.i64.wrap x = x := IntWalk.i64_in x ⟨h1, h2⟩
theorem drop_getD {α : Type} (xs : List α) (i : Nat) (d : α) (h : i < xs.length) : xs.drop i = xs.getD i d :: xs.drop (i + 1) := by
  rw [List.drop_eq_getElem_cons h, getD_get xs i d h]
theorem mem_getD {α : Type} (xs : List α) (i : Nat) (d : α) (h : i < xs.length) : xs.getD i d ∈ xs := by
  rw [getD_get xs i d h]; exact List.getElem_mem h
theorem take_getD {α : Type} (xs : List α) (i : Nat) (d : α) (h : i < xs.length) : xs.take (i + 1) = xs.take i ++ [xs.getD i d] := by
  rw [List.take_succ_eq_append_getElem h, getD_get xs i d h]
/-- A list that is filled from the left. -/
theorem fill_step {α : Type} (xs : List α) (n i : Nat) (z d : α) (h : i < xs.length) (hn : xs.length = n) : (xs.take i ++ List.replicate (n - i) z).set i (xs.getD i d) = xs.take (i + 1) ++ List.replicate (n - (i + 1)) z := by
  subst hn
  apply List.ext_getElem?
  intro j
  rw [List.getElem?_set]
  simp only [List.length_append, List.length_take, List.length_replicate]
  by_cases e : i = j
  · subst e
    rw [if_pos rfl, if_pos (by omega), List.getElem?_append_left (by simp; omega)]
    simp [h]
  · rw [if_neg e]
    by_cases hl : j < i
    · rw [List.getElem?_append_left (by simp; omega), List.getElem?_append_left (by simp; omega)]
      simp [hl, Nat.lt_succ_of_lt hl]
    · rw [List.getElem?_append_right (by simp; omega), List.getElem?_append_right (by simp; omega)]
      simp only [List.length_take, List.getElem?_replicate]
      congr 1
      simp only [eq_iff_iff]; omega
end Go.Proofs.Ytnbfhbfnccihgaa.E

/- Functions of the library, by contracts that say what they return. -/
namespace Go.Proofs.Ytnbfhbfnccihgaa.E
open Go Go.RowKit
set_option linter.unusedVariables false
set_option linter.unusedSimpArgs false
section
variable {P : Program} {w w' : World} {lab : Lb} {adr : Nat → Value} {vals : Array Value} {args : List (Bool × List CV)}
/-- What a function returns that makes nothing. -/
theorem lib_res {rets : List (Bool × List CV)} {v : Value} (E : Entry w lab adr args [] vals) (hb : Below w.heap.size w w') (hv : AVR (hp w') lab adr (obR 0 ⟨rets, [], []⟩) (retAV rets) v) : ResR w lab adr 0 ⟨rets, [], []⟩ w' v := by
  refine ⟨lab, adr, ⟨fun q u h => ?_, fun q u h => absurd h (Nat.not_lt_zero _), fun b hb' _ => ⟨hb.block b hb', rfl⟩, fun b h => Nat.lt_of_lt_of_le (E.bnd b h) hb.size, hb.size, ⟨hb.os, hb.tape, hb.output⟩, hv⟩⟩
  unfold obR at h
  rw [if_neg (Nat.not_lt_zero _)] at h
  split at h
  · simp at h
  · cases h
/-- An argument that is a string. -/
theorem Entry.str (E : Entry w lab adr args [] vals) {j : Nat} {s : ByteArray} (h : args[j]? = some (false, [.s s])) : vals[j]? = some (.string s) := by
  obtain ⟨u, h1, h2⟩ := E.arg j _ h
  rw [h1, show u = .string s from h2]
theorem Entry.int (E : Entry w lab adr args [] vals) {j : Nat} {k : IntKind} {n : Int} (h : args[j]? = some (false, [.i k n])) : vals[j]? = some (.int k n) := by
  obtain ⟨u, h1, h2⟩ := E.arg j _ h
  rw [h1, show u = .int k n from h2]
/-- An argument that is a list of strings, which is only read. -/
theorem Entry.strs (E : Entry w lab adr args [] vals) {j : Nat} {xs : List ByteArray} (h : args[j]? = some (false, [.ls .str xs])) : ∃ a c, vals[j]? = some (.slice a xs.length c) ∧ xs.length ≤ c ∧ (0 < xs.length → ∃ ad, a = some ad ∧ ad.spot = none ∧ ad.block < w.heap.size ∧ ∀ (i : Nat) x, xs[i]? = some x → w.cell? ⟨ad.block, ad.off + i, none⟩ = some (.string x)) := by
  obtain ⟨u, h1, h2⟩ := E.arg j _ h
  have r : Rep (hp w) lab (.sl .str) none xs [u] := h2
  obtain ⟨a, n, c, e, hn, hc, -, hs, hr⟩ := r
  simp at e
  subst e hn
  refine ⟨a, c, h1, hc, fun h0 => ?_⟩
  obtain ⟨ad, e1, -⟩ := hs h0
  have hcell : ∀ (i : Nat) x, xs[i]? = some x → cellAt (hp w) (ad.add i) = some (.string x) := by
    intro i x hx
    obtain ⟨hi, e2⟩ := List.getElem?_eq_some_iff.1 hx
    obtain ⟨us, u1, u2, u3⟩ := hr ad e1 i hi
    have e3 : us = [.string xs[i]] := u2
    have := u3 0 (.string xs[i]) (by rw [e3]; rfl)
    rw [e2] at this
    simpa [sz] using this
  obtain ⟨x0, hx0⟩ : ∃ x0, xs[0]? = some x0 := ⟨xs[0], List.getElem?_eq_getElem h0⟩
  have h3 := hcell 0 x0 hx0
  have hsp : ad.spot = none := by
    cases hs : ad.spot with
    | none => rfl
    | some z =>
      exfalso
      unfold cellAt at h3
      have hs2 : (ad.add 0).spot.isSome = true := by unfold Addr.add; split <;> simp_all
      split at h3
      · rw [if_pos hs2] at h3; cases h3
      · cases h3
  have hadd : ∀ i, ad.add i = ⟨ad.block, ad.off + i, none⟩ := by
    intro i
    have e1 := add_block ad i
    have e2 := add_off ad i
    have e3 := add_spot ad i hsp
    cases h : ad.add i
    rw [h] at e1 e2 e3
    simp at e1 e2 e3
    simp [e1, e2, e3]
  refine ⟨ad, e1, hsp, ?_, fun i x hx => ?_⟩
  · rw [hadd] at h3
    unfold cellAt at h3
    cases hb : hp w ad.block with
    | none => rw [hb] at h3; cases h3
    | some o => exact hp_lt (by rw [hb]; simp)
  · have := hcell i x hx
    rw [hadd] at this
    rw [← cellAt_hp]; exact this
end
end Go.Proofs.Ytnbfhbfnccihgaa.E

/- Results that are nil, told as own lists without elements. -/
namespace Go.Proofs.Ytnbfhbfnccihgaa.E
open Go
set_option linter.unusedVariables false
set_option linter.unusedSimpArgs false
def nilCs (k : Nat) : List CV → Option (List CV)
  | [] => none
  | .nil :: l => some (.sl k :: l)
  | c :: l => (nilCs k l).map (c :: ·)
def nilRets (k : Nat) : List (Bool × List CV) → Option (List (Bool × List CV))
  | [] => none
  | (b, l) :: r => match nilCs k l with
    | some l' => some ((b, l') :: r)
    | none => (nilRets k r).map ((b, l) :: ·)
/-- The first nil of the results as an own list. -/
def ownR (e : K) (r : Res) : Res :=
  match nilRets (500 + r.news.length) r.rets with
  | some rets => ⟨rets, r.outs, r.news ++ [.arr e [] 0 none]⟩
  | none => r
section
variable {w w' : World} {lab lab' : Lb} {adr adr' : Nat → Value} {ob : Nat → Option OV} {P : Program} {h : Hp}
theorem nilCs_R {e : K} {k : Nat} (hk : ob k = none) : ∀ {l l' : List CV} {vs : List Value}, nilCs k l = some l' → CVRs h lab adr ob l vs → CVRs h lab (adN k adr) (obN e k ob) l' vs
  | [], _, _, hl, _ => by cases hl
  | c :: l, l', [], hl, r => by have := r.1; simp at this
  | c :: l, l', v :: vs, hl, r => by
    have r0 : CVR h lab adr ob c v := by
      obtain ⟨u, h1, h2⟩ := r.2 0 c rfl
      simp at h1; rw [h1]; exact h2
    have rt : CVRs h lab adr ob l vs := ⟨by simpa using r.1, fun j c' hj => by
      obtain ⟨u, h1, h2⟩ := r.2 (j + 1) c' (by simpa using hj)
      exact ⟨u, by simpa using h1, h2⟩⟩
    have glue : ∀ (c' : CV) (l2 : List CV), CVR h lab (adN k adr) (obN e k ob) c' v → CVRs h lab (adN k adr) (obN e k ob) l2 vs → CVRs h lab (adN k adr) (obN e k ob) (c' :: l2) (v :: vs) := fun c' l2 g1 g2 => ⟨by simp [g2.1], fun j c2 hj => by
      cases j with
      | zero => simp at hj; subst hj; exact ⟨v, rfl, g1⟩
      | succ j => obtain ⟨u, f1, f2⟩ := g2.2 j c2 (by simpa using hj); exact ⟨u, by simpa using f1, f2⟩⟩
    have kt : CVRs h lab (adN k adr) (obN e k ob) l vs := CVRs.over (fun b h1 _ => ⟨h1, rfl⟩) (goesN hk) rt
    by_cases hc : c = .nil
    · subst hc
      cases hl
      exact glue _ _ (nilC_R hk r0) kt
    · have hl2 : (nilCs k l).map (c :: ·) = some l' := by
        rw [← hl]
        cases c <;> first | rfl | exact absurd rfl hc
      obtain ⟨l2, h2, rfl⟩ := Option.map_eq_some_iff.1 hl2
      exact glue _ _ (keepC_R hk r0) (nilCs_R hk h2 rt)
theorem nilCs_len {k : Nat} : ∀ {l l' : List CV}, nilCs k l = some l' → l'.length = l.length
  | [], _, h => by cases h
  | c :: l, l', h => by
    by_cases hc : c = .nil
    · subst hc; cases h; rfl
    · have h2 : (nilCs k l).map (c :: ·) = some l' := by
        rw [← h]
        cases c <;> first | rfl | exact absurd rfl hc
      obtain ⟨l2, h3, rfl⟩ := Option.map_eq_some_iff.1 h2
      simp [nilCs_len h3]
theorem nil1_R {e : K} {k : Nat} (hk : ob k = none) {b : Bool} {l l' : List CV} {v : Value} (hl : nilCs k l = some l') (r : A1R h lab adr ob (b, l) v) : A1R h lab (adN k adr) (obN e k ob) (b, l') v := by
  cases b with
  | true =>
    obtain ⟨vs, e1, r1⟩ := r
    exact ⟨vs, e1, nilCs_R hk hl r1⟩
  | false =>
    match l, r with
    | [c], r =>
      by_cases hc : c = .nil
      · subst hc
        cases hl
        exact nilC_R (h := h) (lab := lab) hk r
      · have : nilCs k [c] = none := by cases c <;> first | rfl | exact absurd rfl hc
        rw [this] at hl; cases hl
theorem nilA_R {e : K} {k : Nat} (hk : ob k = none) {b : Bool} {l l' : List CV} {v : Value} (hl : nilCs k l = some l') (r : AVR h lab adr ob (a1 (b, l)) v) : AVR h lab (adN k adr) (obN e k ob) (a1 (b, l')) v := by
  have hn := nilCs_len hl
  have agg : AVR h lab adr ob (.agg l) v → AVR h lab (adN k adr) (obN e k ob) (.agg l') v := fun ⟨vs, g1, g2⟩ => ⟨vs, g1, nilCs_R hk hl g2⟩
  cases b with
  | true => exact agg r
  | false =>
    match l, l', hl, hn with
    | [c], [c'], hl, _ => exact nil1_R (b := false) hk hl r
    | [], _, hl, _ => cases hl
    | _ :: _ :: _, _ :: _ :: _, _, _ => exact agg r
theorem nilRets_spec {k : Nat} : ∀ {l l' : List (Bool × List CV)}, nilRets k l = some l' → l'.length = l.length ∧ ∀ (j : Nat) (p : Bool × List CV), l'[j]? = some p → ∃ q, l[j]? = some q ∧ (p = q ∨ (p.1 = q.1 ∧ nilCs k q.2 = some p.2))
  | [], _, h => by cases h
  | (b, l) :: r, l', h => by
    rw [nilRets] at h
    split at h
    · rename_i l2 hl
      cases h
      refine ⟨rfl, fun j p hj => ?_⟩
      cases j with
      | zero => simp at hj; subst hj; exact ⟨_, rfl, .inr ⟨rfl, hl⟩⟩
      | succ j => exact ⟨p, by simpa using hj, .inl rfl⟩
    · obtain ⟨r2, h2, rfl⟩ := Option.map_eq_some_iff.1 h
      obtain ⟨g1, g2⟩ := nilRets_spec h2
      refine ⟨by simp [g1], fun j p hj => ?_⟩
      cases j with
      | zero => simp at hj; subst hj; exact ⟨_, rfl, .inl rfl⟩
      | succ j => obtain ⟨q, f1, f2⟩ := g2 j p (by simpa using hj); exact ⟨q, by simpa using f1, f2⟩
theorem own_R {e : K} {pn : Nat} (hpn : pn ≤ 500) {res : Res} {v : Value} (r : ResR w lab adr pn res w' v) : ResR w lab adr pn (ownR e res) w' v := by
  unfold ownR
  split
  · rename_i rets hr
    obtain ⟨lab', adr', R⟩ := r
    have hk : obR pn res (500 + res.news.length) = none := by
      unfold obR
      rw [if_neg (by omega), if_pos (by omega)]
      exact List.getElem?_eq_none (by omega)
    have eo : obR pn ⟨rets, res.outs, res.news ++ [.arr e [] 0 none]⟩ = obN e (500 + res.news.length) (obR pn res) := by
      funext q
      unfold obR obN
      dsimp only
      by_cases h1 : q < pn
      · rw [if_pos h1, if_pos h1, if_neg (by omega)]
      · rw [if_neg h1, if_neg h1]
        by_cases h2 : 500 ≤ q
        · rw [if_pos h2, if_pos h2]
          by_cases h3 : q = 500 + res.news.length
          · rw [if_pos h3, List.getElem?_append_right (by omega), show q - 500 - res.news.length = 0 by omega]; rfl
          · rw [if_neg h3]
            rcases Nat.lt_or_ge (q - 500) res.news.length with h4 | h4
            · rw [List.getElem?_append_left h4]
            · rw [List.getElem?_eq_none (by rw [List.length_append, List.length_singleton]; omega), List.getElem?_eq_none h4]
        · rw [if_neg h2, if_neg h2, if_neg (by omega)]
    generalize 500 + res.news.length = k at hk hr eo
    have hk5 : pn ≤ k ∨ True := .inr trivial
    refine ⟨lab', adN k adr', ?_⟩
    refine ⟨fun q u hu => ?_, fun q u hq hu hnd => ?_, R.frz, R.bnd, R.siz, R.sm, ?_⟩
    · rw [eo] at hu ⊢
      unfold obN at hu
      split at hu
      · rename_i hqk
        cases hu
        subst hqk
        refine ⟨none, 0, 0, by unfold adN; rw [if_pos rfl], rfl, Nat.le_refl _, fun P _ => ⟨fun _ => by simp, fun ad h => by cases h⟩, fun h => absurd h (by omega), fun ad h => by cases h⟩
      · rename_i hqk
        exact ObR.same (fun b h1 _ => ⟨h1, rfl⟩) (goesN hk) (by unfold adN; rw [if_neg hqk]) (fun b q h1 _ => ⟨rfl, rfl⟩) (R.objs q u hu)
    · have hqk : q ≠ k := fun e => by
        subst e
        unfold obR at hk
        rw [if_pos hq] at hk
        rw [hk] at hu; cases hu
      unfold adN
      rw [if_neg hqk]
      exact R.adr q u hq hu hnd
    · rw [eo]
      have hret := R.ret
      dsimp only
      obtain ⟨g1, g2⟩ := nilRets_spec hr
      generalize res.rets = rs at hret g1 g2
      have one : ∀ (p q : Bool × List CV) (u : Value), (p = q ∨ (p.1 = q.1 ∧ nilCs k q.2 = some p.2)) → A1R (hp w') lab' adr' (obR pn res) q u → A1R (hp w') lab' (adN k adr') (obN e k (obR pn res)) p u := fun p q u hc r => by
        rcases hc with rfl | ⟨c1, c2⟩
        · exact A1R.over (fun b h1 _ => ⟨h1, rfl⟩) (goesN hk) r
        · obtain ⟨pb, pl⟩ := p
          obtain ⟨qb, ql⟩ := q
          dsimp only at c1 c2
          subst c1
          exact nil1_R hk c2 r
      have tup : AVR (hp w') lab' adr' (obR pn res) (.tup rs) v → AVR (hp w') lab' (adN k adr') (obN e k (obR pn res)) (.tup rets) v := fun ⟨vs, f1, f2, f3⟩ => ⟨vs, f1, by rw [g1]; exact f2, fun j p hj => by
        obtain ⟨q, k1, k2⟩ := g2 j p hj
        obtain ⟨u, k3, k4⟩ := f3 j q k1
        exact ⟨u, k3, one p q u k2 k4⟩⟩
      match rs, rets, g1, g2, hret, tup with
      | [], [], _, _, hret, tup => exact tup hret
      | [q], [p], _, g2, hret, _ =>
        obtain ⟨q', k1, k2⟩ := g2 0 p rfl
        simp at k1; subst k1
        show AVR _ _ _ _ (a1 p) v
        have hret : AVR (hp w') lab' adr' (obR pn res) (a1 q) v := hret
        rcases k2 with rfl | ⟨c1, c2⟩
        · exact AVR.over (fun b h1 _ => ⟨h1, rfl⟩) (goesN hk) hret
        · obtain ⟨pb, pl⟩ := p
          obtain ⟨qb, ql⟩ := q
          dsimp only at c1 c2
          subst c1
          exact nilA_R hk c2 hret
      | _ :: _ :: _, _ :: _ :: _, _, _, hret, tup => exact tup hret
  · exact r
/-- A function's results, the first nil told as an own list. -/
theorem fn_own {f : Nat} {sp : Sp} (e : K) (h : FnOk P f sp) : FnOk P f (fun args ins => (sp args ins).map (ownR e)) := by
  intro args ins res hs
  obtain ⟨r0, h0, rfl⟩ := Option.map_eq_some_iff.1 hs
  obtain ⟨h1, h2⟩ := h args ins r0 h0
  refine ⟨h1, fun w lab adr vals E => (h2 w lab adr vals E).mono fun o w' ho => ?_⟩
  cases o with
  | returned v => exact own_R E.len ho
  | _ => exact ho
/-- A spec that says less. -/
theorem fn_le {f : Nat} {sp sp' : Sp} (h : FnOk P f sp) (hl : ∀ args ins res, sp' args ins = some res → sp args ins = some res) : FnOk P f sp' := fun args ins res e => h args ins res (hl args ins res e)
end
end Go.Proofs.Ytnbfhbfnccihgaa.E
