/- What a parameter reads as, opened once for every kind of the print: whatever can be read as data at a type is of that type's kind. -/
import Derived.Test.YtpfjjheognelhaaWWords
import Derived.ProofKit
import Derived.ChangeArms
import Derived.ChangeSlices
import Derived.Deep.Slices
namespace Go.Proofs.Ytpfjjheognelhaa.Op
open Go.RowKit Go.ChangeShapes Go.WideShapes Go.Proofs.YtpfjjheognelhaaW.PrintWords

def Opens (P : Program) (t : TypeId) {α : Type} (d : Kd α) (Q : α → Prop) : Prop :=
  ∀ {H : Type} (enc : TypeId × Value → H) (W : World) (spare : Nat → Bool) (held : Bool) (fuel : Nat) (cs : List Value) (x : DataW H × List MemPlace),
    DataW.trod enc P W 0 spare held fuel t cs = some x → ∃ v, d.K W v cs ∧ Q v

def FO (P : Program) (ts : List TypeId) {α : Type} (d : Kd α) (Q : α → Prop) : Prop :=
  ∀ {H : Type} (enc : TypeId × Value → H) (W : World) (spare : Nat → Bool) (held : Bool) (n : Nat) (cs : List Value),
    cs.length = (ts.map P.cellsOf).sum →
    (∀ (j : Nat) (t : TypeId), ts[j]? = some t → ∃ y, DataW.trod enc P W 0 spare held n t ((cs.drop ((ts.take j).map P.cellsOf).sum).take (P.cellsOf t)) = some y) →
    ∃ v, d.K W v cs ∧ Q v

theorem exists_list {α : Type} {p : Nat → α → Prop} : ∀ n, (∀ i, i < n → ∃ x, p i x) → ∃ xs : List α, xs.length = n ∧ ∀ j x, xs[j]? = some x → p j x
  | 0, _ => ⟨[], rfl, fun j x h => by simp at h⟩
  | n + 1, h => by
    obtain ⟨xs, hl, hx⟩ := exists_list n (fun i hi => h i (by omega))
    obtain ⟨x, hp⟩ := h n (by omega)
    refine ⟨xs ++ [x], by simp [hl], fun j y hj => ?_⟩
    rcases Nat.lt_or_ge j xs.length with hlt | hge
    · rw [List.getElem?_append_left hlt] at hj
      exact hx j y hj
    · have hj2 : j < (xs ++ [x]).length := (List.getElem?_eq_some_iff.1 hj).1
      rw [List.length_append, List.length_singleton] at hj2
      obtain rfl : j = xs.length := by omega
      have e : x = y := by simpa using hj
      subst e
      rw [hl]
      exact hp

theorem opens_int {P : Program} {t : TypeId} {k : IntKind} (ht : P.underlying t = some (.int k)) : Opens P t (Kd.int k) (fun x => (Lit.int k x).wf = true) := by
  intro H enc W spare held fuel cs x h
  obtain ⟨n, rfl, _, hw⟩ := DataW.trod_int ht h
  exact ⟨n, rfl, hw⟩
theorem opens_bool {P : Program} {t : TypeId} (ht : P.underlying t = some .bool) : Opens P t Kd.bool (fun _ => True) := by
  intro H enc W spare held fuel cs x h
  obtain ⟨n, rfl, _⟩ := DataW.trod_bool ht h
  exact ⟨n, rfl, trivial⟩
theorem opens_string {P : Program} {t : TypeId} (ht : P.underlying t = some .string) : Opens P t Kd.string (fun s => s.size ≤ maxLen) := by
  intro H enc W spare held fuel cs x h
  obtain ⟨n, rfl, _, hs⟩ := DataW.trod_string ht h
  exact ⟨n, rfl, hs⟩
theorem opens_slice {P : Program} {t e e' : TypeId} {α : Type} {d : Kd α} {Q : α → Prop} (hd : Opens P e d Q) (ht : P.underlying t = some (.slice e)) (hc : P.cellsOf e = d.sz) :
    Opens P t (Kd.slice e' d) (fun xs => xs.length ≤ maxLen ∧ ∀ x ∈ xs, Q x) := by
  intro H enc W spare held fuel cs x h
  rcases DataW.trod_slice ht h with ⟨rfl, _⟩ | ⟨a, len, cap, elems, rest, n, _, rfl, _, _, hl, hm, hlen, hel, _⟩
  · exact ⟨[], ⟨none, 0, rfl, Nat.le_refl _, ⟨rfl, by simp, fun h => absurd h (Nat.lt_irrefl 0)⟩⟩, Nat.zero_le _, fun x h => by cases h⟩
  · have key : ∀ i, i < len → ∃ v : α, Q v ∧ ∃ c, c.length = d.sz ∧ d.K W v c ∧ ∀ k u, c[k]? = some u → W.cell? (a.add (i * d.sz + k)) = some u := by
      intro i hi
      have hi2 : i < elems.length := by omega
      have h1 := hel i hi
      rw [List.getElem?_eq_getElem hi2] at h1
      obtain ⟨c, hc1, hc2⟩ := Option.bind_eq_some_iff.1 h1
      obtain ⟨v, hk, hq⟩ := hd enc W spare held n c _ hc2
      obtain ⟨_, hcl, hcell⟩ := World.cells?_some hc1
      refine ⟨v, hq, c, by rw [hcl, hc], hk, fun k u hu => ?_⟩
      have hk2 : k < c.length := (List.getElem?_eq_some_iff.1 hu).1
      have h2 := hcell k (by omega)
      rw [Go.Deep.add_add, hc] at h2
      rw [h2, hu]
    obtain ⟨xs, hxl, hx⟩ := exists_list len key
    refine ⟨xs, ⟨some a, cap, by rw [hxl], by omega, ⟨rfl, ?_, fun _ => ⟨a, rfl, fun j p hj => (hx j p hj).2⟩⟩⟩, by omega, fun x hx2 => ?_⟩
    · unfold maxLen at hm
      omega
    · obtain ⟨j, hj⟩ := List.getElem?_of_mem hx2
      exact (hx j x hj).1
theorem fo_one {P : Program} {t : TypeId} {α : Type} {d : Kd α} {Q : α → Prop} (h : Opens P t d Q) : FO P [t] d Q := by
  intro H enc W spare held n cs hl hj
  obtain ⟨y, hy⟩ := hj 0 t rfl
  simp at hl
  simp only [List.take_zero, List.map_nil, List.sum_nil, List.drop_zero, ← hl, List.take_length] at hy
  exact h enc W spare held n cs y hy
theorem fo_cons {P : Program} {t : TypeId} {ts : List TypeId} {α β : Type} {d : Kd α} {d' : Kd β} {Q : α → Prop} {Q' : β → Prop} (h : Opens P t d Q) (h' : FO P ts d' Q') :
    FO P (t :: ts) (Kd.pair d d') (fun v => Q v.1 ∧ Q' v.2) := by
  intro H enc W spare held n cs hl hj
  simp only [List.map_cons, List.sum_cons] at hl
  obtain ⟨y, hy⟩ := hj 0 t rfl
  simp only [List.take_zero, List.map_nil, List.sum_nil, List.drop_zero] at hy
  obtain ⟨v, hv, hq⟩ := h enc W spare held n _ y hy
  obtain ⟨v', hv', hq'⟩ := h' enc W spare held n (cs.drop (P.cellsOf t)) (by rw [List.length_drop]; omega) (fun j u hu => by
    obtain ⟨z, hz⟩ := hj (j + 1) u hu
    refine ⟨z, ?_⟩
    rw [List.drop_drop]
    simpa using hz)
  exact ⟨(v, v'), ⟨_, _, (List.take_append_drop _ _).symm, hv, hv'⟩, hq, hq'⟩
theorem opens_struct {P : Program} {t : TypeId} {fs : Array Field} {ts : List TypeId} {α : Type} {d : Kd α} {Q : α → Prop} (h : FO P ts d Q) (ht : P.underlying t = some (.struct fs))
    (hts : fs.toList.map (·.type) = ts) (hc : P.cellsOf t = (ts.map P.cellsOf).sum) (ho : fs.toList.map (·.offset) = (List.range ts.length).map fun j => ((ts.take j).map P.cellsOf).sum) : Opens P t d Q := by
  intro H enc W spare held fuel cs x hx
  obtain ⟨xs, n, _, _, hl, hxl, hf⟩ := DataW.trod_struct ht hx
  refine h enc W spare held n cs (hl.trans hc) (fun j u hu => ?_)
  have hj : j < ts.length := (List.getElem?_eq_some_iff.1 hu).1
  have hj2 : j < fs.toList.length := by rw [← hts, List.length_map] at hj; exact hj
  have hj3 : j < fs.size := by simpa using hj2
  have h1 : fs[j]? = some fs[j] := Array.getElem?_eq_getElem hj3
  have h2 := hf j fs[j] h1
  have e1 : (fs[j]).type = u := by
    rw [← hts, List.getElem?_map, List.getElem?_eq_getElem hj2] at hu
    simpa using hu
  have e2 : (fs[j]).offset = ((ts.take j).map P.cellsOf).sum := by
    have := congrArg (fun l : List Nat => l[j]?) ho
    simp only [List.getElem?_map, List.getElem?_eq_getElem hj2, List.getElem?_range hj] at this
    simpa using this
  rw [e1, e2] at h2
  rw [h2]
  exact ⟨_, List.getElem?_eq_getElem (by omega)⟩
theorem opens_iso {P : Program} {t : TypeId} {α β : Type} {d : Kd α} {Q : α → Prop} (h : Opens P t d Q) (f : β → α) (g : α → β) (hfg : ∀ a, f (g a) = a) : Opens P t (Kd.iso d f) (fun y => Q (f y)) := by
  intro H enc W spare held fuel cs x hx
  obtain ⟨v, hv, hq⟩ := h enc W spare held fuel cs x hx
  exact ⟨g v, by show d.K W (f (g v)) cs; rw [hfg]; exact hv, by show Q (f (g v)); rw [hfg]; exact hq⟩
theorem opens_mono {P : Program} {t : TypeId} {α : Type} {d : Kd α} {Q Q' : α → Prop} (h : Opens P t d Q) (hq : ∀ x, Q x → Q' x) : Opens P t d Q' := by
  intro H enc W spare held fuel cs x hx
  obtain ⟨v, hv, q⟩ := h enc W spare held fuel cs x hx
  exact ⟨v, hv, hq v q⟩

/-- A parameter that is a slice. -/
theorem par_slice {P : Program} {t e : TypeId} {α : Type} {d : Kd α} {Q : List α → Prop} (h : Opens P t (Kd.slice e d) Q) {H : Type} {enc : TypeId × Value → H} {W : World} {spare : Nat → Bool} {held : Bool} {a : Option Addr} {len cap : Nat} {y : DataW H} {ps : List MemPlace}
    (hx : DataW.Trod enc P W 0 spare held t (.slice a len cap) y ps) : ∃ xs : List α, len = xs.length ∧ xs.length ≤ cap ∧ Kd.C d W a xs.length xs ∧ Q xs := by
  obtain ⟨fuel, hf⟩ := hx
  obtain ⟨xs, ⟨A, c, hcs, hl, hC⟩, hq⟩ := h enc W spare held fuel _ _ hf
  simp [Value.cells] at hcs
  obtain ⟨rfl, rfl, rfl⟩ := hcs
  exact ⟨xs, rfl, hl, hC, hq⟩
/-- A parameter that is a struct. -/
theorem par_struct {P : Program} {t : TypeId} {α : Type} {d : Kd α} {Q : α → Prop} (h : Opens P t d Q) {H : Type} {enc : TypeId × Value → H} {W : World} {spare : Nat → Bool} {held : Bool} {cs : Array Value} {y : DataW H} {ps : List MemPlace}
    (hx : DataW.Trod enc P W 0 spare held t (.agg cs) y ps) : ∃ v : α, d.K W v cs.toList ∧ Q v := by
  obtain ⟨fuel, hf⟩ := hx
  obtain ⟨v, hv, hq⟩ := h enc W spare held fuel _ _ hf
  exact ⟨v, by simpa [Value.cells] using hv, hq⟩
def I64 (x : Int) : Prop := -9223372036854775808 ≤ x ∧ x ≤ 9223372036854775807
def U8 (x : Int) : Prop := 0 ≤ x ∧ x ≤ 255
theorem i64_of {x : Int} (h : (Lit.int .i64 x).wf = true) : I64 x := by
  simp [Lit.wf, IntKind.min, IntKind.max, IntKind.signed, IntKind.bits] at h
  constructor <;> omega
theorem u8_of {x : Int} (h : (Lit.int .u8 x).wf = true) : U8 x := by
  simp [Lit.wf, IntKind.min, IntKind.max, IntKind.signed, IntKind.bits] at h
  constructor <;> omega
theorem opens_i64 {P : Program} {t : TypeId} (ht : P.underlying t = some (.int .i64)) : Opens P t (Kd.int .i64) I64 := opens_mono (opens_int ht) (fun _ h => i64_of h)
theorem opens_u8 {P : Program} {t : TypeId} (ht : P.underlying t = some (.int .u8)) : Opens P t (Kd.int .u8) U8 := opens_mono (opens_int ht) (fun _ h => u8_of h)
/-- Any parameter. -/
theorem par_any {P : Program} {t : TypeId} {α : Type} {d : Kd α} {Q : α → Prop} (h : Opens P t d Q) {H : Type} {enc : TypeId × Value → H} {W : World} {spare : Nat → Bool} {held : Bool} {u : Value} {y : DataW H} {ps : List MemPlace}
    (hx : DataW.Trod enc P W 0 spare held t u y ps) : ∃ v : α, d.K W v u.cells.toList ∧ Q v := by
  obtain ⟨fuel, hf⟩ := hx
  exact h enc W spare held fuel _ _ hf
theorem arr_of {α : Type} {cs : Array α} {l : List α} (h : cs.toList = l) : cs = l.toArray := by
  cases cs
  simpa using h
end Go.Proofs.Ytpfjjheognelhaa.Op
