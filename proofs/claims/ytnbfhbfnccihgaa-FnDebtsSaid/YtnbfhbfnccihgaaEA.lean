/- A verified evaluator of the program's form, first part. -/
import Derived.WalkKit
import Derived.ProofKit
import Derived.Laws.AppendOwn
import Derived.Laws.MakeOwn
import Derived.Laws.Rows
import Derived.Laws.Cells
import Derived.Orders
import Derived.Lib.ConvBytes
import Derived.Laws.CopyRow
import Derived.Laws.BytesArg
/- Kinds of values, and how memory represents them. -/
namespace Go.Proofs.Ytnbfhbfnccihgaa.E
open Go
set_option linter.unusedVariables false
set_option linter.unusedSimpArgs false

inductive K where
  | int (k : IntKind) | bool | str | sl (e : K) | pair (a b : K)
  deriving DecidableEq
@[reducible] def den : K → Type
  | .int _ => Int
  | .bool => Bool
  | .str => ByteArray
  | .sl e => List (den e)
  | .pair a b => den a × den b
def sz : K → Nat
  | .pair a b => sz a + sz b
  | _ => 1
def dflt : (k : K) → den k
  | .int _ => (0 : Int)
  | .bool => false
  | .str => ByteArray.empty
  | .sl _ => []
  | .pair a b => (dflt a, dflt b)
/-- The kind of a cell. -/
def leafK : K → Nat → K
  | .pair a b, c => if c < sz a then leafK a c else leafK b (c - sz a)
  | k, _ => k
def leafP : K → Nat → List Nat
  | .pair a b, c => if c < sz a then 0 :: leafP a c else 1 :: leafP b (c - sz a)
  | _, _ => []
abbrev Lab := Option (List Nat)
def ext (p : Lab) (q : List Nat) : Lab := p.map (· ++ q)
theorem ext_nil (p : Lab) : ext p [] = p := by cases p <;> simp [ext]
theorem ext_ext (p : Lab) (q r : List Nat) : ext (ext p q) r = ext p (q ++ r) := by cases p <;> simp [ext]
theorem ext_none (q : List Nat) : ext none q = none := rfl
abbrev Hp := Nat → Option Obj
abbrev Lb := Nat → Lab
def cellAt (h : Hp) (a : Addr) : Option Value :=
  match h a.block with
  | some (.cells c _ _) => if a.spot.isSome then none else c[a.off]?
  | _ => none
def hp (w : World) : Hp := fun b => w.heap[b]?
theorem cellAt_hp (w : World) (a : Addr) : cellAt (hp w) a = w.cell? a := rfl
/-- Cells of a row that no string shares: all that lie before n can be written. -/
def Fz (fr : Nat × Nat) (n : Nat) : Prop := fr = (0, 0) ∨ n ≤ fr.1
theorem Fz.not {fr : Nat × Nat} {n : Nat} (h : Fz fr n) {w : World} {g o : Nat} {cs : Array Value} {t : TypeId} (hg : w.heap[g]? = some (.cells cs t fr)) (ho : o < n) : w.frozen? ⟨g, o, none⟩ = false := by
  obtain ⟨lo, hi⟩ := fr
  rcases h with h | h
  · cases h; simp [World.frozen?, hg]
  · simp only at h
    simp only [World.frozen?, hg, Bool.and_eq_false_iff, decide_eq_false_iff_not]
    left; omega
theorem run_storeCells_fz (P : Program) (g o : Nat) (t : TypeId) (fz : Nat × Nat) : ∀ (vs : List Value) (i : Nat) (cur : Array Value) (w : World), w.heap[g]? = some (.cells cur t fz) → Fz fz cur.size → o + i + vs.length ≤ cur.size → (∀ v ∈ vs, v.oneCell' = true) →
    (storeCells ⟨g, o, none⟩ vs i).run P w = .ok () (w.setRow g (cur.toList.take (o + i) ++ vs ++ cur.toList.drop (o + i + vs.length)).toArray)
  | [], i, cur, w, hg, _, _, _ => by
    simp only [storeCells, List.append_nil, List.length_nil, Nat.add_zero, List.take_append_drop, Array.toArray_toList]
    rw [setRow_self w g cur t fz hg]
    rfl
  | v :: rest, i, cur, w, hg, hfz, hl, h1 => by
    have hi : o + i < cur.size := by simp at hl; omega
    have hadd : (⟨g, o, none⟩ : Addr).add i = ⟨g, o + i, none⟩ := by unfold Addr.add; split <;> simp_all
    have hcell : w.cell? ⟨g, o + i, none⟩ = some cur[o + i] := by simp [World.cell?, hg, hi]
    have hfro : w.frozen? ⟨g, o + i, none⟩ = false := hfz.not hg hi
    have hst : (store ((⟨g, o, none⟩ : Addr).add i) v).run P w = .ok () (w.setRow g (cur.setIfInBounds (o + i) v)) := by
      rw [hadd, run_store P w _ v _ (h1 v (by simp)), hcell]
      simp [hfro, setCell_eq_setRow w g (o + i) cur t fz v hg]
    have ih := run_storeCells_fz P g o t fz rest (i + 1) (cur.setIfInBounds (o + i) v) (w.setRow g (cur.setIfInBounds (o + i) v)) (setRow_heap w g cur _ t _ hg) (by rw [Array.size_setIfInBounds]; exact hfz) (by simp at hl ⊢; omega) (fun x hx => h1 x (by simp [hx]))
    simp only [storeCells, Sem.run_bind, hst, Result.andThen_ok, ih, setRow_setRow]
    congr 3
    have e := list_seg_step cur.toList (o + i) v rest (by simp at hl ⊢; omega)
    simpa [Array.toList_setIfInBounds, Nat.add_assoc] using e
/-- A block of the call's own: what an own list lies in. -/
def Own (h : Hp) (lab : Lb) (p : Lab) (a : Option Addr) (need : Nat) : Prop :=
  ∀ P, p = some P → (a = none → need = 0) ∧ ∀ ad, a = some ad → ad.spot = none ∧ lab ad.block = some P ∧ ∃ arr t fr, h ad.block = some (.cells arr t fr) ∧ Fz fr arr.size ∧ ad.off + need ≤ arr.size
/-- Cells represent a value. -/
def Rep (h : Hp) (lab : Lb) : (k : K) → Lab → den k → List Value → Prop
  | .int ik, _, x, vs => vs = [.int ik x]
  | .bool, _, x, vs => vs = [.bool x]
  | .str, _, x, vs => vs = [.string x]
  | .sl e, p, xs, vs => ∃ a n c, vs = [.slice a n c] ∧ n = xs.length ∧ n ≤ c ∧ Own h lab p a (c * sz e) ∧
      (0 < n → ∃ ad, a = some ad ∧ lab ad.block = p) ∧ ∀ ad, a = some ad → ∀ i (hi : i < xs.length), ∃ us, us.length = sz e ∧ Rep h lab e (ext p [i]) xs[i] us ∧ ∀ k u, us[k]? = some u → cellAt h (ad.add (i * sz e + k)) = some u
  | .pair a b, p, x, vs => ∃ us ws, vs = us ++ ws ∧ Rep h lab a (ext p [0]) x.1 us ∧ Rep h lab b (ext p [1]) x.2 ws
theorem Rep.len {h : Hp} {lab : Lb} : ∀ {k : K} {p : Lab} {x : den k} {vs : List Value}, Rep h lab k p x vs → vs.length = sz k
  | .int _, _, _, _, r => by rw [show _ = _ from r]; rfl
  | .bool, _, _, _, r => by rw [show _ = _ from r]; rfl
  | .str, _, _, _, r => by rw [show _ = _ from r]; rfl
  | .sl _, _, _, _, ⟨_, _, _, r, _⟩ => by rw [r]; rfl
  | .pair a b, _, _, _, ⟨us, ws, r, r1, r2⟩ => by rw [r, List.length_append, Rep.len r1, Rep.len r2]; rfl
theorem cellAt_congr {h h' : Hp} {a : Addr} (e : h' a.block = h a.block) : cellAt h' a = cellAt h a := by unfold cellAt; rw [e]
theorem add_block (a : Addr) (n : Nat) : (a.add n).block = a.block := by unfold Addr.add; split <;> rfl
theorem sz_pos : ∀ k : K, 0 < sz k
  | .int _ => Nat.one_pos
  | .bool => Nat.one_pos
  | .str => Nat.one_pos
  | .sl _ => Nat.one_pos
  | .pair a b => by have := sz_pos a; show 0 < sz a + sz b; omega
theorem cellAt_some {h : Hp} {a : Addr} {u : Value} (e : cellAt h a = some u) : h a.block ≠ none := by
  intro hn; unfold cellAt at e; rw [hn] at e; cases e
/-- What is represented at one path is so at another one, if the labels go over, and the blocks stay. -/
theorem Rep.relab {h h' : Hp} {lab lab' : Lb} : ∀ {k : K} {p p' : Lab} {x : den k} {vs : List Value}, (∀ P', p' = some P' → ∃ P, p = some P) →
    (∀ b q, lab b = ext p q → h b ≠ none → lab' b = ext p' q ∧ h' b = h b) → Rep h lab k p x vs → Rep h' lab' k p' x vs
  | .int _, _, _, _, _, _, _, r => r
  | .bool, _, _, _, _, _, _, r => r
  | .str, _, _, _, _, _, _, r => r
  | .pair a b, p, p', x, vs, hp, hl, ⟨us, ws, r, r1, r2⟩ => by
    refine ⟨us, ws, r, Rep.relab (p := ext p [0]) ?_ ?_ r1, Rep.relab (p := ext p [1]) ?_ ?_ r2⟩
    · intro P' e; cases p' with
      | none => cases e
      | some Q => obtain ⟨P, rfl⟩ := hp _ rfl; exact ⟨_, rfl⟩
    · intro b q e hn; rw [ext_ext] at e ⊢; exact hl b _ e hn
    · intro P' e; cases p' with
      | none => cases e
      | some Q => obtain ⟨P, rfl⟩ := hp _ rfl; exact ⟨_, rfl⟩
    · intro b q e hn; rw [ext_ext] at e ⊢; exact hl b _ e hn
  | .sl e, p, p', xs, vs, hp, hl, ⟨a, n, c, r, hn, hc, ho, hs, hr⟩ => by
    have hb : ∀ ad, a = some ad → 0 < n → lab' ad.block = p' ∧ h' ad.block = h ad.block := by
      intro ad ha h0
      obtain ⟨ad', e1, e2⟩ := hs h0
      rw [ha] at e1; cases e1
      obtain ⟨us, u1, u2, u3⟩ := hr ad ha 0 (by omega)
      have hz := sz_pos e
      have hx := cellAt_some (u3 0 _ (List.getElem?_eq_getElem (by omega)))
      rw [add_block] at hx
      have := hl ad.block [] (by rw [e2, ext_nil]) hx
      rwa [ext_nil] at this
    refine ⟨a, n, c, r, hn, hc, ?_, ?_, ?_⟩
    · intro P' e
      obtain ⟨P, rfl⟩ := hp P' e
      obtain ⟨h1, h2⟩ := ho P rfl
      refine ⟨h1, fun ad ha => ?_⟩
      obtain ⟨s1, s2, arr, t, fr, s3, s4⟩ := h2 ad ha
      have := hl ad.block [] (by rw [s2, ext_nil]) (by rw [s3]; simp)
      rw [ext_nil] at this
      exact ⟨s1, by rw [this.1, e], arr, t, fr, by rw [this.2, s3], s4⟩
    · intro h0
      obtain ⟨ad, e1, e2⟩ := hs h0
      exact ⟨ad, e1, (hb ad e1 h0).1⟩
    · intro ad ha i hi
      obtain ⟨us, u1, u2, u3⟩ := hr ad ha i hi
      refine ⟨us, u1, Rep.relab ?_ ?_ u2, fun k u hu => ?_⟩
      · intro P' e; cases p' with
        | none => cases e
        | some Q => obtain ⟨P, rfl⟩ := hp _ rfl; exact ⟨_, rfl⟩
      · intro b q e hx; rw [ext_ext] at e ⊢; exact hl b _ e hx
      · rw [← u3 k u hu]
        exact cellAt_congr (by rw [add_block]; exact (hb ad ha (by omega)).2)
/-- The same path, other memory elsewhere. -/
theorem Rep.frame {h h' : Hp} {lab lab' : Lb} {k : K} {p : Lab} {x : den k} {vs : List Value} (hl : ∀ b q, lab b = ext p q → h b ≠ none → lab' b = lab b ∧ h' b = h b) (r : Rep h lab k p x vs) : Rep h' lab' k p x vs :=
  Rep.relab (fun P' e => ⟨P', e⟩) (fun b q e hn => ⟨by rw [(hl b q e hn).1, e], (hl b q e hn).2⟩) r
/-- A value of a cell. -/
structure Lf where
  k : K
  x : den k
def leafGet : (k : K) → den k → Nat → Lf
  | .pair a b, x, c => if c < sz a then leafGet a x.1 c else leafGet b x.2 (c - sz a)
  | .int ik, x, _ => ⟨.int ik, x⟩
  | .bool, x, _ => ⟨.bool, x⟩
  | .str, x, _ => ⟨.str, x⟩
  | .sl e, x, _ => ⟨.sl e, x⟩
theorem leafGet_k : ∀ (k : K) (x : den k) (c : Nat), (leafGet k x c).k = leafK k c
  | .pair a b, x, c => by
    unfold leafGet leafK
    split
    · exact leafGet_k a x.1 c
    · exact leafGet_k b x.2 _
  | .int ik, x, _ => rfl
  | .bool, x, _ => rfl
  | .str, x, _ => rfl
  | .sl e, x, _ => rfl
def leafSet : (k : K) → den k → Nat → Lf → Option (den k)
  | .pair a b, x, c, y => if c < sz a then (leafSet a x.1 c y).map fun z => (z, x.2) else (leafSet b x.2 (c - sz a) y).map fun z => (x.1, z)
  | .int ik, _, _, y => if e : y.k = .int ik then some (e ▸ y.x) else none
  | .bool, _, _, y => if e : y.k = .bool then some (e ▸ y.x) else none
  | .str, _, _, y => if e : y.k = .str then some (e ▸ y.x) else none
  | .sl e', _, _, y => if e : y.k = .sl e' then some (e ▸ y.x) else none
theorem leafGet_pair (a b : K) (x : den a × den b) (c : Nat) : leafGet (.pair a b) x c = if c < sz a then leafGet a x.1 c else leafGet b x.2 (c - sz a) := rfl
theorem leafP_pair (a b : K) (c : Nat) : leafP (.pair a b) c = if c < sz a then 0 :: leafP a c else 1 :: leafP b (c - sz a) := rfl
theorem Rep.leaf {h : Hp} {lab : Lb} : ∀ {k : K} {p : Lab} {x : den k} {vs : List Value} {c : Nat}, Rep h lab k p x vs → c < sz k → ∃ u, vs[c]? = some u ∧ Rep h lab (leafGet k x c).k (ext p (leafP k c)) (leafGet k x c).x [u]
  | .int ik, p, x, vs, c, r, hc => by
    obtain rfl : c = 0 := by simp [sz] at hc; exact hc
    refine ⟨_, by rw [show vs = _ from r]; rfl, ?_⟩
    rfl
  | .bool, p, x, vs, c, r, hc => by
    obtain rfl : c = 0 := by simp [sz] at hc; exact hc
    refine ⟨_, by rw [show vs = _ from r]; rfl, ?_⟩
    rfl
  | .str, p, x, vs, c, r, hc => by
    obtain rfl : c = 0 := by simp [sz] at hc; exact hc
    refine ⟨_, by rw [show vs = _ from r]; rfl, ?_⟩
    rfl
  | .sl e, p, x, vs, c, r, hc => by
    obtain rfl : c = 0 := by simp [sz] at hc; exact hc
    have r0 := r
    obtain ⟨a, n, cp, r1, _⟩ := r
    refine ⟨.slice a n cp, by rw [r1]; rfl, ?_⟩
    unfold leafP
    rw [ext_nil, ← r1]
    exact r0
  | .pair a b, p, x, vs, c, ⟨us, ws, r, r1, r2⟩, hc => by
    have l1 := Rep.len r1
    rw [leafGet_pair, leafP_pair]
    by_cases h1 : c < sz a
    · obtain ⟨u, hu, hr⟩ := Rep.leaf r1 h1
      rw [if_pos h1, if_pos h1]
      refine ⟨u, by rw [r, List.getElem?_append_left (by omega)]; exact hu, ?_⟩
      rw [ext_ext] at hr
      exact hr
    · obtain ⟨u, hu, hr⟩ := Rep.leaf (c := c - sz a) r2 (by simp only [sz] at hc; omega)
      rw [if_neg h1, if_neg h1]
      refine ⟨u, by rw [r, List.getElem?_append_right (by omega), l1]; exact hu, ?_⟩
      rw [ext_ext] at hr
      exact hr
/-- A cell is written: the others stay as they are. -/
theorem Rep.leafSet {h h' : Hp} {lab lab' : Lb} : ∀ {k : K} {p : Lab} {x x' : den k} {vs : List Value} {c : Nat} {y : Lf} {u : Value}, Rep h lab k p x vs → c < sz k → leafSet k x c y = some x' →
    (∀ b q, lab b = ext p q → (¬ ∃ r, q = leafP k c ++ r) → h b ≠ none → lab' b = lab b ∧ h' b = h b) → Rep h' lab' y.k (ext p (leafP k c)) y.x [u] → Rep h' lab' k p x' (vs.set c u)
  | .int ik, p, x, x', vs, c, y, u, r, hc, hs, hl, hr => by
    obtain rfl : c = 0 := by simp [sz] at hc; exact hc
    unfold E.leafSet at hs
    obtain ⟨yk, yx⟩ := y
    dsimp only at hs hr
    split at hs
    · rename_i e; subst e; cases hs
      rw [show vs = _ from r]
      rw [show leafP (.int ik) 0 = [] from rfl, ext_nil] at hr
      exact hr
    · cases hs
  | .bool, p, x, x', vs, c, y, u, r, hc, hs, hl, hr => by
    obtain rfl : c = 0 := by simp [sz] at hc; exact hc
    unfold E.leafSet at hs
    obtain ⟨yk, yx⟩ := y
    dsimp only at hs hr
    split at hs
    · rename_i e; subst e; cases hs
      rw [show vs = _ from r]
      rw [show leafP (.bool) 0 = [] from rfl, ext_nil] at hr
      exact hr
    · cases hs
  | .str, p, x, x', vs, c, y, u, r, hc, hs, hl, hr => by
    obtain rfl : c = 0 := by simp [sz] at hc; exact hc
    unfold E.leafSet at hs
    obtain ⟨yk, yx⟩ := y
    dsimp only at hs hr
    split at hs
    · rename_i e; subst e; cases hs
      rw [show vs = _ from r]
      rw [show leafP (.str) 0 = [] from rfl, ext_nil] at hr
      exact hr
    · cases hs
  | .sl e, p, x, x', vs, c, y, u, r, hc, hs, hl, hr => by
    obtain rfl : c = 0 := by simp [sz] at hc; exact hc
    unfold E.leafSet at hs
    obtain ⟨yk, yx⟩ := y
    dsimp only at hs hr
    obtain ⟨a, n, cp, r1, _⟩ := r
    split at hs
    · rename_i e; subst e; cases hs
      rw [r1]
      rw [show leafP (.sl e) 0 = [] from rfl, ext_nil] at hr
      exact hr
    · cases hs
  | .pair a b, p, x, x', vs, c, y, u, ⟨us, ws, r, r1, r2⟩, hc, hs, hl, hr => by
    have l1 := Rep.len r1
    have keep : ∀ (i : Nat) (k' : K) (z : den k') zs, Rep h lab k' (ext p [i]) z zs → (∀ r', ¬ ∃ s, i :: r' = leafP (.pair a b) c ++ s) → Rep h' lab' k' (ext p [i]) z zs := by
      intro i k' z zs hz hi
      refine Rep.frame (fun b' q e hx => ?_) hz
      rw [ext_ext] at e
      exact hl b' _ e (by simpa using hi q) hx
    unfold E.leafSet at hs
    unfold leafP at hr
    by_cases h1 : c < sz a
    · rw [if_pos h1] at hs hr
      obtain ⟨z, hz, rfl⟩ := Option.map_eq_some_iff.1 hs
      have e1 : leafP (.pair a b) c = 0 :: leafP a c := by rw [leafP, if_pos h1]
      refine ⟨us.set c u, ws, by rw [r, List.set_append_left _ _ (by omega)], ?_, keep 1 b x.2 ws r2 (fun r' => by rw [e1]; simp)⟩
      refine Rep.leafSet (p := ext p [0]) r1 h1 hz (fun b' q e hq hx => ?_) (by rw [ext_ext]; exact hr)
      rw [ext_ext] at e
      exact hl b' _ e (by rw [e1]; rintro ⟨s, hs⟩; simp at hs; exact hq ⟨s, hs⟩) hx
    · rw [if_neg h1] at hs hr
      obtain ⟨z, hz, rfl⟩ := Option.map_eq_some_iff.1 hs
      have e1 : leafP (.pair a b) c = 1 :: leafP b (c - sz a) := by rw [leafP, if_neg h1]
      refine ⟨us, ws.set (c - sz a) u, by rw [r, List.set_append_right _ _ (by omega), l1], keep 0 a x.1 us r1 (fun r' => by rw [e1]; simp), ?_⟩
      refine Rep.leafSet (p := ext p [1]) r2 (by simp only [sz] at hc; omega) hz (fun b' q e hq hx => ?_) (by rw [ext_ext]; exact hr)
      rw [ext_ext] at e
      exact hl b' _ e (by rw [e1]; rintro ⟨s, hs⟩; simp at hs; exact hq ⟨s, hs⟩) hx
/-! lists -/
theorem add_off (a : Addr) (n : Nat) : (a.add n).off = a.off + n := by unfold Addr.add; split <;> simp_all
theorem add_spot (a : Addr) (n : Nat) (h : a.spot = none) : (a.add n).spot = none := by unfold Addr.add; split <;> simp_all
theorem cellAt_add {h : Hp} {a : Addr} {arr : Array Value} {t : TypeId} {f : Nat × Nat} (hb : h a.block = some (.cells arr t f)) (hs : a.spot = none) (n : Nat) : cellAt h (a.add n) = arr[a.off + n]? := by
  unfold cellAt
  rw [add_block, hb]
  simp [add_spot a n hs, add_off]
theorem Rep.hasAddr {h : Hp} {lab : Lb} {e : K} {p : Lab} {xs : List (den e)} {a : Option Addr} {n c i : Nat} (r : Rep h lab (.sl e) p xs [.slice a n c]) (hi : i < xs.length) : ∃ ad, a = some ad ∧ lab ad.block = p ∧ n = xs.length := by
  obtain ⟨a', n', c', e1, hn, hc, ho, hs, hr⟩ := r
  simp at e1
  obtain ⟨rfl, rfl, rfl⟩ := e1
  obtain ⟨ad, e1, e2⟩ := hs (by omega)
  exact ⟨ad, e1, e2, hn⟩
/-- A cell of an element. -/
theorem Rep.elem {h : Hp} {lab : Lb} {e : K} {p : Lab} {xs : List (den e)} {ad : Addr} {n c i c' : Nat} (r : Rep h lab (.sl e) p xs [.slice (some ad) n c]) (hi : i < xs.length) (hc : c' < sz e) :
    ∃ u, cellAt h (ad.add (i * sz e + c')) = some u ∧ Rep h lab (leafGet e xs[i] c').k (ext p (i :: leafP e c')) (leafGet e xs[i] c').x [u] := by
  obtain ⟨a', n', c'', e1, hn, hc', ho, hs, hr⟩ := r
  simp at e1
  obtain ⟨rfl, rfl, rfl⟩ := e1
  obtain ⟨us, u1, u2, u3⟩ := hr ad rfl i hi
  obtain ⟨u, hu, hl⟩ := Rep.leaf u2 hc
  rw [ext_ext] at hl
  exact ⟨u, u3 _ _ hu, hl⟩
theorem mul_add_ne {i j s k c : Nat} (hij : i ≠ j) (hk : k < s) (hc : c < s) : i * s + k ≠ j * s + c := by
  intro e
  have h1 : (i * s + k) / s = i := by rw [Nat.mul_comm, Nat.mul_add_div (by omega), Nat.div_eq_of_lt hk, Nat.add_zero]
  have h2 : (j * s + c) / s = j := by rw [Nat.mul_comm, Nat.mul_add_div (by omega), Nat.div_eq_of_lt hc, Nat.add_zero]
  rw [e, h2] at h1
  exact hij h1.symm
theorem ne_ext (P : List Nat) (i : Nat) (q : List Nat) : (some P : Lab) ≠ some (P ++ i :: q) := by
  intro e
  have := congrArg List.length (Option.some.inj e)
  simp at this
/-- A cell of an own list is written. -/
theorem Rep.setCell {h h' : Hp} {lab lab' : Lb} {e : K} {P : List Nat} {xs : List (den e)} {ad : Addr} {n c i c' : Nat} {y : Lf} {x' : den e} {u : Value} (r : Rep h lab (.sl e) (some P) xs [.slice (some ad) n c]) (hi : i < xs.length) (hc : c' < sz e) (hs : E.leafSet e xs[i] c' y = some x')
    (hblk : ∀ arr t fr, h ad.block = some (.cells arr t fr) → Fz fr arr.size → h' ad.block = some (.cells (arr.setIfInBounds (ad.off + (i * sz e + c')) u) t fr))
    (hl : ∀ b q, lab b = some (P ++ q) → (¬ ∃ r, q = i :: leafP e c' ++ r) → h b ≠ none → lab' b = lab b ∧ (b ≠ ad.block → h' b = h b))
    (hr : Rep h' lab' y.k (some (P ++ i :: leafP e c')) y.x [u]) : Rep h' lab' (.sl e) (some P) (xs.set i x') [.slice (some ad) n c] := by
  obtain ⟨a', n', c'', e1, hn, hc', ho, hs', hr'⟩ := r
  simp at e1
  obtain ⟨rfl, rfl, rfl⟩ := e1
  obtain ⟨o1, o2⟩ := ho P rfl
  obtain ⟨sp, lb, arr, t, fr, hb, hfz, hsz⟩ := o2 ad rfl
  have hb' := hblk arr t fr hb hfz
  have lb' : lab' ad.block = some P := by rw [(hl ad.block [] (by rw [lb, List.append_nil]) (by simp) (by rw [hb]; simp)).1, lb]
  refine ⟨_, _, _, rfl, by rw [List.length_set]; exact hn, hc', fun Q eQ => ⟨fun e => (by cases e), fun ad2 e => ?_⟩, fun _ => ⟨ad, rfl, lb'⟩, fun ad2 e j hj => ?_⟩
  · cases e; cases eQ
    exact ⟨sp, lb', _, t, fr, hb', by rw [Array.size_setIfInBounds]; exact hfz, by rw [Array.size_setIfInBounds]; exact hsz⟩
  · cases e
    rw [List.length_set] at hj
    obtain ⟨us, u1, u2, u3⟩ := hr' ad rfl j hj
    by_cases hij : j = i
    · subst hij
      refine ⟨us.set c' u, by rw [List.length_set]; exact u1, ?_, fun k v hv => ?_⟩
      · rw [List.getElem_set_self]
        refine Rep.leafSet u2 hc hs (fun b q e hq hx => ?_) (by rw [ext_ext]; exact hr)
        rw [ext_ext] at e
        have := hl b ([j] ++ q) e (by rintro ⟨s, hs⟩; simp at hs; exact hq ⟨s, hs⟩) hx
        exact ⟨this.1, this.2 (by rintro rfl; rw [lb] at e; exact ne_ext P j q e)⟩
      · rw [cellAt_add hb' sp]
        have hk : k < sz e := by have := (List.getElem?_eq_some_iff.1 hv).1; rw [List.length_set, u1] at this; exact this
        by_cases hkc : k = c'
        · subst hkc
          rw [List.getElem?_set_self (by omega)] at hv
          rw [Array.getElem?_setIfInBounds_self_of_lt, hv]
          have : ad.off + (j * sz e + k) < ad.off + c * sz e := by
            have : j * sz e + sz e ≤ c * sz e := by rw [← Nat.succ_mul]; exact Nat.mul_le_mul_right _ (by omega)
            omega
          omega
        · rw [List.getElem?_set_ne (fun e => hkc e.symm)] at hv
          rw [Array.getElem?_setIfInBounds_ne (by omega), ← cellAt_add hb sp]
          exact u3 k v hv
    · refine ⟨us, u1, ?_, fun k v hv => ?_⟩
      · rw [List.getElem_set_ne (fun e => hij e.symm)]
        refine Rep.frame (fun b q e hx => ?_) u2
        rw [ext_ext] at e
        have := hl b ([j] ++ q) e (by rintro ⟨s, hs⟩; simp at hs; exact hij hs.1) hx
        exact ⟨this.1, this.2 (by rintro rfl; rw [lb] at e; exact ne_ext P j q e)⟩
      · have hk : k < sz e := by have := (List.getElem?_eq_some_iff.1 hv).1; omega
        rw [cellAt_add hb' sp, Array.getElem?_setIfInBounds_ne (by have := mul_add_ne (s := sz e) (fun e => hij e.symm : i ≠ j) hc hk; omega), ← cellAt_add hb sp]
        exact u3 k v hv
/-- A list, made out of what is known of its elements. -/
theorem Rep.list {h : Hp} {lab : Lb} {e : K} {P : List Nat} {xs : List (den e)} {b off c : Nat} {arr : Array Value} {t : TypeId} {fr : Nat × Nat} (hb : h b = some (.cells arr t fr)) (hfz : Fz fr arr.size) (lb : lab b = some P) (hc : xs.length ≤ c) (hsz : off + c * sz e ≤ arr.size)
    (hr : ∀ i (hi : i < xs.length), ∃ us, us.length = sz e ∧ Rep h lab e (some (P ++ [i])) xs[i] us ∧ ∀ k u, us[k]? = some u → arr[off + (i * sz e + k)]? = some u) : Rep h lab (.sl e) (some P) xs [.slice (some ⟨b, off, none⟩) xs.length c] := by
  refine ⟨_, _, _, rfl, rfl, hc, fun Q eQ => ⟨fun e => (by cases e), fun ad e => ?_⟩, fun _ => ⟨_, rfl, lb⟩, fun ad e i hi => ?_⟩
  · cases e; cases eQ
    exact ⟨rfl, lb, arr, t, fr, hb, hfz, hsz⟩
  · cases e
    obtain ⟨us, u1, u2, u3⟩ := hr i hi
    exact ⟨us, u1, u2, fun k u hu => by rw [cellAt_add (a := ⟨b, off, none⟩) hb rfl]; exact u3 k u hu⟩
end Go.Proofs.Ytnbfhbfnccihgaa.E

/- The states of the evaluator, and what each operation does to them. -/
namespace Go.Proofs.Ytnbfhbfnccihgaa.E
open Go
set_option linter.unusedVariables false

/-- What a cell holds. -/
inductive CV where
  | u
  | i (k : IntKind) (n : Int)
  | b (b : Bool)
  | s (s : ByteArray)
  | nil
  | ls (k : K) (xs : List (den k))
  | sl (o : Nat)
  | vw (o g i c : Nat)
  | pc (o c : Nat)
  | pe (o i c : Nat)
  | pe2 (o g i c j c2 : Nat)
  | pi (k : K) (xs : List (den k)) (i c : Nat)
  | fn (f : Nat)
inductive AV where
  | one (c : CV)
  | agg (l : List CV)
  | tup (l : List (Bool × List CV))
inductive OV where
  | box (cs : List CV)
  | arr (k : K) (xs : List (den k)) (g : Nat) (hole : Option (Nat × Nat))
  | dead
structure St where
  tm : List (Nat × AV)
  ob : List (Nat × OV)
def look {α : Type} : List (Nat × α) → Nat → Option α
  | [], _ => none
  | (m, v) :: l, n => if m = n then some v else look l n
def St.t (σ : St) (n : Nat) : AV := (look σ.tm n).getD (.one .u)
def St.o (σ : St) (n : Nat) : Option OV := look σ.ob n
def St.put (σ : St) (ws : List (Nat × AV)) (os : List (Nat × OV)) : St := ⟨ws ++ σ.tm, os ++ σ.ob⟩
/-- What a call hands back. -/
structure Res where
  rets : List (Bool × List CV)
  outs : List OV
  news : List OV
inductive Pg where
  | done (ws : List (Nat × AV)) (os : List (Nat × OV))
  | fail
  | rdT (n : Nat) (k : AV → Pg)
  | rdO (n : Nat) (k : Option OV → Pg)
  | br (b : Bool) (t e : Pg)
  | call (f : Nat) (args : List (Bool × List CV)) (ins : List OV) (k : Res → Pg)
abbrev Ev := Nat → List (Bool × List CV) → List OV → Option Res
abbrev Ws := List (Nat × AV) × List (Nat × OV)
/-- What an operation reads (temporaries, objects), and what it writes. -/
def Pg.run (ev : Ev) : Pg → St → Option (List Nat × List Nat × Ws)
  | .done ws os, _ => some ([], [], ws, os)
  | .fail, _ => none
  | .rdT n k, σ => ((k (σ.t n)).run ev σ).map fun r => (n :: r.1, r.2.1, r.2.2)
  | .rdO n k, σ => ((k (σ.o n)).run ev σ).map fun r => (r.1, n :: r.2.1, r.2.2)
  | .br b t e, σ => if b = true then t.run ev σ else e.run ev σ
  | .call f as is k, σ => (ev f as is).bind fun r => (k r).run ev σ
/-- The same, handed on. -/
def Pg.go {R : Type} (ev : Ev) : Pg → St → (St → Option R) → Option R
  | .done ws os, σ, K => K (σ.put ws os)
  | .fail, _, _ => none
  | .rdT n k, σ, K => (k (σ.t n)).go ev σ K
  | .rdO n k, σ, K => (k (σ.o n)).go ev σ K
  | .br b t e, σ, K => if b = true then t.go ev σ K else e.go ev σ K
  | .call f as is k, σ, K => (ev f as is).bind fun r => (k r).go ev σ K
def Pg.goR {R : Type} (ev : Ev) : Pg → St → List Nat → List Nat → (List Nat → List Nat → Ws → Option R) → Option R
  | .done ws os, _, rt, ro, K => K rt ro (ws, os)
  | .fail, _, _, _, _ => none
  | .rdT n k, σ, rt, ro, K => (k (σ.t n)).goR ev σ (n :: rt) ro K
  | .rdO n k, σ, rt, ro, K => (k (σ.o n)).goR ev σ rt (n :: ro) K
  | .br b t e, σ, rt, ro, K => if b = true then t.goR ev σ rt ro K else e.goR ev σ rt ro K
  | .call f as is k, σ, rt, ro, K => (ev f as is).bind fun r => (k r).goR ev σ rt ro K
theorem Pg.go_run {R : Type} (ev : Ev) (σ : St) (K : St → Option R) : ∀ p : Pg, p.go ev σ K = (p.run ev σ).bind fun r => K (σ.put r.2.2.1 r.2.2.2)
  | .done ws os => rfl
  | .fail => rfl
  | .rdT n k => by rw [Pg.go, Pg.run, Pg.go_run ev σ K (k (σ.t n)), Option.bind_map]; rfl
  | .rdO n k => by rw [Pg.go, Pg.run, Pg.go_run ev σ K (k (σ.o n)), Option.bind_map]; rfl
  | .br b t e => by
    rw [Pg.go, Pg.run]
    split
    · exact Pg.go_run ev σ K t
    · exact Pg.go_run ev σ K e
  | .call f as is k => by
    rw [Pg.go, Pg.run, Option.bind_assoc]
    congr 1; funext r
    exact Pg.go_run ev σ K (k r)
theorem Pg.goR_run {R : Type} (ev : Ev) (σ : St) (K : List Nat → List Nat → Ws → Option R) : ∀ (p : Pg) (rt ro : List Nat), p.goR ev σ rt ro K = (p.run ev σ).bind fun r => K (r.1.reverse ++ rt) (r.2.1.reverse ++ ro) r.2.2
  | .done ws os, rt, ro => rfl
  | .fail, _, _ => rfl
  | .rdT n k, rt, ro => by
    rw [Pg.goR, Pg.run, Pg.goR_run ev σ K (k (σ.t n)), Option.bind_map]
    congr 1; funext r
    simp
  | .rdO n k, rt, ro => by
    rw [Pg.goR, Pg.run, Pg.goR_run ev σ K (k (σ.o n)), Option.bind_map]
    congr 1; funext r
    simp
  | .br b t e, rt, ro => by
    rw [Pg.goR, Pg.run]
    split
    · exact Pg.goR_run ev σ K t rt ro
    · exact Pg.goR_run ev σ K e rt ro
  | .call f as is k, rt, ro => by
    rw [Pg.goR, Pg.run, Option.bind_assoc]
    congr 1; funext r
    exact Pg.goR_run ev σ K (k r) rt ro
/-- What is read and written does not depend on the rest of the state. -/
theorem Pg.run_local (ev : Ev) {σ σ' : St} : ∀ (p : Pg) (r : List Nat × List Nat × Ws), p.run ev σ = some r → (∀ n ∈ r.1, σ'.t n = σ.t n) → (∀ n ∈ r.2.1, σ'.o n = σ.o n) → p.run ev σ' = some r
  | .done ws os, r, h, _, _ => h
  | .fail, _, h, _, _ => by cases h
  | .rdT n k, r, h, ht, ho => by
    rw [Pg.run] at h ⊢
    obtain ⟨q, hq, rfl⟩ := Option.map_eq_some_iff.1 h
    rw [ht n List.mem_cons_self, Pg.run_local ev (k (σ.t n)) q hq (fun m hm => ht m (List.mem_cons_of_mem _ hm)) ho]
    rfl
  | .rdO n k, r, h, ht, ho => by
    rw [Pg.run] at h ⊢
    obtain ⟨q, hq, rfl⟩ := Option.map_eq_some_iff.1 h
    rw [ho n List.mem_cons_self, Pg.run_local ev (k (σ.o n)) q hq ht (fun m hm => ho m (List.mem_cons_of_mem _ hm))]
    rfl
  | .br b t e, r, h, ht, ho => by
    rw [Pg.run] at h ⊢
    split
    · rename_i hb; rw [if_pos hb] at h; exact Pg.run_local ev t r h ht ho
    · rename_i hb; rw [if_neg hb] at h; exact Pg.run_local ev e r h ht ho
  | .call f as is k, r, h, ht, ho => by
    rw [Pg.run] at h ⊢
    obtain ⟨q, hq, h⟩ := Option.bind_eq_some_iff.1 h
    rw [hq]
    exact Pg.run_local ev (k q) r h ht ho
/-! types -/
structure Ty where
  k : K
  agg : Bool
  offs : List Nat
  szs : List Nat
  bytes : Nat
  elem : Nat
abbrev Tys := List (Nat × Ty)
def zeros : K → List CV
  | .int k => [.i k 0]
  | .bool => [.b false]
  | .str => [.s ByteArray.empty]
  | .sl _ => [.nil]
  | .pair a b => zeros a ++ zeros b
/-! operations -/
/-- The name of an object that is made at an operation. -/
def nm (d j : Nat) : Nat := 1000 * (d + 1) + j
def cst : Value → CV
  | .int k n => .i k n
  | .bool b => .b b
  | .string s => .s s
  | .slice none 0 0 => .nil
  | _ => .u
def rdX (x : Operand) (k : AV → Pg) : Pg :=
  match x with
  | .tmp t => .rdT t k
  | .const v => k (.one (cst v))
  | .func f => k (.one (.fn f))
  | .global _ => .fail
def rdC (x : Operand) (k : CV → Pg) : Pg := rdX x fun | .one c => k c | _ => .fail
def ret (d : Option Nat) (v : AV) : Pg :=
  match d with
  | some d => .done [(d, v)] []
  | none => .done [] []
def ret1 (d : Option Nat) (c : CV) : Pg := ret d (.one c)
def lfC (o g i c : Nat) : Lf → CV
  | ⟨.int k, n⟩ => .i k n
  | ⟨.bool, b⟩ => .b b
  | ⟨.str, s⟩ => .s s
  | ⟨.sl _, _⟩ => .vw o g i c
  | ⟨.pair _ _, _⟩ => .u
def lfS : Lf → CV
  | ⟨.int k, n⟩ => .i k n
  | ⟨.bool, b⟩ => .b b
  | ⟨.str, s⟩ => .s s
  | ⟨.sl k, xs⟩ => .ls k xs
  | ⟨.pair _ _, _⟩ => .u
def bitI (k : IntKind) (f : BitVec k.bits → BitVec k.bits → BitVec k.bits) (x y : Int) : Int := k.wrap (f (BitVec.ofInt k.bits x) (BitVec.ofInt k.bits y)).toNat
def shl' (k : IntKind) (x y : Int) : Int := k.wrap (x * 2 ^ (min y.toNat k.bits))
def shr' (k : IntKind) (x y : Int) : Int := x.fdiv (2 ^ (min y.toNat k.bits))
def binI (d : Option Nat) (op : BinOp) (k : IntKind) (x y : Int) : Pg :=
  match op with
  | .add => ret1 d (.i k (k.wrap (x + y)))
  | .sub => ret1 d (.i k (k.wrap (x - y)))
  | .mul => ret1 d (.i k (k.wrap (x * y)))
  | .quo => .br (decide (y = 0)) .fail (ret1 d (.i k (k.wrap (x.tdiv y))))
  | .rem => .br (decide (y = 0)) .fail (ret1 d (.i k (x.tmod y)))
  | .eql => ret1 d (.b (decide (x = y)))
  | .neq => ret1 d (.b (!decide (x = y)))
  | .lss => ret1 d (.b (decide (x < y)))
  | .leq => ret1 d (.b (decide (x ≤ y)))
  | .gtr => ret1 d (.b (decide (y < x)))
  | .geq => ret1 d (.b (decide (y ≤ x)))
  | .and => ret1 d (.i k (bitI k (· &&& ·) x y))
  | .or => ret1 d (.i k (bitI k (· ||| ·) x y))
  | .xor => ret1 d (.i k (bitI k (· ^^^ ·) x y))
  | _ => .fail
def binS (d : Option Nat) (op : BinOp) (x y : ByteArray) : Pg :=
  match op with
  | .add => .br (decide (x.size + y.size ≤ 9223372036854775807)) (ret1 d (.s (x ++ y))) .fail
  | .eql => ret1 d (.b (decide (x = y)))
  | .neq => ret1 d (.b (!decide (x = y)))
  | _ => .fail
def binB (d : Option Nat) (op : BinOp) (x y : Bool) : Pg :=
  match op with
  | .eql => ret1 d (.b (x == y))
  | .neq => ret1 d (.b (x != y))
  | _ => .fail
def pbin (bt : Bool) (d : Option Nat) (op : BinOp) : CV → CV → Pg
  | .i k x, .i k' y => match op with
    | .shl => .br (decide (y < 0)) .fail (ret1 d (.i k (shl' k x y)))
    | .shr => .br (decide (y < 0)) .fail (ret1 d (.i k (shr' k x y)))
    | _ => if k = k' then binI d op k x y else .fail
  | .s x, .s y => binS d op x y
  | .b x, .b y => if bt = true then binB d op x y else .fail
  | _, _ => .fail
def pun (d : Option Nat) : UnOp → CV → Pg
  | .not, .b x => ret1 d (.b (!x))
  | .neg, .i k x => ret1 d (.i k (k.wrap (0 - x)))
  | _, _ => .fail
/-- A list that is read: its kind and its elements. -/
def rdL (c : CV) (k : (e : K) → List (den e) → Pg) : Pg :=
  match c with
  | .ls e xs => k e xs
  | .sl o => .rdO o fun | some (.arr e xs _ none) => k e xs | _ => .fail
  | .vw o g i c => .rdO o fun
    | some (.arr e xs g' none) => if g = g' then (match leafGet e (xs.getD i (dflt e)) c with | ⟨.sl e', ys⟩ => k e' ys | _ => .fail) else .fail
    | _ => .fail
  | _ => .fail
def plen (k : K) (d : Option Nat) (c : CV) : Pg :=
  match k, c with
  | .str, .s s => ret1 d (.i .i64 s.size)
  | .sl _, .nil => ret1 d (.i .i64 0)
  | .sl _, c => rdL c fun _ xs => ret1 d (.i .i64 xs.length)
  | _, _ => .fail
def inB (n : Int) (len : Nat) (p : Pg) : Pg := .br (decide (0 ≤ n)) (.br (decide (n < len)) p .fail) .fail
def pidx (e0 : K) (d : Option Nat) (x : CV) (n : Int) : Pg :=
  match x with
  | .ls k xs => if k = e0 then inB n xs.length (ret1 d (.pi k xs n.toNat 0)) else .fail
  | .sl o => .rdO o fun | some (.arr k xs _ _) => if k = e0 then inB n xs.length (ret1 d (.pe o n.toNat 0)) else .fail | _ => .fail
  | .vw o g i c => .rdO o fun
    | some (.arr e xs g' none) => if g = g' then (match leafGet e (xs.getD i (dflt e)) c with | ⟨.sl e', ys⟩ => if e' = e0 then inB n ys.length (ret1 d (.pe2 o g i c n.toNat 0)) else .fail | _ => .fail) else .fail
    | _ => .fail
  | _ => .fail
def pfld (d : Option Nat) (off : Nat) : CV → Pg
  | .pc o c => .rdO o fun | some (.box _) => ret1 d (.pc o (c + off)) | _ => .fail
  | .pe o i c => .rdO o fun | some (.arr _ _ _ none) => ret1 d (.pe o i (c + off)) | _ => .fail
  | .pe2 o g i c j c2 => .rdO o fun
    | some (.arr e xs g' none) => if g = g' then (match leafGet e (xs.getD i (dflt e)) c with | ⟨.sl _, _⟩ => ret1 d (.pe2 o g i c j (c2 + off)) | _ => .fail) else .fail
    | _ => .fail
  | .pi k xs i c => ret1 d (.pi k xs i (c + off))
  | _ => .fail
def mkA (agg : Bool) (l : List CV) : AV :=
  match agg, l with
  | true, l => .agg l
  | false, c :: _ => .one c
  | false, [] => .one .u
def pload (d : Option Nat) (t : Ty) : CV → Pg
  | .pc o c => .rdO o fun | some (.box cs) => if c + sz t.k ≤ cs.length then ret d (mkA t.agg ((cs.drop c).take (sz t.k))) else .fail | _ => .fail
  | .pe o i c => .rdO o fun
    | some (.arr e xs g none) => if c + sz t.k ≤ sz e then ret d (mkA t.agg ((List.range (sz t.k)).map fun j => lfC o g i (c + j) (leafGet e (xs.getD i (dflt e)) (c + j)))) else .fail
    | _ => .fail
  | .pi e xs i c => if c + sz t.k ≤ sz e then ret d (mkA t.agg ((List.range (sz t.k)).map fun j => lfS (leafGet e (xs.getD i (dflt e)) (c + j)))) else .fail
  | .pe2 o g i c j c2 => .rdO o fun
    | some (.arr e xs g' none) => if g = g' then (match leafGet e (xs.getD i (dflt e)) c with
      | ⟨.sl e', ys⟩ => if c2 < sz e' ∧ sz t.k = 1 ∧ t.agg = false then (match leafGet e' (ys.getD j (dflt e')) c2 with
        | ⟨.sl _, _⟩ => .fail
        | y => ret1 d (lfS y)) else .fail
      | _ => .fail) else .fail
    | _ => .fail
  | _ => .fail
/-- What is stored into a cell of an own list: a value of the cell's kind, and the object that is moved there. -/
def toLf (k : K) (c : CV) (f : Lf → List (Nat × OV) → Pg) : Pg :=
  match k, c with
  | .int k, .i k' n => if k = k' then f ⟨.int k, n⟩ [] else .fail
  | .bool, .b b => f ⟨.bool, b⟩ []
  | .str, .s s => f ⟨.str, s⟩ []
  | .sl e, .nil => f ⟨.sl e, []⟩ []
  | .sl e, .sl o => .rdO o fun | some (.arr e' xs _ none) => if h : e' = e then f ⟨.sl e, h ▸ xs⟩ [(o, .dead)] else .fail | _ => .fail
  | _, _ => .fail
/-- The cells of one element, one by one. -/
def setLfs (T : Nat) (e : K) (c : Nat) : List CV → den e → List (Nat × OV) → (den e → List (Nat × OV) → Pg) → Pg
  | [], x, os, f => f x os
  | v :: vs, x, os, f => toLf (leafK e c) v fun y os' => if os'.any (fun p => p.1 == T || (os.map (·.1)).contains p.1) = true then .fail else match leafSet e x c y with
    | some x' => setLfs T e (c + 1) vs x' (os ++ os') f
    | none => .fail
def cells : AV → List CV
  | .one c => [c]
  | .agg l => l
  | .tup _ => []
def okC : CV → Bool | .u => false | _ => true
def pstore (t : Ty) (p : CV) (v : AV) : Pg :=
  if (cells v).all okC = false then .fail else
  match p with
  | .pc o c => .rdO o fun | some (.box cs) => if c + sz t.k ≤ cs.length ∧ (cells v).length = sz t.k then .done [] [(o, .box (cs.take c ++ cells v ++ cs.drop (c + sz t.k)))] else .fail | _ => .fail
  | .pe o i c => .rdO o fun
    | some (.arr e xs g none) => if c + sz t.k ≤ sz e ∧ (cells v).length = sz t.k then setLfs o e c (cells v) (xs.getD i (dflt e)) [] fun x os => .done [] ((o, .arr e (xs.set i x) (g + 1) none) :: os) else .fail
    | some (.arr e xs g (some (hi, hc))) => if sz t.k = 1 ∧ c < sz e ∧ hc = c ∧ (cells v).length = 1 then .br (decide (i = hi)) (setLfs o e c (cells v) (xs.getD i (dflt e)) [] fun x os => .done [] ((o, .arr e (xs.set i x) (g + 1) none) :: os)) .fail else .fail
    | _ => .fail
  | .pe2 o g i c j c2 => .rdO o fun
    | some (.arr e xs g' none) => if g = g' then (match leafGet e (xs.getD i (dflt e)) c with
      | ⟨.sl e', ys⟩ => if c2 < sz e' ∧ sz t.k = 1 then
        (match cells v with
        | [w] => toLf (leafK e' c2) w fun y os => if os.isEmpty = true then (match E.leafSet e' (ys.getD j (dflt e')) c2 y with
            | some y' => (match E.leafSet e (xs.getD i (dflt e)) c ⟨.sl e', ys.set j y'⟩ with
              | some x' => .done [] [(o, .arr e (xs.set i x') (g' + 1) none)]
              | none => .fail)
            | none => .fail) else .fail
        | _ => .fail) else .fail
      | _ => .fail) else .fail
    | _ => .fail
  | _ => .fail
/-- A new object, at a place where none is. -/
def newO (d : Option Nat) (f : Nat → CV) (v : OV) (os : List (Nat × OV)) : Pg :=
  match d with
  | some d => .rdO (nm d 0) fun | none => .done [(d, .one (f (nm d 0)))] ((nm d 0, v) :: os) | some _ => .fail
  | none => .fail
def setParts (offs szs : List Nat) : List CV → List (Nat × AV) → Option (List CV)
  | cs, [] => some cs
  | cs, (i, v) :: ps => match offs[i]?, szs[i]? with
    | some off, some s => if (cells v).length = s ∧ 0 < s ∧ (cells v).all okC = true ∧ off + s ≤ cs.length then setParts offs szs (cs.take off ++ cells v ++ cs.drop (off + s)) ps else none
    | _, _ => none
/-- Operands, one after the other. -/
def rdXs : List Operand → List AV → (List AV → Pg) → Pg
  | [], acc, k => k acc
  | x :: l, acc, k => rdX x fun v => rdXs l (acc ++ [v]) k
/-- The elements of a list that is written down. -/
def mkEls (T : Nat) (e : K) : List AV → List (den e) → List (Nat × OV) → (List (den e) → List (Nat × OV) → Pg) → Pg
  | [], acc, os, f => f acc os
  | v :: vs, acc, os, f => if (cells v).length = sz e ∧ (cells v).all okC = true then setLfs T e 0 (cells v) (dflt e) os fun x os' => mkEls T e vs (acc ++ [x]) os' f else .fail
def flat : K → Bool
  | .sl _ => false
  | .pair a b => flat a && flat b
  | _ => true
/-- append: what is appended is flat, or an own list that is moved. -/
def pappX (d : Option Nat) (e : K) (by_ : Nat) (xs : List (den e)) (os : List (Nat × OV)) (x : CV) : Pg :=
  let fin (ys : List (den e)) (os2 : List (Nat × OV)) : Pg := .br (decide ((xs.length + ys.length) * max 1 by_ ≤ 140737488355328)) (newO d .sl (.arr e (xs ++ ys) 0 none) (os ++ os2)) .fail
  match x with
  | .nil => fin [] []
  | .sl o => .rdO o fun
    | some (.arr e' ys _ none) => if h : e' = e then (if flat e = true then fin (h ▸ ys) [] else if os.all (fun p => decide (p.1 ≠ o) && (match p.2 with | .dead => true | _ => false)) = true then fin (h ▸ ys) [(o, .dead)] else .fail) else .fail
    | _ => .fail
  | c => rdL c fun e' ys => if h : e' = e then (if flat e = true then fin (h ▸ ys) [] else .fail) else .fail
def papp (d : Option Nat) (e : K) (by_ : Nat) (s x : CV) : Pg :=
  match s with
  | .nil => pappX d e by_ [] [] x
  | .sl o => .rdO o fun | some (.arr e' xs _ none) => if h : e' = e then pappX d e by_ (h ▸ xs) [(o, .dead)] x else .fail | _ => .fail
  | .vw o g i c => .rdO o fun
    | some (.arr k xs g' none) => if g = g' then (match leafGet k (xs.getD i (dflt k)) c with
      | ⟨.sl e', ys⟩ => if h : e' = e then (match E.leafSet k (xs.getD i (dflt k)) c ⟨.sl e', []⟩ with
        | some x' => pappX d e by_ (h ▸ ys) [(o, .arr k (xs.set i x') (g' + 1) (some (i, c)))] x
        | none => .fail) else .fail
      | _ => .fail) else .fail
    | _ => .fail
  | _ => .fail
/-- A byte of a string. -/
def sAt (s : ByteArray) (n : Int) : Int := if h : n.toNat < s.size then (s[n.toNat].toNat : Int) else 0
def pcut (len : Nat) (lo hi : Option Int) (f : Nat → Nat → Pg) : Pg :=
  .br (decide (0 ≤ lo.getD 0)) (.br (decide (lo.getD 0 ≤ hi.getD len)) (.br (decide (hi.getD len ≤ len)) (f (lo.getD 0).toNat (hi.getD len).toNat) .fail) .fail) .fail
def pslice (k : K) (d : Option Nat) (x : CV) (lo hi : Option Int) : Pg :=
  match x with
  | .s s => (match k with | .str => pcut s.size lo hi fun l h => ret1 d (.s (s.extract l h)) | _ => .fail)
  | .ls k' xs => (match k with | .sl e => if k' = e then pcut xs.length lo hi fun l h => ret1 d (.ls k' ((xs.take h).drop l)) else .fail | _ => .fail)
  | .sl o => (match k with | .sl e => (.rdO o fun | some (.arr k' xs _ none) => if k' = e then pcut xs.length lo hi fun l h => newO d .sl (.arr k' ((xs.take h).drop l) 0 none) [(o, .dead)] else .fail | _ => .fail) | _ => .fail)
  | .nil => (match k with | .sl _ => pcut 0 lo hi fun _ _ => ret1 d .nil | _ => .fail)
  | _ => .fail
end Go.Proofs.Ytnbfhbfnccihgaa.E

/- How a state of the evaluator stands for a world. -/
namespace Go.Proofs.Ytnbfhbfnccihgaa.E
open Go
set_option linter.unusedVariables false
set_option linter.unusedSimpArgs false

/-- What an operation writes. -/
def Pg.wr (ev : Ev) : Pg → St → Option Ws
  | .done ws os, _ => some (ws, os)
  | .fail, _ => none
  | .rdT n k, σ => (k (σ.t n)).wr ev σ
  | .rdO n k, σ => (k (σ.o n)).wr ev σ
  | .br b t e, σ => if b = true then t.wr ev σ else e.wr ev σ
  | .call f as is k, σ => (ev f as is).bind fun r => (k r).wr ev σ
theorem Pg.run_wr (ev : Ev) (σ : St) : ∀ p : Pg, (p.run ev σ).map (·.2.2) = p.wr ev σ
  | .done ws os => rfl
  | .fail => rfl
  | .rdT n k => by rw [Pg.run, Pg.wr, ← Pg.run_wr ev σ (k (σ.t n)), Option.map_map]; rfl
  | .rdO n k => by rw [Pg.run, Pg.wr, ← Pg.run_wr ev σ (k (σ.o n)), Option.map_map]; rfl
  | .br b t e => by
    rw [Pg.run, Pg.wr]
    split
    · exact Pg.run_wr ev σ t
    · exact Pg.run_wr ev σ e
  | .call f as is k => by
    rw [Pg.run, Pg.wr, Option.map_bind]
    congr 1; funext r
    exact Pg.run_wr ev σ (k r)
/-- Memory with one cell written anew. -/
def setH (h : Hp) (a : Addr) (v : Value) : Hp := fun b => if b = a.block then (match h b with | some (.cells c t f) => some (.cells (c.setIfInBounds a.off v) t f) | o => o) else h b
section
variable (h : Hp) (lab : Lb) (adr : Nat → Value) (ob : Nat → Option OV)
/-- An address within a list. -/
def AtL (v : Value) (m : Nat) (f : Addr → Prop) : Prop := ∃ ad n cp, v = .slice (some ad) n cp ∧ f (ad.add m)
def CVR : CV → Value → Prop
  | .u, _ => True
  | .i k n, v => v = .int k n
  | .b b, v => v = .bool b
  | .s s, v => v = .string s
  | .nil, v => v = .slice none 0 0
  | .ls k xs, v => Rep h lab (.sl k) none xs [v]
  | .sl o, v => (∃ a n c, v = .slice a n c) ∧ ob o ≠ none ∧ ∀ k xs g hl, ob o = some (.arr k xs g hl) → v = adr o
  | .pc o c, v => (∃ ad, v = .pointer ad) ∧ ob o ≠ none ∧ ∀ cs, ob o = some (.box cs) → ∃ b, adr o = .pointer (some ⟨b, 0, none⟩) ∧ v = .pointer (some ⟨b, c, none⟩)
  | .pe o i c, v => (∃ ad, v = .pointer ad) ∧ ob o ≠ none ∧ ∀ k xs g hl, ob o = some (.arr k xs g hl) → i < xs.length ∧ AtL (adr o) (i * sz k + c) fun p => v = .pointer (some p)
  | .vw o g i c, v => (∃ a n c, v = .slice a n c) ∧ ob o ≠ none ∧ ∀ k xs g' hl, ob o = some (.arr k xs g' hl) → g ≤ g' ∧ (g = g' → i < xs.length ∧ c < sz k ∧ AtL (adr o) (i * sz k + c) fun p => cellAt h p = some v)
  | .pe2 o g i c j c2, v => (∃ ad, v = .pointer ad) ∧ ob o ≠ none ∧ ∀ k xs g' hl, ob o = some (.arr k xs g' hl) → g ≤ g' ∧ (g = g' → ∀ e ys, leafGet k (xs.getD i (dflt k)) c = ⟨.sl e, ys⟩ → i < xs.length ∧ c < sz k ∧ j < ys.length ∧ AtL (adr o) (i * sz k + c) fun p => ∃ u, cellAt h p = some u ∧ AtL u (j * sz e + c2) fun q => v = .pointer (some q))
  | .pi k xs i c, v => i < xs.length ∧ ∃ u, Rep h lab (.sl k) none xs [u] ∧ AtL u (i * sz k + c) fun p => v = .pointer (some p)
  | .fn f, v => v = .func (.func f) #[] #[]
def CVRs (l : List CV) (vs : List Value) : Prop := l.length = vs.length ∧ ∀ (j : Nat) (c : CV), l[j]? = some c → ∃ v, vs[j]? = some v ∧ CVR h lab adr ob c v
def A1R (p : Bool × List CV) (v : Value) : Prop :=
  match p with
  | (false, [c]) => CVR h lab adr ob c v
  | (false, _) => False
  | (true, l) => ∃ vs : Array Value, v = .agg vs ∧ CVRs h lab adr ob l vs.toList
def AVR : AV → Value → Prop
  | .one c, v => CVR h lab adr ob c v
  | .agg l, v => ∃ vs : Array Value, v = .agg vs ∧ CVRs h lab adr ob l vs.toList
  | .tup l, v => ∃ vs : Array Value, v = .tuple vs ∧ l.length = vs.size ∧ ∀ (j : Nat) (p : Bool × List CV), l[j]? = some p → ∃ u, vs[j]? = some u ∧ A1R h lab adr ob p u
def ObR (o : Nat) : OV → Prop
  | .box cs => ∃ b arr t, adr o = .pointer (some ⟨b, 0, none⟩) ∧ lab b = some [o] ∧ h b = some (.cells arr t (0, 0)) ∧ CVRs h lab adr ob cs arr.toList
  | .arr k xs g none => Rep h lab (.sl k) (some [o]) xs [adr o]
  | .arr k xs g (some (i, c)) => i < xs.length ∧ c < sz k ∧ AtL (adr o) (i * sz k + c) fun p => Rep (setH h p (.slice none 0 0)) lab (.sl k) (some [o]) xs [adr o]
  | .dead => True
end
/-- The name that no object bears: what the caller owns. -/
def X : Nat := 999
/-- What the world outside the memory is. -/
structure Sm (w w' : World) : Prop where
  os : w'.os = w.os
  tape : w'.tape = w.tape
  out : w'.output = w.output
theorem Sm.refl (w : World) : Sm w w := ⟨rfl, rfl, rfl⟩
theorem Sm.trans {a b c : World} (h : Sm a b) (k : Sm b c) : Sm a c := ⟨k.os.trans h.os, k.tape.trans h.tape, k.out.trans h.out⟩
structure Ent where
  ww : World
  h : Hp
  pn : Nat
  adr0 : Nat → Value
/-- What package-level variables hold, block by block (a list of each seat's own). -/
def gl : List (Nat × (Obj → Prop)) := []
/-- No such block is an own one, and each bears what it must. -/
def Glob (n : Nat) (h : Hp) (lab : Lb) : Prop := ∀ p ∈ gl, p.1 < n ∧ lab p.1 = none ∧ ∃ o, h p.1 = some o ∧ p.2 o
structure Mem (n0 : Nat) (h0 : Ent) (lab0 : Lb) (ob : Nat → Option OV) (w : World) (lab : Lb) (adr : Nat → Value) : Prop where
  objs : ∀ o v, ob o = some v → ObR (hp w) lab adr ob o v
  frz : ∀ b, b < n0 → (∀ q r, lab0 b = some (q :: r) → h0.pn ≤ q) → w.heap[b]? = h0.h b ∧ lab b = lab0 b
  bnd : ∀ b, lab b ≠ none → b < w.heap.size
  siz : n0 ≤ w.heap.size
  sm : Sm h0.ww w
  nox : ob X = none
  par : ∀ o, o < h0.pn → ob o ≠ none ∧ ∀ v, ob o = some v → v ≠ .dead → adr o = h0.adr0 o
  ent : ∀ b l, lab0 b = some l → ∃ o r, l = o :: r ∧ (o < h0.pn ∨ o = X)
  glob : Glob n0 h0.h lab0
theorem Mem.globNow {n0 : Nat} {h0 : Ent} {lab0 : Lb} {ob : Nat → Option OV} {w : World} {lab : Lb} {adr : Nat → Value} (M : Mem n0 h0 lab0 ob w lab adr) : Glob w.heap.size (hp w) lab := by
  intro p hp'
  obtain ⟨h1, h2, o, h3, h4⟩ := M.glob p hp'
  obtain ⟨f1, f2⟩ := M.frz p.1 h1 (fun q r e => by rw [h2] at e; cases e)
  exact ⟨Nat.lt_of_lt_of_le h1 M.siz, by rw [f2, h2], o, by show w.heap[p.1]? = _; rw [f1, h3], h4⟩
structure Rel (n0 : Nat) (h0 : Ent) (lab0 : Lb) (nt : Nat) (σ : St) (a : Act) (w : World) : Prop where
  dfr : a.defers = []
  tms : a.tmps.size = nt
  mem : ∃ lab adr, Mem n0 h0 lab0 σ.o w lab adr ∧ ∀ t, AVR (hp w) lab adr σ.o (σ.t t) (a.tmps.getD t undef)
/-- How an object goes over: it is as it was, or changed, or gone. -/
def Goes (h h' : Hp) (adr adr' : Nat → Value) (ob ob' : Nat → Option OV) (o : Nat) : Prop :=
  ob o = none ∨ ob' o = some .dead ∨ (ob' o = ob o ∧ adr' o = adr o ∧ ∀ ad n cp, adr o = .slice (some ad) n cp → h' ad.block = h ad.block) ∨
  (∃ cs cs', ob o = some (.box cs) ∧ ob' o = some (.box cs') ∧ adr' o = adr o) ∨
  (∃ k xs xs' g g' hl hl', ob o = some (.arr k xs g hl) ∧ ob' o = some (.arr k xs' g' hl') ∧ g < g' ∧ xs'.length = xs.length ∧ adr' o = adr o)
section
variable {h h' : Hp} {lab lab' : Lb} {adr adr' : Nat → Value} {ob ob' : Nat → Option OV}
theorem look_app {α : Type} (l1 l2 : List (Nat × α)) (n : Nat) : look (l1 ++ l2) n = (look l1 n).or (look l2 n) := by
  induction l1 with
  | nil => simp [look]
  | cons p l ih =>
    obtain ⟨m, v⟩ := p
    simp only [List.cons_append, look]
    split <;> simp_all
theorem St.put_o (σ : St) (ws : List (Nat × AV)) (os : List (Nat × OV)) (n : Nat) : (σ.put ws os).o n = (look os n).or (σ.o n) := look_app _ _ _
theorem St.put_t (σ : St) (ws : List (Nat × AV)) (os : List (Nat × OV)) (n : Nat) : (σ.put ws os).t n = ((look ws n).or (look σ.tm n)).getD (.one .u) := by unfold St.t St.put; rw [look_app]
theorem St.put_t_nil (σ : St) (os : List (Nat × OV)) (n : Nat) : (σ.put [] os).t n = σ.t n := rfl
theorem St.put_t_one (σ : St) (d : Nat) (v : AV) (os : List (Nat × OV)) (n : Nat) : (σ.put [(d, v)] os).t n = if d = n then v else σ.t n := by
  rw [St.put_t]; simp only [look]; split <;> simp [St.t]
theorem Goes.isSome {o : Nat} (g : Goes h h' adr adr' ob ob' o) (hn : ob o ≠ none) : ob' o ≠ none := by
  rcases g with g | g | ⟨g, _⟩ | ⟨_, _, _, g, _⟩ | ⟨_, _, _, _, _, _, _, _, g, _⟩
  · exact absurd g hn
  all_goals rw [g]; simp [hn]
/-- A value of a cell goes over to another memory. -/
theorem CVR.over (hf : ∀ b, lab b = none → h b ≠ none → lab' b = none ∧ h' b = h b) (hg : ∀ o, Goes h h' adr adr' ob ob' o) :
    ∀ (c : CV) (v : Value), CVR h lab adr ob c v → CVR h' lab' adr' ob' c v
  | .u, _, _ => trivial
  | .i _ _, _, r => r
  | .b _, _, r => r
  | .s _, _, r => r
  | .nil, _, r => r
  | .fn _, _, r => r
  | .ls k xs, v, r => Rep.frame (fun b q e hn => by have := hf b e hn; rw [e]; exact this) r
  | .pi k xs i c, v, ⟨r1, u, r2, r3⟩ => ⟨r1, u, Rep.frame (fun b q e hn => by have := hf b e hn; rw [e]; exact this) r2, r3⟩
  | .sl o, v, ⟨r1, rn, r⟩ => by
    refine ⟨r1, (hg o).isSome rn, fun k xs g hl e => ?_⟩
    rcases hg o with c | c | ⟨c1, c2, c3⟩ | ⟨_, _, _, c, _⟩ | ⟨_, _, _, _, _, _, _, c1, c2, _, _, c3⟩
    · exact absurd c rn
    · rw [c] at e; cases e
    · rw [c2]; exact r k xs g hl (by rw [← c1, e])
    · rw [c] at e; cases e
    · rw [c3]; exact r _ _ _ _ c1
  | .pc o c, v, ⟨r1, rn, r⟩ => by
    refine ⟨r1, (hg o).isSome rn, fun cs e => ?_⟩
    rcases hg o with c | c | ⟨c1, c2, c3⟩ | ⟨_, _, c1, c, c3⟩ | ⟨_, _, _, _, _, _, _, c1, c2, _, _, c3⟩
    · exact absurd c rn
    · rw [c] at e; cases e
    · rw [c2]; exact r cs (by rw [← c1, e])
    · rw [c3]; exact r _ c1
    · rw [c2] at e; cases e
  | .pe o i c, v, ⟨r1, rn, r⟩ => by
    refine ⟨r1, (hg o).isSome rn, fun k xs g hl e => ?_⟩
    rcases hg o with c | c | ⟨c1, c2, c3⟩ | ⟨_, _, c1, c, c3⟩ | ⟨_, _, _, _, _, _, _, c1, c2, _, c4, c3⟩
    · exact absurd c rn
    · rw [c] at e; cases e
    · rw [c2]; exact r k xs g hl (by rw [← c1, e])
    · rw [c] at e; cases e
    · rw [c2] at e; cases e; rw [c3, c4]; exact r _ _ _ _ c1
  | .vw o g i c, v, ⟨r1, rn, r⟩ => by
    refine ⟨r1, (hg o).isSome rn, fun k xs g' hl e => ?_⟩
    rcases hg o with c | c | ⟨c1, c2, c3⟩ | ⟨_, _, c1, c, c3⟩ | ⟨_, _, _, _, _, _, _, c1, c2, c5, c4, c3⟩
    · exact absurd c rn
    · rw [c] at e; cases e
    · obtain ⟨l1, l2⟩ := r k xs g' hl (by rw [← c1, e])
      refine ⟨l1, fun eg => ?_⟩
      obtain ⟨x1, x2, ad, n, cp, x3, x4⟩ := l2 eg
      exact ⟨x1, x2, ad, n, cp, by rw [c2]; exact x3, by rw [← x4]; exact cellAt_congr (by rw [add_block]; exact c3 ad n cp x3)⟩
    · rw [c] at e; cases e
    · rw [c2] at e; cases e
      have := (r _ _ _ _ c1).1
      exact ⟨by omega, fun eg => by omega⟩
  | .pe2 o g i c j c2, v, ⟨r1, rn, r⟩ => by
    refine ⟨r1, (hg o).isSome rn, fun k xs g' hl e => ?_⟩
    rcases hg o with c | c | ⟨c1, c2, c3⟩ | ⟨_, _, c1, c, c3⟩ | ⟨_, _, _, _, _, _, _, c1, c2, c5, c4, c3⟩
    · exact absurd c rn
    · rw [c] at e; cases e
    · obtain ⟨l1, l2⟩ := r k xs g' hl (by rw [← c1, e])
      refine ⟨l1, fun eg e' ys hy => ?_⟩
      obtain ⟨x1, x2, x5, ad, n, cp, x3, u, x4, x6⟩ := l2 eg e' ys hy
      exact ⟨x1, x2, x5, ad, n, cp, by rw [c2]; exact x3, u, by rw [← x4]; exact cellAt_congr (by rw [add_block]; exact c3 ad n cp x3), x6⟩
    · rw [c] at e; cases e
    · rw [c2] at e; cases e
      have := (r _ _ _ _ c1).1
      exact ⟨by omega, fun eg => by omega⟩
theorem CVRs.over (hf : ∀ b, lab b = none → h b ≠ none → lab' b = none ∧ h' b = h b) (hg : ∀ o, Goes h h' adr adr' ob ob' o) {l : List CV} {vs : List Value} (r : CVRs h lab adr ob l vs) : CVRs h' lab' adr' ob' l vs :=
  ⟨r.1, fun j c hj => let ⟨v, h1, h2⟩ := r.2 j c hj; ⟨v, h1, CVR.over hf hg c v h2⟩⟩
theorem A1R.over (hf : ∀ b, lab b = none → h b ≠ none → lab' b = none ∧ h' b = h b) (hg : ∀ o, Goes h h' adr adr' ob ob' o) : ∀ {p : Bool × List CV} {v : Value}, A1R h lab adr ob p v → A1R h' lab' adr' ob' p v
  | (false, [c]), v, r => CVR.over hf hg c v r
  | (false, []), _, r => r
  | (false, _ :: _ :: _), _, r => r
  | (true, l), v, ⟨vs, e, r⟩ => ⟨vs, e, r.over hf hg⟩
theorem AVR.over (hf : ∀ b, lab b = none → h b ≠ none → lab' b = none ∧ h' b = h b) (hg : ∀ o, Goes h h' adr adr' ob ob' o) : ∀ {x : AV} {v : Value}, AVR h lab adr ob x v → AVR h' lab' adr' ob' x v
  | .one c, v, r => CVR.over hf hg c v r
  | .agg l, v, ⟨vs, e, r⟩ => ⟨vs, e, r.over hf hg⟩
  | .tup l, v, ⟨vs, e, el, r⟩ => ⟨vs, e, el, fun j p hj => let ⟨u, h1, h2⟩ := r j p hj; ⟨u, h1, h2.over hf hg⟩⟩
end

end Go.Proofs.Ytnbfhbfnccihgaa.E

/- What each operation does: those that leave the memory as it is. -/
namespace Go.Proofs.Ytnbfhbfnccihgaa.E
open Go
set_option linter.unusedVariables false
set_option linter.unusedSimpArgs false

section
variable {n0 : Nat} {h0 : Ent} {lab0 : Lb} {nt : Nat} {σ : St} {a : Act} {w : World} {ev : Ev} {P : Program}
theorem getD_set (l : Array Value) (d t : Nat) (v : Value) (h : d < l.size) : (l.setIfInBounds d v).getD t undef = if d = t then v else l.getD t undef := by
  rw [Array.getD_eq_getD_getElem?, Array.getD_eq_getD_getElem?]
  by_cases e : d = t
  · subst e; rw [if_pos rfl, Array.getElem?_setIfInBounds_self_of_lt h]; rfl
  · rw [if_neg e, Array.getElem?_setIfInBounds_ne e]
def wsOf (d : Option Nat) (v : AV) : List (Nat × AV) := match d with | some d' => [(d', v)] | none => []
/-- The new state, put together. -/
theorem Rel.fin {w' : World} {d : Option Nat} {val : Value} {v : AV} {ws : List (Nat × AV)} {os : List (Nat × OV)} {lab' : Lb} {adr' : Nat → Value} (R : Rel n0 h0 lab0 nt σ a w) (hd : ∀ d', d = some d' → d' < nt)
    (hws : ws = wsOf d v) (M' : Mem n0 h0 lab0 (σ.put ws os).o w' lab' adr') (T' : ∀ t, AVR (hp w') lab' adr' (σ.put ws os).o (σ.t t) (a.tmps.getD t undef))
    (hv : d ≠ none → AVR (hp w') lab' adr' (σ.put ws os).o v val) : Rel n0 h0 lab0 nt (σ.put ws os) (a.put d val) w' := by
  subst hws
  cases d with
  | none => exact ⟨R.dfr, R.tms, lab', adr', M', fun t => T' t⟩
  | some d =>
    have hlt : d < a.tmps.size := by rw [R.tms]; exact hd d rfl
    refine ⟨R.dfr, by show (a.tmps.setIfInBounds d val).size = nt; rw [Array.size_setIfInBounds]; exact R.tms, lab', adr', M', fun t => ?_⟩
    show AVR _ _ _ _ ((σ.put [(d, v)] os).t t) ((a.tmps.setIfInBounds d val).getD t undef)
    rw [St.put_t_one, getD_set _ _ _ _ hlt]
    split
    · exact hv (by simp)
    · exact T' t
/-- What an operation comes to. -/
def Did (P : Program) (n0 : Nat) (h0 : Ent) (lab0 : Lb) (nt : Nat) (o : Oper) (a : Act) (w : World) (σ' : St) : Prop :=
  ∃ v w', (((execOp a.eval o).run P w = .ok (.value v) w') ∨ ((execOp a.eval o).run P w = .ok .skip w' ∧ v = undef)) ∧ Rel n0 h0 lab0 nt σ' (a.put o.dst v) w'
theorem Did.wp {o : Oper} {σ' : St} {K : Act → World → Prop} {Q : Exit → Act → World → Prop} (h : Did P n0 h0 lab0 nt o a w σ') (hk : ∀ a' w', Rel n0 h0 lab0 nt σ' a' w' → K a' w') : o.wp P a w K Q := by
  obtain ⟨v, w', h | ⟨h, rfl⟩, r⟩ := h
  · unfold Oper.wp; rw [h]; exact hk _ _ r
  · unfold Oper.wp; rw [h]; exact hk _ _ r
variable {lab : Lb} {adr : Nat → Value} {ws : List (Nat × AV)} {os : List (Nat × OV)}
theorem ret_wr {d : Option Nat} {v : AV} (h : (ret d v).wr ev σ = some (ws, os)) : ws = wsOf d v ∧ os = [] := by
  cases d <;> (simp [ret, Pg.wr] at h; obtain ⟨rfl, rfl⟩ := h; exact ⟨rfl, rfl⟩)
theorem rel_ret {d : Option Nat} {v : AV} {val : Value} (R : Rel n0 h0 lab0 nt σ a w) (M : Mem n0 h0 lab0 σ.o w lab adr) (T : ∀ t, AVR (hp w) lab adr σ.o (σ.t t) (a.tmps.getD t undef)) (hd : ∀ d', d = some d' → d' < nt)
    (h : (ret d v).wr ev σ = some (ws, os)) (hv : AVR (hp w) lab adr σ.o v val) : Rel n0 h0 lab0 nt (σ.put ws os) (a.put d val) w := by
  obtain ⟨h1, rfl⟩ := ret_wr h
  exact Rel.fin R hd h1 M T (fun _ => hv)
theorem cst_R (h : Hp) (lab : Lb) (adr : Nat → Value) (ob : Nat → Option OV) (v : Value) : CVR h lab adr ob (cst v) v := by
  unfold cst; split <;> first | rfl | trivial
theorem wr_rdX {x : Operand} {k : AV → Pg} (T : ∀ t, AVR (hp w) lab adr σ.o (σ.t t) (a.tmps.getD t undef)) {W : Ws} (h : (rdX x k).wr ev σ = some W) : ∃ v, AVR (hp w) lab adr σ.o v (a.eval x) ∧ (k v).wr ev σ = some W := by
  cases x with
  | tmp t => exact ⟨_, T t, h⟩
  | const v => exact ⟨.one (cst v), cst_R _ _ _ _ v, h⟩
  | global g => cases h
  | func f => exact ⟨.one (.fn f), rfl, h⟩
theorem wr_rdC {x : Operand} {k : CV → Pg} (T : ∀ t, AVR (hp w) lab adr σ.o (σ.t t) (a.tmps.getD t undef)) {W : Ws} (h : (rdC x k).wr ev σ = some W) : ∃ c, CVR (hp w) lab adr σ.o c (a.eval x) ∧ (k c).wr ev σ = some W := by
  obtain ⟨v, h1, h2⟩ := wr_rdX T h
  cases v with
  | one c => exact ⟨c, h1, h2⟩
  | agg l => cases h2
  | tup l => cases h2
theorem do_move {o : Oper} {x : Operand} (R : Rel n0 h0 lab0 nt σ a w) (hd : ∀ d', o.dst = some d' → d' < nt) (ho : o.op = .move x ∨ o.op = .assign x) (h : (rdX x (ret o.dst)).wr ev σ = some (ws, os)) : Did P n0 h0 lab0 nt o a w (σ.put ws os) := by
  obtain ⟨lab, adr, M, T⟩ := R.mem
  obtain ⟨v, h1, h2⟩ := wr_rdX T h
  refine ⟨a.eval x, w, .inl ?_, rel_ret R M T hd h2 h1⟩
  rcases ho with ho | ho <;> simp [execOp, ho]
theorem do_pick {o : Oper} {c x y : Operand} (R : Rel n0 h0 lab0 nt σ a w) (hd : ∀ d', o.dst = some d' → d' < nt) (ho : o.op = .pick c x y) (h : (rdC c fun | .b b => rdX x fun vx => rdX y fun vy => .br b (ret o.dst vx) (ret o.dst vy) | _ => .fail).wr ev σ = some (ws, os)) : Did P n0 h0 lab0 nt o a w (σ.put ws os) := by
  obtain ⟨lab, adr, M, T⟩ := R.mem
  obtain ⟨v, h1, h2⟩ := wr_rdC T h
  cases v with
  | b b =>
    obtain ⟨vx, h3, h4⟩ := wr_rdX T h2
    obtain ⟨vy, h5, h6⟩ := wr_rdX T h4
    have e : a.eval c = .bool b := h1
    rw [Pg.wr] at h6
    refine ⟨if b = true then a.eval x else a.eval y, w, .inl ?_, ?_⟩
    · simp only [execOp, ho, e, asBool, Sem.run_bind, Sem.run_pure, Result.andThen_ok]
    · cases b
      · exact rel_ret R M T hd h6 h5
      · exact rel_ret R M T hd h6 h3
  | _ => cases h2
theorem extract_R {l : List (Bool × List CV)} {n : Nat} {p : Bool × List CV} {val : Value} (hv : AVR (hp w) lab adr σ.o (.tup l) val) (hl : l[n]? = some p) : ∃ vs u, val = .tuple vs ∧ vs[n]? = some u ∧ A1R (hp w) lab adr σ.o p u := by
  obtain ⟨vs, e, _, r⟩ := hv
  obtain ⟨u, h1, h2⟩ := r n p hl
  exact ⟨vs, u, e, h1, h2⟩
def a1 (p : Bool × List CV) : AV := match p with | (false, [c]) => .one c | (_, l) => .agg l
theorem a1_R {h : Hp} {ob : Nat → Option OV} : ∀ {p : Bool × List CV} {v : Value}, A1R h lab adr ob p v → AVR h lab adr ob (a1 p) v
  | (false, [c]), v, r => r
  | (false, []), _, r => r.elim
  | (false, _ :: _ :: _), _, r => r.elim
  | (true, []), v, r => r
  | (true, [_]), v, r => r
  | (true, _ :: _ :: _), v, r => r
theorem do_extract {o : Oper} {x : Operand} {n : Nat} (R : Rel n0 h0 lab0 nt σ a w) (hd : ∀ d', o.dst = some d' → d' < nt) (ho : o.op = .extract x n) (h : (rdX x fun | .tup l => (match l[n]? with | some p => ret o.dst (a1 p) | none => .fail) | _ => .fail).wr ev σ = some (ws, os)) : Did P n0 h0 lab0 nt o a w (σ.put ws os) := by
  obtain ⟨lab, adr, M, T⟩ := R.mem
  obtain ⟨v, h1, h2⟩ := wr_rdX T h
  cases v with
  | tup l =>
    dsimp only at h2
    split at h2
    · rename_i p hp
      obtain ⟨vs, u, e, hu, hr⟩ := extract_R h1 hp
      refine ⟨u, w, .inl ?_, rel_ret R M T hd h2 (a1_R hr)⟩
      simp [execOp, ho, e, Instr.extract, hu]
    · cases h2
  | _ => cases h2
/-! arithmetic -/
theorem run_binI {op : BinOp} {k : IntKind} {x y : Int} {d : Option Nat} {t : TypeId} (h : (binI d op k x y).wr ev σ = some (ws, os)) : ∃ c v, (binOp op t (.int k x) (.int k y)).run P w = .ok v w ∧ (ret1 d c).wr ev σ = some (ws, os) ∧ ∀ h lab adr ob, CVR h lab adr ob c v := by
  cases op <;> simp only [binI] at h
  case add => exact ⟨_, _, by simp [binOp, Op.intArith], h, fun _ _ _ _ => rfl⟩
  case sub => exact ⟨_, _, by simp [binOp, Op.intArith], h, fun _ _ _ _ => rfl⟩
  case mul => exact ⟨_, _, by simp [binOp, Op.intArith], h, fun _ _ _ _ => rfl⟩
  case quo =>
    rw [Pg.wr] at h
    split at h
    · cases h
    · rename_i hy; simp at hy; exact ⟨_, _, by simp [binOp, Op.intDiv, hy], h, fun _ _ _ _ => rfl⟩
  case rem =>
    rw [Pg.wr] at h
    split at h
    · cases h
    · rename_i hy; simp at hy; exact ⟨_, _, by simp [binOp, Op.intDiv, hy], h, fun _ _ _ _ => rfl⟩
  case eql => exact ⟨_, _, by simp [binOp, Op.intCmp]; rfl, h, fun _ _ _ _ => by show Value.bool _ = Value.bool _; congr 1⟩
  case neq => exact ⟨_, _, by simp [binOp, Op.intCmp]; rfl, h, fun _ _ _ _ => by show Value.bool _ = Value.bool _; congr 1⟩
  case lss => exact ⟨_, _, by simp [binOp, Op.intCmp]; rfl, h, fun _ _ _ _ => by show Value.bool _ = Value.bool _; simp⟩
  case leq => exact ⟨_, _, by simp [binOp, Op.intCmp]; rfl, h, fun _ _ _ _ => by show Value.bool _ = Value.bool _; simp⟩
  case gtr => exact ⟨_, _, by simp [binOp, Op.intCmp]; rfl, h, fun _ _ _ _ => by show Value.bool _ = Value.bool _; simp⟩
  case geq => exact ⟨_, _, by simp [binOp, Op.intCmp]; rfl, h, fun _ _ _ _ => by show Value.bool _ = Value.bool _; simp⟩
  case and => exact ⟨_, _, by simp [binOp, Op.intBits]; rfl, h, fun _ _ _ _ => rfl⟩
  case or => exact ⟨_, _, by simp [binOp, Op.intBits]; rfl, h, fun _ _ _ _ => rfl⟩
  case xor => exact ⟨_, _, by simp [binOp, Op.intBits]; rfl, h, fun _ _ _ _ => rfl⟩
  all_goals cases h
theorem bytes_eq (x y : ByteArray) : (x.toList == y.toList) = decide (x = y) := by
  by_cases e : x = y
  · subst e; simp
  · rw [decide_eq_false e]
    apply Bool.eq_false_iff.2
    intro h
    have h2 : x.toList = y.toList := by simpa using h
    apply e
    apply ByteArray.ext
    apply Array.ext'
    rw [ByteArray.toList_eq, ByteArray.toList_eq] at h2
    exact h2
theorem run_binS {op : BinOp} {x y : ByteArray} {d : Option Nat} {t : TypeId} (h : (binS d op x y).wr ev σ = some (ws, os)) : ∃ c v, (binOp op t (.string x) (.string y)).run P w = .ok v w ∧ (ret1 d c).wr ev σ = some (ws, os) ∧ ∀ h lab adr ob, CVR h lab adr ob c v := by
  cases op <;> simp only [binS] at h
  case add =>
    rw [Pg.wr] at h
    split at h
    · rename_i hy
      simp at hy
      have : ¬ (9223372036854775807 < (x.size : Int) + y.size) := by omega
      refine ⟨_, _, ?_, h, fun _ _ _ _ => rfl⟩
      simp [binOp, Op.stringOp, IntKind.max, IntKind.signed, IntKind.bits, this]
    · cases h
  case eql => exact ⟨_, _, by simp [binOp, Op.stringOp]; rfl, h, fun _ _ _ _ => by show Value.bool _ = Value.bool _; rw [bytes_eq]⟩
  case neq => exact ⟨_, _, by simp [binOp, Op.stringOp]; rfl, h, fun _ _ _ _ => by show Value.bool _ = Value.bool _; rw [bytes_eq]⟩
  all_goals cases h
theorem run_binB {op : BinOp} {x y : Bool} {d : Option Nat} {t : TypeId} (hu : P.underlying t = some .bool) (h : (binB d op x y).wr ev σ = some (ws, os)) : ∃ c v, (binOp op t (.bool x) (.bool y)).run P w = .ok v w ∧ (ret1 d c).wr ev σ = some (ws, os) ∧ ∀ h lab adr ob, CVR h lab adr ob c v := by
  have e := run_equal_bool (P := P) w t x y hu
  cases op <;> simp only [binB] at h
  case eql => exact ⟨_, .bool (x == y), by simp [binOp, e], h, fun _ _ _ _ => rfl⟩
  case neq => exact ⟨_, .bool (x != y), by simp [binOp, e]; cases x <;> cases y <;> rfl, h, fun _ _ _ _ => rfl⟩
  all_goals cases h
theorem eqGuard_run {op : BinOp} {t : TypeId} {x y : Operand} {u v : Value} (hu : (∃ k n, u = .int k n) ∨ (∃ b, u = .bool b) ∨ (∃ s, u = .string s)) : (eqGuard op t x y u v).run P w = .ok () w := by
  unfold eqGuard
  rcases hu with ⟨k, n, rfl⟩ | ⟨b, rfl⟩ | ⟨s, rfl⟩ <;> cases op <;> simp
theorem do_bin {o : Oper} {op : BinOp} {t t2 : TypeId} {x y : Operand} {bt : Bool} (R : Rel n0 h0 lab0 nt σ a w) (hd : ∀ d', o.dst = some d' → d' < nt) (ho : o.op = .binOp op t x y t2) (hbt : bt = true → P.underlying t = some .bool)
    (h : (rdC x fun c => rdC y fun c' => pbin bt o.dst op c c').wr ev σ = some (ws, os)) : Did P n0 h0 lab0 nt o a w (σ.put ws os) := by
  obtain ⟨lab, adr, M, T⟩ := R.mem
  obtain ⟨c, h1, h2⟩ := wr_rdC T h
  obtain ⟨c', h3, h4⟩ := wr_rdC T h2
  have fin : ∀ {u v : Value}, a.eval x = u → a.eval y = v → ((∃ k n, u = .int k n) ∨ (∃ b, u = .bool b) ∨ (∃ s, u = .string s)) → (∃ c v', (binOp op t u v).run P w = .ok v' w ∧ (ret1 o.dst c).wr ev σ = some (ws, os) ∧ ∀ h lab adr ob, CVR h lab adr ob c v') → Did P n0 h0 lab0 nt o a w (σ.put ws os) := by
    rintro u v e1 e2 hu ⟨c, v', r1, r2, r3⟩
    refine ⟨v', w, .inl ?_, rel_ret R M T hd r2 (r3 _ _ _ _)⟩
    simp [execOp, ho, e1, e2, eqGuard_run hu, r1]
  cases c <;> cases c' <;> simp only [pbin] at h4 <;> try (cases h4; done)
  case i.i k x' k' y' =>
    split at h4
    · rw [Pg.wr] at h4
      split at h4 <;> try (cases h4; done)
      rename_i hy
      have hy : ¬ y' < 0 := by simpa using hy
      exact fin h1 h3 (.inl ⟨_, _, rfl⟩) ⟨_, _, by simp [binOp, Op.shift, hy]; rfl, h4, fun _ _ _ _ => rfl⟩
    · rw [Pg.wr] at h4
      split at h4 <;> try (cases h4; done)
      rename_i hy
      have hy : ¬ y' < 0 := by simpa using hy
      exact fin h1 h3 (.inl ⟨_, _, rfl⟩) ⟨_, _, by simp [binOp, Op.shift, hy]; rfl, h4, fun _ _ _ _ => rfl⟩
    · split at h4
      · rename_i e; subst e
        exact fin h1 h3 (.inl ⟨_, _, rfl⟩) (run_binI h4)
      · cases h4
  case b.b x' y' =>
    split at h4
    · rename_i e
      exact fin h1 h3 (.inr (.inl ⟨_, rfl⟩)) (run_binB (hbt e) h4)
    · cases h4
  case s.s x' y' => exact fin h1 h3 (.inr (.inr ⟨_, rfl⟩)) (run_binS h4)
theorem do_un {o : Oper} {op : UnOp} {t : TypeId} {x : Operand} (R : Rel n0 h0 lab0 nt σ a w) (hd : ∀ d', o.dst = some d' → d' < nt) (ho : o.op = .unOp op t x)
    (h : (rdC x fun c => pun o.dst op c).wr ev σ = some (ws, os)) : Did P n0 h0 lab0 nt o a w (σ.put ws os) := by
  obtain ⟨lab, adr, M, T⟩ := R.mem
  obtain ⟨c, h1, h2⟩ := wr_rdC T h
  cases op <;> cases c <;> simp only [pun] at h2 <;> try (cases h2; done)
  case neg.i k n =>
    have e : a.eval x = .int k n := h1
    exact ⟨_, w, .inl (by simp [execOp, ho, e, Op.unary, Op.intArith]), rel_ret R M T hd h2 rfl⟩
  case not.b b =>
    have e : a.eval x = .bool b := h1
    exact ⟨_, w, .inl (by simp [execOp, ho, e, Op.unary]), rel_ret R M T hd h2 rfl⟩
/-! lists that are read -/
/-- What is read as a list lies in memory so; it is frozen, or an object's. -/
theorem wr_rdL {c : CV} {v : Value} {k : (e : K) → List (den e) → Pg} {W : Ws} (M : Mem n0 h0 lab0 σ.o w lab adr) (hc : CVR (hp w) lab adr σ.o c v) (h : (rdL c k).wr ev σ = some W) : ∃ e xs p, Rep (hp w) lab (.sl e) p xs [v] ∧ (k e xs).wr ev σ = some W := by
  cases c <;> simp only [rdL] at h <;> try (cases h; done)
  case ls e xs => exact ⟨e, xs, none, hc, h⟩
  case sl o =>
    rw [Pg.wr] at h
    split at h <;> try (cases h; done)
    rename_i e xs g he
    have := M.objs o _ he
    rw [hc.2.2 e xs g none he]
    exact ⟨e, xs, _, this, h⟩
  case vw o g i cc =>
    rw [Pg.wr] at h
    split at h <;> try (cases h; done)
    rename_i e xs g' he
    split at h
    · rename_i hg
      split at h
      · rename_i e' ys hl
        obtain ⟨_, _, hc⟩ := hc
        obtain ⟨_, hc⟩ := hc e xs g' none he
        obtain ⟨hi, hcz, ad, n, cp, h3, h4⟩ := hc hg
        have r := M.objs o _ he
        simp only [ObR] at r
        rw [h3] at r
        obtain ⟨u, hu, hr⟩ := Rep.elem r hi hcz
        have e1 : xs.getD i (dflt e) = xs[i] := by rw [List.getD_eq_getElem?_getD, List.getElem?_eq_getElem hi]; rfl
        rw [e1] at hl
        rw [hl] at hr
        rw [h4] at hu
        cases hu
        exact ⟨e', ys, _, hr, h⟩
      · cases h
    · cases h
end
end Go.Proofs.Ytnbfhbfnccihgaa.E

/- What each operation does: types, reading. -/
namespace Go.Proofs.Ytnbfhbfnccihgaa.E
open Go
set_option linter.unusedVariables false
set_option linter.unusedSimpArgs false
def cvV : CV → Value
  | .i k n => .int k n
  | .b b => .bool b
  | .s s => .string s
  | .nil => .slice none 0 0
  | _ => undef
structure TyOk (P : Program) (tt : Tys) (t : TypeId) (ty : Ty) : Prop where
  info : ∃ i z, P.info? t = some i ∧ i.size = sz ty.k ∧ i.bytes = ty.bytes ∧ i.zero = some z ∧ z.cells.toList = (zeros ty.k).map cvV
  und : (ty.agg = true ∧ ∃ fs, P.underlying t = some (.struct fs) ∧ fs.toList.map (·.offset) = ty.offs ∧ fs.toList.map (P.cellsOf ·.type) = ty.szs ∧ ∀ f ∈ fs.toList, 0 < P.cellsOf f.type) ∨
    (ty.agg = false ∧ match ty.k with
      | .int k => P.underlying t = some (.int k)
      | .bool => P.underlying t = some .bool
      | .str => P.underlying t = some .string
      | .sl e => P.underlying t = some (.slice ty.elem) ∧ ∃ te, look tt ty.elem = some te ∧ te.k = e
      | .pair _ _ => False)
def TysOk (P : Program) (tt : Tys) : Prop := ∀ t ty, look tt t = some ty → TyOk P tt t ty
section
variable {n0 : Nat} {h0 : Ent} {lab0 : Lb} {nt : Nat} {σ : St} {a : Act} {w : World} {ev : Ev} {P : Program} {lab : Lb} {adr : Nat → Value} {ws : List (Nat × AV)} {os : List (Nat × OV)} {tt : Tys} {t : TypeId} {ty : Ty}
theorem TyOk.one (h : TyOk P tt t ty) (ha : ty.agg = false) : sz ty.k = 1 := by
  rcases h.und with ⟨h1, _⟩ | ⟨_, h2⟩
  · rw [ha] at h1; cases h1
  · revert h2; cases ty.k <;> simp [sz]
theorem TyOk.sl {e : K} (h : TyOk P tt t ty) (ha : ty.agg = false) (hk : ty.k = .sl e) : P.underlying t = some (.slice ty.elem) ∧ ∃ te, look tt ty.elem = some te ∧ te.k = e := by
  rcases h.und with ⟨h1, _⟩ | ⟨_, h2⟩
  · rw [ha] at h1; cases h1
  · rw [hk] at h2; exact h2
theorem TyOk.str (h : TyOk P tt t ty) (ha : ty.agg = false) (hk : ty.k = .str) : P.underlying t = some .string := by
  rcases h.und with ⟨h1, _⟩ | ⟨_, h2⟩
  · rw [ha] at h1; cases h1
  · rw [hk] at h2; exact h2
theorem TyOk.boo (h : TyOk P tt t ty) (ha : ty.agg = false) (hk : ty.k = .bool) : P.underlying t = some .bool := by
  rcases h.und with ⟨h1, _⟩ | ⟨_, h2⟩
  · rw [ha] at h1; cases h1
  · rw [hk] at h2; exact h2
theorem TyOk.int {k : IntKind} (h : TyOk P tt t ty) (ha : ty.agg = false) (hk : ty.k = .int k) : P.underlying t = some (.int k) := by
  rcases h.und with ⟨h1, _⟩ | ⟨_, h2⟩
  · rw [ha] at h1; cases h1
  · rw [hk] at h2; exact h2
theorem TyOk.isAgg (h : TyOk P tt t ty) (w : World) : (isAgg t).run P w = .ok ty.agg w := by
  unfold Go.isAgg
  rcases h.und with ⟨h1, fs, h2, _⟩ | ⟨h1, h2⟩
  · rw [Sem.run_bind, run_underlying h2 w, h1]; rfl
  · rw [h1]
    revert h2
    cases ty.k <;> intro h2
    · rw [Sem.run_bind, run_underlying h2 w]; rfl
    · rw [Sem.run_bind, run_underlying h2 w]; rfl
    · rw [Sem.run_bind, run_underlying h2 w]; rfl
    · rw [Sem.run_bind, run_underlying h2.1 w]; rfl
    · exact h2.elim
theorem TyOk.sizeOf (h : TyOk P tt t ty) (w : World) : (sizeOf t).run P w = .ok (sz ty.k) w := by
  obtain ⟨i, z, h1, h2, _⟩ := h.info
  simp [Go.sizeOf, typeInfo, h1, h2]
theorem add_add (x : Addr) (m n : Nat) : (x.add m).add n = x.add (m + n) := by
  unfold Addr.add
  by_cases h1 : m = 0 <;> by_cases h2 : n = 0 <;> simp [h1, h2, Nat.add_assoc]
def mkV (agg : Bool) (us : List Value) : Value := if agg = true then .agg us.toArray else us.headD undef
theorem run_loadVar (h : TyOk P tt t ty) {p : Addr} {us : List Value} (hl : us.length = sz ty.k) (hc : ∀ j u, us[j]? = some u → w.cell? (p.add j) = some u) : (loadVar t p).run P w = .ok (mkV ty.agg us) w := by
  unfold loadVar mkV
  rw [Sem.run_bind, h.isAgg w]
  simp only [Result.andThen_ok]
  cases ha : ty.agg
  · have h1 := h.one ha
    obtain ⟨u, rfl⟩ : ∃ u, us = [u] := by
      match us, hl with
      | [u], _ => exact ⟨u, rfl⟩
      | [], e => simp at e; omega
      | _ :: _ :: _, e => simp at e; omega
    have := hc 0 u rfl
    have e0 : p.add 0 = p := rfl
    rw [e0] at this
    simp [this]
  · have := run_loadCells_list (P := P) w p us hc
    rw [hl] at this
    simp [h.sizeOf w, this]
theorem mk_R {h : Hp} {ob : Nat → Option OV} {l : List CV} {us : List Value} (ha : ty.agg = false → us.length = 1) (r : CVRs h lab adr ob l us) : AVR h lab adr ob (mkA ty.agg l) (mkV ty.agg us) := by
  unfold mkA mkV
  cases hg : ty.agg
  · have h1 := ha hg
    obtain ⟨r1, r2⟩ := r
    obtain ⟨u, rfl⟩ := List.length_eq_one_iff.1 h1
    obtain ⟨c, rfl⟩ := List.length_eq_one_iff.1 (r1.trans h1)
    obtain ⟨v, e1, e2⟩ := r2 0 c rfl
    cases e1
    exact e2
  · exact ⟨_, rfl, r⟩
/-- The cells of an element of an object. -/
theorem lfC_R {e : K} {xs : List (den e)} {g i c : Nat} {o : Nat} {p : Lab} {u : Value} (he : σ.o o = some (.arr e xs g none)) (hi : i < xs.length) (hc : c < sz e) {ad : Addr} {n cp : Nat} (ha : adr o = .slice (some ad) n cp) (hu : cellAt (hp w) (ad.add (i * sz e + c)) = some u)
    (r : Rep (hp w) lab (leafGet e xs[i] c).k p (leafGet e xs[i] c).x [u]) : CVR (hp w) lab adr σ.o (lfC o g i c (leafGet e xs[i] c)) u := by
  revert r
  generalize leafGet e xs[i] c = y
  obtain ⟨k, x⟩ := y
  intro r
  cases k
  case int k => simp only [Rep] at r; simp at r; exact r
  case bool => simp only [Rep] at r; simp at r; exact r
  case str => simp only [Rep] at r; simp at r; exact r
  case pair => trivial
  case sl e' =>
    obtain ⟨a', n', c', r1, _⟩ := r
    simp at r1
    refine ⟨⟨_, _, _, r1⟩, by rw [he]; simp, fun k' xs' g' hl e2 => ?_⟩
    rw [he] at e2; cases e2
    exact ⟨Nat.le_refl _, fun _ => ⟨hi, hc, ad, n, cp, ha, hu⟩⟩
theorem lfS_R {h : Hp} {ob : Nat → Option OV} {y : Lf} {u : Value} (r : Rep h lab y.k none y.x [u]) : CVR h lab adr ob (lfS y) u := by
  obtain ⟨k, x⟩ := y
  cases k
  case int k => simp only [Rep] at r; simp at r; exact r
  case bool => simp only [Rep] at r; simp at r; exact r
  case str => simp only [Rep] at r; simp at r; exact r
  case pair => trivial
  case sl e' => exact r
theorem getD_get {α : Type} (xs : List α) (i : Nat) (d : α) (hi : i < xs.length) : xs.getD i d = xs[i] := by rw [List.getD_eq_getElem?_getD, List.getElem?_eq_getElem hi]; rfl
theorem do_load {o : Oper} {x : Operand} (hT : TyOk P tt t ty) (R : Rel n0 h0 lab0 nt σ a w) (hd : ∀ d', o.dst = some d' → d' < nt) (ho : o.op = .load t x)
    (h : (rdC x fun c => pload o.dst ty c).wr ev σ = some (ws, os)) : Did P n0 h0 lab0 nt o a w (σ.put ws os) := by
  obtain ⟨lab, adr, M, T⟩ := R.mem
  obtain ⟨c, h1, h2⟩ := wr_rdC T h
  have fin : ∀ {p : Addr} {us : List Value} {l : List CV}, a.eval x = .pointer (some p) → us.length = sz ty.k → (∀ j u, us[j]? = some u → w.cell? (p.add j) = some u) → CVRs (hp w) lab adr σ.o l us → (ret o.dst (mkA ty.agg l)).wr ev σ = some (ws, os) → Did P n0 h0 lab0 nt o a w (σ.put ws os) := by
    intro p us l e1 e2 e3 e4 e5
    refine ⟨_, w, .inl ?_, rel_ret R M T hd e5 (mk_R (ty := ty) (fun ha => by rw [e2]; exact hT.one ha) e4)⟩
    simp [execOp, ho, e1, Instr.loadAt, Instr.sureAddr, run_loadVar hT e2 e3]
  cases c <;> simp only [pload] at h2 <;> try (cases h2; done)
  case pc ob c =>
    rw [Pg.wr] at h2
    split at h2 <;> try (cases h2; done)
    rename_i cs he
    split at h2 <;> try (cases h2; done)
    rename_i hle
    obtain ⟨_, _, hc⟩ := h1
    obtain ⟨b, e1, e2⟩ := hc cs he
    obtain ⟨b', arr, ta, m1, m2, m3, m4, m5⟩ := M.objs ob _ he
    rw [m1] at e1
    simp at e1
    subst e1
    refine fin (us := (arr.toList.drop c).take (sz ty.k)) e2 ?_ ?_ ?_ h2
    · rw [List.length_take, List.length_drop, ← m4]; omega
    · intro j u hu
      have hj := (List.getElem?_eq_some_iff.1 hu).1
      rw [List.length_take] at hj
      rw [List.getElem?_take_of_lt (by omega), List.getElem?_drop] at hu
      show cellAt (hp w) _ = _
      rw [cellAt_add (a := ⟨b', c, none⟩) m3 rfl]
      simpa using hu
    · refine ⟨by rw [List.length_take, List.length_drop, List.length_take, List.length_drop, m4], fun j cc hj => ?_⟩
      have hj' := (List.getElem?_eq_some_iff.1 hj).1
      rw [List.length_take] at hj'
      rw [List.getElem?_take_of_lt (by omega), List.getElem?_drop] at hj
      obtain ⟨v, v1, v2⟩ := m5 _ _ hj
      exact ⟨v, by rw [List.getElem?_take_of_lt (by omega), List.getElem?_drop]; exact v1, v2⟩
  case pe ob i c =>
    rw [Pg.wr] at h2
    split at h2 <;> try (cases h2; done)
    rename_i e xs g he
    split at h2 <;> try (cases h2; done)
    rename_i hle
    obtain ⟨_, _, hc⟩ := h1
    obtain ⟨hi, ad, n, cp, e1, e2⟩ := hc e xs g none he
    have r := M.objs ob _ he
    simp only [ObR] at r
    rw [e1] at r
    rw [getD_get xs i _ hi] at h2
    have key : ∀ j, j < sz ty.k → ∃ u, cellAt (hp w) (ad.add (i * sz e + (c + j))) = some u ∧ CVR (hp w) lab adr σ.o (lfC ob g i (c + j) (leafGet e xs[i] (c + j))) u := by
      intro j hj
      obtain ⟨u, hu, hr⟩ := Rep.elem r hi (show c + j < sz e by omega)
      exact ⟨u, hu, lfC_R he hi (by omega) e1 hu hr⟩
    refine fin (p := ad.add (i * sz e + c)) (us := (List.range (sz ty.k)).map fun j => (cellAt (hp w) (ad.add (i * sz e + (c + j)))).getD undef) e2 (by simp) ?_ ?_ h2
    · intro j u hu
      rw [List.getElem?_map] at hu
      obtain ⟨j', hj', rfl⟩ := Option.map_eq_some_iff.1 hu
      have hj := (List.getElem?_eq_some_iff.1 hj').1
      simp at hj
      rw [List.getElem?_range hj] at hj'
      cases hj'
      obtain ⟨u, hu, _⟩ := key j hj
      rw [add_add, Nat.add_assoc]
      show cellAt (hp w) _ = _
      rw [hu]; rfl
    · refine ⟨by simp, fun j cc hj => ?_⟩
      rw [List.getElem?_map] at hj
      obtain ⟨j', hj', rfl⟩ := Option.map_eq_some_iff.1 hj
      have hj2 := (List.getElem?_eq_some_iff.1 hj').1
      simp at hj2
      rw [List.getElem?_range hj2] at hj'
      cases hj'
      obtain ⟨u, hu, hr⟩ := key j hj2
      exact ⟨u, by rw [List.getElem?_map, List.getElem?_range hj2, Option.map_some, hu]; rfl, hr⟩
  case pi e xs i c =>
    split at h2 <;> try (cases h2; done)
    rename_i hle
    obtain ⟨hi, u0, r, ad, n, cp, e1, e2⟩ := h1
    rw [e1] at r
    rw [getD_get xs i _ hi] at h2
    have key : ∀ j, j < sz ty.k → ∃ u, cellAt (hp w) (ad.add (i * sz e + (c + j))) = some u ∧ CVR (hp w) lab adr σ.o (lfS (leafGet e xs[i] (c + j))) u := by
      intro j hj
      obtain ⟨u, hu, hr⟩ := Rep.elem r hi (show c + j < sz e by omega)
      exact ⟨u, hu, lfS_R hr⟩
    refine fin (p := ad.add (i * sz e + c)) (us := (List.range (sz ty.k)).map fun j => (cellAt (hp w) (ad.add (i * sz e + (c + j)))).getD undef) e2 (by simp) ?_ ?_ h2
    · intro j u hu
      rw [List.getElem?_map] at hu
      obtain ⟨j', hj', rfl⟩ := Option.map_eq_some_iff.1 hu
      have hj := (List.getElem?_eq_some_iff.1 hj').1
      simp at hj
      rw [List.getElem?_range hj] at hj'
      cases hj'
      obtain ⟨u, hu, _⟩ := key j hj
      rw [add_add, Nat.add_assoc]
      show cellAt (hp w) _ = _
      rw [hu]; rfl
    · refine ⟨by simp, fun j cc hj => ?_⟩
      rw [List.getElem?_map] at hj
      obtain ⟨j', hj', rfl⟩ := Option.map_eq_some_iff.1 hj
      have hj2 := (List.getElem?_eq_some_iff.1 hj').1
      simp at hj2
      rw [List.getElem?_range hj2] at hj'
      cases hj'
      obtain ⟨u, hu, hr⟩ := key j hj2
      exact ⟨u, by rw [List.getElem?_map, List.getElem?_range hj2, Option.map_some, hu]; rfl, hr⟩
  case pe2 ob g i c j c2 =>
    rw [Pg.wr] at h2
    split at h2 <;> try (cases h2; done)
    rename_i e xs g' he
    split at h2 <;> try (cases h2; done)
    rename_i hg
    split at h2 <;> try (cases h2; done)
    rename_i e' ys hl
    split at h2 <;> try (cases h2; done)
    rename_i hcc
    obtain ⟨_, _, hc⟩ := h1
    obtain ⟨_, hc⟩ := hc e xs g' none he
    obtain ⟨hi, hcz, hj, ad, n, cp, e1, u, e2, ad2, n2, cp2, e3, e4⟩ := hc hg e' ys hl
    have r := M.objs ob _ he
    simp only [ObR] at r
    rw [e1] at r
    obtain ⟨u', hu', hr⟩ := Rep.elem r hi hcz
    rw [hu'] at e2; cases e2
    rw [getD_get xs i _ hi] at hl
    rw [hl] at hr
    rw [e3] at hr
    obtain ⟨v, hv, hr2⟩ := Rep.elem (e := e') hr hj hcc.1
    rw [getD_get ys j _ hj] at h2
    split at h2 <;> try (cases h2; done)
    rename_i hns
    refine fin (p := ad2.add (j * sz e' + c2)) (us := [v]) (l := [lfS (leafGet e' ys[j] c2)]) e4 (by simp [hcc.2.1]) ?_ ⟨rfl, ?_⟩ (by rw [hcc.2.2]; exact h2)
    · intro k u hu
      obtain rfl : k = 0 := by
        have := (List.getElem?_eq_some_iff.1 hu).1; simpa using this
      cases hu
      exact hv
    · intro k cc hk
      obtain rfl : k = 0 := by
        have := (List.getElem?_eq_some_iff.1 hk).1; simpa using this
      cases hk
      refine ⟨v, rfl, ?_⟩
      revert hr2 hns
      generalize leafGet e' ys[j] c2 = y
      obtain ⟨k, x⟩ := y
      intro hr2 hns
      cases k
      case int k => simp only [Rep] at hr2; simp at hr2; exact hr2
      case bool => simp only [Rep] at hr2; simp at hr2; exact hr2
      case str => simp only [Rep] at hr2; simp at hr2; exact hr2
      case pair => trivial
      case sl => exact absurd rfl (hns _ _)
end
end Go.Proofs.Ytnbfhbfnccihgaa.E

/- What each operation does: lengths, places, strings. -/
namespace Go.Proofs.Ytnbfhbfnccihgaa.E
open Go
set_option linter.unusedVariables false
set_option linter.unusedSimpArgs false
section
variable {n0 : Nat} {h0 : Ent} {lab0 : Lb} {nt : Nat} {σ : St} {a : Act} {w : World} {ev : Ev} {P : Program} {lab : Lb} {adr : Nat → Value} {ws : List (Nat × AV)} {os : List (Nat × OV)} {tt : Tys} {t : TypeId} {ty : Ty}
theorem Rep.sli {h : Hp} {e : K} {p : Lab} {xs : List (den e)} {v : Value} (r : Rep h lab (.sl e) p xs [v]) : ∃ a c, v = .slice a xs.length c := by
  obtain ⟨a, n, c, e1, e2, _⟩ := r
  simp at e1
  exact ⟨a, c, by rw [e1, e2]⟩
theorem do_len {o : Oper} {x : Operand} (hT : TyOk P tt t ty) (ha : ty.agg = false) (R : Rel n0 h0 lab0 nt σ a w) (hd : ∀ d', o.dst = some d' → d' < nt) (ho : o.op = .call { callee := .builtin .len, args := #[x], argTypes := #[t] })
    (h : (rdC x fun c => plen ty.k o.dst c).wr ev σ = some (ws, os)) : Did P n0 h0 lab0 nt o a w (σ.put ws os) := by
  obtain ⟨lab, adr, M, T⟩ := R.mem
  obtain ⟨c, h1, h2⟩ := wr_rdC T h
  have fin : ∀ {n : Nat}, (Builtin.len_ #[t] o.type #[a.eval x]).run P w = .ok (goInt n) w → (ret1 o.dst (.i .i64 n)).wr ev σ = some (ws, os) → Did P n0 h0 lab0 nt o a w (σ.put ws os) := by
    intro n e1 e2
    refine ⟨_, w, .inl ?_, rel_ret R M T hd e2 (val := goInt n) rfl⟩
    simp [execOp, ho, resolve, invoke, builtin, e1]
  cases hk : ty.k <;> rw [hk] at h2
  case str =>
    have hu := hT.str ha hk
    cases c <;> simp only [plen] at h2 <;> try (cases h2; done)
    case s s =>
      have e : a.eval x = .string s := h1
      exact fin (by simp [Builtin.len_, run_underlying hu, e]) h2
  case sl e =>
    obtain ⟨hu, _⟩ := hT.sl ha hk
    have sl : ∀ {a' n c'}, a.eval x = .slice a' n c' → (Builtin.len_ #[t] o.type #[a.eval x]).run P w = .ok (goInt n) w := by
      intro a' n c' e
      simp [Builtin.len_, run_underlying hu, e]
    have gen : (rdL c fun _ xs => ret1 o.dst (.i .i64 xs.length)).wr ev σ = some (ws, os) → Did P n0 h0 lab0 nt o a w (σ.put ws os) := by
      intro hh
      obtain ⟨e, xs, p, hr, hw⟩ := wr_rdL M h1 hh
      obtain ⟨a', c', e1⟩ := hr.sli
      exact fin (sl e1) hw
    cases c <;> first
      | exact gen h2
      | (exact fin (n := 0) (sl (show a.eval x = .slice none 0 0 from h1)) h2)
  all_goals (cases c <;> cases h2)
theorem wr_inB {n : Int} {len : Nat} {p : Pg} {W : Ws} (h : (inB n len p).wr ev σ = some W) : 0 ≤ n ∧ n < len ∧ p.wr ev σ = some W := by
  unfold inB at h
  rw [Pg.wr] at h
  split at h
  · rw [Pg.wr] at h
    split at h
    · rename_i h1 h2
      exact ⟨of_decide_eq_true h1, of_decide_eq_true h2, h⟩
    · cases h
  · cases h
theorem run_indexAt {e : TypeId} {te : Ty} {k : IntKind} {n : Int} {ad : Addr} {len cap : Nat} (hu : P.underlying t = some (.slice e)) (hT : TyOk P tt e te) (h0 : 0 ≤ n) (h1 : n < len) :
    (Instr.indexAt t (.slice (some ad) len cap) (.int k n)).run P w = .ok (.pointer (some (ad.add (n.toNat * sz te.k)))) w := by
  simp [Instr.indexAt, asIntOf, run_underlying hu, h0, h1, hT.sizeOf w]
theorem do_idx {o : Oper} {x y : Operand} (hT : TyOk P tt t ty) (hTs : TysOk P tt) (ha : ty.agg = false) {e0 : K} (hk : ty.k = .sl e0) (R : Rel n0 h0 lab0 nt σ a w) (hd : ∀ d', o.dst = some d' → d' < nt) (ho : o.op = .indexAddr t x y)
    (h : (rdC x fun c => rdC y fun | .i _ n => pidx e0 o.dst c n | _ => .fail).wr ev σ = some (ws, os)) : Did P n0 h0 lab0 nt o a w (σ.put ws os) := by
  obtain ⟨lab, adr, M, T⟩ := R.mem
  obtain ⟨c, h1, h2⟩ := wr_rdC T h
  obtain ⟨c', h3, h4⟩ := wr_rdC T h2
  obtain ⟨hu, te, ht, hk2⟩ := hT.sl ha hk
  have hTe := hTs _ _ ht
  cases c' <;> try (cases h4; done)
  rename_i ik n
  have ey : a.eval y = .int ik n := h3
  have fin : ∀ {ad : Addr} {len cap : Nat} {r : CV}, a.eval x = .slice (some ad) len cap → 0 ≤ n → n < len → (ret1 o.dst r).wr ev σ = some (ws, os) → CVR (hp w) lab adr σ.o r (.pointer (some (ad.add (n.toNat * sz e0)))) → Did P n0 h0 lab0 nt o a w (σ.put ws os) := by
    intro ad len cap r e1 e2 e3 e4 e5
    refine ⟨_, w, .inl ?_, rel_ret R M T hd e4 e5⟩
    simp [execOp, ho, e1, ey, run_indexAt hu hTe e2 e3, hk2]
  cases c <;> simp only [pidx] at h4 <;> try (cases h4; done)
  case ls k xs =>
    split at h4 <;> try (cases h4; done)
    rename_i hkk; subst hkk
    obtain ⟨b1, b2, h5⟩ := wr_inB h4
    have hi : n.toNat < xs.length := by omega
    obtain ⟨a', cp, e1⟩ := Rep.sli h1
    have h1' : Rep (hp w) lab (.sl k) none xs [.slice a' xs.length cp] := by rw [← e1]; exact h1
    obtain ⟨ad, e2, _, _⟩ := Rep.hasAddr h1' hi
    subst e2
    exact fin e1 b1 b2 h5 ⟨hi, _, h1', ad, _, _, rfl, by rw [Nat.add_zero]⟩
  case sl ob =>
    rw [Pg.wr] at h4
    split at h4 <;> try (cases h4; done)
    rename_i k xs g hole he
    split at h4 <;> try (cases h4; done)
    rename_i hkk; subst hkk
    obtain ⟨b1, b2, h5⟩ := wr_inB h4
    have hi : n.toNat < xs.length := by omega
    have r := M.objs ob _ he
    have e1 := h1.2.2 k xs g hole he
    obtain ⟨ad, cp, e2⟩ : ∃ ad cp, adr ob = .slice (some ad) xs.length cp := by
      cases hole with
      | none =>
        simp only [ObR] at r
        obtain ⟨a', cp, e2⟩ := r.sli
        rw [e2] at r
        obtain ⟨ad, e3, _, _⟩ := Rep.hasAddr r hi
        subst e3
        exact ⟨ad, cp, e2⟩
      | some ic =>
        obtain ⟨i', c'⟩ := ic
        obtain ⟨_, _, ad, n', cp, e2, r⟩ := r
        obtain ⟨a', cp', e3⟩ := r.sli
        rw [e3] at r
        obtain ⟨ad', e4, _, _⟩ := Rep.hasAddr r hi
        subst e4
        exact ⟨ad', cp', e3⟩
    refine fin (e1.trans e2) b1 b2 h5 ⟨⟨_, rfl⟩, by rw [he]; simp, fun k' xs' g' hl e4 => ?_⟩
    rw [he] at e4; cases e4
    exact ⟨hi, ad, _, _, e2, by rw [Nat.add_zero]⟩
  case vw ob g i cc =>
    rw [Pg.wr] at h4
    split at h4 <;> try (cases h4; done)
    rename_i k xs g' he
    split at h4 <;> try (cases h4; done)
    rename_i hg
    split at h4 <;> try (cases h4; done)
    rename_i e' ys hl
    split at h4 <;> try (cases h4; done)
    rename_i hkk; subst hkk
    obtain ⟨b1, b2, h5⟩ := wr_inB h4
    have hj : n.toNat < ys.length := by omega
    obtain ⟨_, _, hc⟩ := h1
    obtain ⟨_, hc⟩ := hc k xs g' none he
    obtain ⟨hi, hcz, ad, n', cp, e3, e4⟩ := hc hg
    have r := M.objs ob _ he
    simp only [ObR] at r
    rw [e3] at r
    obtain ⟨u, hu', hr⟩ := Rep.elem r hi hcz
    rw [e4] at hu'; cases hu'
    have hl0 := hl
    rw [getD_get xs i _ hi] at hl
    rw [hl] at hr
    obtain ⟨a', cp', e5⟩ := Rep.sli hr
    rw [e5] at hr
    obtain ⟨ad', e6, _, _⟩ := Rep.hasAddr (e := e') hr hj
    subst e6
    refine fin e5 b1 b2 h5 ⟨⟨_, rfl⟩, by rw [he]; simp, fun k' xs' g2 hl2 e7 => ?_⟩
    rw [he] at e7; cases e7
    refine ⟨by omega, fun _ e2 ys2 hy => ?_⟩
    rw [hl0] at hy
    cases hy
    exact ⟨hi, hcz, hj, ad, _, _, e3, _, e4, ad', _, _, e5, by rw [Nat.add_zero]⟩
theorem run_fieldAt {fs : Array Field} {p : Addr} {f : Nat} {fd : Field} (hu : P.underlying t = some (.struct fs)) (hf : fs[f]? = some fd) (hc : 0 < P.cellsOf fd.type) : (Instr.fieldAt t (.pointer (some p)) f).run P w = .ok (.pointer (some (p.add fd.offset))) w := by
  have : ∃ i, P.info? fd.type = some i ∧ i.size ≠ 0 := by
    unfold Program.cellsOf at hc
    cases hi : P.info? fd.type with
    | none => rw [hi] at hc; simp at hc
    | some i => rw [hi] at hc; exact ⟨i, rfl, by simp at hc; omega⟩
  obtain ⟨i, h1, h2⟩ := this
  simp [Instr.fieldAt, run_underlying hu, hf, Instr.sureAddr, fieldPlace, sizeOf, typeInfo, h1, h2]
theorem do_fld {o : Oper} {x : Operand} {f off : Nat} (hT : TyOk P tt t ty) (ha : ty.agg = true) (hf : ty.offs[f]? = some off) (R : Rel n0 h0 lab0 nt σ a w) (hd : ∀ d', o.dst = some d' → d' < nt) (ho : o.op = .fieldAddr t x f)
    (h : (rdC x fun c => pfld o.dst off c).wr ev σ = some (ws, os)) : Did P n0 h0 lab0 nt o a w (σ.put ws os) := by
  obtain ⟨lab, adr, M, T⟩ := R.mem
  obtain ⟨c, h1, h2⟩ := wr_rdC T h
  obtain ⟨fs, hu, ho', hs', hz⟩ : ∃ fs, P.underlying t = some (.struct fs) ∧ fs.toList.map (·.offset) = ty.offs ∧ fs.toList.map (P.cellsOf ·.type) = ty.szs ∧ ∀ f ∈ fs.toList, 0 < P.cellsOf f.type := by
    rcases hT.und with ⟨_, h⟩ | ⟨ha', _⟩
    · exact h
    · rw [ha] at ha'; cases ha'
  have hfd : ∃ fd, fs[f]? = some fd ∧ fd.offset = off := by
    rw [← ho', List.getElem?_map] at hf
    obtain ⟨fd, h3, h4⟩ := Option.map_eq_some_iff.1 hf
    exact ⟨fd, by simpa using h3, h4⟩
  obtain ⟨fd, hfd, rfl⟩ := hfd
  have hpos : 0 < P.cellsOf fd.type := hz fd (by
    have : fs.toList[f]? = some fd := by simpa using hfd
    exact List.mem_of_getElem? this)
  have fin : ∀ {p : Addr} {r : CV}, a.eval x = .pointer (some p) → (ret1 o.dst r).wr ev σ = some (ws, os) → CVR (hp w) lab adr σ.o r (.pointer (some (p.add fd.offset))) → Did P n0 h0 lab0 nt o a w (σ.put ws os) := by
    intro p r e1 e2 e3
    refine ⟨_, w, .inl ?_, rel_ret R M T hd e2 e3⟩
    simp [execOp, ho, e1, run_fieldAt hu hfd hpos]
  cases c <;> simp only [pfld] at h2 <;> try (cases h2; done)
  case pc ob c =>
    rw [Pg.wr] at h2
    split at h2 <;> try (cases h2; done)
    rename_i cs he
    obtain ⟨b, e1, e2⟩ := h1.2.2 cs he
    refine fin e2 h2 ⟨⟨_, rfl⟩, by rw [he]; simp, fun cs' e3 => ⟨b, e1, ?_⟩⟩
    unfold Addr.add
    split <;> simp_all
  case pe ob i c =>
    rw [Pg.wr] at h2
    split at h2 <;> try (cases h2; done)
    rename_i k xs g he
    obtain ⟨hi, ad, n, cp, e1, e2⟩ := h1.2.2 k xs g none he
    refine fin e2 h2 ⟨⟨_, rfl⟩, by rw [he]; simp, fun k' xs' g' hl e3 => ?_⟩
    rw [he] at e3; cases e3
    exact ⟨hi, ad, n, cp, e1, by rw [add_add, Nat.add_assoc]⟩
  case pe2 ob g i c j c2 =>
    rw [Pg.wr] at h2
    split at h2 <;> try (cases h2; done)
    rename_i k xs g' he
    split at h2 <;> try (cases h2; done)
    rename_i hg
    split at h2 <;> try (cases h2; done)
    rename_i e' ys hl
    obtain ⟨h5, h6⟩ := h1.2.2 k xs g' none he
    obtain ⟨q1, q2, q3, ad, n, cp, e1, u, e2, ad2, n2, cp2, e3, e4⟩ := h6 hg e' ys hl
    refine fin e4 h2 ⟨⟨_, rfl⟩, by rw [he]; simp, fun k' xs' g2 hl2 e5 => ?_⟩
    rw [he] at e5; cases e5
    refine ⟨h5, fun _ e6 ys6 hl6 => ?_⟩
    rw [hl] at hl6; cases hl6
    exact ⟨q1, q2, q3, ad, n, cp, e1, u, e2, ad2, n2, cp2, e3, by rw [add_add, Nat.add_assoc]⟩
  case pi k xs i c =>
    obtain ⟨hi, u, r, ad, n, cp, e1, e2⟩ := h1
    exact fin e2 h2 ⟨hi, u, r, ad, n, cp, e1, by rw [add_add, Nat.add_assoc]⟩
/-! strings -/
theorem do_index {o : Oper} {x y : Operand} (hT : TyOk P tt t ty) (ha : ty.agg = false) (hk : ty.k = .str) (R : Rel n0 h0 lab0 nt σ a w) (hd : ∀ d', o.dst = some d' → d' < nt) (ho : o.op = .index t x y)
    (h : (rdC x fun c => rdC y fun c' => match c, c' with | .s s, .i _ n => inB n s.size (ret1 o.dst (.i .u8 (sAt s n))) | _, _ => .fail).wr ev σ = some (ws, os)) : Did P n0 h0 lab0 nt o a w (σ.put ws os) := by
  obtain ⟨lab, adr, M, T⟩ := R.mem
  obtain ⟨c, h1, h2⟩ := wr_rdC T h
  obtain ⟨c', h3, h4⟩ := wr_rdC T h2
  have hu := hT.str ha hk
  split at h4 <;> try (cases h4; done)
  rename_i s ik n
  have ex : a.eval x = .string s := h1
  have ey : a.eval y = .int ik n := h3
  obtain ⟨b1, b2, h5⟩ := wr_inB h4
  refine ⟨.int .u8 (sAt s n), w, .inl ?_, rel_ret R M T hd h5 rfl⟩
  have hn : n.toNat < s.size := by omega
  have e : s[n.toNat]? = some s[n.toNat] := by simp [hn]
  simp [execOp, ho, ex, ey, Instr.index, asIntOf, run_underlying hu, b1, e]
  unfold sAt
  rw [dif_pos hn]
theorem wr_cut {len : Nat} {lo hi : Option Int} {f : Nat → Nat → Pg} {W : Ws} (h : (pcut len lo hi f).wr ev σ = some W) : 0 ≤ lo.getD 0 ∧ lo.getD 0 ≤ hi.getD len ∧ hi.getD len ≤ len ∧ (f (lo.getD 0).toNat (hi.getD len).toNat).wr ev σ = some W := by
  unfold pcut at h
  rw [Pg.wr] at h
  split at h <;> try (cases h; done)
  rw [Pg.wr] at h
  split at h <;> try (cases h; done)
  rw [Pg.wr] at h
  split at h <;> try (cases h; done)
  rename_i h1 h2 h3
  exact ⟨of_decide_eq_true h1, of_decide_eq_true h2, of_decide_eq_true h3, h⟩
end
end Go.Proofs.Ytnbfhbfnccihgaa.E

/- What each operation does: memory that changes. -/
namespace Go.Proofs.Ytnbfhbfnccihgaa.E
open Go
set_option linter.unusedVariables false
set_option linter.unusedSimpArgs false
section
variable {n0 : Nat} {h0 : Ent} {lab0 : Lb} {nt : Nat} {σ : St} {a : Act} {w w' : World} {ev : Ev} {P : Program} {lab lab' : Lb} {adr adr' : Nat → Value} {ws : List (Nat × AV)} {os : List (Nat × OV)} {tt : Tys} {t : TypeId} {ty : Ty} {ob ob' : Nat → Option OV}
theorem setH_ne {h : Hp} {p : Addr} {v : Value} {b : Nat} (hb : b ≠ p.block) : setH h p v b = h b := by unfold setH; rw [if_neg hb]
theorem setH_some {h : Hp} {p : Addr} {v : Value} {b : Nat} (hb : setH h p v b ≠ none) : h b ≠ none := by
  intro e; apply hb; unfold setH; split
  · rw [e]
  · exact e
theorem setH_congr {h h' : Hp} {p : Addr} {v : Value} {b : Nat} (e : h' b = h b) : setH h' p v b = setH h p v b := by unfold setH; rw [e]
/-- An object that nothing happens to. -/
theorem ObR.same {h h' : Hp} {o : Nat} {v : OV} (hf : ∀ b, lab b = none → h b ≠ none → lab' b = none ∧ h' b = h b) (hg : ∀ o, Goes h h' adr adr' ob ob' o) (ha : adr' o = adr o)
    (hl : ∀ b q, lab b = some (o :: q) → h b ≠ none → lab' b = lab b ∧ h' b = h b) (r : ObR h lab adr ob o v) : ObR h' lab' adr' ob' o v := by
  cases v with
  | dead => trivial
  | box cs =>
    obtain ⟨b, arr, t, r1, r2, r3, r4⟩ := r
    obtain ⟨e1, e2⟩ := hl b [] r2 (by rw [r3]; simp)
    exact ⟨b, arr, t, by rw [ha, r1], by rw [e1, r2], by rw [e2, r3], r4.over hf hg⟩
  | arr k xs g hole =>
    cases hole with
    | none =>
      show Rep h' lab' (.sl k) (some [o]) xs [adr' o]
      rw [ha]
      exact Rep.frame (fun b q e hn => hl b q (by simpa [ext] using e) hn) r
    | some ic =>
      obtain ⟨i, c⟩ := ic
      obtain ⟨r1, r2, ad, n, cp, r3, r4⟩ := r
      refine ⟨r1, r2, ad, n, cp, by rw [ha, r3], ?_⟩
      rw [ha]
      refine Rep.frame (fun b q e hn => ?_) r4
      have := hl b q (by simpa [ext] using e) (setH_some hn)
      exact ⟨this.1, setH_congr this.2⟩
theorem Mem.step (M : Mem n0 h0 lab0 ob w lab adr) (hs : w.heap.size ≤ w'.heap.size ∧ Sm w w') (hf : ∀ b, lab b = none → hp w b ≠ none → lab' b = none ∧ hp w' b = hp w b)
    (hX : ∀ b r, lab b = some (X :: r) → hp w b ≠ none → lab' b = lab b ∧ hp w' b = hp w b) (hnx : ob' X = none) (hg : ∀ o, Goes (hp w) (hp w') adr adr' ob ob' o)
    (hb : ∀ b, lab' b ≠ none → b < w'.heap.size) (ho : ∀ o v, ob' o = some v → ObR (hp w') lab' adr' ob' o v) : Mem n0 h0 lab0 ob' w' lab' adr' := by
  refine ⟨ho, fun b hb0 hl => ?_, hb, Nat.le_trans M.siz hs.1, M.sm.trans hs.2, hnx, fun o hlt => ?_, M.ent, M.glob⟩
  · obtain ⟨e1, e2⟩ := M.frz b hb0 hl
    have hx : hp w b ≠ none := by
      have := M.siz
      show w.heap[b]? ≠ none
      rw [Array.getElem?_eq_getElem (by omega)]; simp
    cases hl0 : lab0 b with
    | none =>
      obtain ⟨e3, e4⟩ := hf b (e2.trans hl0) hx
      exact ⟨by rw [← e1]; exact e4, e3⟩
    | some l =>
      obtain ⟨o, r, rfl, ho'⟩ := M.ent b l hl0
      have hoX : o = X := by
        rcases ho' with h | h
        · have := hl o r hl0; omega
        · exact h
      subst hoX
      obtain ⟨e3, e4⟩ := hX b r (e2.trans hl0) hx
      exact ⟨by rw [← e1]; exact e4, by rw [e3, e2, hl0]⟩
  · obtain ⟨p1, p2⟩ := M.par o hlt
    refine ⟨(hg o).isSome p1, fun v hv hnd => ?_⟩
    rcases hg o with c | c | ⟨c1, c2, _⟩ | ⟨cs, cs', c1, c2, c3⟩ | ⟨_, _, _, _, _, _, _, c1, c2, _, _, c3⟩
    · exact absurd c p1
    · rw [c] at hv; cases hv; exact absurd rfl hnd
    · rw [c2]; exact p2 v (by rw [← c1, hv]) hnd
    · rw [c3]; exact p2 _ c1 (by simp)
    · rw [c3]; exact p2 _ c1 (by simp)
theorem hp_lt {b : Nat} (h : hp w b ≠ none) : b < w.heap.size := by
  rcases Nat.lt_or_ge b w.heap.size with h1 | h1
  · exact h1
  · exact absurd (Array.getElem?_eq_none h1) h
/-- The block of an object's list. -/
theorem Mem.blk (M : Mem n0 h0 lab0 ob w lab adr) {o : Nat} {k : K} {xs : List (den k)} {g : Nat} {hole : Option (Nat × Nat)} (he : ob o = some (.arr k xs g hole)) {ad : Addr} {n cp : Nat} (ha : adr o = .slice (some ad) n cp) :
    ad.spot = none ∧ lab ad.block = some [o] ∧ ∃ arr t fr, hp w ad.block = some (.cells arr t fr) ∧ Fz fr arr.size ∧ ad.off + cp * sz k ≤ arr.size := by
  have r := M.objs o _ he
  cases hole with
  | none =>
    simp only [ObR] at r
    rw [ha] at r
    obtain ⟨a', n', c', e, _, _, ho, _⟩ := r
    simp at e
    obtain ⟨rfl, rfl, rfl⟩ := e
    exact (ho [o] rfl).2 ad rfl
  | some ic =>
    obtain ⟨i, c⟩ := ic
    obtain ⟨_, _, ad2, n2, cp2, e2, r⟩ := r
    rw [ha] at e2 r
    simp at e2
    obtain ⟨rfl, rfl, rfl⟩ := e2
    obtain ⟨a', n', c', e, _, _, ho, _⟩ := r
    simp at e
    obtain ⟨rfl, rfl, rfl⟩ := e
    obtain ⟨s1, s2, arr, t, fr, s3, s5, s4⟩ := (ho [o] rfl).2 ad rfl
    refine ⟨s1, s2, ?_⟩
    unfold setH at s3
    rw [add_block, if_pos rfl] at s3
    split at s3
    · rename_i c' t' f' hh
      simp at s3
      obtain ⟨s3, rfl, rfl⟩ := s3
      refine ⟨_, _, _, hh, ?_⟩
      rw [← s3, Array.size_setIfInBounds] at s4 s5
      exact ⟨s5, s4⟩
    · rename_i hh
      rw [s3] at hh
      exact absurd rfl (hh _ _ _)
/-- An object goes over as it was, if its blocks do. -/
theorem Goes.same (M : Mem n0 h0 lab0 ob w lab adr) {o : Nat} (h1 : ob' o = ob o) (h2 : adr' o = adr o) (hl : ∀ b q, lab b = some (o :: q) → hp w b ≠ none → hp w' b = hp w b) : Goes (hp w) (hp w') adr adr' ob ob' o := by
  cases he : ob o with
  | none => exact .inl he
  | some v =>
    cases v with
    | dead => exact .inr (.inl (h1.trans he))
    | box cs => exact .inr (.inr (.inr (.inl ⟨cs, cs, he, h1.trans he, h2⟩)))
    | arr k xs g hole =>
      refine .inr (.inr (.inl ⟨h1, h2, fun ad n cp e => ?_⟩))
      obtain ⟨_, e1, arr, t, _, e2, _⟩ := M.blk he e
      exact hl _ [] e1 (by rw [e2]; simp)
/-! objects that are moved under another one -/
structure Mvd (ob : Nat → Option OV) (T : Nat) (os : List (Nat × OV)) (lab lab' : Lb) : Prop where
  dead : ∀ o v, (o, v) ∈ os → v = .dead ∧ ob o ≠ none
  none : ∀ b, lab b = none → lab' b = none
  keep : ∀ b o q, lab b = some (o :: q) → o ∉ os.map (·.1) → lab' b = lab b
  mvd : ∀ b o q, lab b = some (o :: q) → o ∈ os.map (·.1) → ∃ q', lab' b = some (T :: q')
  nil : ∀ b, lab b = some [] → lab' b = some []
theorem Mvd.refl (T : Nat) (lab : Lb) : Mvd ob T [] lab lab := ⟨fun _ _ h => (by cases h), fun _ h => h, fun _ _ _ _ _ => rfl, fun _ _ _ _ h => by simp at h, fun _ h => h⟩
theorem Mvd.bnd {T : Nat} (m : Mvd ob T os lab lab') {b : Nat} (h : lab' b ≠ Option.none) : lab b ≠ Option.none := fun e => h (m.none b e)
/-- One object goes to a path. -/
def mv1 (o : Nat) (Q : List Nat) (lab : Lb) : Lb := fun b => match lab b with | some (o' :: q) => if o' = o then some (Q ++ q) else some (o' :: q) | l => l
theorem mv1_self {o : Nat} {Q : List Nat} {b : Nat} {q : List Nat} (h : lab b = some (o :: q)) : mv1 o Q lab b = some (Q ++ q) := by unfold mv1; rw [h]; simp
theorem mv1_ne {o o' : Nat} {Q : List Nat} {b : Nat} {q : List Nat} (h : lab b = some (o' :: q)) (hn : o' ≠ o) : mv1 o Q lab b = lab b := by unfold mv1; rw [h]; simp [hn]
theorem mv1_none {o : Nat} {Q : List Nat} {b : Nat} (h : lab b = none) : mv1 o Q lab b = none := by unfold mv1; rw [h]
/-- What is put into a cell of an own list. -/
theorem wr_toLf {k : K} {c : CV} {u : Value} {f : Lf → List (Nat × OV) → Pg} {W : Ws} (M : Mem n0 h0 lab0 σ.o w lab adr) (hc : CVR (hp w) lab adr σ.o c u) (h : (toLf k c f).wr ev σ = some W) :
    ∃ y os', (f y os').wr ev σ = some W ∧ y.k = k ∧ ((os' = [] ∧ ∀ h lab p, Rep h lab y.k p y.x [u]) ∨ (∃ o, os' = [(o, .dead)] ∧ (∃ e xs g, σ.o o = some (.arr e xs g none)) ∧ Rep (hp w) lab y.k (some [o]) y.x [u])) := by
  unfold toLf at h
  split at h
  · split at h
    · rename_i e; subst e
      exact ⟨_, _, h, rfl, .inl ⟨rfl, fun _ _ _ => by show [u] = [_]; rw [show u = _ from hc]⟩⟩
    · cases h
  · exact ⟨_, _, h, rfl, .inl ⟨rfl, fun _ _ _ => by show [u] = [_]; rw [show u = _ from hc]⟩⟩
  · exact ⟨_, _, h, rfl, .inl ⟨rfl, fun _ _ _ => by show [u] = [_]; rw [show u = _ from hc]⟩⟩
  · refine ⟨_, _, h, rfl, .inl ⟨rfl, fun h lab p => ⟨none, 0, 0, by rw [show u = _ from hc], rfl, Nat.le_refl _, fun P e => ⟨fun _ => by simp, fun ad e => by cases e⟩, fun h => absurd h (Nat.lt_irrefl 0), fun ad e => by cases e⟩⟩⟩
  · rename_i e o
    rw [Pg.wr] at h
    split at h <;> try (cases h; done)
    rename_i e' xs g he
    split at h <;> try (cases h; done)
    rename_i hh; subst hh
    have r := M.objs o _ he
    simp only [ObR] at r
    refine ⟨_, _, h, rfl, .inr ⟨o, rfl, ⟨_, _, _, he⟩, ?_⟩⟩
    rw [hc.2.2 _ _ _ _ he]
    exact r
  · cases h
theorem take_set_drop (us vals : List Value) (c : Nat) (u : Value) (h : c < us.length) : ((us.set c u).take (c + 1) ++ vals ++ (us.set c u).drop (c + 1 + vals.length)) = us.take c ++ (u :: vals) ++ us.drop (c + (u :: vals).length) := by
  rw [List.take_succ_eq_append_getElem (by simpa using h), List.take_set_of_le (Nat.le_refl _), List.getElem_set_self, List.drop_set_of_lt (by omega), show c + 1 + vals.length = c + (vals.length + 1) from by omega]
  simp only [List.append_assoc, List.singleton_append, List.cons_append, List.length_cons, List.nil_append]
/-- One more object goes under T. -/
theorem Mvd.add {T o : Nat} {Q : List Nat} {lab1 : Lb} (m : Mvd ob T os lab lab1) (hne : o ≠ T) (hn : o ∉ os.map (·.1)) (ho : ob o ≠ Option.none) : Mvd ob T (os ++ [(o, .dead)]) lab (mv1 o (T :: Q) lab1) := by
  refine ⟨fun o' v h => ?_, fun b h => mv1_none (m.none b h), fun b o' q h hk => ?_, fun b o' q h hk => ?_, fun b h => ?_⟩
  · rcases List.mem_append.1 h with h | h
    · exact m.dead o' v h
    · simp at h; obtain ⟨rfl, rfl⟩ := h; exact ⟨rfl, ho⟩
  · simp at hk
    have e := m.keep b o' q h (by simpa using hk.1)
    rw [← e]
    exact mv1_ne (e.trans h) hk.2
  · by_cases ho' : o' ∈ os.map (·.1)
    · obtain ⟨q', e⟩ := m.mvd b o' q h ho'
      exact ⟨q', by rw [mv1_ne e (fun e => hne e.symm), e]⟩
    · have e := m.keep b o' q h ho'
      have : o' = o := by simp at hk; rcases hk with hk | hk; · exact absurd (by simpa using hk) ho'
                          · exact hk
      subst this
      exact ⟨Q ++ q, by rw [mv1_self (e.trans h)]; rfl⟩
  · have := m.nil b h
    unfold mv1; rw [this]
/-- An element is put together, cell by cell; what is moved there goes under its path. -/
theorem wr_setLfs {e : K} {T : Nat} {P' : List Nat} (M : Mem n0 h0 lab0 σ.o w lab adr) : ∀ (cs : List CV) (vals : List Value) (c : Nat) (x : den e) (os : List (Nat × OV)) (lab1 : Lb) (us : List Value) (f : den e → List (Nat × OV) → Pg) (W : Ws),
    CVRs (hp w) lab adr σ.o cs vals → c + cs.length ≤ sz e → (setLfs T e c cs x os f).wr ev σ = some W → Mvd σ.o T os lab lab1 → Rep (hp w) lab1 e (some (T :: P')) x us →
    ∃ x' os' lab2, (f x' os').wr ev σ = some W ∧ Mvd σ.o T os' lab lab2 ∧ Rep (hp w) lab2 e (some (T :: P')) x' (us.take c ++ vals ++ us.drop (c + vals.length)) ∧
      (∀ b q, lab1 b = some (T :: q) → (∀ r, q ≠ P' ++ r) → lab2 b = lab1 b) ∧ ∃ os2, os' = os ++ os2
  | [], vals, c, x, os, lab1, us, f, W, hc, hz, h, m, r => by
    obtain rfl : vals = [] := List.length_eq_zero_iff.1 hc.1.symm
    exact ⟨x, os, lab1, h, m, by simpa using r, fun _ _ _ _ => rfl, [], by simp⟩
  | cv :: cs, [], c, x, os, lab1, us, f, W, hc, hz, h, m, r => by have := hc.1; simp at this
  | cv :: cs, val :: vals, c, x, os, lab1, us, f, W, hc, hz, h, m, r => by
    have hlen := Rep.len r
    have hcc : c < sz e := by simp at hz; omega
    obtain ⟨v, hv1, hv2⟩ := hc.2 0 cv rfl
    simp at hv1; subst hv1
    have hc' : CVRs (hp w) lab adr σ.o cs vals := ⟨by have := hc.1; simpa using this, fun j c hj => by
      obtain ⟨u, h1, h2⟩ := hc.2 (j + 1) c (by simpa using hj)
      exact ⟨u, by simpa using h1, h2⟩⟩
    unfold setLfs at h
    obtain ⟨y, os1, h1, hk, hy⟩ := wr_toLf M hv2 h
    split at h1
    · cases h1
    rename_i hdis
    split at h1 <;> try (cases h1; done)
    rename_i x' hx'
    have key : ∃ lab1', Mvd σ.o T (os ++ os1) lab lab1' ∧ Rep (hp w) lab1' e (some (T :: P')) x' (us.set c val) ∧ (∀ b q, lab1 b = some (T :: q) → lab1' b = lab1 b) := by
      rcases hy with ⟨rfl, hy⟩ | ⟨o, rfl, ⟨e2, xs2, g2, ho⟩, hy⟩
      · refine ⟨lab1, by rw [List.append_nil]; exact m, ?_, fun _ _ _ => rfl⟩
        exact Rep.leafSet r hcc hx' (fun b q _ _ _ => ⟨rfl, rfl⟩) (hy _ _ _)
      · simp at hdis
        have hne : o ≠ T := hdis.1
        have hn : o ∉ os.map (·.1) := by simpa using hdis.2
        have hlT : ∀ b q, lab1 b = some (T :: q) → mv1 o (T :: (P' ++ leafP e c)) lab1 b = lab1 b := fun b q hb => mv1_ne hb (fun e => hne e.symm)
        refine ⟨mv1 o (T :: (P' ++ leafP e c)) lab1, m.add hne hn (by rw [ho]; simp), ?_, hlT⟩
        refine Rep.leafSet r hcc hx' (fun b q hb _ _ => ⟨hlT b _ (by simpa [ext] using hb), rfl⟩) ?_
        refine Rep.relab (p := some [o]) (fun _ _ => ⟨_, rfl⟩) (fun b q hb hx => ⟨?_, rfl⟩) hy
        have hb' : lab b = some (o :: q) := by simpa [ext] using hb
        have e1 := m.keep b o q hb' hn
        rw [mv1_self (e1.trans hb')]
        simp [ext]
    obtain ⟨lab1', m', r', hl'⟩ := key
    obtain ⟨x2, os2, lab2, q1, q2, q3, q4, os3, q5⟩ := wr_setLfs M cs vals (c + 1) x' (os ++ os1) lab1' (us.set c val) f W hc' (by simp at hz; omega) h1 m' r'
    refine ⟨x2, os2, lab2, q1, q2, ?_, fun b q hb hq => ?_, os1 ++ os3, by rw [q5, List.append_assoc]⟩
    · rw [take_set_drop us vals c val (by omega)] at q3
      exact q3
    · rw [q4 b q (by rw [hl' b q hb, hb]) hq, hl' b q hb]
end
end Go.Proofs.Ytnbfhbfnccihgaa.E

/- What each operation does: objects that are made and written. -/
namespace Go.Proofs.Ytnbfhbfnccihgaa.E
open Go
set_option linter.unusedVariables false
set_option linter.unusedSimpArgs false
section
variable {n0 : Nat} {h0 : Ent} {lab0 : Lb} {nt : Nat} {σ : St} {a : Act} {w w' : World} {ev : Ev} {P : Program} {lab lab' : Lb} {adr adr' : Nat → Value} {ws : List (Nat × AV)} {os : List (Nat × OV)} {tt : Tys} {t : TypeId} {ty : Ty} {ob ob' : Nat → Option OV}
/-- An object that nothing happens to. -/
def Still (h h' : Hp) (lab lab' : Lb) (adr adr' : Nat → Value) (ob ob' : Nat → Option OV) (o : Nat) : Prop :=
  ob' o = ob o ∧ adr' o = adr o ∧ ∀ b q, lab b = some (o :: q) → h b ≠ none → lab' b = lab b ∧ h' b = h b
theorem rel_upd {d : Option Nat} {v : AV} {val : Value} (R : Rel n0 h0 lab0 nt σ a w) (M : Mem n0 h0 lab0 σ.o w lab adr) (T : ∀ t, AVR (hp w) lab adr σ.o (σ.t t) (a.tmps.getD t undef)) (hd : ∀ d', d = some d' → d' < nt)
    (hws : ws = wsOf d v) (hs : w.heap.size ≤ w'.heap.size ∧ Sm w w') (hf : ∀ b, lab b = none → hp w b ≠ none → lab' b = none ∧ hp w' b = hp w b) (hb : ∀ b, lab' b ≠ none → b < w'.heap.size)
    (hxn : (σ.put ws os).o X = none)
    (hobj : ∀ o, Still (hp w) (hp w') lab lab' adr adr' σ.o (σ.put ws os).o o ∨ (σ.put ws os).o o = some .dead ∨
      (o ≠ X ∧ Goes (hp w) (hp w') adr adr' σ.o (σ.put ws os).o o ∧ ((∀ o, Goes (hp w) (hp w') adr adr' σ.o (σ.put ws os).o o) → ∀ v, (σ.put ws os).o o = some v → ObR (hp w') lab' adr' (σ.put ws os).o o v)))
    (hv : d ≠ none → AVR (hp w') lab' adr' (σ.put ws os).o v val) : Rel n0 h0 lab0 nt (σ.put ws os) (a.put d val) w' := by
  have hg : ∀ o, Goes (hp w) (hp w') adr adr' σ.o (σ.put ws os).o o := by
    intro o
    rcases hobj o with ⟨h1, h2, h3⟩ | h1 | ⟨_, h1, _⟩
    · exact Goes.same M h1 h2 (fun b q e hn => (h3 b q e hn).2)
    · exact .inr (.inl h1)
    · exact h1
  refine Rel.fin R hd hws (Mem.step M hs hf (fun b r hb hx => ?_) hxn hg hb (fun o u hu => ?_)) (fun t => (T t).over hf hg) hv
  · rcases hobj X with ⟨_, _, h3⟩ | h1 | ⟨h1, _⟩
    · exact h3 b r hb hx
    · rw [hxn] at h1; cases h1
    · exact absurd rfl h1
  rcases hobj o with ⟨h1, h2, h3⟩ | h1 | ⟨_, _, h1⟩
  · exact ObR.same hf hg h2 h3 (M.objs o u (by rw [← h1, hu]))
  · rw [h1] at hu; cases hu; trivial
  · exact h1 hg u hu
theorem put_o_one (σ : St) (ws : List (Nat × AV)) (o : Nat) (v : OV) (os : List (Nat × OV)) (n : Nat) : (σ.put ws ((o, v) :: os)).o n = if o = n then some v else (look os n).or (σ.o n) := by
  rw [St.put_o]; simp only [look]; split <;> simp
theorem newO_wr {d : Option Nat} {f : Nat → CV} {v : OV} {os1 : List (Nat × OV)} (h : (newO d f v os1).wr ev σ = some (ws, os)) : ∃ d', d = some d' ∧ σ.o (nm d' 0) = none ∧ ws = [(d', .one (f (nm d' 0)))] ∧ os = (nm d' 0, v) :: os1 := by
  unfold newO at h
  cases d with
  | none => cases h
  | some d' =>
    rw [Pg.wr] at h
    split at h <;> try (cases h; done)
    rename_i he
    simp [Pg.wr] at h
    exact ⟨d', rfl, he, h.1.symm, h.2.symm⟩
theorem nmX (d j : Nat) : nm d j ≠ X := by unfold nm X; omega
theorem look_dead {os : List (Nat × OV)} (hd : ∀ o v, (o, v) ∈ os → v = .dead) (o : Nat) : (o ∈ os.map (·.1) → look os o = some .dead) ∧ (o ∉ os.map (·.1) → look os o = none) := by
  induction os with
  | nil => simp [look]
  | cons p l ih =>
    obtain ⟨m, v⟩ := p
    have hv := hd m v List.mem_cons_self
    obtain ⟨i1, i2⟩ := ih (fun o v h => hd o v (List.mem_cons_of_mem _ h))
    simp only [look]
    by_cases e : m = o
    · subst e; simp [hv]
    · rw [if_neg e]
      refine ⟨fun h => ?_, fun h => ?_⟩
      · simp only [List.map_cons, List.mem_cons] at h
        rcases h with h | h
        · exact absurd h.symm e
        · exact i1 h
      · simp only [List.map_cons, List.mem_cons, not_or] at h
        exact i2 h.2
/-- A new block. -/
def labN (w : World) (N : Nat) (lab : Lb) : Lb := fun b => if b = w.heap.size then some [N] else lab b
def adrN (N : Nat) (v : Value) (adr : Nat → Value) : Nat → Value := fun o => if o = N then v else adr o
/-- A new object in a new block; others are moved under it. -/
theorem rel_new {d : Option Nat} {f : Nat → CV} {v : OV} {os1 : List (Nat × OV)} {val : Value} {lab2 : Lb} {arr : Array Value} {ta : TypeId} {fr : Nat × Nat} (R : Rel n0 h0 lab0 nt σ a w) (M : Mem n0 h0 lab0 σ.o w lab adr) (T : ∀ t, AVR (hp w) lab adr σ.o (σ.t t) (a.tmps.getD t undef)) (hd : ∀ d', d = some d' → d' < nt)
    (h : (newO d f v os1).wr ev σ = some (ws, os)) (hw1 : w'.heap.size = w.heap.size + 1 ∧ Sm w w') (hw2 : ∀ b, b < w.heap.size → w'.heap[b]? = w.heap[b]?) (hw3 : w'.heap[w.heap.size]? = some (.cells arr ta fr))
    (hm : ∀ d', d = some d' → σ.o (nm d' 0) = none → Mvd σ.o (nm d' 0) os1 lab lab2)
    (ho : ∀ d', d = some d' → σ.o (nm d' 0) = none → ∀ ob' : Nat → Option OV, ob' (nm d' 0) = some v → (∀ o, Goes (hp w) (hp w') adr (adrN (nm d' 0) val adr) σ.o ob' o) → ObR (hp w') (labN w (nm d' 0) lab2) (adrN (nm d' 0) val adr) ob' (nm d' 0) v)
    (hv : ∀ d', d = some d' → ∀ ob' : Nat → Option OV, ob' (nm d' 0) = some v → CVR (hp w') (labN w (nm d' 0) lab2) (adrN (nm d' 0) val adr) ob' (f (nm d' 0)) val) : Rel n0 h0 lab0 nt (σ.put ws os) (a.put d val) w' := by
  obtain ⟨hw1, hsm⟩ := hw1
  obtain ⟨d', rfl, hN, rfl, rfl⟩ := newO_wr h
  have m := hm d' rfl hN
  have hob : (σ.put [(d', .one (f (nm d' 0)))] ((nm d' 0, v) :: os1)).o (nm d' 0) = some v := by rw [St.put_o]; simp [look]
  refine rel_upd (lab' := labN w (nm d' 0) lab2) (adr' := adrN (nm d' 0) val adr) (v := .one (f (nm d' 0))) R M T hd rfl ⟨by omega, hsm⟩ (fun b hb hx => ?_) (fun b hb => ?_) ?_ (fun o => ?_) (fun _ => hv d' rfl _ hob)
  · have hlt := hp_lt hx
    unfold labN
    rw [if_neg (by omega)]
    exact ⟨m.none b hb, hw2 b hlt⟩
  · unfold labN at hb
    split at hb
    · omega
    · have := M.bnd b (m.bnd hb); omega
  · rw [put_o_one, if_neg (nmX d' 0), (look_dead (fun o v h => (m.dead o v h).1) X).2 (fun hm => ?_)]
    · exact M.nox
    · obtain ⟨⟨o, v⟩, h1, rfl⟩ := List.mem_map.1 hm
      exact (m.dead _ _ h1).2 M.nox
  · by_cases e : o = nm d' 0
    · subst e
      exact .inr (.inr ⟨nmX d' 0, .inl hN, fun hg u hu => by rw [hob] at hu; cases hu; exact ho d' rfl hN _ hob hg⟩)
    · have e1 : (σ.put [(d', .one (f (nm d' 0)))] ((nm d' 0, v) :: os1)).o o = (look os1 o).or (σ.o o) := by
        rw [St.put_o]; simp only [look]; rw [if_neg (fun h => e h.symm)]
      obtain ⟨l1, l2⟩ := look_dead (fun o v h => (m.dead o v h).1) o
      by_cases hm' : o ∈ os1.map (·.1)
      · exact .inr (.inl (by rw [e1, l1 hm']; rfl))
      · refine .inl ⟨by rw [e1, l2 hm']; rfl, by unfold adrN; rw [if_neg e], fun b q hb hx => ?_⟩
        have hlt := hp_lt hx
        unfold labN
        rw [if_neg (by omega)]
        exact ⟨m.keep b o q hb hm', hw2 b hlt⟩
theorem hp_alloc {o : Obj} : ((w.alloc o).heap.size = w.heap.size + 1 ∧ Sm w (w.alloc o)) ∧ (∀ b, b < w.heap.size → (w.alloc o).heap[b]? = w.heap[b]?) ∧ (w.alloc o).heap[w.heap.size]? = some o :=
  ⟨⟨by show (w.heap.push o).size = _; simp, ⟨rfl, rfl, rfl⟩⟩, fun b hb => by show (w.heap.push o)[b]? = _; rw [Array.getElem?_push, if_neg (Nat.ne_of_lt hb)], by show (w.heap.push o)[w.heap.size]? = _; simp⟩
/-- A variable in memory. -/
theorem rel_box {d : Option Nat} {cs : List CV} {arr : Array Value} {ta : TypeId} (R : Rel n0 h0 lab0 nt σ a w) (M : Mem n0 h0 lab0 σ.o w lab adr) (T : ∀ t, AVR (hp w) lab adr σ.o (σ.t t) (a.tmps.getD t undef)) (hd : ∀ d', d = some d' → d' < nt)
    (h : (newO d (fun o => .pc o 0) (.box cs) []).wr ev σ = some (ws, os)) (hc : CVRs (hp w) lab adr σ.o cs arr.toList) : Rel n0 h0 lab0 nt (σ.put ws os) (a.put d (.pointer (some ⟨w.heap.size, 0, none⟩))) (w.alloc (.cells arr ta)) := by
  obtain ⟨w1, w2, w3⟩ := hp_alloc (w := w) (o := .cells arr ta)
  have hf : ∀ N, ∀ b, lab b = none → hp w b ≠ none → labN w N lab b = none ∧ hp (w.alloc (.cells arr ta)) b = hp w b := by
    intro N b hb hx
    have hlt := hp_lt hx
    unfold labN
    rw [if_neg (by omega)]
    exact ⟨hb, w2 b hlt⟩
  refine rel_new (lab2 := lab) R M T hd h w1 w2 w3 (fun d' _ _ => Mvd.refl _ _) (fun d' _ hN ob' ho hg => ?_) (fun d' _ ob' ho => ?_)
  · exact ⟨w.heap.size, arr, ta, by unfold adrN; rw [if_pos rfl], by unfold labN; rw [if_pos rfl], w3, hc.over (hf _) hg⟩
  · exact ⟨⟨_, rfl⟩, by rw [ho]; simp, fun cs' _ => ⟨w.heap.size, by unfold adrN; rw [if_pos rfl], rfl⟩⟩
theorem zeros_R (h : Hp) (lab : Lb) (adr : Nat → Value) (ob : Nat → Option OV) : ∀ k : K, CVRs h lab adr ob (zeros k) ((zeros k).map cvV)
  | .int k => ⟨rfl, fun j c hj => by
    match j, hj with
    | 0, hj => cases hj; exact ⟨_, rfl, rfl⟩⟩
  | .bool => ⟨rfl, fun j c hj => by
    match j, hj with
    | 0, hj => cases hj; exact ⟨_, rfl, rfl⟩⟩
  | .str => ⟨rfl, fun j c hj => by
    match j, hj with
    | 0, hj => cases hj; exact ⟨_, rfl, rfl⟩⟩
  | .sl _ => ⟨rfl, fun j c hj => by
    match j, hj with
    | 0, hj => cases hj; exact ⟨_, rfl, rfl⟩⟩
  | .pair a b => by
    obtain ⟨l1, r1⟩ := zeros_R h lab adr ob a
    obtain ⟨l2, r2⟩ := zeros_R h lab adr ob b
    refine ⟨by simp, fun j c hj => ?_⟩
    simp only [zeros, List.map_append] at hj ⊢
    by_cases hlt : j < (zeros a).length
    · rw [List.getElem?_append_left hlt] at hj
      obtain ⟨v, h1, h2⟩ := r1 j c hj
      exact ⟨v, by rw [List.getElem?_append_left (by simpa using hlt)]; exact h1, h2⟩
    · rw [List.getElem?_append_right (by omega)] at hj
      obtain ⟨v, h1, h2⟩ := r2 _ c hj
      exact ⟨v, by rw [List.getElem?_append_right (by simp; omega)]; simpa using h1, h2⟩
theorem do_alloc {o : Oper} (hT : TyOk P tt t ty) (R : Rel n0 h0 lab0 nt σ a w) (hd : ∀ d', o.dst = some d' → d' < nt) (ho : o.op = .alloc t)
    (h : (newO o.dst (fun o => .pc o 0) (.box (zeros ty.k)) []).wr ev σ = some (ws, os)) : Did P n0 h0 lab0 nt o a w (σ.put ws os) := by
  obtain ⟨lab, adr, M, T⟩ := R.mem
  obtain ⟨i, z, i1, i2, i3, i4, i5⟩ := hT.info
  refine ⟨_, _, .inl ?_, rel_box (arr := z.cells) (ta := t) R M T hd h (by rw [i5]; exact zeros_R _ _ _ _ _)⟩
  simp [execOp, ho, Instr.alloc, zeroValue, typeInfo, i1, i4, newVar, newRow]
/-- The cells of a value. -/
theorem cells_R {h : Hp} {v : AV} {val : Value} (r : AVR h lab adr ob v val) (hv : (cells v).all okC = true) (hl : 0 < (cells v).length) : CVRs h lab adr ob (cells v) val.cells.toList := by
  cases v with
  | one c =>
    have hc : val.cells = #[val] := by
      cases c with
      | u => simp [cells, okC] at hv
      | i k n => rw [show val = _ from r]; rfl
      | b b => rw [show val = _ from r]; rfl
      | s s => rw [show val = _ from r]; rfl
      | nil => rw [show val = _ from r]; rfl
      | ls k xs => obtain ⟨a', c', e⟩ := Rep.sli r; rw [e]; rfl
      | sl o => obtain ⟨⟨_, _, _, e⟩, _⟩ := r; rw [e]; rfl
      | vw o g i c => obtain ⟨⟨_, _, _, e⟩, _⟩ := r; rw [e]; rfl
      | pc o c => obtain ⟨⟨_, e⟩, _⟩ := r; rw [e]; rfl
      | pe o i c => obtain ⟨⟨_, e⟩, _⟩ := r; rw [e]; rfl
      | pe2 o g i c j c2 => obtain ⟨⟨_, e⟩, _⟩ := r; rw [e]; rfl
      | pi k xs i c => obtain ⟨_, u, _, ad, n, cp, _, e⟩ := r; rw [e]; rfl
      | fn f => rw [show val = _ from r]; rfl
    rw [hc]
    refine ⟨rfl, fun j c' hj => ?_⟩
    match j, hj with
    | 0, hj => cases hj; exact ⟨val, rfl, r⟩
  | agg l => obtain ⟨vs, e, r⟩ := r; rw [e]; exact r
  | tup l => simp [cells] at hl
theorem do_box {o : Oper} {x : Operand} (R : Rel n0 h0 lab0 nt σ a w) (hd : ∀ d', o.dst = some d' → d' < nt) (ho : o.op = .box t x)
    (h : (rdX x fun v => if (cells v).all okC = true ∧ 0 < (cells v).length then newO o.dst (fun o => .pc o 0) (.box (cells v)) [] else .fail).wr ev σ = some (ws, os)) : Did P n0 h0 lab0 nt o a w (σ.put ws os) := by
  obtain ⟨lab, adr, M, T⟩ := R.mem
  obtain ⟨v, h1, h2⟩ := wr_rdX T h
  split at h2 <;> try (cases h2; done)
  rename_i hc
  refine ⟨_, _, .inl ?_, rel_box (arr := (a.eval x).cells) (ta := t) R M T hd h2 (cells_R h1 hc.1 hc.2)⟩
  simp [execOp, ho, Instr.box, newVar, newRow]
end
end Go.Proofs.Ytnbfhbfnccihgaa.E

/- What each operation does: stores. -/
namespace Go.Proofs.Ytnbfhbfnccihgaa.E
open Go
set_option linter.unusedVariables false
set_option linter.unusedSimpArgs false
section
variable {n0 : Nat} {h0 : Ent} {lab0 : Lb} {nt : Nat} {σ : St} {a : Act} {w w' : World} {ev : Ev} {P : Program} {lab lab' : Lb} {adr adr' : Nat → Value} {ws : List (Nat × AV)} {os : List (Nat × OV)} {tt : Tys} {t : TypeId} {ty : Ty} {ob ob' : Nat → Option OV}
/-- An element of an own list is written. -/
theorem Rep.setElem {h h' : Hp} {e : K} {P : List Nat} {xs : List (den e)} {ad : Addr} {n c i : Nat} {x' : den e} {us' : List Value} (r : Rep h lab (.sl e) (some P) xs [.slice (some ad) n c]) (hi : i < xs.length) (hl' : us'.length = sz e) (re : Rep h' lab' e (some (P ++ [i])) x' us')
    (hblk : ∀ arr t fr, h ad.block = some (.cells arr t fr) → Fz fr arr.size → ∃ arr', h' ad.block = some (.cells arr' t fr) ∧ arr'.size = arr.size ∧ (∀ m, (m < ad.off + i * sz e ∨ ad.off + i * sz e + sz e ≤ m) → arr'[m]? = arr[m]?) ∧ ∀ k, k < sz e → arr'[ad.off + (i * sz e + k)]? = us'[k]?)
    (hl : ∀ b q, lab b = some (P ++ q) → (¬ ∃ r, q = i :: r) → h b ≠ none → lab' b = lab b ∧ (b ≠ ad.block → h' b = h b)) : Rep h' lab' (.sl e) (some P) (xs.set i x') [.slice (some ad) n c] := by
  obtain ⟨a', n', c'', e1, hn, hc', ho, hs', hr'⟩ := r
  simp at e1
  obtain ⟨rfl, rfl, rfl⟩ := e1
  obtain ⟨o1, o2⟩ := ho P rfl
  obtain ⟨sp, lb, arr, t, fr, hb, hfz, hsz⟩ := o2 ad rfl
  obtain ⟨arr', hb', hsz', hout, hin⟩ := hblk arr t fr hb hfz
  have lb' : lab' ad.block = some P := by rw [(hl ad.block [] (by rw [lb, List.append_nil]) (by simp) (by rw [hb]; simp)).1, lb]
  refine ⟨_, _, _, rfl, by rw [List.length_set]; exact hn, hc', fun Q eQ => ⟨fun e => (by cases e), fun ad2 e => ?_⟩, fun _ => ⟨ad, rfl, lb'⟩, fun ad2 e j hj => ?_⟩
  · cases e; cases eQ
    exact ⟨sp, lb', _, t, fr, hb', by rw [hsz']; exact hfz, by rw [hsz']; exact hsz⟩
  · cases e
    rw [List.length_set] at hj
    obtain ⟨us, u1, u2, u3⟩ := hr' ad rfl j hj
    by_cases hij : j = i
    · subst hij
      refine ⟨us', hl', by rw [List.getElem_set_self]; exact re, fun k v hv => ?_⟩
      have hk : k < sz e := by have := (List.getElem?_eq_some_iff.1 hv).1; omega
      rw [cellAt_add hb' sp, hin k hk, hv]
    · refine ⟨us, u1, ?_, fun k v hv => ?_⟩
      · rw [List.getElem_set_ne (fun e => hij e.symm)]
        refine Rep.frame (fun b q e hx => ?_) u2
        rw [ext_ext] at e
        have := hl b ([j] ++ q) e (by rintro ⟨s, hs⟩; simp at hs; exact hij hs.1) hx
        exact ⟨this.1, this.2 (by rintro rfl; rw [lb] at e; exact ne_ext P j q e)⟩
      · have hk : k < sz e := by have := (List.getElem?_eq_some_iff.1 hv).1; omega
        have : ad.off + (j * sz e + k) < ad.off + i * sz e ∨ ad.off + i * sz e + sz e ≤ ad.off + (j * sz e + k) := by
          rcases Nat.lt_or_gt_of_ne hij with h1 | h1
          · left
            have : j * sz e + sz e ≤ i * sz e := by rw [← Nat.succ_mul]; exact Nat.mul_le_mul_right _ h1
            omega
          · right
            have : i * sz e + sz e ≤ j * sz e := by rw [← Nat.succ_mul]; exact Nat.mul_le_mul_right _ h1
            omega
        rw [cellAt_add hb' sp, hout _ this, ← cellAt_add hb sp]
        exact u3 k v hv
theorem one_R {h : Hp} {c : CV} {v : Value} (r : CVR h lab adr ob c v) (hc : okC c = true) : v.oneCell' = true := by
  cases c with
  | u => cases hc
  | i k n => rw [show v = _ from r]; rfl
  | b b => rw [show v = _ from r]; rfl
  | s s => rw [show v = _ from r]; rfl
  | nil => rw [show v = _ from r]; rfl
  | ls k xs => obtain ⟨a', c', e⟩ := Rep.sli r; rw [e]; rfl
  | sl o => obtain ⟨⟨_, _, _, e⟩, _⟩ := r; rw [e]; rfl
  | vw o g i c => obtain ⟨⟨_, _, _, e⟩, _⟩ := r; rw [e]; rfl
  | pc o c => obtain ⟨⟨_, e⟩, _⟩ := r; rw [e]; rfl
  | pe o i c => obtain ⟨⟨_, e⟩, _⟩ := r; rw [e]; rfl
  | pe2 o g i c j c2 => obtain ⟨⟨_, e⟩, _⟩ := r; rw [e]; rfl
  | pi k xs i c => obtain ⟨_, u, _, ad, n, cp, _, e⟩ := r; rw [e]; rfl
  | fn f => rw [show v = _ from r]; rfl
theorem ones_R {h : Hp} {l : List CV} {vs : List Value} (r : CVRs h lab adr ob l vs) (hc : l.all okC = true) : ∀ v ∈ vs, v.oneCell' = true := by
  intro v hv
  obtain ⟨j, hj, e⟩ := List.getElem_of_mem hv
  have hjl : j < l.length := by rw [r.1]; exact hj
  obtain ⟨v', h1, h2⟩ := r.2 j l[j] (List.getElem?_eq_getElem hjl)
  rw [List.getElem?_eq_getElem hj, e] at h1
  cases h1
  exact one_R h2 (List.all_eq_true.1 hc _ (List.getElem_mem hjl))
/-- A row with cells written anew. -/
def putAt (arr : Array Value) (off : Nat) (vs : List Value) : Array Value := (arr.toList.take off ++ vs ++ arr.toList.drop (off + vs.length)).toArray
theorem putAt_size {arr : Array Value} {off : Nat} {vs : List Value} (h : off + vs.length ≤ arr.size) : (putAt arr off vs).size = arr.size := by
  simp [putAt]; omega
theorem putAt_get {arr : Array Value} {off : Nat} {vs : List Value} (h : off + vs.length ≤ arr.size) (m : Nat) : (putAt arr off vs)[m]? = if m < off then arr[m]? else if m < off + vs.length then vs[m - off]? else arr[m]? := by
  unfold putAt
  have hl : (arr.toList.take off).length = off := by simp; omega
  rw [List.getElem?_toArray, List.append_assoc]
  split
  · rw [List.getElem?_append_left (by omega), List.getElem?_take_of_lt (by assumption)]; simp
  · rw [List.getElem?_append_right (by omega), hl]
    split
    · rw [List.getElem?_append_left (by omega)]
    · rw [List.getElem?_append_right (by omega), List.getElem?_drop]
      have : off + vs.length + (m - off - vs.length) = m := by omega
      rw [this]; simp
theorem run_storeVar {p : Addr} {val : Value} {arr : Array Value} {ta : TypeId} {fr : Nat × Nat} (hT : TyOk P tt t ty) (hl : val.cells.toList.length = sz ty.k) (hp' : hp w p.block = some (.cells arr ta fr)) (hfz : Fz fr arr.size) (hsp : p.spot = none) (hsz : p.off + sz ty.k ≤ arr.size) (h1 : ∀ v ∈ val.cells.toList, v.oneCell' = true) :
    (storeVar t p val).run P w = .ok () (w.setRow p.block (putAt arr p.off val.cells.toList)) := by
  have e := run_storeCells_fz P p.block p.off ta fr val.cells.toList 0 arr w hp' hfz (by rw [hl]; simpa using hsz) h1
  have ep : (⟨p.block, p.off, none⟩ : Addr) = p := by cases p; simp at hsp; simp [hsp]
  rw [ep] at e
  simp only [Nat.add_zero] at e
  have hl' : val.cells.size = sz ty.k := by simpa using hl
  simp [storeVar, hT.sizeOf w, hl', e]
  unfold putAt
  rw [List.append_assoc, hl]
theorem hp_setRow {b : Nat} {arr cs : Array Value} {ta : TypeId} {f : Nat × Nat} (h : hp w b = some (.cells arr ta f)) : (w.setRow b cs).heap.size = w.heap.size ∧ hp (w.setRow b cs) b = some (.cells cs ta f) ∧ ∀ b', b' ≠ b → hp (w.setRow b cs) b' = hp w b' :=
  ⟨size_setRow w b cs, setRow_heap w b arr cs ta f h, fun b' hb => setRow_other w b b' cs hb⟩
theorem run_store_op {o : Oper} {x y : Operand} {p : Addr} {arr : Array Value} {ta : TypeId} {fr : Nat × Nat} (hT : TyOk P tt t ty) (ho : o.op = .store t x y) (hx : a.eval x = .pointer (some p)) (hl : (a.eval y).cells.toList.length = sz ty.k) (hp' : hp w p.block = some (.cells arr ta fr)) (hfz : Fz fr arr.size) (hsp : p.spot = none) (hsz : p.off + sz ty.k ≤ arr.size) (h1 : ∀ v ∈ (a.eval y).cells.toList, v.oneCell' = true) :
    (execOp a.eval o).run P w = .ok .skip (w.setRow p.block (putAt arr p.off (a.eval y).cells.toList)) := by
  simp [execOp, ho, hx, Instr.storeAt, Instr.sureAddr, run_storeVar hT hl hp' hfz hsp hsz h1]
/-- A store into an own list: what is known of it in a memory that may differ from the true one in the cells that are written. -/
theorem store_pe {o : Oper} {x y : Operand} {vals : List Value} {cs : List CV} {h : Hp} {e : K} {xs : List (den e)} {g : Nat} {hole : Option (Nat × Nat)} {ob i c : Nat} {ad : Addr} {n cp : Nat}
    (hT : TyOk P tt t ty) (R : Rel n0 h0 lab0 nt σ a w) (M : Mem n0 h0 lab0 σ.o w lab adr) (T : ∀ t, AVR (hp w) lab adr σ.o (σ.t t) (a.tmps.getD t undef)) (ho : o.op = .store t x y) (hdst : o.dst = none)
    (hx : a.eval x = .pointer (some (ad.add (i * sz e + c)))) (hvals : (a.eval y).cells.toList = vals) (hcs : CVRs (hp w) lab adr σ.o cs vals) (hok : cs.all okC = true) (hlen : cs.length = sz ty.k) (hle : c + cs.length ≤ sz e)
    (he : σ.o ob = some (.arr e xs g hole)) (ha : adr ob = .slice (some ad) n cp) (hi : i < xs.length) (r : Rep h lab (.sl e) (some [ob]) xs [adr ob]) (hh : ∀ b, b ≠ ad.block → h b = hp w b)
    (hv : ∀ arr ta fr, h ad.block = some (.cells arr ta fr) → Fz fr arr.size → ∃ arr2, hp w ad.block = some (.cells arr2 ta fr) ∧ arr2.size = arr.size ∧ ∀ m, (m < ad.off + (i * sz e + c) ∨ ad.off + (i * sz e + c) + cs.length ≤ m) → arr2[m]? = arr[m]?)
    (hw : (setLfs ob e c cs (xs.getD i (dflt e)) [] fun x os => .done [] ((ob, .arr e (xs.set i x) (g + 1) none) :: os)).wr ev σ = some (ws, os)) : Did P n0 h0 lab0 nt o a w (σ.put ws os) := by
  have hlv : vals.length = cs.length := hcs.1.symm
  have r0 := r
  rw [ha] at r
  obtain ⟨a', n', c'', e1, hn, hc', hown, hs', hr'⟩ := r
  simp at e1
  obtain ⟨rfl, rfl, rfl⟩ := e1
  obtain ⟨_, o2⟩ := hown [ob] rfl
  obtain ⟨sp, lb, arr, ta, fr, hb, hfz, hsz⟩ := o2 ad rfl
  obtain ⟨arr2, hb2, hsz2, hag⟩ := hv arr ta fr hb hfz
  obtain ⟨us, u1, u2, u3⟩ := hr' ad rfl i hi
  have hiu : i * sz e + sz e ≤ cp * sz e := by rw [← Nat.succ_mul]; exact Nat.mul_le_mul_right _ (by omega)
  -- the element, in the true memory
  have u2' : Rep (hp w) lab e (some [ob, i]) xs[i] us := by
    refine Rep.frame (fun b q eb hx => ⟨rfl, ?_⟩) u2
    refine (hh b ?_).symm
    rintro rfl
    rw [lb] at eb
    simp [ext] at eb
  rw [getD_get xs i _ hi] at hw
  obtain ⟨x', os', lab2, w1, m, r2, l2, _⟩ := wr_setLfs (P' := [i]) M cs vals c xs[i] [] lab us _ _ hcs hle hw (Mvd.refl _ _) u2'
  simp [Pg.wr] at w1
  obtain ⟨rfl, rfl⟩ := w1
  have hpb : (ad.add (i * sz e + c)).block = ad.block := add_block _ _
  have hpo : (ad.add (i * sz e + c)).off = ad.off + (i * sz e + c) := add_off _ _
  have hps := add_spot ad (i * sz e + c) sp
  have hfit : (ad.add (i * sz e + c)).off + vals.length ≤ arr2.size := by rw [hpo]; omega
  have hrun := run_store_op (P := P) (w := w) hT ho hx (by rw [hvals]; omega) (by rw [hpb]; exact hb2) (by rw [hsz2]; exact hfz) hps (by rw [← hlen, ← hlv]; exact hfit) (by rw [hvals]; exact ones_R hcs hok)
  rw [hvals] at hrun
  obtain ⟨s1, s2, s3⟩ := hp_setRow (w := w) (b := (ad.add (i * sz e + c)).block) (cs := putAt arr2 (ad.add (i * sz e + c)).off vals) (by rw [hpb]; exact hb2)
  refine ⟨undef, _, .inr ⟨hrun, rfl⟩, ?_⟩
  rw [hpb] at s2 s3
  have hT' : ∀ b q, lab b = some (ob :: q) → lab2 b = lab b ∨ ∃ r, q = i :: r := by
    intro b q hb
    by_cases hq : ∃ r, q = i :: r
    · exact .inr hq
    · exact .inl (l2 b q hb (fun r e => hq ⟨r, by simpa using e⟩))
  refine rel_upd (lab' := lab2) (adr' := adr) (v := .one .u) R M T (fun d' e => by rw [hdst] at e; cases e) (by rw [hdst]; rfl) ⟨by rw [s1]; exact Nat.le_refl _, ⟨rfl, rfl, rfl⟩⟩ (fun b hb hx => ?_) (fun b hb => ?_) ?_ (fun o' => ?_) (fun h => absurd hdst h)
  · refine ⟨m.none b hb, ?_⟩
    rw [hpb]
    exact s3 b (by rintro rfl; rw [lb] at hb; cases hb)
  · rw [s1]; exact M.bnd b (m.bnd hb)
  · rw [put_o_one, if_neg (fun h => by rw [h, M.nox] at he; cases he), (look_dead (fun o v h => (m.dead o v h).1) X).2 (fun hm => ?_)]
    · exact M.nox
    · obtain ⟨⟨o, v⟩, h1, rfl⟩ := List.mem_map.1 hm
      exact (m.dead _ _ h1).2 M.nox
  · by_cases eo : ob = o'
    · subst eo
      refine .inr (.inr ⟨fun h => (by rw [h, M.nox] at he; cases he), .inr (.inr (.inr (.inr ⟨e, xs, xs.set i x', g, g + 1, hole, none, he, by rw [put_o_one, if_pos rfl], by omega, by rw [List.length_set], rfl⟩))), fun _ v hv' => ?_⟩)
      rw [put_o_one, if_pos rfl] at hv'
      cases hv'
      show Rep _ _ (.sl e) (some [ob]) (xs.set i x') [adr ob]
      rw [ha]
      rw [ha] at r0
      refine Rep.setElem r0 hi (us' := us.take c ++ vals ++ us.drop (c + vals.length)) (by simp; omega) ?_ (fun arr3 ta3 fr3 hb3 _ => ?_) (fun b q hb hq _ => ?_)
      · refine Rep.frame (fun b q eb hx => ⟨rfl, ?_⟩) r2
        rw [hpb]
        refine s3 b ?_
        rintro rfl
        have e2 : lab2 ad.block = lab ad.block := by
          rcases hT' _ _ lb with h | ⟨r, h⟩
          · exact h
          · cases h
        rw [e2, lb] at eb
        simp [ext] at eb
      · rw [hb] at hb3; cases hb3
        refine ⟨_, by rw [hpb]; exact s2, by rw [putAt_size hfit, hsz2], fun m hm => ?_, fun k hk => ?_⟩
        · rw [putAt_get hfit, hpo]
          split
          · exact hag m (by omega)
          · split
            · omega
            · exact hag m (by omega)
        · rw [putAt_get hfit, hpo]
          have htl : (us.take c).length = c := by simp; omega
          by_cases h1 : k < c
          · rw [if_pos (by omega), hag _ (by omega), List.append_assoc, List.getElem?_append_left (by omega), List.getElem?_take_of_lt h1]
            obtain ⟨u, hu⟩ : ∃ u, us[k]? = some u := ⟨us[k], List.getElem?_eq_getElem (by omega)⟩
            rw [hu, ← u3 k u hu, cellAt_add hb sp]
          · by_cases h2 : k < c + vals.length
            · rw [if_neg (by omega), if_pos (by omega), List.append_assoc, List.getElem?_append_right (by omega), htl, List.getElem?_append_left (by omega)]
              congr 1; omega
            · rw [if_neg (by omega), if_neg (by omega), hag _ (by omega), List.append_assoc, List.getElem?_append_right (by omega), htl, List.getElem?_append_right (by omega), List.getElem?_drop]
              have : c + vals.length + (k - c - vals.length) = k := by omega
              rw [this]
              obtain ⟨u, hu⟩ : ∃ u, us[k]? = some u := ⟨us[k], List.getElem?_eq_getElem (by omega)⟩
              rw [hu, ← u3 k u hu, cellAt_add hb sp]
      · have e2 : lab2 b = lab b := by
          rcases hT' b q (by simpa using hb) with h | h
          · exact h
          · exact absurd h hq
        refine ⟨e2, fun hne => ?_⟩
        rw [hpb, s3 b hne, hh b hne]
    · have e1 : (σ.put [] ((ob, .arr e (xs.set i x') (g + 1) none) :: os')).o o' = (look os' o').or (σ.o o') := by rw [put_o_one, if_neg eo]
      obtain ⟨l1, l3⟩ := look_dead (fun o v h => (m.dead o v h).1) o'
      by_cases hm' : o' ∈ os'.map (·.1)
      · exact .inr (.inl (by rw [e1, l1 hm']; rfl))
      · refine .inl ⟨by rw [e1, l3 hm']; rfl, rfl, fun b q hb hx => ⟨m.keep b o' q hb hm', ?_⟩⟩
        rw [hpb]
        exact s3 b (by rintro rfl; rw [lb] at hb; simp at hb; exact eo hb.1)
end
end Go.Proofs.Ytnbfhbfnccihgaa.E

/- What each operation does: stores, all. -/
namespace Go.Proofs.Ytnbfhbfnccihgaa.E
open Go
set_option linter.unusedVariables false
set_option linter.unusedSimpArgs false
section
variable {n0 : Nat} {h0 : Ent} {lab0 : Lb} {nt : Nat} {σ : St} {a : Act} {w w' : World} {ev : Ev} {P : Program} {lab lab' : Lb} {adr adr' : Nat → Value} {ws : List (Nat × AV)} {os : List (Nat × OV)} {tt : Tys} {t : TypeId} {ty : Ty} {ob ob' : Nat → Option OV}
theorem setH_blk {h : Hp} {p : Addr} {v : Value} {arr : Array Value} {ta : TypeId} {f : Nat × Nat} (hb : setH h p v p.block = some (.cells arr ta f)) : ∃ arr2, h p.block = some (.cells arr2 ta f) ∧ arr = arr2.setIfInBounds p.off v := by
  unfold setH at hb
  rw [if_pos rfl] at hb
  split at hb
  · rename_i c t f hh
    simp at hb
    obtain ⟨rfl, rfl, rfl⟩ := hb
    exact ⟨c, hh, rfl⟩
  · rename_i hh
    rw [hb] at hh
    exact absurd rfl (hh _ _ _)
theorem do_store {o : Oper} {x y : Operand} (hT : TyOk P tt t ty) (R : Rel n0 h0 lab0 nt σ a w) (ho : o.op = .store t x y) (hdst : o.dst = none)
    (h : (rdC x fun c => rdX y fun v => pstore ty c v).wr ev σ = some (ws, os)) : Did P n0 h0 lab0 nt o a w (σ.put ws os) := by
  obtain ⟨lab, adr, M, T⟩ := R.mem
  obtain ⟨c, h1, h2⟩ := wr_rdC T h
  obtain ⟨v, h3, h4⟩ := wr_rdX T h2
  unfold pstore at h4
  split at h4
  · cases h4
  rename_i hok
  have hok : (cells v).all okC = true := by simpa using hok
  cases c <;> simp only at h4 <;> try (cases h4; done)
  case pc ob c =>
    rw [Pg.wr] at h4
    split at h4 <;> try (cases h4; done)
    rename_i cs he
    split at h4 <;> try (cases h4; done)
    rename_i hc
    have h4' : some (([] : List (Nat × AV)), [(ob, OV.box (cs.take c ++ cells v ++ cs.drop (c + sz ty.k)))]) = some (ws, os) := h4
    cases h4'
    have hcs := cells_R h3 hok (by rw [hc.2]; exact sz_pos _)
    obtain ⟨_, _, hp0⟩ := h1
    obtain ⟨b, e1, e2⟩ := hp0 cs he
    obtain ⟨b', arr, ta, m1, m2, m3, m4, m5⟩ := M.objs ob _ he
    rw [m1] at e1
    simp at e1
    subst e1
    have hlv : (a.eval y).cells.toList.length = sz ty.k := by rw [← hcs.1]; exact hc.2
    have hfit : c + (a.eval y).cells.toList.length ≤ arr.size := by rw [hlv]; have : cs.length = arr.size := by simpa using m4
                                                                    omega
    have hrun := run_store_op (P := P) (w := w) (p := ⟨b', c, none⟩) hT ho e2 hlv m3 (.inl rfl) rfl (by rw [← hlv]; exact hfit) (ones_R hcs hok)
    obtain ⟨s1, s2, s3⟩ := hp_setRow (w := w) (b := b') (cs := putAt arr c (a.eval y).cells.toList) m3
    refine ⟨undef, _, .inr ⟨hrun, rfl⟩, ?_⟩
    refine rel_upd (lab' := lab) (adr' := adr) (v := .one .u) R M T (fun d' e => by rw [hdst] at e; cases e) (by rw [hdst]; rfl) ⟨by rw [s1]; exact Nat.le_refl _, ⟨rfl, rfl, rfl⟩⟩ (fun b hb hx => ?_) (fun b hb => ?_) (by rw [put_o_one, if_neg (fun h => by rw [h, M.nox] at he; cases he)]; exact M.nox) (fun o' => ?_) (fun h => absurd hdst h)
    · exact ⟨hb, s3 b (by rintro rfl; rw [m2] at hb; cases hb)⟩
    · rw [s1]; exact M.bnd b hb
    · by_cases eo : ob = o'
      · subst eo
        refine .inr (.inr ⟨fun h => (by rw [h, M.nox] at he; cases he), .inr (.inr (.inr (.inl ⟨cs, _, he, by rw [put_o_one, if_pos rfl], rfl⟩))), fun hg v' hv' => ?_⟩)
        rw [put_o_one, if_pos rfl] at hv'
        cases hv'
        have hf : ∀ b, lab b = none → hp w b ≠ none → lab b = none ∧ hp (w.setRow b' (putAt arr c (a.eval y).cells.toList)) b = hp w b := fun b hb _ => ⟨hb, s3 b (by rintro rfl; rw [m2] at hb; cases hb)⟩
        refine ⟨b', _, ta, m1, m2, s2, ?_⟩
        have o1 : CVRs (hp (w.setRow b' (putAt arr c (a.eval y).cells.toList))) lab adr (σ.put [] [(ob, .box (cs.take c ++ cells v ++ cs.drop (c + sz ty.k)))]).o cs arr.toList := CVRs.over hf hg ⟨m4, m5⟩
        have o2 := CVRs.over hf hg hcs
        have htl : (cs.take c).length = c := by simp; omega
        have hlc : cs.length = arr.size := by simpa using m4
        refine ⟨?_, fun j cc hj => ?_⟩
        · have hpl : (putAt arr c (a.eval y).cells.toList).toList.length = arr.size := by rw [Array.length_toList]; exact putAt_size hfit
          rw [hpl, List.length_append, List.length_append, htl, hc.2, List.length_drop]; omega
        rw [List.append_assoc] at hj
        have hp2 := putAt_get hfit j
        by_cases j1 : j < c
        · rw [List.getElem?_append_left (by omega), List.getElem?_take_of_lt j1] at hj
          obtain ⟨u, hu1, hu2⟩ := o1.2 j cc hj
          exact ⟨u, by rw [Array.getElem?_toList, hp2, if_pos j1]; simpa using hu1, hu2⟩
        · rw [List.getElem?_append_right (by omega), htl] at hj
          by_cases j2 : j < c + sz ty.k
          · rw [List.getElem?_append_left (by omega)] at hj
            obtain ⟨u, hu1, hu2⟩ := o2.2 _ cc hj
            exact ⟨u, by rw [Array.getElem?_toList, hp2, if_neg j1, if_pos (by omega)]; exact hu1, hu2⟩
          · rw [List.getElem?_append_right (by omega), List.getElem?_drop] at hj
            have : c + sz ty.k + (j - c - (cells v).length) = j := by omega
            rw [this] at hj
            obtain ⟨u, hu1, hu2⟩ := o1.2 j cc hj
            exact ⟨u, by rw [Array.getElem?_toList, hp2, if_neg j1, if_neg (by omega)]; simpa using hu1, hu2⟩
      · refine .inl ⟨by rw [put_o_one, if_neg eo]; simp [look], rfl, fun b q hb hx => ⟨rfl, s3 b (by rintro rfl; rw [m2] at hb; simp at hb; exact eo hb.1)⟩⟩
  case pe ob i c =>
    rw [Pg.wr] at h4
    split at h4 <;> try (cases h4; done)
    · rename_i e xs g he
      split at h4 <;> try (cases h4; done)
      rename_i hc
      have hcs := cells_R h3 hok (by rw [hc.2]; exact sz_pos _)
      obtain ⟨_, _, hp0⟩ := h1
      obtain ⟨hi, ad, n, cp, e1, e2⟩ := hp0 e xs g none he
      have r := M.objs ob _ he
      exact store_pe hT R M T ho hdst e2 rfl hcs hok hc.2 (by omega) he e1 hi r (fun b _ => rfl) (fun arr ta fr hb _ => ⟨arr, hb, rfl, fun _ _ => rfl⟩) h4
    · rename_i e xs g hi' hc' he
      split at h4 <;> try (cases h4; done)
      rename_i hc
      obtain ⟨hc1, hc2, rfl, hc4⟩ := hc
      rw [Pg.wr] at h4
      split at h4 <;> try (cases h4; done)
      rename_i hii
      obtain rfl : i = hi' := by simpa using hii
      have hcs := cells_R h3 hok (by omega)
      obtain ⟨_, _, hp0⟩ := h1
      obtain ⟨hi, ad, n, cp, e1, e2⟩ := hp0 e xs g _ he
      obtain ⟨_, _, ad2, n2, cp2, e3, r⟩ := M.objs ob _ he
      rw [e1] at e3; cases e3
      have hpb : (ad.add (i * sz e + hc')).block = ad.block := add_block _ _
      refine store_pe hT R M T ho hdst e2 rfl hcs hok (by omega) (by omega) he e1 hi r (fun b hb => setH_ne (by rw [hpb]; exact hb)) (fun arr ta fr hb _ => ?_) h4
      rw [← hpb] at hb
      obtain ⟨arr2, q1, q2⟩ := setH_blk hb
      rw [hpb] at q1
      refine ⟨arr2, q1, by rw [q2, Array.size_setIfInBounds], fun m hm => ?_⟩
      rw [q2, Array.getElem?_setIfInBounds_ne (by rw [add_off]; omega)]
  case pe2 ob g i c j c2 =>
    rw [Pg.wr] at h4
    split at h4 <;> try (cases h4; done)
    rename_i e xs g' he
    split at h4 <;> try (cases h4; done)
    rename_i hg
    split at h4 <;> try (cases h4; done)
    rename_i e' ys hl
    split at h4 <;> try (cases h4; done)
    rename_i hcc
    split at h4 <;> try (cases h4; done)
    rename_i cw hcw
    rw [hcw] at hok
    have hcs := cells_R h3 (by rw [hcw]; exact hok) (by rw [hcw]; simp)
    rw [hcw] at hcs
    obtain ⟨u, hu1, hu2⟩ := hcs.2 0 cw rfl
    have hvu : (a.eval y).cells.toList = [u] := by
      obtain ⟨u', hq⟩ := List.length_eq_one_iff.1 hcs.1.symm
      rw [hq] at hu1 ⊢
      cases hu1; rfl
    obtain ⟨yl, os1, w1, hk, hy⟩ := wr_toLf M hu2 h4
    split at w1 <;> try (cases w1; done)
    rename_i hemp
    obtain rfl : os1 = [] := by simpa using hemp
    have hy : ∀ h lab p, Rep h lab yl.k p yl.x [u] := by
      rcases hy with ⟨_, hy⟩ | ⟨_, h, _⟩
      · exact hy
      · cases h
    split at w1 <;> try (cases w1; done)
    rename_i y' hy'
    split at w1 <;> try (cases w1; done)
    rename_i x' hx'
    simp [Pg.wr] at w1
    obtain ⟨rfl, rfl⟩ := w1
    obtain ⟨_, _, hp0⟩ := h1
    obtain ⟨_, hp0⟩ := hp0 e xs g' none he
    obtain ⟨hi, hcz, hj, ad, n, cp, e1, u0, e2, ad2, n2, cp2, e3, e4⟩ := hp0 hg e' ys hl
    have r := M.objs ob _ he
    simp only [ObR] at r
    rw [e1] at r
    obtain ⟨u1, hu1', hr⟩ := Rep.elem r hi hcz
    rw [hu1'] at e2; cases e2
    rw [getD_get xs i _ hi] at hl hx'
    rw [hl] at hr
    rw [e3] at hr
    rw [getD_get ys j _ hj] at hy'
    -- the block of the inner list
    obtain ⟨sp, lb, arr1, ta1, fr1, hb1, hfz1, hsz1⟩ := M.blk he e1
    have hr0 := hr
    obtain ⟨a', n', c'', q1, hn, hc', hown, hs', hr'⟩ := hr0
    simp at q1
    obtain ⟨rfl, rfl, rfl⟩ := q1
    obtain ⟨_, o2⟩ := hown _ rfl
    obtain ⟨sp2, lb2, arr, ta, fr, hb, hfz, hsz⟩ := o2 ad2 rfl
    have hjc : j * sz e' + sz e' ≤ cp2 * sz e' := by rw [← Nat.succ_mul]; exact Nat.mul_le_mul_right _ (Nat.le_trans (Nat.succ_le_of_lt hj) (hn ▸ hc'))
    have hlv : (a.eval y).cells.toList.length = sz ty.k := by rw [hvu, hcc.2]; rfl
    have hpb : (ad2.add (j * sz e' + c2)).block = ad2.block := add_block _ _
    have hpo : (ad2.add (j * sz e' + c2)).off = ad2.off + (j * sz e' + c2) := add_off _ _
    have hfit : (ad2.add (j * sz e' + c2)).off + (a.eval y).cells.toList.length ≤ arr.size := by rw [hpo, hvu]; simp; have := hcc.1; omega
    have hrun := run_store_op (P := P) (w := w) hT ho e4 hlv (by rw [hpb]; exact hb) hfz (add_spot _ _ sp2) (by rw [← hlv]; exact hfit) (by rw [hvu]; exact fun v hv => by simp at hv; subst hv; exact one_R hu2 (by simpa using hok))
    obtain ⟨s1, s2, s3⟩ := hp_setRow (w := w) (b := (ad2.add (j * sz e' + c2)).block) (cs := putAt arr (ad2.add (j * sz e' + c2)).off (a.eval y).cells.toList) (by rw [hpb]; exact hb)
    refine ⟨undef, _, .inr ⟨hrun, rfl⟩, ?_⟩
    have lb2' : lab ad2.block = some (ob :: i :: leafP e c) := by simpa [ext] using lb2
    have s3' : ∀ b, b ≠ ad2.block → hp (w.setRow (ad2.add (j * sz e' + c2)).block (putAt arr (ad2.add (j * sz e' + c2)).off (a.eval y).cells.toList)) b = hp w b := by rw [hpb] at s3 ⊢; exact s3
    refine rel_upd (lab' := lab) (adr' := adr) (v := .one .u) R M T (fun d' e => by rw [hdst] at e; cases e) (by rw [hdst]; rfl) ⟨by rw [s1]; exact Nat.le_refl _, ⟨rfl, rfl, rfl⟩⟩ (fun b hb' hx => ⟨hb', s3' b (by rintro rfl; rw [lb2'] at hb'; cases hb')⟩) (fun b hb' => by rw [s1]; exact M.bnd b hb') (by rw [put_o_one, if_neg (fun h => by rw [h, M.nox] at he; cases he)]; exact M.nox) (fun o' => ?_) (fun h => absurd hdst h)
    by_cases eo : ob = o'
    · subst eo
      refine .inr (.inr ⟨fun h => (by rw [h, M.nox] at he; cases he), .inr (.inr (.inr (.inr ⟨e, xs, xs.set i x', g', g' + 1, none, none, he, by rw [put_o_one, if_pos rfl], by omega, by rw [List.length_set], rfl⟩))), fun _ v hv' => ?_⟩)
      rw [put_o_one, if_pos rfl] at hv'
      cases hv'
      show Rep _ _ (.sl e) (some [ob]) (xs.set i x') [adr ob]
      rw [e1]
      -- the inner list
      have inner : Rep (hp (w.setRow (ad2.add (j * sz e' + c2)).block (putAt arr (ad2.add (j * sz e' + c2)).off (a.eval y).cells.toList))) lab (.sl e') (some ([ob] ++ i :: leafP e c)) (ys.set j y') [.slice (some ad2) n2 cp2] := by
        have hr2 : Rep (hp w) lab (.sl e') (some ([ob] ++ i :: leafP e c)) ys [.slice (some ad2) n2 cp2] := hr
        refine Rep.setCell (h := hp w) (h' := hp (w.setRow (ad2.add (j * sz e' + c2)).block (putAt arr (ad2.add (j * sz e' + c2)).off (a.eval y).cells.toList))) hr2 hj hcc.1 hy' (u := u) (fun arr' t' fr' hb' _ => ?_) (fun b q hb' hq _ => ⟨rfl, fun hne => s3' b hne⟩) (hy _ _ _)
        rw [hb] at hb'; cases hb'
        rw [hpb] at s2 ⊢
        rw [s2]
        congr 2
        apply Array.ext_getElem?
        intro m
        rw [putAt_get hfit, hpo, hvu]
        by_cases e5 : m = ad2.off + (j * sz e' + c2)
        · subst e5
          rw [if_neg (by omega), if_pos (by simp), Array.getElem?_setIfInBounds_self_of_lt (by rw [hpo, hvu] at hfit; simp at hfit; omega)]
          simp
        · rw [Array.getElem?_setIfInBounds_ne (fun h => e5 h.symm)]
          split
          · rfl
          · rw [if_neg (by simp; omega)]
      have r9 := r
      obtain ⟨a9, n9, c9, q9, hn9, hc9, ho9, hs9, hr9⟩ := r9
      simp at q9
      obtain ⟨rfl, rfl, rfl⟩ := q9
      obtain ⟨us, v1, v2, v3⟩ := hr9 ad rfl i hi
      have hus : us[c]? = some (.slice (some ad2) n2 cp2) := by
        have := v3 c us[c] (List.getElem?_eq_getElem (by omega))
        rw [hu1', e3] at this
        rw [List.getElem?_eq_getElem (by omega)]
        exact this.symm
      have hsame : us.set c (.slice (some ad2) n2 cp2) = us := by
        have : us[c]'(by omega) = .slice (some ad2) n2 cp2 := by
          rw [List.getElem?_eq_getElem (by omega)] at hus; exact Option.some.inj hus
        rw [← this, List.set_getElem_self]
      have hne : ad.block ≠ ad2.block := by
        intro h; rw [h, lb2'] at lb; simp at lb
      have re : Rep (hp (w.setRow (ad2.add (j * sz e' + c2)).block (putAt arr (ad2.add (j * sz e' + c2)).off (a.eval y).cells.toList))) lab e (some ([ob] ++ [i])) x' us := by
        rw [← hsame]
        refine Rep.leafSet v2 hcz hx' (fun b q hb' hq _ => ⟨rfl, s3' b ?_⟩) inner
        rintro rfl
        rw [lb2'] at hb'
        simp [ext] at hb'
        exact hq ⟨[], by simpa using hb'.symm⟩
      refine Rep.setElem r hi v1 re (fun arr3 t3 fr3 hb3 _ => ⟨arr3, by rw [s3' _ hne]; exact hb3, rfl, fun _ _ => rfl, fun k hk => ?_⟩) (fun b q hb' hq _ => ⟨rfl, fun _ => s3' b ?_⟩)
      · obtain ⟨u9, hu9⟩ : ∃ u9, us[k]? = some u9 := ⟨us[k], List.getElem?_eq_getElem (by omega)⟩
        rw [hu9, ← v3 k u9 hu9, cellAt_add hb3 sp]
      · rintro rfl
        rw [lb2'] at hb'
        simp at hb'
        exact hq ⟨_, hb'.symm⟩
    · refine .inl ⟨by rw [put_o_one, if_neg eo]; simp [look], rfl, fun b q hb' hx => ⟨rfl, s3' b (by rintro rfl; rw [lb2'] at hb'; simp at hb'; exact eo hb'.1)⟩⟩
end
end Go.Proofs.Ytnbfhbfnccihgaa.E

/- What each operation does: lists and structs that are written down. -/
namespace Go.Proofs.Ytnbfhbfnccihgaa.E
open Go
set_option linter.unusedVariables false
set_option linter.unusedSimpArgs false
section
variable {n0 : Nat} {h0 : Ent} {lab0 : Lb} {nt : Nat} {σ : St} {a : Act} {w w' : World} {ev : Ev} {P : Program} {lab lab' : Lb} {adr adr' : Nat → Value} {ws : List (Nat × AV)} {os : List (Nat × OV)} {tt : Tys} {t : TypeId} {ty : Ty} {ob ob' : Nat → Option OV}
theorem fold_put (off : Nat) : ∀ (l : List Value) (k : Nat) (cells : Array Value), off + k + l.length ≤ cells.size → (l.zipIdx k).foldl (fun cs p => cs.setIfInBounds (off + p.2) p.1) cells = putAt cells (off + k) l
  | [], k, cells, _ => by
    apply Array.ext_getElem?
    intro m
    rw [putAt_get (by simpa)]
    simp only [List.zipIdx_nil, List.foldl_nil, List.length_nil, Nat.add_zero]
    split
    · rfl
    · rfl
  | v :: l, k, cells, h => by
    simp only [List.length_cons] at h
    rw [List.zipIdx_cons, List.foldl_cons, fold_put off l (k + 1) _ (by rw [Array.size_setIfInBounds]; omega)]
    apply Array.ext_getElem?
    intro m
    rw [putAt_get (by rw [Array.size_setIfInBounds]; omega), putAt_get (by simp; omega)]
    by_cases h1 : m < off + k
    · rw [if_pos (by omega), if_pos h1, Array.getElem?_setIfInBounds_ne (by simp; omega)]
    · by_cases h2 : m = off + k
      · subst h2
        rw [if_pos (by omega), if_neg h1, if_pos (by simp), Array.getElem?_setIfInBounds_self_of_lt (by simp; omega)]
        simp
      · rw [if_neg (by omega), if_neg h1]
        by_cases h3 : m < off + k + (l.length + 1)
        · rw [if_pos (by omega), if_pos (by simpa using h3), show m - (off + k) = (m - (off + (k + 1))) + 1 from by omega, List.getElem?_cons_succ]
        · rw [if_neg (by omega), if_neg (by simpa using h3), Array.getElem?_setIfInBounds_ne (by simp; omega)]
theorem fill_one {place : Nat → Option (Nat × Nat)} {cells : Array Value} {i off : Nat} {v : Value} {rest : List (Nat × Value)} (hp : place i = some (off, v.cells.size)) (hs : off + v.cells.size ≤ cells.size) :
    Instr.fill place cells ((i, v) :: rest) = Instr.fill place (putAt cells off v.cells.toList) rest := by
  have e : v.cells.zipIdx.foldl (fun cs (p : Value × Nat) => cs.setIfInBounds (off + p.2) p.1) cells = putAt cells off v.cells.toList := by
    have := fold_put off v.cells.toList 0 cells (by simpa using hs)
    rw [Nat.add_zero] at this
    rw [← this, ← Array.foldl_toList, Array.toList_zipIdx]
  have e2 : (v.cells.zipIdx.foldl (fun cs (x : Value × Nat) => match x with | (c, j) => cs.setIfInBounds (off + j) c) cells) = putAt cells off v.cells.toList := e
  simp only [Instr.fill, hp]
  rw [if_neg (by simp; omega)]
  exact congrArg (fun z => Instr.fill place z rest) e2
theorem putAt_putAt {arr : Array Value} {off : Nat} {u v : List Value} (h : off + (u ++ v).length ≤ arr.size) : putAt (putAt arr off u) (off + u.length) v = putAt arr off (u ++ v) := by
  have h' := h
  rw [List.length_append] at h'
  apply Array.ext_getElem?
  intro m
  rw [putAt_get (by rw [putAt_size (by omega)]; omega), putAt_get (by omega), putAt_get h]
  by_cases h1 : m < off
  · rw [if_pos (by omega), if_pos h1, if_pos h1]
  · by_cases h2 : m < off + u.length
    · rw [if_pos h2, if_neg h1, if_pos h2, if_neg h1, if_pos (by rw [List.length_append]; omega), List.getElem?_append_left (by omega)]
    · rw [if_neg h2, if_neg h1, if_neg h2, if_neg h1]
      by_cases h3 : m < off + u.length + v.length
      · rw [if_pos h3, if_pos (by rw [List.length_append]; omega), List.getElem?_append_right (by omega)]
        congr 1; omega
      · rw [if_neg h3, if_neg (by rw [List.length_append]; omega)]
theorem fill_els {size : Nat} : ∀ (vs : List Value) (k : Nat) (cells : Array Value), (∀ v ∈ vs, v.cells.size = size) → (k + vs.length) * size ≤ cells.size →
    Instr.fill (fun i => some (i * size, size)) cells ((vs.zipIdx k).map fun p => (p.2, p.1)) = some (putAt cells (k * size) (vs.flatMap (·.cells.toList)))
  | [], k, cells, _, h => by
    simp only [List.length_nil, Nat.add_zero] at h
    simp only [List.zipIdx_nil, List.map_nil, Instr.fill, List.flatMap_nil]
    congr 1
    apply Array.ext_getElem?
    intro m
    rw [putAt_get (by simpa)]
    split
    · rfl
    · rw [if_neg (by simp; omega)]
  | v :: vs, k, cells, hv, h => by
    have h1 := hv v List.mem_cons_self
    simp only [List.length_cons] at h
    have hm : (k + (vs.length + 1)) * size = k * size + vs.length * size + size := by rw [Nat.add_mul, Nat.add_mul]; omega
    have hfl : (vs.flatMap (·.cells.toList)).length = vs.length * size := by
      rw [List.length_flatMap]
      have : ∀ l : List Value, (∀ v ∈ l, v.cells.size = size) → (l.map fun a => a.cells.toList.length).sum = l.length * size := by
        intro l
        induction l with
        | nil => simp
        | cons x l ih =>
          intro hx
          rw [List.map_cons, List.sum_cons, ih (fun v h => hx v (List.mem_cons_of_mem _ h)), Array.length_toList, hx x List.mem_cons_self, List.length_cons, Nat.add_mul]
          omega
      exact this vs (fun x hx => hv x (List.mem_cons_of_mem _ hx))
    rw [List.zipIdx_cons, List.map_cons]
    show Instr.fill _ cells ((k, v) :: _) = _
    rw [fill_one (off := k * size) (by rw [h1]) (by rw [h1]; omega), fill_els vs (k + 1) _ (fun x hx => hv x (List.mem_cons_of_mem _ hx)) (by rw [putAt_size (by rw [Array.length_toList, h1]; omega), show k + 1 + vs.length = k + (vs.length + 1) from by omega]; exact h)]
    congr 1
    rw [List.flatMap_cons, show (k + 1) * size = k * size + v.cells.toList.length from by rw [Array.length_toList, h1, Nat.add_mul]; omega]
    exact putAt_putAt (by rw [List.length_append, hfl, Array.length_toList, h1]; omega)
theorem dflt_R (h : Hp) (lab : Lb) : ∀ (k : K) (p : Lab), Rep h lab k p (dflt k) ((zeros k).map cvV)
  | .int k, p => rfl
  | .bool, p => rfl
  | .str, p => rfl
  | .sl e, p => ⟨none, 0, 0, rfl, rfl, Nat.le_refl _, fun P e => ⟨fun _ => by simp, fun ad e => by cases e⟩, fun h => absurd h (Nat.lt_irrefl 0), fun ad e => by cases e⟩
  | .pair a b, p => ⟨_, _, by rw [zeros, List.map_append], dflt_R h lab a _, dflt_R h lab b _⟩
/-- Values of several operands. -/
def AVRs (h : Hp) (lab : Lb) (adr : Nat → Value) (ob : Nat → Option OV) (l : List AV) (vs : List Value) : Prop := l.length = vs.length ∧ ∀ (j : Nat) (v : AV), l[j]? = some v → ∃ u, vs[j]? = some u ∧ AVR h lab adr ob v u
theorem AVRs.snoc {h : Hp} {l : List AV} {vs : List Value} {v : AV} {u : Value} (r : AVRs h lab adr ob l vs) (r2 : AVR h lab adr ob v u) : AVRs h lab adr ob (l ++ [v]) (vs ++ [u]) := by
  refine ⟨by simp [r.1], fun j x hj => ?_⟩
  by_cases hlt : j < l.length
  · rw [List.getElem?_append_left hlt] at hj
    obtain ⟨u', h1, h2⟩ := r.2 j x hj
    exact ⟨u', by rw [List.getElem?_append_left (by rw [← r.1]; exact hlt)]; exact h1, h2⟩
  · rw [List.getElem?_append_right (by omega)] at hj
    obtain ⟨hj0, rfl⟩ : j - l.length = 0 ∧ v = x := by
      have := (List.getElem?_eq_some_iff.1 hj).1
      simp at this
      rw [this] at hj
      cases hj
      exact ⟨this, rfl⟩
    exact ⟨u, by rw [List.getElem?_append_right (by rw [← r.1]; omega), ← r.1, hj0]; rfl, r2⟩
theorem wr_rdXs (T : ∀ t, AVR (hp w) lab adr σ.o (σ.t t) (a.tmps.getD t undef)) : ∀ (xs : List Operand) (acc : List AV) (vals : List Value) (k : List AV → Pg) (W : Ws), AVRs (hp w) lab adr σ.o acc vals → (rdXs xs acc k).wr ev σ = some W →
    ∃ vs, AVRs (hp w) lab adr σ.o vs (vals ++ xs.map a.eval) ∧ (k vs).wr ev σ = some W
  | [], acc, vals, k, W, r, h => ⟨acc, by simpa using r, h⟩
  | x :: xs, acc, vals, k, W, r, h => by
    obtain ⟨v, h1, h2⟩ := wr_rdX T h
    obtain ⟨vs, h3, h4⟩ := wr_rdXs T xs _ _ k W (r.snoc h1) h2
    exact ⟨vs, by simpa using h3, h4⟩
theorem wr_mkEls {e : K} {T : Nat} (M : Mem n0 h0 lab0 σ.o w lab adr) : ∀ (vs : List AV) (vals : List Value) (acc : List (den e)) (uss : List (List Value)) (os : List (Nat × OV)) (lab1 : Lb) (f : List (den e) → List (Nat × OV) → Pg) (W : Ws),
    AVRs (hp w) lab adr σ.o vs vals → (mkEls T e vs acc os f).wr ev σ = some W → Mvd σ.o T os lab lab1 → acc.length = uss.length → (∀ j (hj : j < acc.length), ∃ us, uss[j]? = some us ∧ us.length = sz e ∧ Rep (hp w) lab1 e (some [T, j]) acc[j] us) →
    ∃ xs os' lab2, (f xs os').wr ev σ = some W ∧ Mvd σ.o T os' lab lab2 ∧ xs.length = acc.length + vs.length ∧ (∀ v ∈ vals, v.cells.size = sz e) ∧
      ∀ j (hj : j < xs.length), ∃ us, (uss ++ vals.map (·.cells.toList))[j]? = some us ∧ us.length = sz e ∧ Rep (hp w) lab2 e (some [T, j]) xs[j] us
  | [], vals, acc, uss, os, lab1, f, W, r, h, m, hl, hacc => by
    obtain rfl : vals = [] := List.length_eq_zero_iff.1 r.1.symm
    exact ⟨acc, os, lab1, h, m, rfl, fun v h => (by cases h), by simpa using hacc⟩
  | v :: vs, [], acc, uss, os, lab1, f, W, r, h, m, hl, hacc => by have := r.1; simp at this
  | v :: vs, val :: vals, acc, uss, os, lab1, f, W, r, h, m, hl, hacc => by
    have r' : AVRs (hp w) lab adr σ.o vs vals := ⟨by have := r.1; simpa using this, fun j c hj => by
      obtain ⟨u, h1, h2⟩ := r.2 (j + 1) c (by simpa using hj)
      exact ⟨u, by simpa using h1, h2⟩⟩
    obtain ⟨val', hv1, hv2⟩ := r.2 0 v rfl
    simp at hv1; subst hv1
    unfold mkEls at h
    split at h <;> try (cases h; done)
    rename_i hc
    have hcs := cells_R hv2 hc.2 (by rw [hc.1]; exact sz_pos _)
    have hd := dflt_R (hp w) lab1 e (some [T, acc.length])
    have hdl := Rep.len hd
    obtain ⟨x', os', lab2, w1, m2, r2, l2, os3, hos⟩ := wr_setLfs (P' := [acc.length]) M (cells v) val.cells.toList 0 (dflt e) os lab1 _ _ _ hcs (by rw [Nat.zero_add, hc.1]; exact Nat.le_refl _) h m hd
    have hvl : val.cells.toList.length = sz e := by rw [← hcs.1, hc.1]
    have r2' : Rep (hp w) lab2 e (some [T, acc.length]) x' val.cells.toList := by
      rw [List.take_zero, List.nil_append, Nat.zero_add, List.drop_eq_nil_of_le (by rw [hdl, hvl]; exact Nat.le_refl _), List.append_nil] at r2
      exact r2
    obtain ⟨xs, os4, lab4, q1, q2, q3, q4, q5⟩ := wr_mkEls M vs vals (acc ++ [x']) (uss ++ [val.cells.toList]) os' lab2 f W r' w1 m2 (by simp [hl]) (fun j hj => by
      by_cases hlt : j < acc.length
      · obtain ⟨us, u1, u2, u3⟩ := hacc j hlt
        refine ⟨us, by rw [List.getElem?_append_left (by omega)]; exact u1, u2, ?_⟩
        rw [List.getElem_append_left hlt]
        refine Rep.frame (fun b q eb _ => ⟨?_, rfl⟩) u3
        have eb' : lab1 b = some (T :: (j :: q)) := by simpa [ext] using eb
        exact l2 b (j :: q) eb' (fun r e => by simp at e; omega)
      · have hje : j = acc.length := by simp at hj; omega
        subst hje
        refine ⟨val.cells.toList, by rw [List.getElem?_append_right (by omega), hl]; simp, hvl, ?_⟩
        rw [List.getElem_append_right (by omega)]
        simpa using r2')
    refine ⟨xs, os4, lab4, q1, q2, by rw [q3]; simp; omega, fun u hu => ?_, fun j hj => ?_⟩
    · rcases List.mem_cons.1 hu with rfl | hu
      · simpa using hvl
      · exact q4 u hu
    · obtain ⟨us, u1, u2, u3⟩ := q5 j hj
      exact ⟨us, by simpa using u1, u2, u3⟩
end
end Go.Proofs.Ytnbfhbfnccihgaa.E

/- What each operation does: lists that are made. -/
namespace Go.Proofs.Ytnbfhbfnccihgaa.E
open Go
set_option linter.unusedVariables false
set_option linter.unusedSimpArgs false
section
variable {n0 : Nat} {h0 : Ent} {lab0 : Lb} {nt : Nat} {σ : St} {a : Act} {w w' : World} {ev : Ev} {P : Program} {lab lab' : Lb} {adr adr' : Nat → Value} {ws : List (Nat × AV)} {os : List (Nat × OV)} {tt : Tys} {t : TypeId} {ty : Ty} {ob ob' : Nat → Option OV}
/-- A new list in a new block. -/
theorem rel_arr {d : Option Nat} {e : K} {xs : List (den e)} {os1 : List (Nat × OV)} {lab2 : Lb} {arr : Array Value} {ta : TypeId} {fr : Nat × Nat} {cap : Nat} (R : Rel n0 h0 lab0 nt σ a w) (M : Mem n0 h0 lab0 σ.o w lab adr) (T : ∀ t, AVR (hp w) lab adr σ.o (σ.t t) (a.tmps.getD t undef)) (hd : ∀ d', d = some d' → d' < nt)
    (h : (newO d .sl (.arr e xs 0 none) os1).wr ev σ = some (ws, os)) (hw1 : w'.heap.size = w.heap.size + 1 ∧ Sm w w') (hw2 : ∀ b, b < w.heap.size → w'.heap[b]? = w.heap[b]?) (hw3 : w'.heap[w.heap.size]? = some (.cells arr ta fr)) (hfz : Fz fr arr.size)
    (hm : ∀ d', d = some d' → σ.o (nm d' 0) = none → Mvd σ.o (nm d' 0) os1 lab lab2) (hx : xs.length ≤ cap) (hsz : cap * sz e ≤ arr.size)
    (hel : ∀ d', d = some d' → ∀ j (hj : j < xs.length), ∃ us, us.length = sz e ∧ Rep (hp w) lab2 e (some [nm d' 0, j]) xs[j] us ∧ ∀ k u, us[k]? = some u → arr[j * sz e + k]? = some u) :
    Rel n0 h0 lab0 nt (σ.put ws os) (a.put d (.slice (some ⟨w.heap.size, 0, none⟩) xs.length cap)) w' := by
  refine rel_new (lab2 := lab2) R M T hd h hw1 hw2 hw3 hm (fun d' hd' hN ob' ho hg => ?_) (fun d' hd' ob' ho => ?_)
  · show Rep _ _ (.sl e) (some [nm d' 0]) xs [adrN _ _ _ _]
    unfold adrN
    rw [if_pos rfl]
    refine Rep.list (b := w.heap.size) (off := 0) (arr := arr) (t := ta) hw3 hfz (by unfold labN; rw [if_pos rfl]) hx (by omega) (fun i hi => ?_)
    obtain ⟨us, u1, u2, u3⟩ := hel d' hd' i hi
    refine ⟨us, u1, Rep.frame (fun b q eb hx => ?_) u2, fun k u hu => by rw [Nat.zero_add]; exact u3 k u hu⟩
    have hlt := hp_lt hx
    unfold labN
    rw [if_neg (by omega)]
    exact ⟨rfl, hw2 b hlt⟩
  · exact ⟨⟨_, _, _, rfl⟩, by rw [ho]; simp, fun k xs' g hl e => by unfold adrN; rw [if_pos rfl]⟩
theorem flatMap_get {vs : List Value} {s : Nat} (hv : ∀ v ∈ vs, v.cells.size = s) (i k : Nat) (hk : k < s) : (vs.flatMap (·.cells.toList))[i * s + k]? = (vs[i]?).bind (fun v => v.cells.toList[k]?) := by
  induction vs generalizing i with
  | nil => simp
  | cons v vs ih =>
    have h1 := hv v List.mem_cons_self
    rw [List.flatMap_cons]
    cases i with
    | zero => rw [Nat.zero_mul, Nat.zero_add, List.getElem?_append_left (by rw [Array.length_toList, h1]; exact hk)]; simp
    | succ i =>
      rw [List.getElem?_append_right (by rw [Array.length_toList, h1, Nat.succ_mul]; omega), Array.length_toList, h1, show (i + 1) * s + k - s = i * s + k from by rw [Nat.succ_mul]; omega, ih (fun x hx => hv x (List.mem_cons_of_mem _ hx))]
      simp
theorem zip_parts {a : Act} (ps : List (Nat × Operand)) (n : Nat) (h : ps.map (·.1) = List.range n) : ps.map (fun p => (p.1, a.eval p.2)) = ((ps.map (a.eval ·.2)).zipIdx 0).map fun p => (p.2, p.1) := by
  have hl : ps.length = n := by have := congrArg List.length h; simpa using this
  apply List.ext_getElem?
  intro i
  by_cases hi : i < ps.length
  · have h1 : ps[i].1 = i := by
      have : (ps.map (·.1))[i]? = (List.range n)[i]? := by rw [h]
      rw [List.getElem?_map, List.getElem?_eq_getElem hi, List.getElem?_range (by omega)] at this
      simpa using this
    simp [List.getElem?_map, List.getElem?_eq_getElem hi, List.getElem?_zipIdx, h1]
  · simp [List.getElem?_map, List.getElem?_eq_none (by omega : ps.length ≤ i), List.getElem?_zipIdx]
theorem do_buildSlice {o : Oper} {len : Nat} {parts : Array (Nat × Operand)} {e : K} {d : Nat} (hT : TyOk P tt t ty) (hTs : TysOk P tt) (ha : ty.agg = false) (hk : ty.k = .sl e) (R : Rel n0 h0 lab0 nt σ a w) (hdd : o.dst = some d) (hd : ∀ d', o.dst = some d' → d' < nt) (ho : o.op = .buildSlice t len parts)
    (hp1 : parts.toList.map (·.1) = List.range len) (hp2 : len * sz e ≤ 16777216)
    (h : (rdXs (parts.toList.map (·.2)) [] fun vs => mkEls (nm d 0) e vs [] [] fun xs os => newO o.dst .sl (.arr e xs 0 none) os).wr ev σ = some (ws, os)) : Did P n0 h0 lab0 nt o a w (σ.put ws os) := by
  obtain ⟨lab, adr, M, T⟩ := R.mem
  obtain ⟨hu, te, ht, hke⟩ := hT.sl ha hk
  have hTe := hTs _ _ ht
  obtain ⟨inf, z, i1, i2, i3, i4, i5⟩ := hTe.info
  rw [hke] at i2 i5
  obtain ⟨vs, r1, h1⟩ := wr_rdXs T _ [] [] _ _ ⟨rfl, fun j v h => by simp at h⟩ h
  rw [List.nil_append, List.map_map] at r1
  obtain ⟨xs, os', lab2, q1, q2, q3, q4, q5⟩ := wr_mkEls M vs _ [] [] [] lab _ _ r1 h1 (Mvd.refl _ _) rfl (fun j hj => by simp at hj)
  have hpl : parts.toList.length = len := by have := congrArg List.length hp1; simpa using this
  have hvl : vs.length = len := by rw [r1.1, List.length_map, hpl]
  have hxl : xs.length = len := by rw [q3, hvl]; simp
  generalize hvals : parts.toList.map (a.eval ∘ fun x => x.2) = vals at *
  have hvn : vals.length = len := by rw [← hvals, List.length_map, hpl]
  -- the zeros
  obtain ⟨zs, hz0, hz1⟩ : ∃ zs : Array Value, (len * sz e = 0 → zs = #[]) ∧ (len * sz e ≠ 0 → zs = z.cells) := by
    by_cases h0' : len * sz e = 0
    · exact ⟨#[], fun _ => rfl, fun h => absurd h0' h⟩
    · exact ⟨z.cells, fun h => absurd h h0', fun _ => rfl⟩
  have hz2 : ((Array.range (len * sz e)).map (zs[· % zs.size]!)).size = len * sz e := by simp
  have hfill := fill_els (size := sz e) vals 0 ((Array.range (len * sz e)).map (zs[· % zs.size]!)) q4 (by rw [hz2, hvn]; simp)
  have hfl : (vals.flatMap (·.cells.toList)).length = len * sz e := by
    rw [List.length_flatMap]
    have : ∀ l : List Value, (∀ v ∈ l, v.cells.size = sz e) → (l.map fun a => a.cells.toList.length).sum = l.length * sz e := by
      intro l
      induction l with
      | nil => simp
      | cons x l ih =>
        intro hx
        rw [List.map_cons, List.sum_cons, ih (fun v h => hx v (List.mem_cons_of_mem _ h)), Array.length_toList, hx x List.mem_cons_self, List.length_cons, Nat.add_mul]
        omega
    rw [this vals q4, hvn]
  have hparts : (parts.map fun (x : Nat × Operand) => (x.1, a.eval x.2)).toList = (vals.zipIdx 0).map fun p => (p.2, p.1) := by
    rw [Array.toList_map, ← hvals]
    exact zip_parts parts.toList len hp1
  generalize harr : putAt ((Array.range (len * sz e)).map (zs[· % zs.size]!)) (0 * sz e) (vals.flatMap (·.cells.toList)) = arr at *
  have hasz : arr.size = len * sz e := by rw [← harr, putAt_size (by rw [hz2, hfl]; omega), hz2]
  obtain ⟨w1, w2, w3⟩ := hp_alloc (w := w) (o := .cells arr ty.elem)
  have fin := rel_arr (cap := xs.length) (lab2 := lab2) R M T hd q1 w1 w2 w3 (.inl rfl) (fun d' e1 _ => by rw [hdd] at e1; cases e1; exact q2) (Nat.le_refl _) (by rw [hxl, hasz]; exact Nat.le_refl _) (fun d' e1 j hj => by
    rw [hdd] at e1; cases e1
    obtain ⟨us, u1, u2, u3⟩ := q5 j hj
    refine ⟨us, u2, u3, fun k u hu => ?_⟩
    have hk' : k < sz e := by have := (List.getElem?_eq_some_iff.1 hu).1; omega
    have hjk : j * sz e + k < len * sz e := by
      have : (j + 1) * sz e ≤ len * sz e := Nat.mul_le_mul_right _ (by omega)
      rw [Nat.add_mul] at this; omega
    rw [← harr, putAt_get (by rw [hz2, hfl]; omega), if_neg (by omega), if_pos (by omega), Nat.zero_mul, Nat.sub_zero, flatMap_get q4 j k hk']
    rw [List.nil_append, List.getElem?_map] at u1
    obtain ⟨v, v1, rfl⟩ := Option.map_eq_some_iff.1 u1
    rw [v1]
    exact hu)
  refine ⟨_, _, .inl ?_, fin⟩
  have hnl : ¬ (16777216 < len * sz e) := by omega
  rw [hxl]
  have hsz : (sizeOf ty.elem).run P w = .ok (sz e) w := by rw [hTe.sizeOf w, hke]
  simp only [execOp, ho, Instr.buildSlice, Sem.run_bind, run_underlying hu w, Result.andThen_ok, hsz]
  have hparts2 : List.map (fun x => (x.fst, a.eval x.snd)) parts.toList = List.map (fun p => (p.snd, p.fst)) (vals.zipIdx 0) := by rw [← hparts]; simp
  by_cases h0' : len * sz e = 0
  · rw [hz0 h0'] at hfill
    simp [h0'] at hfill
    simp [h0', hparts2, hfill, newRow]
  · rw [hz1 h0'] at hfill
    have hzv : (zeroValue ty.elem).run P w = .ok z w := by simp [zeroValue, typeInfo, i1, i4]
    simp [hnl, h0', hzv, hparts2, hfill, newRow]
end
end Go.Proofs.Ytnbfhbfnccihgaa.E

/- What each operation does: make, append. -/
namespace Go.Proofs.Ytnbfhbfnccihgaa.E
open Go
set_option linter.unusedVariables false
set_option linter.unusedSimpArgs false
section
variable {n0 : Nat} {h0 : Ent} {lab0 : Lb} {nt : Nat} {σ : St} {a : Act} {w w' : World} {ev : Ev} {P : Program} {lab lab' : Lb} {adr adr' : Nat → Value} {ws : List (Nat × AV)} {os : List (Nat × OV)} {tt : Tys} {t : TypeId} {ty : Ty} {ob ob' : Nat → Option OV}
theorem wr_br {b : Bool} {p q : Pg} {W : Ws} (h : (Pg.br b p q).wr ev σ = some W) : (b = true ∧ p.wr ev σ = some W) ∨ (b = false ∧ q.wr ev σ = some W) := by
  rw [Pg.wr] at h
  cases b
  · exact .inr ⟨rfl, h⟩
  · exact .inl ⟨rfl, h⟩
theorem wr_brf {b : Bool} {p : Pg} {W : Ws} (h : (Pg.br b p .fail).wr ev σ = some W) : b = true ∧ p.wr ev σ = some W := by
  rcases wr_br h with h | ⟨_, h⟩
  · exact h
  · cases h
theorem made_get {z : Array Value} {n s j k : Nat} (hz : z.size = s) (hk : k < s) (hj : j * s + k < n) : (madeCells z n)[j * s + k]? = z[k]? := by
  have e : (j * s + k) % s = k := by rw [Nat.add_comm, Nat.add_mul_mod_self_right]; exact Nat.mod_eq_of_lt hk
  simp [madeCells, hj, hz, e, hk]
theorem do_makeSlice {o : Oper} {x y : Operand} {e : K} {te : Ty} {d : Nat} (hT : TyOk P tt t ty) (hTs : TysOk P tt) (ha : ty.agg = false) (hk : ty.k = .sl e) (hte : look tt ty.elem = some te) (R : Rel n0 h0 lab0 nt σ a w) (hd : ∀ d', o.dst = some d' → d' < nt) (ho : o.op = .makeSlice t x y)
    (h : (rdC x fun | .i _ n => (rdC y fun | .i _ c => .br (decide (0 ≤ n)) (.br (decide (n ≤ c)) (.br (decide (c.toNat * max 1 te.bytes ≤ 140737488355328)) (newO o.dst .sl (.arr e (List.replicate n.toNat (dflt e)) 0 none) []) .fail) .fail) .fail | _ => .fail) | _ => .fail).wr ev σ = some (ws, os)) : Did P n0 h0 lab0 nt o a w (σ.put ws os) := by
  obtain ⟨lab, adr, M, T⟩ := R.mem
  obtain ⟨c1, h1, h2⟩ := wr_rdC T h
  split at h2 <;> try (cases h2; done)
  rename_i ik n
  obtain ⟨c2, h3, h4⟩ := wr_rdC T h2
  split at h4 <;> try (cases h4; done)
  rename_i ik' c
  obtain ⟨b1, h5⟩ := wr_brf h4
  obtain ⟨b2, h6⟩ := wr_brf h5
  obtain ⟨b3, h7⟩ := wr_brf h6
  have b1 := of_decide_eq_true b1
  have b2 := of_decide_eq_true b2
  have b3 := of_decide_eq_true b3
  obtain ⟨hu, te', ht, hke⟩ := hT.sl ha hk
  rw [hte] at ht; cases ht
  have hTe := hTs _ _ hte
  obtain ⟨inf, z, i1, i2, i3, i4, i5⟩ := hTe.info
  rw [hke] at i2 i5
  have ex : a.eval x = .int ik n := h1
  have ey : a.eval y = .int ik' c := h3
  have hc0 : 0 ≤ c := by omega
  have hcn : c.toNat ≤ 140737488355328 := Nat.le_trans (Nat.le_mul_of_pos_right _ (by omega)) b3
  have hby : c.toNat * te.bytes ≤ 140737488355328 := Nat.le_trans (Nat.mul_le_mul_left _ (by omega)) b3
  have hby' : (inf.bytes : Int) * c ≤ 281474976710656 := by
    rw [i3]
    have : ((c.toNat * te.bytes : Nat) : Int) ≤ 140737488355328 := by omega
    rw [Int.natCast_mul, Int.toNat_of_nonneg hc0] at this
    rw [Int.mul_comm]; omega
  have hrun := run_make (P := P) w t ty.elem inf z hu i1 i4 ik ik' n c b1 b2 hby' (by omega)
  have hzs : z.cells.size = sz e := by
    have := congrArg List.length i5
    rw [Array.length_toList, List.length_map] at this
    rw [this]
    have h2 := Rep.len (dflt_R (fun _ => none) (fun _ => none) e none)
    rw [List.length_map] at h2; exact h2
  rw [i2] at hrun
  obtain ⟨w1, w2, w3⟩ := hp_alloc (w := w) (o := .cells (madeCells z.cells (c.toNat * sz e)) ty.elem)
  have fin := rel_arr (cap := c.toNat) (lab2 := lab) R M T hd h7 w1 w2 w3 (.inl rfl) (fun d' _ _ => Mvd.refl _ _) (by rw [List.length_replicate]; omega) (by rw [size_madeCells]; exact Nat.le_refl _) (fun d' _ j hj => by
    rw [List.length_replicate] at hj
    have hr := dflt_R (hp w) lab e (some [nm d' 0, j])
    refine ⟨_, hr.len, by rw [List.getElem_replicate]; exact hr, fun k u hu => ?_⟩
    have hk' : k < sz e := by have := (List.getElem?_eq_some_iff.1 hu).1; rw [hr.len] at this; exact this
    have : (j + 1) * sz e ≤ c.toNat * sz e := Nat.mul_le_mul_right _ (by omega)
    rw [Nat.add_mul] at this
    rw [made_get hzs hk' (by omega), ← hu, ← i5]
    simp)
  rw [List.length_replicate] at fin
  refine ⟨_, _, .inl ?_, fin⟩
  simp [execOp, ho, ex, ey, hrun]
/-! append -/
theorem setRow_eq {g : Nat} {arr cs : Array Value} : w.setRow g cs = w.setRow g cs := rfl
/-- append within the room that there is. -/
theorem run_app_in {te : Ty} {ty0 : TypeId} {sLen sCap n xc : Nat} {base xb : Option Addr} {news : List Value} (hu : P.underlying t = some (.slice ty.elem)) (hTe : TyOk P tt ty.elem te) (hroom : sLen + n ≤ sCap)
    (hb : ∀ ad, base = some ad → ad.spot = none ∧ ∃ arr ta fr, hp w ad.block = some (.cells arr ta fr) ∧ Fz fr arr.size ∧ ad.off + sCap * sz te.k ≤ arr.size)
    (hl : news.length = n * sz te.k) (hx : ∀ ad, xb = some ad → ∀ j u, news[j]? = some u → w.cell? (ad.add j) = some u) (hx0 : xb = none → n = 0) (h1 : ∀ u ∈ news, u.oneCell' = true) :
    (Builtin.append_ #[t, t] ty0 #[.slice base sLen sCap, .slice xb n xc]).run P w = .ok (.slice base (sLen + n) sCap) (match base with | some ad => w.setRow ad.block (putAt (match hp w ad.block with | some (.cells arr _ _) => arr | _ => #[]) (ad.off + sLen * sz te.k) news) | none => w) := by
  obtain ⟨inf, z, i1, i2, i3, i4, i5⟩ := hTe.info
  have hf : (Builtin.firstCells inf.size n (.slice xb n xc)).run P w = .ok news.toArray w := by
    cases xb with
    | none =>
      have : n = 0 := hx0 rfl
      subst this
      have : news = [] := List.eq_nil_of_length_eq_zero (by simpa using hl)
      subst this
      simp [Builtin.firstCells]
    | some ad => exact run_firstCells_some (P := P) w inf.size n ad n xc news (by rw [i2]; exact hl) (hx ad rfl)
  cases base with
  | none => simp [Builtin.append_, run_underlying hu, sizeOf, typeInfo, i1, Builtin.lenOf, hroom, hf]
  | some ad =>
    obtain ⟨sp, arr, ta, fr, hh, hfz, hs⟩ := hb ad rfl
    have hfit : (sLen + n) * sz te.k ≤ sCap * sz te.k := Nat.mul_le_mul_right _ hroom
    rw [Nat.add_mul] at hfit
    have hst := run_storeCells_fz P ad.block (ad.off + sLen * sz te.k) ta fr news 0 arr w hh hfz (by omega) h1
    have ea : ad.add (sLen * sz te.k) = ⟨ad.block, ad.off + sLen * sz te.k, none⟩ := by
      have e1 := add_block ad (sLen * sz te.k)
      have e2 := add_off ad (sLen * sz te.k)
      have e3 := add_spot ad (sLen * sz te.k) sp
      cases h : ad.add (sLen * sz te.k)
      rw [h] at e1 e2 e3
      simp at e1 e2 e3
      simp [e1, e2, e3]
    simp only [Nat.add_zero] at hst
    dsimp only
    rw [hh]
    rw [i2] at hf
    simp [Builtin.append_, run_underlying hu, sizeOf, typeInfo, i1, i2, Builtin.lenOf, hroom, ea, hf, hst, putAt]
/-- append into a new row. -/
theorem run_app_out {te : Ty} {ty0 : TypeId} {sLen sCap n xc : Nat} {base xb : Option Addr} {olds news : List Value} (hu : P.underlying t = some (.slice ty.elem)) (hTe : TyOk P tt ty.elem te) (hroom : sCap < sLen + n) (hle : sLen ≤ sCap)
    (hb0 : base = none → sCap = 0) (hlo : olds.length = sLen * sz te.k) (hb : ∀ ad, base = some ad → ∀ j u, olds[j]? = some u → w.cell? (ad.add j) = some u)
    (hl : news.length = n * sz te.k) (hx : ∀ ad, xb = some ad → ∀ j u, news[j]? = some u → w.cell? (ad.add j) = some u) (hx0 : xb = none → n = 0) (hby : (sLen + n) * te.bytes ≤ 140737488355328) (hnn : sLen + n ≤ 9223372036854775807) :
    ∃ cap arr w', sLen + n ≤ cap ∧ arr.size = cap * sz te.k ∧ (∀ m, m < sLen * sz te.k → arr[m]? = olds[m]?) ∧ (∀ m, m < n * sz te.k → arr[sLen * sz te.k + m]? = news[m]?) ∧ (w'.heap.size = w.heap.size + 1 ∧ Sm w w') ∧ (∀ b, b < w.heap.size → w'.heap[b]? = w.heap[b]?) ∧ w'.heap[w.heap.size]? = some (.cells arr ty.elem (0, 0)) ∧
    (Builtin.append_ #[t, t] ty0 #[.slice base sLen sCap, .slice xb n xc]).run P w = .ok (.slice (some ⟨w.heap.size, 0, none⟩) (sLen + n) cap) w' := by
  obtain ⟨inf, z, i1, i2, i3, i4, i5⟩ := hTe.info
  obtain ⟨xa, rfl⟩ : ∃ xa, xb = some xa := by
    cases xb with
    | none => have := hx0 rfl; omega
    | some xa => exact ⟨xa, rfl⟩
  have hzs : z.cells.size = sz te.k := by
    have := congrArg List.length i5
    rw [Array.length_toList, List.length_map] at this
    rw [this]
    have h2 := Rep.len (dflt_R (fun _ => none) (fun _ => none) te.k none)
    rw [List.length_map] at h2; exact h2
  have key : ∀ (cap : Nat) (os' : List Value), sLen + n ≤ cap → os'.length = sLen * sz te.k → os' = olds →
      (os'.toArray ++ news.toArray ++ Builtin.zeroCells z.cells (cap - (sLen + n))).size = cap * sz te.k ∧ (∀ m, m < sLen * sz te.k → (os'.toArray ++ news.toArray ++ Builtin.zeroCells z.cells (cap - (sLen + n)))[m]? = olds[m]?) ∧
      (∀ m, m < n * sz te.k → (os'.toArray ++ news.toArray ++ Builtin.zeroCells z.cells (cap - (sLen + n)))[sLen * sz te.k + m]? = news[m]?) := by
    intro cap os' h1 h2 h3
    subst h3
    refine ⟨?_, fun m hm => ?_, fun m hm => ?_⟩
    · simp only [Array.size_append, List.size_toArray, size_zeroCells, hzs, h2, hl, ← Nat.add_mul]
      congr 1; omega
    · rw [Array.getElem?_append_left (by simp; omega), Array.getElem?_append_left (by simp; omega)]; simp
    · rw [Array.getElem?_append_left (by simp; omega), Array.getElem?_append_right (by simp; omega)]
      simp only [List.size_toArray, h2]
      rw [show sLen * sz te.k + m - sLen * sz te.k = m from by omega]; simp
  cases base with
  | none =>
    have : sCap = 0 := hb0 rfl
    subst this
    obtain rfl : sLen = 0 := by omega
    obtain rfl : olds = [] := List.eq_nil_of_length_eq_zero (by simpa using hlo)
    simp only [Nat.zero_add] at *
    have hr := run_append_nil (P := P) w t ty0 ty.elem inf z hu i1 i4 xa n xc news (by rw [i2]; exact hl) (hx xa rfl) (by omega) (by omega) (by rw [i3]; omega)
    have hge := grownCap_ge w n 0 ty.elem
    obtain ⟨k1, k2, k3⟩ := key (grownCap w n 0 ty.elem) [] hge (by simp) rfl
    simp only [Array.empty_append, List.nil_append] at k1 k2 k3
    refine ⟨grownCap w n 0 ty.elem, news.toArray ++ Builtin.zeroCells z.cells (grownCap w n 0 ty.elem - n), _, hge, ?_, fun m hm => by simp at hm, ?_, ?_, ?_, ?_, hr⟩
    · simpa using k1
    · simpa using k3
    · exact ⟨by show (w.heap.push _).size = _; simp, ⟨rfl, rfl, rfl⟩⟩
    · intro b hb
      show (w.heap.push _)[b]? = _
      rw [Array.getElem?_push, if_neg (Nat.ne_of_lt hb)]
    · show (w.heap.push _)[w.heap.size]? = _; simp
  | some ad =>
    have hr := run_append_grow (P := P) w t ty0 ty.elem inf z hu i1 i4 ad sLen sCap olds (by rw [i2]; exact hlo) (hb ad rfl) xa n xc news (by rw [i2]; exact hl) (hx xa rfl) hroom (by omega) (growslice_fits (by omega) (by rw [i3]; exact hby))
    have hge := grownCap_ge w (sLen + n) sCap ty.elem
    obtain ⟨k1, k2, k3⟩ := key (grownCap w (sLen + n) sCap ty.elem) olds hge hlo rfl
    refine ⟨grownCap w (sLen + n) sCap ty.elem, _, _, hge, k1, k2, k3, ?_, ?_, ?_, hr⟩
    · exact ⟨by show (w.heap.push _).size = _; simp, ⟨rfl, rfl, rfl⟩⟩
    · intro b hb
      show (w.heap.push _)[b]? = _
      rw [Array.getElem?_push, if_neg (Nat.ne_of_lt hb)]
    · show (w.heap.push _)[w.heap.size]? = _; simp
end
end Go.Proofs.Ytnbfhbfnccihgaa.E

/- What each operation does: append. -/
namespace Go.Proofs.Ytnbfhbfnccihgaa.E
open Go
set_option linter.unusedVariables false
set_option linter.unusedSimpArgs false
section
variable {n0 : Nat} {h0 : Ent} {lab0 : Lb} {nt : Nat} {σ : St} {a : Act} {w w' : World} {ev : Ev} {P : Program} {lab lab' : Lb} {adr adr' : Nat → Value} {ws : List (Nat × AV)} {os : List (Nat × OV)} {tt : Tys} {t : TypeId} {ty : Ty} {ob ob' : Nat → Option OV}
/-- A new name for what may lie in an old block. -/
theorem rel_name {d : Option Nat} {v : OV} {os1 : List (Nat × OV)} {val : Value} {lab2 : Lb} (R : Rel n0 h0 lab0 nt σ a w) (M : Mem n0 h0 lab0 σ.o w lab adr) (T : ∀ t, AVR (hp w) lab adr σ.o (σ.t t) (a.tmps.getD t undef)) (hd : ∀ d', d = some d' → d' < nt)
    (h : (newO d .sl v os1).wr ev σ = some (ws, os)) (hs : w.heap.size ≤ w'.heap.size ∧ Sm w w') (hf : ∀ b, lab b = none → hp w b ≠ none → lab2 b = none ∧ hp w' b = hp w b) (hb : ∀ b, lab2 b ≠ none → b < w'.heap.size)
    (hN : ∀ d', d = some d' → σ.o (nm d' 0) = none → ∀ ob' : Nat → Option OV, ObR (hp w') lab2 (adrN (nm d' 0) val adr) ob' (nm d' 0) v) (hval : ∃ x n c, val = .slice x n c) (hxo : look os1 X = none)
    (hoth : ∀ d', d = some d' → ∀ o, o ≠ nm d' 0 → (look os1 o = none ∧ ∀ b q, lab b = some (o :: q) → hp w b ≠ none → lab2 b = lab b ∧ hp w' b = hp w b) ∨ look os1 o = some .dead ∨
      (∃ v, look os1 o = some v ∧ ∀ ob' : Nat → Option OV, ob' o = some v → Goes (hp w) (hp w') adr (adrN (nm d' 0) val adr) σ.o ob' o ∧ ObR (hp w') lab2 (adrN (nm d' 0) val adr) ob' o v)) : Rel n0 h0 lab0 nt (σ.put ws os) (a.put d val) w' := by
  obtain ⟨d', rfl, hN0, rfl, rfl⟩ := newO_wr h
  have hob : (σ.put [(d', .one (.sl (nm d' 0)))] ((nm d' 0, v) :: os1)).o (nm d' 0) = some v := by rw [put_o_one, if_pos rfl]
  refine rel_upd (lab' := lab2) (adr' := adrN (nm d' 0) val adr) (v := .one (.sl (nm d' 0))) R M T hd rfl hs hf hb (by rw [put_o_one, if_neg (nmX d' 0), hxo]; exact M.nox) (fun o => ?_) (fun _ => ?_)
  · by_cases e : o = nm d' 0
    · subst e
      exact .inr (.inr ⟨nmX d' 0, .inl hN0, fun hg u hu => by rw [hob] at hu; cases hu; exact hN d' rfl hN0 _⟩)
    · have e1 : (σ.put [(d', .one (.sl (nm d' 0)))] ((nm d' 0, v) :: os1)).o o = (look os1 o).or (σ.o o) := by rw [put_o_one, if_neg (fun h => e h.symm)]
      rcases hoth d' rfl o e with ⟨h1, h2⟩ | h1 | ⟨v', h1, h2⟩
      · exact .inl ⟨by rw [e1, h1]; rfl, by unfold adrN; rw [if_neg e], h2⟩
      · exact .inr (.inl (by rw [e1, h1]; rfl))
      · have e2 : (σ.put [(d', .one (.sl (nm d' 0)))] ((nm d' 0, v) :: os1)).o o = some v' := by rw [e1, h1]; rfl
        exact .inr (.inr ⟨fun h => (by rw [h, hxo] at h1; cases h1), (h2 _ e2).1, fun _ u hu => by rw [e2] at hu; cases hu; exact (h2 _ e2).2⟩)
  · obtain ⟨x, n, c, rfl⟩ := hval
    exact ⟨⟨_, _, _, rfl⟩, by rw [hob]; simp, fun k xs' g hl e => by unfold adrN; rw [if_pos rfl]⟩
theorem flat_R {h h' : Hp} : ∀ {k : K} {p p' : Lab} {x : den k} {vs : List Value}, flat k = true → Rep h lab k p x vs → Rep h' lab' k p' x vs
  | .int _, _, _, _, _, _, r => r
  | .bool, _, _, _, _, _, r => r
  | .str, _, _, _, _, _, r => r
  | .sl _, _, _, _, _, hf, _ => by cases hf
  | .pair a b, _, _, _, _, hf, ⟨us, ws, r, r1, r2⟩ => by
    simp [flat] at hf
    exact ⟨us, ws, r, flat_R hf.1 r1, flat_R hf.2 r2⟩
/-- Labels that go from one prefix to another. -/
def mvP (A : List Nat) (g : List Nat → List Nat) (lab : Lb) : Lb := fun b => match lab b with
  | some l => if A <+: l then some (g (l.drop A.length)) else some l
  | none => none
theorem mvP_in {A : List Nat} {g : List Nat → List Nat} {b : Nat} {q : List Nat} (h : lab b = some (A ++ q)) : mvP A g lab b = some (g q) := by
  unfold mvP; rw [h]; simp
theorem mvP_out {A : List Nat} {g : List Nat → List Nat} {b : Nat} {l : List Nat} (h : lab b = some l) (hn : ¬ A <+: l) : mvP A g lab b = some l := by
  unfold mvP; rw [h]; simp [hn]
theorem mvP_none {A : List Nat} {g : List Nat → List Nat} {b : Nat} (h : lab b = none) : mvP A g lab b = none := by unfold mvP; rw [h]
theorem mvP_bnd {A : List Nat} {g : List Nat → List Nat} {b : Nat} (h : mvP A g lab b ≠ none) : lab b ≠ none := fun e => h (mvP_none e)
/-- What is known of the elements of a list and of their cells. -/
def Els (h : Hp) (lab : Lb) (e : K) (p : Nat → Lab) (xs : List (den e)) (cs : List Value) : Prop :=
  cs.length = xs.length * sz e ∧ ∀ i (hi : i < xs.length), ∃ us, us.length = sz e ∧ Rep h lab e (p i) xs[i] us ∧ ∀ k u, us[k]? = some u → cs[i * sz e + k]? = some u
theorem Els.nil {h : Hp} {e : K} {p : Nat → Lab} : Els h lab e p [] [] := ⟨by simp, fun i hi => absurd hi (Nat.not_lt_zero _)⟩
theorem Els.map {h h' : Hp} {e : K} {p p' : Nat → Lab} {xs : List (den e)} {cs : List Value} (r : Els h lab e p xs cs) (hm : ∀ i (hi : i < xs.length) us, Rep h lab e (p i) xs[i] us → Rep h' lab' e (p' i) xs[i] us) : Els h' lab' e p' xs cs :=
  ⟨r.1, fun i hi => let ⟨us, u1, u2, u3⟩ := r.2 i hi; ⟨us, u1, hm i hi us u2, u3⟩⟩
theorem Els.app {h : Hp} {e : K} {p : Nat → Lab} {xs ys : List (den e)} {cs ds : List Value} (r : Els h lab e p xs cs) (r2 : Els h lab e (fun j => p (xs.length + j)) ys ds) : Els h lab e p (xs ++ ys) (cs ++ ds) := by
  refine ⟨by rw [List.length_append, List.length_append, r.1, r2.1, Nat.add_mul], fun i hi => ?_⟩
  by_cases hlt : i < xs.length
  · obtain ⟨us, u1, u2, u3⟩ := r.2 i hlt
    refine ⟨us, u1, by rw [List.getElem_append_left hlt]; exact u2, fun k u hu => ?_⟩
    have := u3 k u hu
    rw [List.getElem?_append_left (List.getElem?_eq_some_iff.1 this).1]; exact this
  · rw [List.length_append] at hi
    obtain ⟨us, u1, u2, u3⟩ := r2.2 (i - xs.length) (by omega)
    refine ⟨us, u1, ?_, fun k u hu => ?_⟩
    · rw [List.getElem_append_right (by omega)]
      dsimp only at u2
      rw [show xs.length + (i - xs.length) = i from by omega] at u2
      exact u2
    · have := u3 k u hu
      have e1 : i * sz e + k = cs.length + ((i - xs.length) * sz e + k) := by
        rw [r.1, ← Nat.add_assoc, ← Nat.add_mul, show xs.length + (i - xs.length) = i from by omega]
      rw [e1, List.getElem?_append_right (by omega), Nat.add_sub_cancel_left]
      exact this
/-- The cells of a list that is represented. -/
theorem Rep.els {h : Hp} {e : K} {p : Lab} {xs : List (den e)} {a' : Option Addr} {n c : Nat} (r : Rep h lab (.sl e) p xs [.slice a' n c]) : ∃ cs, Els h lab e (fun i => ext p [i]) xs cs ∧ (∀ ad, a' = some ad → ∀ j u, cs[j]? = some u → cellAt h (ad.add j) = some u) ∧ (a' = none → xs.length = 0) := by
  obtain ⟨a2, n2, c2, e1, hn, hc, ho, hs, hr⟩ := r
  simp at e1
  obtain ⟨rfl, rfl, rfl⟩ := e1
  cases a' with
  | none =>
    have : xs = [] := by
      cases xs with
      | nil => rfl
      | cons x xs => obtain ⟨ad, e, _⟩ := hs (by rw [hn]; simp); cases e
    subst this
    exact ⟨[], Els.nil, fun ad e => (by cases e), fun _ => rfl⟩
  | some ad =>
    have key : ∀ m, m ≤ xs.length → ∃ cs : List Value, cs.length = m * sz e ∧ (∀ i (hi : i < m) (hi2 : i < xs.length), ∃ us, us.length = sz e ∧ Rep h lab e (ext p [i]) xs[i] us ∧ ∀ k u, us[k]? = some u → cs[i * sz e + k]? = some u) ∧ ∀ j u, cs[j]? = some u → cellAt h (ad.add j) = some u := by
      intro m
      induction m with
      | zero => exact fun _ => ⟨[], by simp, fun i hi => absurd hi (Nat.not_lt_zero _), fun j u h => by simp at h⟩
      | succ m ih =>
        intro hm
        obtain ⟨cs, c1, c2, c3⟩ := ih (by omega)
        obtain ⟨us, u1, u2, u3⟩ := hr ad rfl m (by omega)
        refine ⟨cs ++ us, by rw [List.length_append, c1, u1, Nat.add_mul, Nat.one_mul], fun i hi hi2 => ?_, fun j u hj => ?_⟩
        · by_cases hlt : i < m
          · obtain ⟨us', v1, v2, v3⟩ := c2 i hlt hi2
            refine ⟨us', v1, v2, fun k u hu => ?_⟩
            have := v3 k u hu
            rw [List.getElem?_append_left (List.getElem?_eq_some_iff.1 this).1]; exact this
          · obtain rfl : i = m := by omega
            refine ⟨us, u1, u2, fun k u hu => ?_⟩
            rw [List.getElem?_append_right (by omega), c1, Nat.add_sub_cancel_left]; exact hu
        · by_cases hlt : j < cs.length
          · rw [List.getElem?_append_left hlt] at hj; exact c3 j u hj
          · rw [List.getElem?_append_right (by omega)] at hj
            have := u3 _ u hj
            rw [← c1, show cs.length + (j - cs.length) = j from by omega] at this; exact this
    obtain ⟨cs, c1, c2, c3⟩ := key xs.length (Nat.le_refl _)
    exact ⟨cs, ⟨c1, fun i hi => c2 i hi hi⟩, fun ad' e j u hj => by cases e; exact c3 j u hj, fun e => by cases e⟩
/-- Cells of values are one cell each. -/
theorem rep_one {h : Hp} : ∀ {k : K} {p : Lab} {x : den k} {vs : List Value}, Rep h lab k p x vs → ∀ v ∈ vs, v.oneCell' = true
  | .int _, _, _, _, r, v, hv => by rw [show _ = _ from r] at hv; simp at hv; subst hv; rfl
  | .bool, _, _, _, r, v, hv => by rw [show _ = _ from r] at hv; simp at hv; subst hv; rfl
  | .str, _, _, _, r, v, hv => by rw [show _ = _ from r] at hv; simp at hv; subst hv; rfl
  | .sl _, _, _, _, ⟨_, _, _, e, _⟩, v, hv => by rw [e] at hv; simp at hv; subst hv; rfl
  | .pair a b, _, _, _, ⟨us, ws, e, r1, r2⟩, v, hv => by
    rw [e] at hv
    rcases List.mem_append.1 hv with h1 | h1
    · exact rep_one r1 v h1
    · exact rep_one r2 v h1
theorem Els.one {h : Hp} {e : K} {p : Nat → Lab} {xs : List (den e)} {cs : List Value} (r : Els h lab e p xs cs) : ∀ v ∈ cs, v.oneCell' = true := by
  intro v hv
  obtain ⟨j, hj, e1⟩ := List.getElem_of_mem hv
  have hz := sz_pos e
  have hjx : j / sz e < xs.length := by rw [r.1] at hj; exact Nat.div_lt_of_lt_mul (by rw [Nat.mul_comm]; exact hj)
  obtain ⟨us, u1, u2, u3⟩ := r.2 (j / sz e) hjx
  have hk : j % sz e < us.length := by rw [u1]; exact Nat.mod_lt _ hz
  have := u3 (j % sz e) _ (List.getElem?_eq_getElem hk)
  rw [show j / sz e * sz e + j % sz e = j from by rw [Nat.mul_comm]; exact Nat.div_add_mod j (sz e), List.getElem?_eq_getElem hj, e1] at this
  cases this
  exact rep_one u2 _ (List.getElem_mem hk)
/-- A list out of its elements. -/
theorem Els.rep {h : Hp} {e : K} {N : Nat} {xs : List (den e)} {cs : List Value} {ad : Addr} {c : Nat} {arr : Array Value} {ta : TypeId} {fr : Nat × Nat} (r : Els h lab e (fun i => some [N, i]) xs cs) (sp : ad.spot = none) (hb : h ad.block = some (.cells arr ta fr)) (hfz : Fz fr arr.size) (lb : lab ad.block = some [N]) (hc : xs.length ≤ c) (hsz : ad.off + c * sz e ≤ arr.size)
    (hcs : ∀ m u, cs[m]? = some u → arr[ad.off + m]? = some u) : Rep h lab (.sl e) (some [N]) xs [.slice (some ad) xs.length c] := by
  have ea : ad = ⟨ad.block, ad.off, none⟩ := by cases ad; simp at sp; simp [sp]
  rw [ea]
  refine Rep.list hb hfz lb hc hsz (fun i hi => ?_)
  obtain ⟨us, u1, u2, u3⟩ := r.2 i hi
  exact ⟨us, u1, u2, fun k u hu => hcs _ u (u3 k u hu)⟩
/-- append, when it is known what becomes of the labels. -/
theorem app_core {o : Oper} {s x : Operand} {e : K} {te : Ty} {d N : Nat} {xs ys : List (den e)} {os1 : List (Nat × OV)} {lab2 : Lb} {base xb : Option Addr} {sCap xc : Nat} {olds news : List Value} (hT : TyOk P tt t ty) (hTs : TysOk P tt) (hu : P.underlying t = some (.slice ty.elem)) (hte : look tt ty.elem = some te) (hke : te.k = e)
    (R : Rel n0 h0 lab0 nt σ a w) (M : Mem n0 h0 lab0 σ.o w lab adr) (T : ∀ t, AVR (hp w) lab adr σ.o (σ.t t) (a.tmps.getD t undef)) (hdd : o.dst = some d) (hNn : N = nm d 0) (hd : ∀ d', o.dst = some d' → d' < nt) (ho : o.op = .call { callee := .builtin .append, args := #[s, x], argTypes := #[t, t] })
    (hs : a.eval s = .slice base xs.length sCap) (hx : a.eval x = .slice xb ys.length xc) (hsc : xs.length ≤ sCap) (hb0 : base = none → sCap = 0)
    (hblk : ∀ ad, base = some ad → ad.spot = none ∧ lab2 ad.block = some [N] ∧ lab ad.block ≠ none ∧ ∃ arr ta fr, hp w ad.block = some (.cells arr ta fr) ∧ Fz fr arr.size ∧ ad.off + sCap * sz e ≤ arr.size)
    (hol : ∀ ad, base = some ad → ∀ j u, olds[j]? = some u → cellAt (hp w) (ad.add j) = some u) (hne : ∀ ad, xb = some ad → ∀ j u, news[j]? = some u → cellAt (hp w) (ad.add j) = some u) (hx0 : xb = none → ys.length = 0)
    (h1 : ∀ u ∈ news, u.oneCell' = true) (hel : Els (hp w) lab2 e (fun i => some [N, i]) (xs ++ ys) (olds ++ news)) (hlo : olds.length = xs.length * sz e)
    (hn : ∀ b, lab b = none → lab2 b = none) (hbn : ∀ b, lab2 b ≠ none → lab b ≠ none) (hxo : look os1 X = none)
    (hoth : ∀ w' : World, (∀ b q, lab b = some q → lab2 b ≠ some [N] → hp w b ≠ none → hp w' b = hp w b) → ∀ lab3 : Lb, (∀ b, hp w b ≠ none → lab3 b = lab2 b) → ∀ val, ∀ o, o ≠ N → (look os1 o = none ∧ ∀ b q, lab b = some (o :: q) → hp w b ≠ none → lab3 b = lab b ∧ hp w' b = hp w b) ∨ look os1 o = some .dead ∨
      (∃ v, look os1 o = some v ∧ ∀ ob' : Nat → Option OV, ob' o = some v → Goes (hp w) (hp w') adr (adrN N val adr) σ.o ob' o ∧ ObR (hp w') lab3 (adrN N val adr) ob' o v))
    (h : (Pg.br (decide ((xs.length + ys.length) * max 1 te.bytes ≤ 140737488355328)) (newO o.dst .sl (.arr e (xs ++ ys) 0 none) os1) .fail).wr ev σ = some (ws, os)) : Did P n0 h0 lab0 nt o a w (σ.put ws os) := by
  obtain ⟨b0, h3⟩ := wr_brf h
  have b0 := of_decide_eq_true b0
  have b1 : (xs.length + ys.length) * te.bytes ≤ 140737488355328 := Nat.le_trans (Nat.mul_le_mul_left _ (by omega)) b0
  have b2 : xs.length + ys.length ≤ 140737488355328 := Nat.le_trans (Nat.le_mul_of_pos_right _ (by omega)) b0
  have hTe := hTs _ _ hte
  subst hke
  have hln : news.length = ys.length * sz te.k := by
    have := hel.1
    rw [List.length_append, List.length_append, hlo, Nat.add_mul] at this; omega
  have hexec : ∀ {v w'}, (Builtin.append_ #[t, t] o.type #[.slice base xs.length sCap, .slice xb ys.length xc]).run P w = .ok v w' → (execOp a.eval o).run P w = .ok (.value v) w' := by
    intro v w' hr
    simp [execOp, ho, resolve, invoke, builtin, hs, hx, hr]
  by_cases hroom : xs.length + ys.length ≤ sCap
  · have hrun := run_app_in (P := P) (w := w) (ty0 := o.type) (xc := xc) (news := news) hu hTe hroom (fun ad e => let ⟨q1, _, _, q2⟩ := hblk ad e; ⟨q1, q2⟩) hln (fun ad e => hne ad e) hx0 h1
    refine ⟨_, _, .inl (hexec hrun), ?_⟩
    cases base with
    | none =>
      have hc0 : sCap = 0 := hb0 rfl
      have hxs : xs = [] := List.eq_nil_of_length_eq_zero (by omega)
      have hys : ys = [] := List.eq_nil_of_length_eq_zero (by omega)
      subst hxs hys hc0
      refine rel_name (w' := w) (lab2 := lab2) R M T hd h3 ⟨Nat.le_refl _, Sm.refl _⟩ (fun b hb _ => ⟨hn b hb, rfl⟩) (fun b hb => M.bnd b (hbn b hb)) (fun d' e1 _ ob' => ?_) ⟨_, _, _, rfl⟩ hxo (fun d' e1 o' ho' => ?_)
      · show Rep _ _ (.sl te.k) _ _ [adrN _ _ _ _]
        unfold adrN; rw [if_pos rfl]
        exact ⟨none, 0, 0, rfl, rfl, Nat.le_refl _, fun P e => ⟨fun _ => by simp, fun ad e => by cases e⟩, fun h => absurd h (Nat.lt_irrefl 0), fun ad e => by cases e⟩
      · rw [hdd] at e1; cases e1
        rw [← hNn] at ho' ⊢
        exact hoth w (fun _ _ _ _ _ => rfl) lab2 (fun _ _ => rfl) _ o' ho'
    | some ad =>
      obtain ⟨sp, lb, lbn, arr, ta, fr, hb, hfz, hsz⟩ := hblk ad rfl
      dsimp only at hrun ⊢
      rw [hb]
      dsimp only
      obtain ⟨s1, s2, s3⟩ := hp_setRow (w := w) (cs := putAt arr (ad.off + xs.length * sz te.k) news) hb
      have hfit : (xs.length + ys.length) * sz te.k ≤ sCap * sz te.k := Nat.mul_le_mul_right _ hroom
      rw [Nat.add_mul] at hfit
      have hfit2 : ad.off + xs.length * sz te.k + news.length ≤ arr.size := by omega
      have hsame : ∀ b q, lab b = some q → lab2 b ≠ some [N] → hp w b ≠ none → hp (w.setRow ad.block (putAt arr (ad.off + xs.length * sz te.k) news)) b = hp w b := fun b q _ hne _ => s3 b (by rintro rfl; exact hne lb)
      refine rel_name (lab2 := lab2) R M T hd h3 ⟨by rw [s1]; exact Nat.le_refl _, ⟨rfl, rfl, rfl⟩⟩ (fun b hb' _ => ⟨hn b hb', s3 b (by rintro rfl; exact lbn hb')⟩) (fun b hb' => by rw [s1]; exact M.bnd b (hbn b hb')) (fun d' e1 _ ob' => ?_) ⟨_, _, _, rfl⟩ hxo (fun d' e1 o' ho' => ?_)
      · rw [hdd] at e1; cases e1
        rw [← hNn]
        show Rep _ _ (.sl te.k) _ _ [adrN _ _ _ _]
        unfold adrN; rw [if_pos rfl]
        have hel' : Els (hp (w.setRow ad.block (putAt arr (ad.off + xs.length * sz te.k) news))) lab2 te.k (fun i => some [N, i]) (xs ++ ys) (olds ++ news) := by
          refine hel.map (fun i hi us r => Rep.frame (fun b q eb hx => ⟨rfl, s3 b ?_⟩) r)
          rintro rfl
          rw [lb] at eb; simp [ext] at eb
        have := Els.rep (c := sCap) hel' sp s2 (by rw [putAt_size hfit2]; exact hfz) lb (by rw [List.length_append]; exact hroom) (by rw [putAt_size hfit2]; exact hsz) (fun m u hm => ?_)
        · rw [List.length_append] at this; exact this
        · rw [putAt_get hfit2]
          by_cases hlt : m < olds.length
          · rw [List.getElem?_append_left hlt] at hm
            have := hol ad rfl m u hm
            rw [cellAt_add hb sp] at this
            rw [if_pos (by omega)]; exact this
          · rw [List.getElem?_append_right (by omega)] at hm
            have hlt2 := (List.getElem?_eq_some_iff.1 hm).1
            rw [if_neg (by omega), if_pos (by omega), ← hm]
            congr 1; omega
      · rw [hdd] at e1; cases e1
        rw [← hNn] at ho' ⊢
        exact hoth _ hsame lab2 (fun _ _ => rfl) _ o' ho'
  · obtain ⟨cap, arr, w', k1, k2, k3, k4, w1, w2, w3, hrun⟩ := run_app_out (P := P) (w := w) (ty0 := o.type) (xc := xc) (news := news) (olds := olds) hu hTe (by omega) hsc hb0 hlo (fun ad e => hol ad e) hln (fun ad e => hne ad e) hx0 b1 (by omega)
    refine ⟨_, _, .inl (hexec hrun), ?_⟩
    have hsm : ∀ b, hp w b ≠ none → labN w N lab2 b = lab2 b := by
      intro b hx
      have := hp_lt hx
      unfold labN; rw [if_neg (by omega)]
    refine rel_name (lab2 := labN w N lab2) R M T hd h3 ⟨by omega, w1.2⟩ (fun b hb' hx => ⟨by rw [hsm b hx]; exact hn b hb', w2 b (hp_lt hx)⟩) (fun b hb' => ?_) (fun d' e1 _ ob' => ?_) ⟨_, _, _, rfl⟩ hxo (fun d' e1 o' ho' => ?_)
    · unfold labN at hb'
      split at hb'
      · omega
      · have := M.bnd b (hbn b hb'); omega
    · rw [hdd] at e1; cases e1
      rw [← hNn]
      show Rep _ _ (.sl te.k) _ _ [adrN _ _ _ _]
      unfold adrN; rw [if_pos rfl]
      have hel' : Els (hp w') (labN w N lab2) te.k (fun i => some [N, i]) (xs ++ ys) (olds ++ news) := hel.map (fun i hi us r => Rep.frame (fun b q eb hx => ⟨hsm b hx, w2 b (hp_lt hx)⟩) r)
      have := Els.rep (c := cap) (ad := ⟨w.heap.size, 0, none⟩) hel' rfl w3 (.inl rfl) (by unfold labN; rw [if_pos rfl]) (by rw [List.length_append]; exact k1) (by simp [k2]) (fun m u hm => ?_)
      · rw [List.length_append] at this; exact this
      · show arr[0 + m]? = _
        rw [Nat.zero_add]
        by_cases hlt : m < olds.length
        · rw [List.getElem?_append_left hlt] at hm
          rw [k3 m (by omega)]; exact hm
        · rw [List.getElem?_append_right (by omega)] at hm
          have hlt2 := (List.getElem?_eq_some_iff.1 hm).1
          rw [← hm, ← k4 (m - olds.length) (by omega)]
          congr 1; omega
    · rw [hdd] at e1; cases e1
      rw [← hNn] at ho' ⊢
      exact hoth w' (fun b q _ _ hx => w2 b (hp_lt hx)) _ hsm _ o' ho'
end
end Go.Proofs.Ytnbfhbfnccihgaa.E

/- What each operation does: append, all. -/
namespace Go.Proofs.Ytnbfhbfnccihgaa.E
open Go
set_option linter.unusedVariables false
set_option linter.unusedSimpArgs false
section
variable {n0 : Nat} {h0 : Ent} {lab0 : Lb} {nt : Nat} {σ : St} {a : Act} {w w' : World} {ev : Ev} {P : Program} {lab lab' : Lb} {adr adr' : Nat → Value} {ws : List (Nat × AV)} {os : List (Nat × OV)} {tt : Tys} {t : TypeId} {ty : Ty} {ob ob' : Nat → Option OV}
/-- What becomes of the other objects. -/
def Oth (w : World) (lab lab1 : Lb) (adr : Nat → Value) (ob : Nat → Option OV) (N : Nat) (os1 : List (Nat × OV)) : Prop :=
  ∀ w' : World, (∀ b q, lab b = some q → lab1 b ≠ some [N] → hp w b ≠ none → hp w' b = hp w b) → ∀ lab3 : Lb, (∀ b, hp w b ≠ none → lab3 b = lab1 b) → ∀ val, ∀ o, o ≠ N → (look os1 o = none ∧ ∀ b q, lab b = some (o :: q) → hp w b ≠ none → lab3 b = lab b ∧ hp w' b = hp w b) ∨ look os1 o = some .dead ∨
      (∃ v, look os1 o = some v ∧ ∀ ob' : Nat → Option OV, ob' o = some v → Goes (hp w) (hp w') adr (adrN N val adr) ob ob' o ∧ ObR (hp w') lab3 (adrN N val adr) ob' o v)
/-- The list that is appended to. -/
structure SP (w : World) (lab : Lb) (adr : Nat → Value) (ob : Nat → Option OV) (v : Value) (e : K) (N : Nat) (xs : List (den e)) (os1 : List (Nat × OV)) (base : Option Addr) (sCap : Nat) (olds : List Value) (lab1 : Lb) : Prop where
  hs : v = .slice base xs.length sCap
  hsc : xs.length ≤ sCap
  hb0 : base = none → sCap = 0
  hblk : ∀ ad, base = some ad → ad.spot = none ∧ lab1 ad.block = some [N] ∧ lab ad.block ≠ none ∧ ∃ arr ta fr, hp w ad.block = some (.cells arr ta fr) ∧ Fz fr arr.size ∧ ad.off + sCap * sz e ≤ arr.size
  hol : ∀ ad, base = some ad → ∀ j u, olds[j]? = some u → cellAt (hp w) (ad.add j) = some u
  hel : Els (hp w) lab1 e (fun i => some [N, i]) xs olds
  hn : ∀ b, lab b = none → lab1 b = none
  hbn : ∀ b, lab1 b ≠ none → lab b ≠ none
  hoth : Oth w lab lab1 adr ob N os1
  keep : (∀ p ∈ os1, p.2 = .dead) → ∀ b o q, lab b = some (o :: q) → o ∉ os1.map (·.1) → lab1 b = some (o :: q)
  only : ∀ o ∈ os1.map (·.1), ob o ≠ none
theorem SP.nil {e : K} {N : Nat} : SP w lab adr ob (.slice none 0 0) e N [] [] none 0 [] lab :=
  ⟨rfl, Nat.le_refl _, fun _ => rfl, fun ad e => by (cases e), fun ad e => by (cases e), Els.nil, fun _ h => h, fun _ h => h, fun w' h1 lab3 h2 val o ho => .inl ⟨rfl, fun b q hb hx => by
    have hl := h2 b hx
    exact ⟨hl, h1 b _ hb (by rw [hb]; simp; exact fun e _ => ho e) hx⟩⟩, fun _ _ _ _ h _ => h, fun o h => by simp at h⟩
theorem pre_cons {o o' : Nat} {q : List Nat} (h : o' ≠ o) : ¬ [o] <+: o' :: q := by
  rintro ⟨r, e⟩
  simp at e; exact h e.1.symm
/-- An own list is taken. -/
theorem SP.own {e : K} {N o g : Nat} {xs : List (den e)} {v : Value} (M : Mem n0 h0 lab0 ob w lab adr) (hN : ob N = none) (he : ob o = some (.arr e xs g none)) (hv : v = adr o) :
    ∃ base sCap olds lab1, SP w lab adr ob v e N xs [(o, .dead)] base sCap olds lab1 := by
  have r := M.objs o _ he
  simp only [ObR] at r
  obtain ⟨base, n, c, e1, hn, hc, hown, hs, hr⟩ := r
  simp at e1
  have r := M.objs o _ he
  simp only [ObR] at r
  rw [e1] at r
  subst hn
  obtain ⟨olds, hel, hcs, hnone⟩ := r.els
  obtain ⟨ho1, ho2⟩ := hown [o] rfl
  have hoN : o ≠ N := by rintro rfl; rw [hN] at he; cases he
  refine ⟨base, c, olds, mvP [o] (fun q => N :: q) lab, ⟨by rw [hv, e1], hc, fun hb => ?_, fun ad hb => ?_, hcs, ?_, fun b h => mvP_none h, fun b h => mvP_bnd h, ?_, ?_, ?_⟩⟩
  · have := ho1 hb
    have hz := sz_pos e
    rcases Nat.eq_zero_or_pos c with h | h
    · exact h
    · have := Nat.mul_pos h hz; omega
  · obtain ⟨sp, lb, arr, ta, fr, hb', hsz⟩ := ho2 ad hb
    exact ⟨sp, mvP_in (A := [o]) (q := []) lb, by rw [lb]; simp, arr, ta, fr, hb', hsz⟩
  · refine hel.map (fun i hi us r => Rep.relab (fun _ _ => ⟨_, rfl⟩) (fun b q hb hx => ⟨?_, rfl⟩) r)
    exact mvP_in (A := [o]) (q := i :: q) (by simpa [ext] using hb)
  · intro w' h1 lab3 h2 val o' ho'
    by_cases eo : o' = o
    · subst eo; exact .inr (.inl (by simp [look]))
    · refine .inl ⟨by simp [look]; exact fun e => eo e.symm, fun b q hb hx => ?_⟩
      have e2 : mvP [o] (fun q => N :: q) lab b = some (o' :: q) := mvP_out hb (pre_cons eo)
      exact ⟨by rw [h2 b hx, e2, hb], h1 b _ hb (by rw [e2]; simp; exact fun e _ => ho' e) hx⟩
  · intro _ b o' q hb hn'
    simp at hn'
    exact mvP_out hb (pre_cons hn')
  · intro o' h; simp at h; subst h; rw [he]; simp
theorem SP.view {k e : K} {N o g i c : Nat} {xs : List (den k)} {x' : den k} {ys : List (den e)} {v : Value} (M : Mem n0 h0 lab0 ob w lab adr) (hN : ob N = none) (he : ob o = some (.arr k xs g none)) (hv : CVR (hp w) lab adr ob (.vw o g i c) v)
    (hl : leafGet k (xs.getD i (dflt k)) c = ⟨.sl e, ys⟩) (hx : E.leafSet k (xs.getD i (dflt k)) c ⟨.sl e, []⟩ = some x') :
    ∃ base sCap olds lab1, SP w lab adr ob v e N ys [(o, .arr k (xs.set i x') (g + 1) (some (i, c)))] base sCap olds lab1 := by
  obtain ⟨_, _, hc0⟩ := hv
  obtain ⟨_, hc0⟩ := hc0 k xs g none he
  obtain ⟨hi, hcz, ad0, n0', cp0, e3, e4⟩ := hc0 rfl
  have r := M.objs o _ he
  simp only [ObR] at r
  rw [e3] at r
  obtain ⟨u, hu', hr⟩ := Rep.elem r hi hcz
  rw [e4] at hu'; cases hu'
  rw [getD_get xs i _ hi] at hl hx
  rw [hl] at hr
  obtain ⟨base, sCap, e5⟩ := Rep.sli hr
  obtain ⟨sp0, lb0, arr0, ta0, fr0, hb0, hfz0, hsz0⟩ := M.blk he e3
  have hr' : Rep (hp w) lab (.sl e) (some (o :: i :: leafP k c)) ys [.slice base ys.length sCap] := by
    have := hr; rw [e5] at this; simpa [ext] using this
  obtain ⟨olds, hel, hcs, hnone⟩ := hr'.els
  have hr2 := hr'
  obtain ⟨base', n', c', q1, hn, hc, hown, hs, hrr⟩ := hr2
  simp at q1
  obtain ⟨rfl, rfl, rfl⟩ := q1
  obtain ⟨ho1, ho2⟩ := hown _ rfl
  have hoN : o ≠ N := by rintro rfl; rw [hN] at he; cases he
  let A := o :: i :: leafP k c
  have hpre : ∀ {o' : Nat} {q : List Nat}, o' ≠ o → ¬ A <+: o' :: q := by
    intro o' q ho'
    rintro ⟨r, e⟩
    simp [A] at e; exact ho' e.1.symm
  refine ⟨base, sCap, olds, mvP A (fun q => N :: q) lab, ⟨e5, hc, fun hb => ?_, fun ad hb => ?_, hcs, ?_, fun b h => mvP_none h, fun b h => mvP_bnd h, ?_, ?_, ?_⟩⟩
  · have := ho1 hb
    have hz := sz_pos e
    rcases Nat.eq_zero_or_pos sCap with h | h
    · exact h
    · have := Nat.mul_pos h hz; omega
  · obtain ⟨sp, lb, arr, ta, fr, hb', hsz⟩ := ho2 ad hb
    exact ⟨sp, mvP_in (A := A) (q := []) (by simpa [A] using lb), by rw [lb]; simp, arr, ta, fr, hb', hsz⟩
  · refine hel.map (fun j hj us r => Rep.relab (fun _ _ => ⟨_, rfl⟩) (fun b q hb hx => ⟨?_, rfl⟩) r)
    exact mvP_in (A := A) (q := j :: q) (by simpa [ext, A] using hb)
  · intro w' h1 lab3 h2 val o' ho'
    by_cases eo : o' = o
    · subst eo
      refine .inr (.inr ⟨_, by simp [look], fun ob' hob' => ⟨.inr (.inr (.inr (.inr ⟨k, xs, xs.set i x', g, g + 1, none, some (i, c), he, hob', by omega, by rw [List.length_set], by unfold adrN; rw [if_neg ho']⟩))), ?_⟩⟩)
      refine ⟨by rw [List.length_set]; exact hi, hcz, ad0, n0', cp0, by unfold adrN; rw [if_neg ho']; exact e3, ?_⟩
      have hbs : hp w' ad0.block = hp w ad0.block := h1 _ _ lb0 (by
        have : mvP A (fun q => N :: q) lab ad0.block = some [o'] := mvP_out lb0 (by rintro ⟨r, e⟩; simp [A] at e)
        rw [this]; simpa using ho') (by rw [hb0]; simp)
      have hadr : adrN N val adr o' = .slice (some ad0) n0' cp0 := by unfold adrN; rw [if_neg ho']; exact e3
      rw [hadr]
      have hpb : (ad0.add (i * sz k + c)).block = ad0.block := add_block _ _
      refine Rep.setCell (h := hp w) (lab := lab) r hi hcz hx (u := .slice none 0 0) (fun arr t fr hb _ => ?_) (fun b q hb hq hx => ?_) (dflt_R _ _ (.sl e) _)
      · unfold setH
        rw [hpb, if_pos rfl, hbs, hb, add_off]
      · have hnp : ¬ A <+: o' :: q := by
          rintro ⟨r, e⟩
          simp [A] at e
          exact hq ⟨r, by simpa using e.symm⟩
        have e2 : mvP A (fun q => N :: q) lab b = some (o' :: q) := mvP_out (by simpa using hb) hnp
        refine ⟨by rw [h2 b hx, e2]; exact hb.symm, fun hne => ?_⟩
        rw [setH_ne (by rw [hpb]; exact hne)]
        exact h1 b _ hb (by rw [e2]; simp; exact fun e => absurd e ho') hx
    · refine .inl ⟨by simp [look]; exact fun e => eo e.symm, fun b q hb hx => ?_⟩
      have e2 : mvP A (fun q => N :: q) lab b = some (o' :: q) := mvP_out hb (hpre eo)
      exact ⟨by rw [h2 b hx, e2, hb], h1 b _ hb (by rw [e2]; simp; exact fun e _ => ho' e) hx⟩
  · intro hd
    have := hd _ List.mem_cons_self
    cases this
  · intro o' h; simp at h; subst h; rw [he]; simp
end
end Go.Proofs.Ytnbfhbfnccihgaa.E

/- What each operation does: append, slices, structs. -/
namespace Go.Proofs.Ytnbfhbfnccihgaa.E
open Go
set_option linter.unusedVariables false
set_option linter.unusedSimpArgs false
section
variable {n0 : Nat} {h0 : Ent} {lab0 : Lb} {nt : Nat} {σ : St} {a : Act} {w w' : World} {ev : Ev} {P : Program} {lab lab' : Lb} {adr adr' : Nat → Value} {ws : List (Nat × AV)} {os : List (Nat × OV)} {tt : Tys} {t : TypeId} {ty : Ty} {ob ob' : Nat → Option OV}
def shiftN (N n : Nat) : List Nat → List Nat
  | [] => [N, 0]
  | j :: r => N :: (n + j) :: r
theorem look_none {α : Type} {l : List (Nat × α)} {n : Nat} (h : n ∉ l.map (·.1)) : look l n = none := by
  induction l with
  | nil => rfl
  | cons p l ih =>
    obtain ⟨m, v⟩ := p
    simp at h
    simp only [look]
    rw [if_neg (fun e => h.1 e.symm)]
    exact ih (by simpa using h.2)
theorem do_pappX {o : Oper} {s x : Operand} {e : K} {te : Ty} {d : Nat} {xs : List (den e)} {os1 : List (Nat × OV)} {base : Option Addr} {sCap : Nat} {olds : List Value} {lab1 : Lb} {c : CV} (hT : TyOk P tt t ty) (hTs : TysOk P tt) (hu : P.underlying t = some (.slice ty.elem)) (hte : look tt ty.elem = some te) (hke : te.k = e)
    (R : Rel n0 h0 lab0 nt σ a w) (M : Mem n0 h0 lab0 σ.o w lab adr) (T : ∀ t, AVR (hp w) lab adr σ.o (σ.t t) (a.tmps.getD t undef)) (hdd : o.dst = some d) (hd : ∀ d', o.dst = some d' → d' < nt) (ho : o.op = .call { callee := .builtin .append, args := #[s, x], argTypes := #[t, t] })
    (hN : σ.o (nm d 0) = none) (S : SP w lab adr σ.o (a.eval s) e (nm d 0) xs os1 base sCap olds lab1) (hc : CVR (hp w) lab adr σ.o c (a.eval x))
    (h : (pappX o.dst e te.bytes xs os1 c).wr ev σ = some (ws, os)) : Did P n0 h0 lab0 nt o a w (σ.put ws os) := by
  have hxo : look os1 X = none := look_none (fun hm => S.only X hm M.nox)
  have fin : ∀ {ys : List (den e)} {os2 : List (Nat × OV)} {xb : Option Addr} {xc : Nat} {news : List Value} {lab2 : Lb}, a.eval x = .slice xb ys.length xc → (∀ ad, xb = some ad → ∀ j u, news[j]? = some u → cellAt (hp w) (ad.add j) = some u) → (xb = none → ys.length = 0) →
      (∀ u ∈ news, u.oneCell' = true) → Els (hp w) lab2 e (fun i => some [nm d 0, i]) (xs ++ ys) (olds ++ news) → (∀ b, lab1 b = none → lab2 b = none) → (∀ b, lab2 b ≠ none → lab1 b ≠ none) → (∀ b, lab1 b = some [nm d 0] → lab2 b = some [nm d 0]) →
      look (os1 ++ os2) X = none → Oth w lab lab2 adr σ.o (nm d 0) (os1 ++ os2) → (Pg.br (decide ((xs.length + ys.length) * max 1 te.bytes ≤ 140737488355328)) (newO o.dst .sl (.arr e (xs ++ ys) 0 none) (os1 ++ os2)) .fail).wr ev σ = some (ws, os) → Did P n0 h0 lab0 nt o a w (σ.put ws os) := by
    intro ys os2 xb xc news lab2 e1 e2 e3 e4 e5 e6 e7 e8 ex e9 e10
    exact app_core hT hTs hu hte hke R M T hdd rfl hd ho S.hs e1 S.hsc S.hb0 (fun ad he => by obtain ⟨q1, q2, q3, q4⟩ := S.hblk ad he; exact ⟨q1, e8 _ q2, q3, q4⟩) S.hol e2 e3 e4 e5 S.hel.1 (fun b hb => e6 b (S.hn b hb)) (fun b hb => S.hbn b (e7 b hb)) ex e9 e10
  have flatcase : ∀ {ys : List (den e)} {p : Lab}, flat e = true → Rep (hp w) lab (.sl e) p ys [a.eval x] → (Pg.br (decide ((xs.length + ys.length) * max 1 te.bytes ≤ 140737488355328)) (newO o.dst .sl (.arr e (xs ++ ys) 0 none) (os1 ++ [])) .fail).wr ev σ = some (ws, os) → Did P n0 h0 lab0 nt o a w (σ.put ws os) := by
    intro ys p hf hr hw
    obtain ⟨xb, xc, e1⟩ := hr.sli
    rw [e1] at hr
    obtain ⟨news, hel, hcs, hnone⟩ := hr.els
    exact fin (lab2 := lab1) e1 hcs hnone hel.one (S.hel.app (hel.map fun i hi us r => flat_R hf r)) (fun _ h => h) (fun _ h => h) (fun _ h => h) (by rw [List.append_nil]; exact hxo) (by rw [List.append_nil]; exact S.hoth) hw
  have gen : (rdL c fun e' ys => if h : e' = e then (if flat e = true then (Pg.br (decide ((xs.length + (h ▸ ys : List (den e)).length) * max 1 te.bytes ≤ 140737488355328)) (newO o.dst .sl (.arr e (xs ++ (h ▸ ys)) 0 none) (os1 ++ [])) .fail) else .fail) else .fail).wr ev σ = some (ws, os) → Did P n0 h0 lab0 nt o a w (σ.put ws os) := by
    intro hh
    obtain ⟨e', ys, p, hr, hw⟩ := wr_rdL M hc hh
    split at hw <;> try (cases hw; done)
    rename_i he; subst he
    split at hw <;> try (cases hw; done)
    rename_i hf
    exact flatcase hf hr hw
  cases c with
  | nil =>
    have e1 : a.eval x = .slice none 0 0 := hc
    exact fin (ys := []) (os2 := []) (news := []) (lab2 := lab1) e1 (fun ad e => by cases e) (fun _ => rfl) (fun u h => by cases h) (by simpa using S.hel) (fun _ h => h) (fun _ h => h) (fun _ h => h) (by rw [List.append_nil]; exact hxo) (by rw [List.append_nil]; exact S.hoth) h
  | sl o2 =>
    unfold pappX at h
    rw [Pg.wr] at h
    split at h <;> try (cases h; done)
    rename_i e' ys g he
    split at h <;> try (cases h; done)
    rename_i hee; subst hee
    have r := M.objs o2 _ he
    simp only [ObR] at r
    rw [← hc.2.2 _ _ _ _ he] at r
    split at h
    · rename_i hf
      exact flatcase hf r h
    · split at h <;> try (cases h; done)
      rename_i hall
      have hall' : ∀ p ∈ os1, p.1 ≠ o2 ∧ p.2 = .dead := by
        intro p hp'
        have := List.all_eq_true.1 hall p hp'
        rw [Bool.and_eq_true] at this
        refine ⟨of_decide_eq_true this.1, ?_⟩
        have h2 := this.2
        revert h2
        cases p.2 <;> simp
      have hno : o2 ∉ os1.map (·.1) := by
        intro hm
        obtain ⟨p, hp1, hp2⟩ := List.mem_map.1 hm
        exact (hall' p hp1).1 hp2
      have hoN : o2 ≠ nm d 0 := by rintro rfl; rw [hN] at he; cases he
      have hk := S.keep (fun p hp' => (hall' p hp').2)
      obtain ⟨xb, xc, e1⟩ := r.sli
      rw [e1] at r
      obtain ⟨news, hel, hcs, hnone⟩ := r.els
      refine fin (lab2 := mvP [o2] (shiftN (nm d 0) xs.length) lab1) e1 hcs hnone hel.one (Els.app (S.hel.map fun i hi us r => ?_) (hel.map fun i hi us r => ?_)) (fun b hb => mvP_none hb) (fun b hb => mvP_bnd hb) (fun b hb => mvP_out hb (pre_cons hoN.symm)) (by rw [look_app, hxo]; simp only [look]; rw [if_neg (fun h => by rw [h, M.nox] at he; cases he)]; rfl) ?_ h
      · refine Rep.frame (fun b q eb hx => ⟨?_, rfl⟩) r
        rw [eb]
        exact mvP_out eb (pre_cons hoN.symm)
      · refine Rep.relab (fun _ _ => ⟨_, rfl⟩) (fun b q hb hx => ⟨?_, rfl⟩) r
        have hb' : lab b = some (o2 :: (i :: q)) := by simpa [ext] using hb
        exact mvP_in (A := [o2]) (q := i :: q) (hk b o2 _ hb' hno)
      · intro w' h1 lab3 h2 val o' ho'
        have hdead : ∀ o v, (o, v) ∈ os1 ++ [(o2, OV.dead)] → v = .dead := by
          intro o v hm
          rcases List.mem_append.1 hm with hm | hm
          · exact (hall' _ hm).2
          · simp at hm; exact hm.2
        obtain ⟨l1, l2⟩ := look_dead hdead o'
        by_cases hm : o' ∈ (os1 ++ [(o2, OV.dead)]).map (·.1)
        · exact .inr (.inl (l1 hm))
        · refine .inl ⟨l2 hm, fun b q hb hx => ?_⟩
          simp at hm
          have hm1 : o' ∉ os1.map (·.1) := by simpa using hm.1
          have e2 := hk b o' q hb hm1
          have e3 : mvP [o2] (shiftN (nm d 0) xs.length) lab1 b = some (o' :: q) := mvP_out e2 (pre_cons hm.2)
          exact ⟨by rw [h2 b hx, e3, hb], h1 b _ hb (by rw [e3]; simp; exact fun e _ => ho' e) hx⟩
  | u => exact gen h
  | i k n => exact gen h
  | b x => exact gen h
  | s x => exact gen h
  | ls k xs => exact gen h
  | vw o g i c => exact gen h
  | pc o c => exact gen h
  | pe o i c => exact gen h
  | pe2 o g i c j c2 => exact gen h
  | pi k xs i c => exact gen h
  | fn f => exact gen h
theorem do_app {o : Oper} {s x : Operand} {e : K} {te : Ty} {d : Nat} (hT : TyOk P tt t ty) (hTs : TysOk P tt) (hu : P.underlying t = some (.slice ty.elem)) (hte : look tt ty.elem = some te) (hke : te.k = e)
    (R : Rel n0 h0 lab0 nt σ a w) (hdd : o.dst = some d) (hd : ∀ d', o.dst = some d' → d' < nt) (ho : o.op = .call { callee := .builtin .append, args := #[s, x], argTypes := #[t, t] })
    (h : (Pg.rdO (nm d 0) fun | none => (rdC s fun cs => rdC x fun cx => papp o.dst e te.bytes cs cx) | some _ => .fail).wr ev σ = some (ws, os)) : Did P n0 h0 lab0 nt o a w (σ.put ws os) := by
  obtain ⟨lab, adr, M, T⟩ := R.mem
  rw [Pg.wr] at h
  split at h <;> try (cases h; done)
  rename_i hN
  obtain ⟨cs, h1, h2⟩ := wr_rdC T h
  obtain ⟨cx, h3, h4⟩ := wr_rdC T h2
  unfold papp at h4
  split at h4 <;> try (cases h4; done)
  · have e1 : a.eval s = .slice none 0 0 := h1
    have S : SP w lab adr σ.o (a.eval s) e (nm d 0) [] [] none 0 [] lab := by rw [e1]; exact SP.nil
    exact do_pappX hT hTs hu hte hke R M T hdd hd ho hN S h3 h4
  · rename_i o1
    rw [Pg.wr] at h4
    split at h4 <;> try (cases h4; done)
    rename_i e' xs g he
    split at h4 <;> try (cases h4; done)
    rename_i hee; subst hee
    obtain ⟨base, sCap, olds, lab1, S⟩ := SP.own (v := a.eval s) M hN he (h1.2.2 _ _ _ _ he)
    exact do_pappX hT hTs hu hte hke R M T hdd hd ho hN S h3 h4
  · rename_i o1 g i c
    rw [Pg.wr] at h4
    split at h4 <;> try (cases h4; done)
    rename_i k xs g' he
    split at h4 <;> try (cases h4; done)
    rename_i hg; subst hg
    split at h4 <;> try (cases h4; done)
    rename_i e' ys hl
    split at h4 <;> try (cases h4; done)
    rename_i hee; subst hee
    split at h4 <;> try (cases h4; done)
    rename_i x' hx'
    obtain ⟨base, sCap, olds, lab1, S⟩ := SP.view (v := a.eval s) M hN he h1 hl hx'
    exact do_pappX hT hTs hu hte hke R M T hdd hd ho hN S h3 h4
end
end Go.Proofs.Ytnbfhbfnccihgaa.E

/- What each operation does: slices of lists, structs, the rest. -/
namespace Go.Proofs.Ytnbfhbfnccihgaa.E
open Go
set_option linter.unusedVariables false
set_option linter.unusedSimpArgs false
section
variable {n0 : Nat} {h0 : Ent} {lab0 : Lb} {nt : Nat} {σ : St} {a : Act} {w w' : World} {ev : Ev} {P : Program} {lab lab' : Lb} {adr adr' : Nat → Value} {ws : List (Nat × AV)} {os : List (Nat × OV)} {tt : Tys} {t : TypeId} {ty : Ty} {ob ob' : Nat → Option OV}
/-- A whole number, if there is an operand. -/
def rdI (x : Option Operand) (k : Option Int → Pg) : Pg :=
  match x with
  | none => k none
  | some x => rdC x fun | .i _ n => k (some n) | _ => .fail
theorem wr_rdI {x : Option Operand} {k : Option Int → Pg} {W : Ws} (T : ∀ t, AVR (hp w) lab adr σ.o (σ.t t) (a.tmps.getD t undef)) (h : (rdI x k).wr ev σ = some W) : ∃ n, (x = none ∧ n = none ∨ ∃ y ik m, x = some y ∧ n = some m ∧ a.eval y = .int ik m) ∧ (k n).wr ev σ = some W := by
  cases x with
  | none => exact ⟨none, .inl ⟨rfl, rfl⟩, h⟩
  | some y =>
    obtain ⟨c, h1, h2⟩ := wr_rdC T h
    split at h2 <;> try (cases h2; done)
    rename_i ik m
    exact ⟨some m, .inr ⟨y, ik, m, rfl, rfl, h1⟩, h2⟩
theorem run_bounds {isS : Bool} {len cap : Nat} {lo hi : Option Operand} {l h : Option Int} (hl : lo = none ∧ l = none ∨ ∃ y ik m, lo = some y ∧ l = some m ∧ a.eval y = .int ik m) (hh : hi = none ∧ h = none ∨ ∃ y ik m, hi = some y ∧ h = some m ∧ a.eval y = .int ik m)
    (h1 : 0 ≤ l.getD 0) (h2 : l.getD 0 ≤ h.getD len) (h3 : h.getD len ≤ len) (hlc : len ≤ cap) : (Instr.sliceBounds isS len cap (lo.map a.eval) (hi.map a.eval) none).run P w = .ok ((l.getD 0).toNat, (h.getD len).toNat, cap) w := by
  rcases hl with ⟨rfl, rfl⟩ | ⟨y, ik, m, rfl, rfl, e1⟩ <;> rcases hh with ⟨rfl, rfl⟩ | ⟨y', ik', m', rfl, rfl, e2⟩ <;> simp only [Option.getD_none, Option.getD_some, Option.map_none, Option.map_some] at *
  · simp [Instr.sliceBounds]
  · have : 0 ≤ m' ∧ m' ≤ (cap : Int) := by omega
    simp [Instr.sliceBounds, Instr.sliceBound, asIntOf, e2, this]
  · simp [Instr.sliceBounds, Instr.sliceBound, asIntOf, e1, h1, h2]
  · have h4 : 0 ≤ m' ∧ m' ≤ (cap : Int) := by omega
    have h5 : m ≤ max m' 0 := by omega
    simp [Instr.sliceBounds, Instr.sliceBound, asIntOf, e1, e2, h1, h4, h5]
theorem take_drop_get {α : Type} (xs : List α) (l h i : Nat) (hi : i < ((xs.take h).drop l).length) : ∃ hj : l + i < xs.length, ((xs.take h).drop l)[i] = xs[l + i] := by
  rw [List.length_drop, List.length_take] at hi
  exact ⟨by omega, by rw [List.getElem_drop, List.getElem_take]⟩
/-- A part of a list lies so. -/
theorem Rep.cut {h : Hp} {e : K} {p p' : Lab} {xs : List (den e)} {ad : Option Addr} {c lo hi : Nat} (r : Rep h lab (.sl e) p xs [.slice ad xs.length c]) (h1 : lo ≤ hi) (h2 : hi ≤ xs.length)
    (hp : p = none → p' = none) (hl : ∀ b, lab b = p → h b ≠ none → lab' b = p') (hl2 : ∀ b i q, lab b = ext p (i :: q) → lo ≤ i → h b ≠ none → lab' b = ext p' ((i - lo) :: q)) (hpn : ∀ P', p' = some P' → ∃ P, p = some P) :
    Rep h lab' (.sl e) p' ((xs.take hi).drop lo) [.slice (if c = lo then ad else ad.map (·.add (lo * sz e))) (hi - lo) (c - lo)] := by
  obtain ⟨a', n', c', e1, hn, hc, hown, hs, hr⟩ := r
  simp at e1
  obtain ⟨rfl, rfl, rfl⟩ := e1
  have hlen : ((xs.take hi).drop lo).length = hi - lo := by rw [List.length_drop, List.length_take]; omega
  refine ⟨_, _, _, rfl, by rw [hlen], by omega, fun P' eP => ?_, fun h0 => ?_, fun ad' ea i hi' => ?_⟩
  · obtain ⟨P, rfl⟩ := hpn P' eP
    obtain ⟨o1, o2⟩ := hown P rfl
    refine ⟨fun en => ?_, fun ad' ea => ?_⟩
    · split at en
      · have := o1 en; rename_i hcl; subst hcl; simp
      · cases ad with
        | none =>
          have := o1 rfl
          have hz := sz_pos e
          rcases Nat.eq_zero_or_pos c with hc0 | hc0
          · subst hc0; simp
          · have := Nat.mul_pos hc0 hz; omega
        | some ad => cases en
    · split at ea
      · obtain ⟨s1, s2, arr, ta, fr, s3, s5, s4⟩ := o2 ad' ea
        rename_i hcl; subst hcl
        exact ⟨s1, by rw [← eP]; exact hl _ s2 (by rw [s3]; simp), arr, ta, fr, s3, s5, by simp; omega⟩
      · cases ad with
        | none => cases ea
        | some ad =>
          simp at ea; subst ea
          obtain ⟨s1, s2, arr, ta, fr, s3, s5, s4⟩ := o2 ad rfl
          refine ⟨add_spot _ _ s1, by rw [add_block, ← eP]; exact hl _ s2 (by rw [s3]; simp), arr, ta, fr, by rw [add_block]; exact s3, s5, ?_⟩
          rw [add_off, Nat.add_assoc, ← Nat.add_mul]
          have : lo + (c - lo) = c := by omega
          rw [this]; exact s4
  · have hcl : c ≠ lo := by omega
    obtain ⟨ad', ea, lb⟩ := hs (by omega)
    subst ea
    rw [if_neg hcl]
    refine ⟨_, rfl, ?_⟩
    rw [add_block]
    obtain ⟨us, u1, _, u3⟩ := hr ad' rfl 0 (by omega)
    have hx := cellAt_some (u3 0 _ (List.getElem?_eq_getElem (by rw [u1]; exact sz_pos e)))
    rw [add_block] at hx
    exact hl _ lb hx
  · have hcl : c ≠ lo := by rw [hlen] at hi'; omega
    rw [if_neg hcl] at ea
    cases ad with
    | none => cases ea
    | some ad =>
      simp at ea; subst ea
      obtain ⟨hj, eg⟩ := take_drop_get xs lo hi i hi'
      obtain ⟨us, u1, u2, u3⟩ := hr ad rfl (lo + i) hj
      refine ⟨us, u1, ?_, fun k u hu => ?_⟩
      · rw [eg]
        refine Rep.relab (fun P' e1 => ?_) (fun b q hb hx => ⟨?_, rfl⟩) u2
        · cases p' with
          | none => cases e1
          | some Q => obtain ⟨P, rfl⟩ := hpn _ rfl; exact ⟨_, rfl⟩
        · rw [ext_ext] at hb
          have := hl2 b (lo + i) q hb (by omega) hx
          rw [this, ext_ext, show lo + i - lo = i from by omega]
          rfl
      · rw [add_add, ← u3 k u hu]
        congr 2
        rw [Nat.add_mul]; omega
def shiftD (N lo : Nat) : List Nat → List Nat
  | [] => [N]
  | j :: r => if lo ≤ j then N :: (j - lo) :: r else [N, 0]
theorem do_slice {o : Oper} {x : Operand} {lo hi : Option Operand} (hT : TyOk P tt t ty) (hTs : TysOk P tt) (ha : ty.agg = false) (R : Rel n0 h0 lab0 nt σ a w) (hd : ∀ d', o.dst = some d' → d' < nt) (ho : o.op = .slice t x lo hi none)
    (h : (rdC x fun c => rdI lo fun l => rdI hi fun h => pslice ty.k o.dst c l h).wr ev σ = some (ws, os)) : Did P n0 h0 lab0 nt o a w (σ.put ws os) := by
  obtain ⟨lab, adr, M, T⟩ := R.mem
  obtain ⟨c, h1, h2⟩ := wr_rdC T h
  obtain ⟨l, hl, h3⟩ := wr_rdI T h2
  obtain ⟨hh, hhi, h4⟩ := wr_rdI T h3
  have lst : ∀ {e : K} {ad : Option Addr} {len cap : Nat}, ty.k = .sl e → a.eval x = .slice ad len cap → 0 ≤ l.getD 0 → l.getD 0 ≤ hh.getD len → hh.getD len ≤ len → len ≤ cap →
      (execOp a.eval o).run P w = .ok (.value (.slice (if cap = (l.getD 0).toNat then ad else ad.map (·.add ((l.getD 0).toNat * sz e))) ((hh.getD len).toNat - (l.getD 0).toNat) (cap - (l.getD 0).toNat))) w := by
    intro e ad len cap hk ex b1 b2 b3 b4
    obtain ⟨hu, te, hte, hke⟩ := hT.sl ha hk
    have hTe := hTs _ _ hte
    have hb := run_bounds (P := P) (w := w) (isS := true) (cap := cap) hl hhi b1 b2 b3 b4
    have hsz : (sizeOf ty.elem).run P w = .ok (sz e) w := by rw [hTe.sizeOf w, hke]
    simp [execOp, ho, ex, Instr.sliceAt, Instr.slice, run_underlying hu, hb, hsz]
  cases c <;> simp only [pslice] at h4 <;> try (cases h4; done)
  case s s =>
    split at h4 <;> try (cases h4; done)
    rename_i hk
    have hu := hT.str ha hk
    obtain ⟨b1, b2, b3, h5⟩ := wr_cut h4
    have ex : a.eval x = .string s := h1
    have hb := run_bounds (P := P) (w := w) (isS := false) (cap := s.size) hl hhi b1 b2 b3 (Nat.le_refl _)
    refine ⟨_, w, .inl ?_, rel_ret R M T hd h5 (val := .string (s.extract (l.getD 0).toNat (hh.getD s.size).toNat)) rfl⟩
    simp [execOp, ho, ex, Instr.sliceAt, Instr.slice, run_underlying hu, hb]
  case nil =>
    split at h4 <;> try (cases h4; done)
    rename_i e hk
    obtain ⟨b1, b2, b3, h5⟩ := wr_cut h4
    have ex : a.eval x = .slice none 0 0 := h1
    refine ⟨_, w, .inl (lst hk ex b1 b2 b3 (Nat.le_refl _)), rel_ret R M T hd h5 (v := .one .nil) ?_⟩
    have e1 : (l.getD 0).toNat = 0 := by omega
    have e2 : (hh.getD ((0 : Nat) : Int)).toNat = 0 := by omega
    show Value.slice _ _ _ = Value.slice none 0 0
    rw [e1, e2]; simp
  case ls k xs =>
    split at h4 <;> try (cases h4; done)
    rename_i e hk
    split at h4 <;> try (cases h4; done)
    rename_i hke; subst hke
    obtain ⟨b1, b2, b3, h5⟩ := wr_cut h4
    obtain ⟨ad, cp, e1⟩ := Rep.sli h1
    have r : Rep (hp w) lab (.sl k) none xs [.slice ad xs.length cp] := by rw [← e1]; exact h1
    have hcp : xs.length ≤ cp := by obtain ⟨_, _, _, q, q1, q2, _⟩ := r; simp at q; omega
    refine ⟨_, w, .inl (lst hk e1 b1 b2 b3 hcp), rel_ret R M T hd h5 (v := .one (.ls k _)) ?_⟩
    exact Rep.cut (p := none) (p' := none) r (by omega) (by omega) (fun h => h) (fun b h _ => h) (fun b i q h _ _ => h) (fun P' e => by cases e)
  case sl ob =>
    split at h4 <;> try (cases h4; done)
    rename_i e hk
    rw [Pg.wr] at h4
    split at h4 <;> try (cases h4; done)
    rename_i k xs g he
    split at h4 <;> try (cases h4; done)
    rename_i hke; subst hke
    obtain ⟨b1, b2, b3, h5⟩ := wr_cut h4
    have r := M.objs ob _ he
    simp only [ObR] at r
    rw [← h1.2.2 _ _ _ _ he] at r
    obtain ⟨ad, cp, e1⟩ := Rep.sli r
    have r1 := r
    rw [e1] at r1
    have hcp : xs.length ≤ cp := by obtain ⟨_, _, _, q, q1, q2, _⟩ := r1; simp at q; omega
    refine ⟨_, w, .inl (lst hk e1 b1 b2 b3 hcp), ?_⟩
    obtain ⟨d', hdd, hN, _, _⟩ := newO_wr h5
    have hoN : ob ≠ nm d' 0 := by rintro rfl; rw [hN] at he; cases he
    refine rel_name (w' := w) (lab2 := mvP [ob] (shiftD (nm d' 0) (l.getD 0).toNat) lab) R M T hd h5 ⟨Nat.le_refl _, Sm.refl _⟩ (fun b hb _ => ⟨mvP_none hb, rfl⟩) (fun b hb => M.bnd b (mvP_bnd hb)) (fun d2 e2 _ ob' => ?_) ⟨_, _, _, rfl⟩ (by simp only [look]; rw [if_neg (fun h => by rw [h, M.nox] at he; cases he)]) (fun d2 e2 o' ho' => ?_)
    · rw [hdd] at e2; cases e2
      show Rep _ _ (.sl k) (some [nm d' 0]) _ [adrN _ _ _ _]
      unfold adrN; rw [if_pos rfl]
      refine Rep.cut (p := some [ob]) (p' := some [nm d' 0]) r1 (by omega) (by omega) (fun h => by cases h) (fun b hb _ => mvP_in (A := [ob]) (q := []) hb) (fun b i q hb hi _ => ?_) (fun P' _ => ⟨_, rfl⟩)
      have := mvP_in (A := [ob]) (g := shiftD (nm d' 0) (l.getD 0).toNat) (q := i :: q) hb
      rw [this]; simp [shiftD, hi, ext]
    · rw [hdd] at e2; cases e2
      by_cases eo : o' = ob
      · subst eo; exact .inr (.inl (by simp [look]))
      · refine .inl ⟨by simp [look]; exact fun e => eo e.symm, fun b q hb hx => ⟨?_, rfl⟩⟩
        rw [hb]; exact mvP_out hb (pre_cons eo)
end
end Go.Proofs.Ytnbfhbfnccihgaa.E

/- What each operation does: structs, the rest. -/
namespace Go.Proofs.Ytnbfhbfnccihgaa.E
open Go
set_option linter.unusedVariables false
set_option linter.unusedSimpArgs false
section
variable {n0 : Nat} {h0 : Ent} {lab0 : Lb} {nt : Nat} {σ : St} {a : Act} {w w' : World} {ev : Ev} {P : Program} {lab lab' : Lb} {adr adr' : Nat → Value} {ws : List (Nat × AV)} {os : List (Nat × OV)} {tt : Tys} {t : TypeId} {ty : Ty} {ob ob' : Nat → Option OV}
theorem places_ok : ∀ (fs : List Field), (∀ f ∈ fs, 0 < P.cellsOf f.type) → fs.mapM (fun f => (P.info? f.type).map fun i => (f.offset, i.size)) = some ((fs.map (·.offset)).zip (fs.map (P.cellsOf ·.type)))
  | [], _ => rfl
  | f :: fs, h => by
    have hf := h f List.mem_cons_self
    have : ∃ i, P.info? f.type = some i ∧ i.size = P.cellsOf f.type := by
      unfold Program.cellsOf at hf ⊢
      cases hi : P.info? f.type with
      | none => rw [hi] at hf; simp at hf
      | some i => exact ⟨i, rfl, by simp⟩
    obtain ⟨i, h1, h2⟩ := this
    rw [List.mapM_cons, h1, places_ok fs (fun f hf => h f (List.mem_cons_of_mem _ hf))]
    simp [h2]
theorem cvrs_put {h : Hp} {cs l : List CV} {cells vs : List Value} {off : Nat} (r : CVRs h lab adr ob cs cells) (r2 : CVRs h lab adr ob l vs) (hf : off + l.length ≤ cs.length) : CVRs h lab adr ob (cs.take off ++ l ++ cs.drop (off + l.length)) (cells.take off ++ vs ++ cells.drop (off + vs.length)) := by
  have e1 := r.1
  have e2 := r2.1
  have t1 : (cs.take off).length = off := by simp; omega
  have t2 : (cells.take off).length = off := by simp; omega
  refine ⟨by simp; omega, fun j c hj => ?_⟩
  rw [List.append_assoc] at hj ⊢
  by_cases j1 : j < off
  · rw [List.getElem?_append_left (by omega), List.getElem?_take_of_lt j1] at hj
    obtain ⟨u, h1, h2⟩ := r.2 j c hj
    exact ⟨u, by rw [List.getElem?_append_left (by omega), List.getElem?_take_of_lt j1]; exact h1, h2⟩
  · rw [List.getElem?_append_right (by omega), t1] at hj
    rw [List.getElem?_append_right (by omega), t2]
    by_cases j2 : j - off < l.length
    · rw [List.getElem?_append_left j2] at hj
      obtain ⟨u, h1, h2⟩ := r2.2 _ c hj
      exact ⟨u, by rw [List.getElem?_append_left (by omega)]; exact h1, h2⟩
    · rw [List.getElem?_append_right (by omega), List.getElem?_drop] at hj
      obtain ⟨u, h1, h2⟩ := r.2 _ c hj
      exact ⟨u, by rw [List.getElem?_append_right (by omega), List.getElem?_drop, ← e2]; exact h1, h2⟩
theorem fill_parts {offs szs : List Nat} {places : List (Nat × Nat)} (hpl : places = offs.zip szs) : ∀ (ps : List (Nat × AV)) (vals : List (Nat × Value)) (cs cs' : List CV) (cells : Array Value),
    (ps.length = vals.length ∧ ∀ (j i : Nat) (v : AV), ps[j]? = some (i, v) → ∃ u, vals[j]? = some (i, u) ∧ AVR (hp w) lab adr σ.o v u) → setParts offs szs cs ps = some cs' → CVRs (hp w) lab adr σ.o cs cells.toList →
    ∃ cells', Instr.fill (fun x => places[x]?) cells vals = some cells' ∧ CVRs (hp w) lab adr σ.o cs' cells'.toList
  | [], vals, cs, cs', cells, hr, h, r => by
    obtain rfl : vals = [] := List.length_eq_zero_iff.1 hr.1.symm
    cases h
    exact ⟨cells, rfl, r⟩
  | (i, v) :: ps, [], cs, cs', cells, hr, h, r => by have := hr.1; simp at this
  | (i, v) :: ps, (i', u) :: vals, cs, cs', cells, hr, h, r => by
    have hr' : ps.length = vals.length ∧ ∀ (j i : Nat) (v : AV), ps[j]? = some (i, v) → ∃ u, vals[j]? = some (i, u) ∧ AVR (hp w) lab adr σ.o v u := ⟨by have := hr.1; simpa using this, fun j i v hj => by
      obtain ⟨u, h1, h2⟩ := hr.2 (j + 1) i v (by simpa using hj)
      exact ⟨u, by simpa using h1, h2⟩⟩
    obtain ⟨u', h1, h2⟩ := hr.2 0 i v rfl
    simp at h1
    obtain ⟨rfl, rfl⟩ := h1
    unfold setParts at h
    split at h <;> try (cases h; done)
    rename_i off s ho hs
    split at h <;> try (cases h; done)
    rename_i hc
    obtain ⟨c1, c2, c3, c4⟩ := hc
    have hcs := cells_R h2 c3 (by omega)
    have hus : u.cells.size = s := by have := hcs.1; rw [c1, Array.length_toList] at this; exact this.symm
    have hp' : places[i']? = some (off, u.cells.size) := by rw [hpl, hus, List.getElem?_zip_eq_some]; exact ⟨ho, hs⟩
    have hcl : cs.length = cells.size := by have := r.1; simpa using this
    rw [fill_one hp' (by rw [hus]; omega)]
    have hput := cvrs_put (off := off) r hcs (by omega)
    rw [c1] at hput
    exact fill_parts hpl ps vals _ cs' _ hr' h (by unfold putAt; simpa using hput)
theorem wr_rdPs {parts : List (Nat × Operand)} {vs : List AV} {f : Nat → Value} (r : AVRs (hp w) lab adr σ.o vs (parts.map fun p => a.eval p.2)) : (((parts.map (·.1)).zip vs).length = (parts.map fun p => (p.1, a.eval p.2)).length ∧ ∀ (j i : Nat) (v : AV), ((parts.map (·.1)).zip vs)[j]? = some (i, v) → ∃ u, (parts.map fun p => (p.1, a.eval p.2))[j]? = some (i, u) ∧ AVR (hp w) lab adr σ.o v u) := by
  have hl : vs.length = parts.length := by have := r.1; simpa using this
  refine ⟨by simp [hl], fun j i v hj => ?_⟩
  rw [List.getElem?_zip_eq_some] at hj
  obtain ⟨h1, h2⟩ := hj
  obtain ⟨u, h3, h4⟩ := r.2 j v h2
  rw [List.getElem?_map] at h1 h3
  obtain ⟨p, hp1, rfl⟩ := Option.map_eq_some_iff.1 h1
  rw [hp1] at h3
  cases h3
  exact ⟨_, by rw [List.getElem?_map, hp1]; rfl, h4⟩
theorem do_build {o : Oper} {parts : Array (Nat × Operand)} (hT : TyOk P tt t ty) (ha : ty.agg = true) (R : Rel n0 h0 lab0 nt σ a w) (hd : ∀ d', o.dst = some d' → d' < nt) (ho : o.op = .build t parts)
    (h : (rdXs (parts.toList.map (·.2)) [] fun vs => match setParts ty.offs ty.szs (zeros ty.k) ((parts.toList.map (·.1)).zip vs) with | some cs => ret o.dst (.agg cs) | none => .fail).wr ev σ = some (ws, os)) : Did P n0 h0 lab0 nt o a w (σ.put ws os) := by
  obtain ⟨lab, adr, M, T⟩ := R.mem
  obtain ⟨vs, r1, h1⟩ := wr_rdXs T _ [] [] _ _ ⟨rfl, fun j v h => by simp at h⟩ h
  rw [List.nil_append, List.map_map] at r1
  split at h1 <;> try (cases h1; done)
  rename_i cs hcs
  obtain ⟨inf, z, i1, i2, i3, i4, i5⟩ := hT.info
  obtain ⟨fs, hu, ho', hs', hz⟩ : ∃ fs, P.underlying t = some (.struct fs) ∧ fs.toList.map (·.offset) = ty.offs ∧ fs.toList.map (P.cellsOf ·.type) = ty.szs ∧ ∀ f ∈ fs.toList, 0 < P.cellsOf f.type := by
    rcases hT.und with ⟨_, h⟩ | ⟨ha', _⟩
    · exact h
    · rw [ha] at ha'; cases ha'
  have hpl := places_ok (P := P) fs.toList hz
  rw [ho', hs'] at hpl
  obtain ⟨cells', hf, hr⟩ := fill_parts (w := w) (lab := lab) (adr := adr) (σ := σ) (places := ty.offs.zip ty.szs) rfl _ _ _ _ z.cells (wr_rdPs (f := fun _ => undef) r1) hcs (by rw [i5]; exact zeros_R _ _ _ _ _)
  have hb : P.built t (parts.map fun (i, x) => (i, a.eval x)).toList = some cells' := by
    unfold Program.built
    rw [i1, hu]
    dsimp only
    rw [i4, hpl]
    dsimp only
    have e : (parts.map fun (x : Nat × Operand) => (x.1, a.eval x.2)).toList = parts.toList.map fun p => (p.1, a.eval p.2) := by simp
    rw [e, ← hf]
    simp
  refine ⟨.agg cells', w, .inl ?_, rel_ret R M T hd h1 ⟨cells', rfl, hr⟩⟩
  simp only [execOp, ho, Sem.run_bind, run_build w t _ cells' hb, Result.andThen_ok]
  rfl
theorem do_nilCheck {o : Oper} {x : Operand} (R : Rel n0 h0 lab0 nt σ a w) (hd : ∀ d', o.dst = some d' → d' < nt) (ho : o.op = .nilCheck x)
    (h : (rdC x fun | .pc ob c => (.rdO ob fun | some (.box _) => ret1 o.dst (.pc ob c) | _ => .fail) | _ => .fail).wr ev σ = some (ws, os)) : Did P n0 h0 lab0 nt o a w (σ.put ws os) := by
  obtain ⟨lab, adr, M, T⟩ := R.mem
  obtain ⟨c, h1, h2⟩ := wr_rdC T h
  split at h2 <;> try (cases h2; done)
  rename_i ob c
  rw [Pg.wr] at h2
  split at h2 <;> try (cases h2; done)
  rename_i cs he
  obtain ⟨b, e1, e2⟩ := h1.2.2 cs he
  refine ⟨a.eval x, w, .inl ?_, rel_ret R M T hd h2 (v := .one (.pc ob c)) h1⟩
  simp [execOp, ho, e2]
theorem do_makeFunc {o : Oper} {f : Nat} (R : Rel n0 h0 lab0 nt σ a w) (hd : ∀ d', o.dst = some d' → d' < nt) (ho : o.op = .makeFunc (.func f) #[] #[])
    (h : (ret1 o.dst (.fn f)).wr ev σ = some (ws, os)) : Did P n0 h0 lab0 nt o a w (σ.put ws os) := by
  obtain ⟨lab, adr, M, T⟩ := R.mem
  refine ⟨.func (.func f) #[] #[], w, .inl ?_, rel_ret R M T hd h (v := .one (.fn f)) rfl⟩
  simp [execOp, ho, Instr.makeFunc]
theorem do_convI {o : Oper} {x : Operand} {src : TypeId} {tys : Ty} {k k' : IntKind} (hT : TyOk P tt t ty) (ha : ty.agg = false) (hk : ty.k = .int k) (hTs : TyOk P tt src tys) (ha2 : tys.agg = false) (hk2 : tys.k = .int k') (R : Rel n0 h0 lab0 nt σ a w) (hd : ∀ d', o.dst = some d' → d' < nt) (ho : o.op = .convert src t x)
    (h : (rdC x fun | .i _ n => ret1 o.dst (.i k (k.wrap n)) | _ => .fail).wr ev σ = some (ws, os)) : Did P n0 h0 lab0 nt o a w (σ.put ws os) := by
  obtain ⟨lab, adr, M, T⟩ := R.mem
  obtain ⟨c, h1, h2⟩ := wr_rdC T h
  split at h2 <;> try (cases h2; done)
  rename_i ik n
  have ex : a.eval x = .int ik n := h1
  have hu := hT.int ha hk
  have hu2 := hTs.int ha2 hk2
  refine ⟨.int k (k.wrap n), w, .inl ?_, rel_ret R M T hd h2 (v := .one (.i k _)) rfl⟩
  simp [execOp, ho, ex, convert, run_underlying hu, run_underlying hu2, Conv.intToInt]
/-- The string of a list of bytes. -/
def strL : (e : K) → List (den e) → Option ByteArray
  | .int .u8, ys => some (strOfNums ys)
  | _, _ => none
theorem strL_some : ∀ {e : K} {ys : List (den e)} {s : ByteArray}, strL e ys = some s → ∃ h : e = .int .u8, s = strOfNums (cast (congrArg (fun e => List (den e)) h) ys)
  | .int .u8, ys, s, h => ⟨rfl, (Option.some.inj h).symm⟩
/-- Bytes become a string. -/
theorem do_convS {o : Oper} {x : Operand} {src e : TypeId} {tys te : Ty} (hu : P.underlying t = some .string) (hu2 : P.underlying src = some (.slice e)) (hu3 : P.underlying e = some (.int .u8)) (R : Rel n0 h0 lab0 nt σ a w) (hd : ∀ d', o.dst = some d' → d' < nt) (ho : o.op = .convert src t x)
    (h : (rdC x fun c => match c with | .nil => ret1 o.dst (.s ByteArray.empty) | c => rdL c fun e ys => match strL e ys with | some s => ret1 o.dst (.s s) | none => .fail).wr ev σ = some (ws, os)) : Did P n0 h0 lab0 nt o a w (σ.put ws os) := by
  obtain ⟨lab, adr, M, T⟩ := R.mem
  obtain ⟨c, h1, h2⟩ := wr_rdC T h
  have gen : (rdL c fun e ys => match strL e ys with | some s => ret1 o.dst (.s s) | none => .fail).wr ev σ = some (ws, os) → Did P n0 h0 lab0 nt o a w (σ.put ws os) := by
    intro hh
    obtain ⟨e', ys, p, hr, hw⟩ := wr_rdL M h1 hh
    split at hw <;> try (cases hw; done)
    rename_i s hs
    obtain ⟨he, hs2⟩ := strL_some hs
    subst he
    subst hs2
    dsimp only [cast_eq] at hw
    obtain ⟨xb, xc, e1⟩ := hr.sli
    rw [e1] at hr
    obtain ⟨cs, hel, hcs, hnone⟩ := hr.els
    have hlist : cs = (ys : List Int).map (Value.int .u8) := by
      apply List.ext_getElem?
      intro j
      rw [List.getElem?_map]
      have hl : cs.length = ys.length := by rw [hel.1]; simp [sz]
      by_cases hj : j < ys.length
      · obtain ⟨us, u1, u2, u3⟩ := hel.2 j hj
        have e2 : us = [Value.int .u8 ys[j]] := u2
        have := u3 0 (.int .u8 ys[j]) (by rw [e2]; rfl)
        simp [sz] at this
        rw [this, List.getElem?_eq_getElem hj]; rfl
      · rw [List.getElem?_eq_none (by omega), List.getElem?_eq_none (by omega)]; rfl
    refine ⟨.string (strOfNums ys), w, .inl ?_, rel_ret R M T hd hw (v := .one (.s _)) rfl⟩
    have key : (convert src t (a.eval x)).run P w = .ok (.string (strOfNums ys)) w := by
      rw [e1]
      cases xb with
      | none =>
        rw [run_convert_bytes_nil w src e hu2 hu3 _ _ t hu]
        have : ys = [] := List.length_eq_zero_iff.1 (hnone rfl)
        rw [this]; rfl
      | some ad =>
        rw [run_convert_bytes_string w src t e _ _ _ hu2 hu3 hu, run_bytesToString w ad _ _ ys, foldl_push_bytes]
        · simp [strOfNums, ByteArray.empty, ByteArray.emptyWithCapacity]
          rfl
        · have h3 := run_loadCells_list (P := P) w ad cs (fun j v hj => hcs ad rfl j v hj)
          rw [show cs.length = ys.length by rw [hel.1]; simp [sz]] at h3
          rw [h3, hlist]
    simp [execOp, ho, key, Result.andThen]
  cases c with
  | nil =>
    have e1 : a.eval x = .slice none 0 0 := h1
    refine ⟨.string ByteArray.empty, w, .inl ?_, rel_ret R M T hd h2 (v := .one (.s _)) rfl⟩
    have := run_convert_bytes_nil (P := P) w src e hu2 hu3 0 0 t hu
    simp [execOp, ho, e1, this, Result.andThen]
  | u => exact gen h2
  | i k n => exact gen h2
  | b x => exact gen h2
  | s x => exact gen h2
  | ls k xs => exact gen h2
  | sl o => exact gen h2
  | vw o g i c => exact gen h2
  | pc o c => exact gen h2
  | pe o i c => exact gen h2
  | pe2 o g i c j c2 => exact gen h2
  | pi k xs i c => exact gen h2
  | fn f => exact gen h2
/-- The bytes of a string. -/
def bytesI (s : ByteArray) : List Int := s.data.toList.map fun b => (b.toNat : Int)
theorem bytesI_len (s : ByteArray) : (bytesI s).length = s.size := by
  unfold bytesI
  rw [List.length_map, Array.length_toList]; rfl
/-- A string becomes a list of bytes of the call's own. -/
theorem do_convB {o : Oper} {x : Operand} {src e : TypeId} (hu : P.underlying src = some .string) (hu2 : P.underlying t = some (.slice e)) (hu3 : P.underlying e = some (.int .u8)) (R : Rel n0 h0 lab0 nt σ a w) (hd : ∀ d', o.dst = some d' → d' < nt) (ho : o.op = .convert src t x)
    (h : (rdC x fun c => match c with | .s s => newO o.dst .sl (.arr (.int .u8) (bytesI s) 0 none) [] | _ => .fail).wr ev σ = some (ws, os)) : Did P n0 h0 lab0 nt o a w (σ.put ws os) := by
  obtain ⟨lab, adr, M, T⟩ := R.mem
  obtain ⟨c, h1, h2⟩ := wr_rdC T h
  split at h2 <;> try (cases h2; done)
  rename_i s
  have e1 : a.eval x = .string s := h1
  have hrun := Lib.run_convert_string_bytes (P := P) w src t e s hu hu2 hu3
  have hcap : s.size ≤ grownCap w s.size 0 e := grownCap_ge w s.size 0 e
  have hsz : (Lib.bytesCells w e s).size = grownCap w s.size 0 e := by
    unfold Lib.bytesCells
    rw [Array.size_append, Array.size_map, Array.size_replicate]
    show s.size + _ = _
    omega
  have fin := rel_arr (e := .int .u8) (xs := bytesI s) (cap := grownCap w s.size 0 e) (lab2 := lab) (w' := Lib.bytesWorld w e s) R M T hd h2 ⟨Lib.bytesWorld_size w e s, ⟨rfl, rfl, rfl⟩⟩ (fun b hb => Lib.bytesWorld_at_old w e s b hb) (Lib.bytesWorld_at_new w e s) (.inr (Nat.le_refl _)) (fun d' _ _ => Mvd.refl _ _) (by rw [bytesI_len]; exact hcap) (by rw [hsz]; exact Nat.le_of_eq (Nat.mul_one _)) (fun d' _ j hj => by
    have hj' : j < s.size := by rw [← bytesI_len]; exact hj
    refine ⟨[.int .u8 (bytesI s)[j]], rfl, rfl, fun k u hu => ?_⟩
    cases k with
    | zero =>
      simp at hu
      subst hu
      have hj2 : j < s.data.size := hj'
      simp [Lib.bytesCells, sz, Array.getElem?_append, hj', hj2, bytesI]
    | succ k => simp at hu)
  rw [bytesI_len] at fin
  refine ⟨_, _, .inl ?_, fin⟩
  simp [execOp, ho, e1, hrun, Result.andThen]
def mm (op : Bool) (x y : Int) : Int := if op = true then (if y < x then y else x) else (if x < y then y else x)
theorem do_minmax {o : Oper} {x y : Operand} {t1 t2 : TypeId} (op : Bool) (R : Rel n0 h0 lab0 nt σ a w) (hd : ∀ d', o.dst = some d' → d' < nt) (ho : o.op = .call { callee := .builtin (if op = true then .min else .max), args := #[x, y], argTypes := #[t1, t2] })
    (h : (rdC x fun c => rdC y fun c' => match c, c' with | .i k x, .i _ y => ret1 o.dst (.i k (mm op x y)) | _, _ => .fail).wr ev σ = some (ws, os)) : Did P n0 h0 lab0 nt o a w (σ.put ws os) := by
  obtain ⟨lab, adr, M, T⟩ := R.mem
  obtain ⟨c, h1, h2⟩ := wr_rdC T h
  obtain ⟨c', h3, h4⟩ := wr_rdC T h2
  split at h4 <;> try (cases h4; done)
  rename_i k m k' n
  have ex : a.eval x = .int k m := h1
  have ey : a.eval y = .int k' n := h3
  refine ⟨.int k (mm op m n), w, .inl ?_, rel_ret R M T hd h4 (v := .one (.i k _)) rfl⟩
  cases op <;> simp [execOp, ho, resolve, invoke, builtin, ex, ey, Builtin.min_, Builtin.max_, Builtin.min2, Builtin.max2, mm]
end
end Go.Proofs.Ytnbfhbfnccihgaa.E

/- All operations, calls too. -/
namespace Go.Proofs.Ytnbfhbfnccihgaa.E
open Go
set_option linter.unusedVariables false
set_option linter.unusedSimpArgs false
/-- Where an object of a call comes from: an object of the caller's, or a row within one (element, cell, place, path). -/
structure Og where
  o : Nat
  vw : Option (Nat × Nat × Nat × List Nat)
/-- What is handed to a call: the objects, where they come from, and what is shared. -/
structure AC where
  ins : List OV
  org : List Og
  sh : List Nat
def idxO (o : Nat) : List Og → Nat → Option Nat
  | [], _ => none
  | r :: l, n => if r.o = o ∧ r.vw.isNone = true then some n else idxO o l (n + 1)
def cvA (ob : Nat → Option OV) (own : Bool) (c : CV) (A : AC) : Option (CV × AC) :=
  match c with
  | .sl o => (match ob o with
    | some (.arr e xs _ none) => if own = true then (match idxO o A.org 0 with
        | some q => some (.sl q, A)
        | none => some (.sl A.ins.length, ⟨A.ins ++ [.arr e xs 0 none], A.org ++ [⟨o, none⟩], A.sh⟩)) else some (.ls e xs, ⟨A.ins, A.org, o :: A.sh⟩)
    | _ => none)
  | .vw o g i c => (match ob o with
    | some (.arr e xs g' none) => if g = g' ∧ i < xs.length ∧ c < sz e then (match leafGet e (xs.getD i (dflt e)) c with
      | ⟨.sl e', ys⟩ => if own = true then some (.sl A.ins.length, ⟨A.ins ++ [.arr e' ys 0 none], A.org ++ [⟨o, some (i, c, i * sz e + c, i :: leafP e c)⟩], A.sh⟩) else some (.ls e' ys, ⟨A.ins, A.org, o :: A.sh⟩)
      | _ => none) else none
    | _ => none)
  | .i a b => some (.i a b, A)
  | .b b => some (.b b, A)
  | .s s => some (.s s, A)
  | .nil => some (.nil, A)
  | .ls e xs => some (.ls e xs, A)
  | .fn f => some (.fn f, A)
  | _ => none
def boxA (ob : Nat → Option OV) : List CV → AC → Option (List CV × AC)
  | [], A => some ([], A)
  | c :: cs, A => match cvA ob true c A with
    | some (c', A1) => (match boxA ob cs A1 with | some (cs', A2) => some (c' :: cs', A2) | none => none)
    | none => none
def cvP (ob : Nat → Option OV) (own : Bool) (c : CV) (A : AC) : Option (CV × AC) :=
  match c with
  | .pc o c => (match idxO o A.org 0 with
      | some q => some (.pc q c, A)
      | none => (match ob o with
        | some (.box cs) => (match boxA ob cs A with
          | some (cs', A') => some (.pc A'.ins.length c, ⟨A'.ins ++ [.box cs'], A'.org ++ [⟨o, none⟩], A'.sh⟩)
          | none => none)
        | _ => none))
  | c => cvA ob own c A
def cvsA (ob : Nat → Option OV) (own : Bool) : List CV → AC → Option (List CV × AC)
  | [], A => some ([], A)
  | c :: cs, A => match cvP ob own c A with
    | some (c', A1) => (match cvsA ob own cs A1 with | some (cs', A2) => some (c' :: cs', A2) | none => none)
    | none => none
def av1 : AV → Option (Bool × List CV)
  | .one c => some (false, [c])
  | .agg l => some (true, l)
  | .tup _ => none
def argsA (ob : Nat → Option OV) : List (Bool × AV) → AC → Option (List (Bool × List CV) × AC)
  | [], A => some ([], A)
  | (own, v) :: vs, A => match av1 v with
    | some (b, l) => (match cvsA ob own l A with
      | some (l', A1) => (match argsA ob vs A1 with | some (r, A2) => some ((b, l') :: r, A2) | none => none)
      | none => none)
    | none => none
/-- The names under which objects come back. -/
def rnN (d : Nat) (org : List Og) (nn : Nat) (q : Nat) : Option Nat :=
  if q < org.length then (match org[q]? with | some ⟨o, none⟩ => some o | _ => none) else if 500 ≤ q ∧ q < 500 + nn then some (nm d (q - 500)) else none
def rnC (d : Nat) (org : List Og) (nn : Nat) (sh : List Nat) : CV → Option CV
  | .sl q => (rnN d org nn q).map .sl
  | .pc q c => (rnN d org nn q).map fun o => .pc o c
  | .i a b => some (.i a b)
  | .b b => some (.b b)
  | .s s => some (.s s)
  | .nil => some .nil
  | .ls e xs => if sh.isEmpty = true then some (.ls e xs) else none
  | .fn f => some (.fn f)
  | .u => some .u
  | _ => none
def rnCs (d : Nat) (org : List Og) (nn : Nat) (sh : List Nat) : List CV → Option (List CV)
  | [] => some []
  | c :: cs => match rnC d org nn sh c, rnCs d org nn sh cs with
    | some c', some cs' => some (c' :: cs')
    | _, _ => none
def rnO (d : Nat) (org : List Og) (nn : Nat) (sh : List Nat) : OV → Option OV
  | .arr e xs _ none => some (.arr e xs 0 none)
  | .box cs => (rnCs d org nn sh cs).map .box
  | .dead => some .dead
  | _ => none
def rnR (d : Nat) (org : List Og) (nn : Nat) (sh : List Nat) : List (Bool × List CV) → Option (List (Bool × List CV))
  | [] => some []
  | (b, l) :: r => match rnCs d org nn sh l, rnR d org nn sh r with
    | some l', some r' => some ((b, l') :: r')
    | _, _ => none
/-- What becomes of one object that was handed on. -/
def out1 (d : Nat) (org : List Og) (nn : Nat) (sh : List Nat) (old : Option OV) (v : OV) : Option OV :=
  match v, old with
  | .arr e xs _ none, some (.arr e0 _ g none) => if e = e0 then some (.arr e xs (g + 1) none) else none
  | .box cs, some (.box _) => (rnCs d org nn sh cs).map .box
  | .dead, _ => some .dead
  | _, _ => none
def outV (i c : Nat) (old : Option OV) (v : OV) : Option OV :=
  match v, old with
  | .arr e' ys _ none, some (.arr e xs g none) => (E.leafSet e (xs.getD i (dflt e)) c ⟨.sl e', ys⟩).map fun x => .arr e (xs.set i x) (g + 1) none
  | _, _ => none
def outG (d : Nat) (org : List Og) (nn : Nat) (sh : List Nat) (ob : Nat → Option OV) (r : Og) (v : OV) : Option OV :=
  match r.vw with
  | none => out1 d org nn sh (ob r.o) v
  | some (i, c, _, _) => outV i c (ob r.o) v
def outsF (d : Nat) (org : List Og) (nn : Nat) (sh : List Nat) (ob : Nat → Option OV) : List Og → List OV → Option (List (Nat × OV))
  | [], [] => some []
  | o :: l, v :: vs => match outG d org nn sh ob o v, outsF d org nn sh ob l vs with
    | some v', some r => some ((o.o, v') :: r)
    | _, _ => none
  | _, _ => none
def newsF (d : Nat) (org : List Og) (nn : Nat) (sh : List Nat) : Nat → List OV → Option (List (Nat × OV))
  | _, [] => some []
  | j, v :: vs => match rnO d org nn sh v, newsF d org nn sh (j + 1) vs with
    | some v', some r => some ((nm d j, v') :: r)
    | _, _ => none
def nodupB : List Nat → Bool
  | [] => true
  | x :: l => !l.contains x && nodupB l
def retAV : List (Bool × List CV) → AV
  | [p] => a1 p
  | l => .tup l
/-- Objects, read one after the other. -/
def rdOs : List Nat → List (Nat × OV) → (List (Nat × OV) → Pg) → Pg
  | [], acc, k => k acc
  | o :: l, acc, k => .rdO o fun v => rdOs l (match v with | some v => (o, v) :: acc | none => acc) k
def refC : CV → List Nat
  | .sl o => [o]
  | .pc o _ => [o]
  | .vw o _ _ _ => [o]
  | _ => []
def refO : OV → List Nat
  | .box cs => cs.flatMap refC
  | _ => []
def pcall (d : Nat) (f : Nat) (vs : List (Bool × AV)) : Pg :=
  rdOs (vs.flatMap fun p => (cells p.2).flatMap refC) [] fun m1 => rdOs (m1.flatMap fun p => refO p.2) m1 fun m =>
    match argsA (look m) vs ⟨[], [], []⟩ with
    | some (as, A) => if nodupB (A.org.map (·.o)) = true ∧ ((A.org.map (·.o)).all fun o => !A.sh.contains o) = true ∧ A.org.length ≤ 500 then
        .call f as A.ins fun res => if res.outs.length = A.org.length ∧ res.news.length ≤ 400 then
          rdOs ((List.range res.news.length).map (nm d)) [] fun m3 => if m3.isEmpty = true then
            (match rnR d A.org res.news.length A.sh res.rets, outsF d A.org res.news.length A.sh (look m) A.org res.outs, newsF d A.org res.news.length A.sh 0 res.news with
            | some rets, some os1, some os2 => .done [(d, retAV rets)] (os1 ++ os2)
            | _, _, _ => .fail) else .fail
          else .fail
      else .fail
    | none => .fail
def zipOwn (own : List Nat) : Nat → List AV → List (Bool × AV)
  | _, [] => []
  | i, v :: vs => (own.contains i, v) :: zipOwn own (i + 1) vs
structure Cfg where
  tt : Tys
  own : List (Nat × List Nat)
def kOf (c : Cfg) (t : TypeId) : Option K := match look c.tt t with | some ty => if ty.agg = true then none else some ty.k | none => none
def opPg (c : Cfg) (o : Oper) : Pg :=
  match o.op with
  | .move x => rdX x (ret o.dst)
  | .assign x => rdX x (ret o.dst)
  | .pick x y z => rdC x fun | .b b => rdX y fun vy => rdX z fun vz => .br b (ret o.dst vy) (ret o.dst vz) | _ => .fail
  | .extract x n => rdX x fun | .tup l => (match l[n]? with | some p => ret o.dst (a1 p) | none => .fail) | _ => .fail
  | .binOp op t x y _ => rdC x fun cx => rdC y fun cy => pbin (kOf c t == some .bool) o.dst op cx cy
  | .unOp op _ x => rdC x fun cx => pun o.dst op cx
  | .alloc t => (match look c.tt t with | some ty => newO o.dst (fun o => .pc o 0) (.box (zeros ty.k)) [] | none => .fail)
  | .box t x => rdX x fun v => if (cells v).all okC = true ∧ 0 < (cells v).length then newO o.dst (fun o => .pc o 0) (.box (cells v)) [] else .fail
  | .load t x => (match look c.tt t with | some ty => rdC x fun cx => pload o.dst ty cx | none => .fail)
  | .store t x y => (match look c.tt t, o.dst with | some ty, none => rdC x fun cx => rdX y fun v => pstore ty cx v | _, _ => .fail)
  | .fieldAddr t x f => (match look c.tt t with | some ty => (if ty.agg = true then (match ty.offs[f]? with | some off => rdC x fun cx => pfld o.dst off cx | none => .fail) else .fail) | none => .fail)
  | .indexAddr t x y => (match kOf c t with | some (.sl e) => (rdC x fun cx => rdC y fun | .i _ n => pidx e o.dst cx n | _ => .fail) | _ => .fail)
  | .index t x y => (match kOf c t with | some .str => rdC x fun cx => rdC y fun cy => (match cx, cy with | .s s, .i _ n => inB n s.size (ret1 o.dst (.i .u8 (sAt s n))) | _, _ => .fail) | _ => .fail)
  | .nilCheck x => rdC x fun | .pc ob cc => (.rdO ob fun | some (.box _) => ret1 o.dst (.pc ob cc) | _ => .fail) | _ => .fail
  | .build t parts => (match look c.tt t with
    | some ty => if ty.agg = true then rdXs (parts.toList.map (·.2)) [] fun vs => (match setParts ty.offs ty.szs (zeros ty.k) ((parts.toList.map (·.1)).zip vs) with | some cs => ret o.dst (.agg cs) | none => .fail) else .fail
    | none => .fail)
  | .buildSlice t len parts => (match kOf c t, o.dst with
    | some (.sl e), some d => if parts.toList.map (·.1) = List.range len ∧ len * sz e ≤ 16777216 then rdXs (parts.toList.map (·.2)) [] fun vs => mkEls (nm d 0) e vs [] [] fun xs os => newO o.dst .sl (.arr e xs 0 none) os else .fail
    | _, _ => .fail)
  | .makeSlice t x y => (match look c.tt t, o.dst with
    | some ty, some _ => (match kOf c t, look c.tt ty.elem with
      | some (.sl e), some te => (rdC x fun | .i _ n => (rdC y fun | .i _ cc => .br (decide (0 ≤ n)) (.br (decide (n ≤ cc)) (.br (decide (cc.toNat * max 1 te.bytes ≤ 140737488355328)) (newO o.dst .sl (.arr e (List.replicate n.toNat (dflt e)) 0 none) []) .fail) .fail) .fail | _ => .fail) | _ => .fail)
      | _, _ => .fail)
    | _, _ => .fail)
  | .slice t x lo hi none => (match kOf c t with | some k => rdC x fun cx => rdI lo fun l => rdI hi fun h => pslice k o.dst cx l h | none => .fail)
  | .makeFunc (.func f) first caps => if first.size = 0 ∧ caps.size = 0 then ret1 o.dst (.fn f) else .fail
  | .convert src t x => (match kOf c src, kOf c t with
    | some (.int _), some (.int k) => (rdC x fun | .i _ n => ret1 o.dst (.i k (k.wrap n)) | _ => .fail)
    | some (.sl (.int .u8)), some .str => (match look c.tt src with
      | some ty => if kOf c ty.elem = some (.int .u8) then (rdC x fun c => match c with | .nil => ret1 o.dst (.s ByteArray.empty) | c => rdL c fun e ys => match strL e ys with | some s => ret1 o.dst (.s s) | none => .fail) else .fail
      | none => .fail)
    | some .str, some (.sl (.int .u8)) => (match look c.tt t with
      | some ty => if kOf c ty.elem = some (.int .u8) then (rdC x fun c => match c with | .s s => newO o.dst .sl (.arr (.int .u8) (bytesI s) 0 none) [] | _ => .fail) else .fail
      | none => .fail)
    | _, _ => .fail)
  | .call cl => (match cl.callee, cl.args.toList, cl.argTypes.toList with
    | .builtin .len, [x], [t] => (match kOf c t with | some k => rdC x fun cx => plen k o.dst cx | none => .fail)
    | .builtin .append, [s, x], [t, t'] => if t = t' then (match look c.tt t, o.dst with
        | some ty, some d => (match kOf c t, look c.tt ty.elem with
          | some (.sl e), some te => (.rdO (nm d 0) fun | none => (rdC s fun cs => rdC x fun cx => papp o.dst e te.bytes cs cx) | some _ => .fail)
          | _, _ => .fail)
        | _, _ => .fail) else .fail
    | .builtin .min, [x, y], [_, _] => rdC x fun cx => rdC y fun cy => (match cx, cy with | .i k x, .i _ y => ret1 o.dst (.i k (mm true x y)) | _, _ => .fail)
    | .builtin .max, [x, y], [_, _] => rdC x fun cx => rdC y fun cy => (match cx, cy with | .i k x, .i _ y => ret1 o.dst (.i k (mm false x y)) | _, _ => .fail)
    | .value (.func f), xs, _ => (match o.dst with | some d => rdXs xs [] fun vs => pcall d f (zipOwn ((look c.own f).getD []) 0 vs) | none => .fail)
    | .value (.tmp t), xs, _ => (match o.dst with | some d => (.rdT t fun | .one (.fn f) => rdXs xs [] fun vs => pcall d f (zipOwn ((look c.own f).getD []) 0 vs) | _ => .fail) | none => .fail)
    | _, _, _ => .fail)
  | _ => .fail
section
variable {n0 : Nat} {h0 : Ent} {lab0 : Lb} {nt : Nat} {σ : St} {a : Act} {w w' : World} {ev : Ev} {P : Program} {ws : List (Nat × AV)} {os : List (Nat × OV)} {c : Cfg}
theorem kOf_spec {t : TypeId} {k : K} (h : kOf c t = some k) : ∃ ty, look c.tt t = some ty ∧ ty.agg = false ∧ ty.k = k := by
  unfold kOf at h
  split at h
  · rename_i ty hty
    split at h
    · cases h
    · rename_i ha; exact ⟨ty, hty, by simpa using ha, Option.some.inj h⟩
  · cases h
end
end Go.Proofs.Ytnbfhbfnccihgaa.E
