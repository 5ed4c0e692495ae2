/- Small laws on rounds, lists and numbers. -/
import Derived.Test.YtpfjjheognelhaaWWords
import Derived.Test.YtpfjjheognelhaaWMore
import Derived.Test.YtpfjjheognelhaaOp
namespace Go.Proofs.Ytpfjjheognelhaa.Ma
open Go.RowKit Go.Proofs.YtpfjjheognelhaaW.PrintWords Go.Proofs.YtpfjjheognelhaaW.PrintLast Go.Proofs.YtpfjjheognelhaaW.PrintMore
set_option linter.unusedVariables false
set_option linter.unusedSimpArgs false
section base
set_option linter.unusedVariables false
variable {α β : Type}
theorem Ev.pos {c : Prop} [Decidable c] {A B : Nat → Option α} {r : α} (h : c) (k : Ev A r) : Ev (fun n => if c then A n else B n) r := Ev.congr (fun n => if_pos h) k
theorem Ev.neg {c : Prop} [Decidable c] {A B : Nat → Option α} {r : α} (h : ¬ c) (k : Ev B r) : Ev (fun n => if c then A n else B n) r := Ev.congr (fun n => if_neg h) k
theorem Ev.ite {c : Prop} [Decidable c] {A B : Nat → Option α} {r s : α} (h : c → Ev A r) (k : ¬ c → Ev B s) : Ev (fun n => if c then A n else B n) (if c then r else s) := by
  by_cases hc : c
  · rw [if_pos hc]; exact Ev.pos hc (h hc)
  · rw [if_neg hc]; exact Ev.neg hc (k hc)
theorem Ev.cases {c : Prop} [Decidable c] {A B : Nat → Option α} {r : α} (h : c → Ev A r) (k : ¬ c → Ev B r) : Ev (fun n => if c then A n else B n) r := by
  by_cases hc : c
  · exact Ev.pos hc (h hc)
  · exact Ev.neg hc (k hc)
theorem Ev.is {r s : α} (h : s = r) : Ev (fun _ => some s) r := h ▸ Ev.now s
theorem Ev.sb {s : β} {f : Nat → β → Option α} {r : α} (k : Ev (fun n => f n s) r) : Ev (fun n => (some s).bind (f n)) r := k
theorem Ev.const {g : Option α} {r : α} (h : g = some r) : Ev (fun _ => g) r := h ▸ Ev.now r
theorem Ev.eqr {g : Nat → Option α} {r s : α} (h : Ev g r) (e : r = s) : Ev g s := e ▸ h
theorem Ev.uniq {g : Nat → Option α} {r s : α} (h : Ev g r) (k : Ev g s) : r = s := by
  obtain ⟨K, h⟩ := h
  obtain ⟨L, k⟩ := k
  have h1 := h (max K L) (Nat.le_max_left _ _)
  have h2 := k (max K L) (Nat.le_max_right _ _)
  rw [h1] at h2
  exact Option.some.inj h2
/-- From the end down to the beginning. -/
theorem down {n : Nat} {P : Nat → Prop} (h0 : P n) (hs : ∀ i, i < n → P (i + 1) → P i) : ∀ i, i ≤ n → P i := by
  intro i hi
  obtain ⟨d, hd⟩ : ∃ d, i + d = n := ⟨n - i, by omega⟩
  induction d generalizing i with
  | zero => obtain rfl : i = n := by omega
            exact h0
  | succ d ih => exact hs i (by omega) (ih (i + 1) (by omega) (by omega))
theorem wrap_id {x : Int} (h0 : -9223372036854775808 ≤ x) (h1 : x ≤ 9223372036854775807) : wrap64 x = x := by unfold wrap64; omega
theorem wrap_nat {i : Nat} (h : (i : Int) + 1 ≤ 9223372036854775807) : wrap64 ((i : Int) + 1) = ((i + 1 : Nat) : Int) := by unfold wrap64; omega
theorem getD_nat (xs : List α) (i : Nat) (d : α) (h : i < xs.length) : xs.getD i d = xs[i] := by
  rw [List.getD_eq_getElem?_getD, List.getElem?_eq_getElem h]; rfl
theorem rd_nat (xs : List Int) (i : Nat) (h : i < xs.length) : rd xs (i : Int) = xs[i] := by
  unfold rd; rw [Int.toNat_natCast]; exact getD_nat _ _ _ h
theorem rdOf_nat (d : α) (xs : List α) (i : Nat) (h : i < xs.length) : rdOf d xs (i : Int) = xs[i] := by
  unfold rdOf; rw [Int.toNat_natCast]; exact getD_nat _ _ _ h
theorem getT_nat (xs : List α) (i : Nat) (d : α) (h : i < xs.length) : xs.getD ((i : Int)).toNat d = xs[i] := by
  rw [Int.toNat_natCast]; exact getD_nat _ _ _ h
theorem drop_cons (xs : List α) (i : Nat) (h : i < xs.length) : xs.drop i = xs[i] :: xs.drop (i + 1) := List.drop_eq_getElem_cons h
/-- What has been filled in up to i. -/
theorem take_set (xs ys : List α) (i : Nat) (h : i < xs.length) (hy : ys.length = xs.length) : (xs.take i ++ ys.drop i).set i xs[i] = xs.take (i + 1) ++ ys.drop (i + 1) := by
  have e : i - (xs.take i).length = 0 := by simp; omega
  rw [List.set_append_right (h := by simp; omega), e, List.drop_eq_getElem_cons (by omega : i < ys.length), List.set_cons_zero, List.take_succ_eq_append_getElem h, List.append_assoc, List.singleton_append]
theorem take_len (xs ys : List α) (i : Nat) (h : i ≤ xs.length) (hy : ys.length = xs.length) : (xs.take i ++ ys.drop i).length = xs.length := by simp; omega
end base
def inR (lo up : Int) : List Int → Bool
  | [] => true
  | a :: l => decide (lo ≤ a ∧ a ≤ up) && inR lo up l
def goodV (l : List Int) : Bool := decide (1 ≤ l.length ∧ l.length ≤ 120) && inR (-1000000) 1000000 l
theorem goodV_len {l : List Int} (h : goodV l = true) : 1 ≤ l.length ∧ l.length ≤ 120 := by
  unfold goodV at h
  simp at h
  exact h.1
theorem set_mid {α : Type} (l xs : List α) (i : Nat) (v : α) (hl : l.length = i) (h : i < xs.length) : (l ++ xs.drop i).set i v = (l ++ [v]) ++ xs.drop (i + 1) := by
  have e : i - l.length = 0 := by omega
  rw [List.set_append_right (h := by omega), e, List.drop_eq_getElem_cons h, List.set_cons_zero, List.append_assoc, List.singleton_append]
theorem len_mid {α : Type} (l xs : List α) (i : Nat) (hl : l.length = i) (h : i ≤ xs.length) : (l ++ xs.drop i).length = xs.length := by simp; omega
theorem rd_set_T {α : Type} (xs : List α) (i : Nat) (v d : α) (h : i < xs.length) : (xs.set i v).getD ((i : Int)).toNat d = v := by
  rw [Int.toNat_natCast, getD_nat _ _ _ (by simpa using h)]
  simp
/-- What the marks are: whole numbers in line. -/
def marks (a : Int) (n : Nat) : List Int := (List.range n).map fun (j : Nat) => a + (j : Int)
theorem marks_len (a : Int) (n : Nat) : (marks a n).length = n := by simp [marks]
theorem marks_succ (a : Int) (n : Nat) : marks a (n + 1) = marks a n ++ [a + (n : Int)] := by simp [marks, List.range_succ]
theorem marks_get (a : Int) (n i : Nat) (h : i < (marks a n).length) : (marks a n)[i] = a + (i : Int) := by simp [marks]
/-- Lists made by a rule. -/
def rule {α : Type} (g : Nat → α) (n : Nat) : List α := (List.range n).map g
theorem rule_len {α : Type} (g : Nat → α) (n : Nat) : (rule g n).length = n := by simp [rule]
theorem rule_succ {α : Type} (g : Nat → α) (n : Nat) : rule g (n + 1) = rule g n ++ [g n] := by simp [rule, List.range_succ]
theorem rule_get {α : Type} (g : Nat → α) (n i : Nat) (h : i < (rule g n).length) : (rule g n)[i] = g i := by simp [rule]
theorem bytes_len (s : ByteArray) : (bytesOf s).length = s.size := by simp [bytesOf]
theorem bt_nat (s : ByteArray) (i : Nat) (h : i < (bytesOf s).length) : bt s (i : Int) = (bytesOf s)[i] := by
  have h2 : i < s.size := by rw [← bytes_len]; exact h
  unfold bt
  simp only [Int.toNat_natCast]
  rw [dif_pos h2]
  simp [bytesOf]
  rfl
/-- A letter or a digit. -/
def chOk (c : Int) : Bool := !((decide (c < 97) || decide (c > 122)) && (decide (c < 48) || decide (c > 57)))
def nameOk (s : ByteArray) : Bool := (bytesOf s).all chOk && decide (1 ≤ s.size ∧ s.size ≤ 12)
/-! jobs and plans -/
structure Jb where
  arcs : List (List Int)
  ton : List Int
  val : List Int
  mine : Int
  mill : Int
  per : Int
  num : Int
  den : Int
/-- Strictly increasing, and within bounds. -/
def ris (lo up : Int) : Option Int → List Int → Bool
  | _, [] => true
  | none, a :: l => decide (lo ≤ a ∧ a ≤ up) && ris lo up (some a) l
  | some q, a :: l => decide (lo ≤ a ∧ a ≤ up) && (decide (q < a) && ris lo up (some a) l)
def arcsFrom : Nat → List (List Int) → Bool
  | _, [] => true
  | i, l :: ls => ris 0 ((i : Int) - 1) none l && arcsFrom (i + 1) ls
def arcsOk (arcs : List (List Int)) : Bool := arcsFrom 0 arcs && decide (1 ≤ arcs.length ∧ arcs.length ≤ 120)
def limOk (j : Jb) : Bool := decide (0 ≤ j.mine ∧ j.mine ≤ 1000000 ∧ 0 ≤ j.mill ∧ j.mill ≤ 1000000 ∧ 1 ≤ j.per ∧ j.per ≤ 6 ∧ 1 ≤ j.num ∧ j.num ≤ j.den ∧ j.den ≤ 20)
def jobOk (j : Jb) : Bool := arcsOk j.arcs && (decide (j.ton.length = j.arcs.length ∧ j.val.length = j.arcs.length) && (inR 0 10000 j.ton && (inR (-1000000) 1000000 j.val && limOk j)))
/-- What is asked of a job's sizes. -/
def JobB (j : Jb) : Prop := (j.arcs.length ≤ 4294967296 ∧ ∀ x_ ∈ j.arcs, (x_.length ≤ 4294967296)) ∧ j.ton.length ≤ 4294967296 ∧ j.val.length ≤ 4294967296
def planOk (j : Jb) (per : Int) (w : List Int) : Bool := decide (per = j.per) && (decide (w.length = j.arcs.length) && inR (-1) (j.per - 1) w)
theorem inR_mem {lo up : Int} : ∀ {l : List Int}, inR lo up l = true → ∀ x ∈ l, lo ≤ x ∧ x ≤ up
  | [], _, x, hx => by cases hx
  | a :: l, h, x, hx => by
    simp [inR] at h
    rcases List.mem_cons.1 hx with rfl | hx
    · exact h.1
    · exact inR_mem h.2 x hx
theorem inR_of {lo up : Int} : ∀ {l : List Int}, (∀ x ∈ l, lo ≤ x ∧ x ≤ up) → inR lo up l = true
  | [], _ => rfl
  | a :: l, h => by
    have h1 := h a List.mem_cons_self
    simp [inR, h1]
    exact inR_of (fun x hx => h x (List.mem_cons_of_mem _ hx))
theorem jobOk_parts {j : Jb} (h : jobOk j = true) : arcsOk j.arcs = true ∧ j.ton.length = j.arcs.length ∧ j.val.length = j.arcs.length ∧ inR 0 10000 j.ton = true ∧ inR (-1000000) 1000000 j.val = true ∧ 0 ≤ j.mine ∧ j.mine ≤ 1000000 ∧ 0 ≤ j.mill ∧ j.mill ≤ 1000000 ∧ 1 ≤ j.per ∧ j.per ≤ 6 ∧ 1 ≤ j.num ∧ j.num ≤ j.den ∧ j.den ≤ 20 := by
  simp [jobOk, limOk] at h
  obtain ⟨h1, ⟨h2, h3⟩, h4, h5, h6⟩ := h
  exact ⟨h1, h2, h3, h4, h5, h6⟩
theorem arcsOk_len {a : List (List Int)} (h : arcsOk a = true) : 1 ≤ a.length ∧ a.length ≤ 120 := by
  simp [arcsOk] at h
  exact h.2
theorem planOk_parts {j : Jb} {per : Int} {w : List Int} (h : planOk j per w = true) : per = j.per ∧ w.length = j.arcs.length ∧ ∀ x ∈ w, -1 ≤ x ∧ x ≤ j.per - 1 := by
  simp [planOk] at h
  exact ⟨h.1, h.2.1, inR_mem h.2.2⟩
def rank (per x : Int) : Int := if x < 0 then per else x
def dist (pa pb : Int) : List Int → List Int → Int
  | a :: as, b :: bs => max (rank pa a - rank pb b) (-(rank pa a - rank pb b)) + dist pa pb as bs
  | _, _ => 0
theorem mx_eq (a b : Int) : mx a b = max a b := by unfold mx; omega
/-! the first period in which two plans part -/
def mnv (per : Int) : List Int → List Int → Int
  | a :: as, b :: bs => if a = b then mnv per as bs else min (min (rank per a) (rank per b)) (mnv per as bs)
  | _, _ => per
def dif (t : Int) : List Int → List Int → Bool
  | a :: as, b :: bs => ((a == t) != (b == t)) || dif t as bs
  | _, _ => false
def ap (A B : List Int) : Int → Nat → Int × Bool
  | _, 0 => (0, false)
  | t, d + 1 => if dif t A B = true then (t, true) else ap A B (t + 1) d
theorem rank_bd {per x : Int} (h : -1 ≤ x ∧ x ≤ per - 1) (hp : 0 ≤ per) : 0 ≤ rank per x ∧ rank per x ≤ per := by unfold rank; split <;> omega
theorem mnv_bd {per : Int} (hp : 0 ≤ per) : ∀ (A B : List Int), (∀ x ∈ A, -1 ≤ x ∧ x ≤ per - 1) → (∀ x ∈ B, -1 ≤ x ∧ x ≤ per - 1) → 0 ≤ mnv per A B ∧ mnv per A B ≤ per
  | [], _, _, _ => by simp [mnv]; omega
  | _ :: _, [], _, _ => by simp [mnv]; omega
  | a :: A, b :: B, ha, hb => by
    have ih := mnv_bd hp A B (fun x hx => ha x (List.mem_cons_of_mem _ hx)) (fun x hx => hb x (List.mem_cons_of_mem _ hx))
    have r1 := rank_bd (ha a List.mem_cons_self) hp
    have r2 := rank_bd (hb b List.mem_cons_self) hp
    rw [mnv]
    split <;> omega
theorem dif_le {per t : Int} (h0 : 0 ≤ t) (h1 : t < per) : ∀ (A B : List Int), dif t A B = true → mnv per A B ≤ t
  | [], _, h => by simp [dif] at h
  | _ :: _, [], h => by simp [dif] at h
  | a :: A, b :: B, h => by
    rw [dif, Bool.or_eq_true] at h
    rw [mnv]
    rcases h with h | h
    · have hne : a ≠ b := by rintro rfl; simp at h
      rw [if_neg hne]
      by_cases e : a = t
      · have : rank per a = t := by unfold rank; rw [if_neg (by omega)]; exact e
        omega
      · have e2 : b = t := by
          have e3 : (a == t) = false := by simpa using e
          rw [e3] at h
          simpa using h
        have : rank per b = t := by unfold rank; rw [if_neg (by omega)]; exact e2
        omega
    · have := dif_le h0 h1 A B h
      split <;> omega
theorem dif_of {per t : Int} (h0 : 0 ≤ t) (h1 : t < per) : ∀ (A B : List Int), mnv per A B = t → dif t A B = true
  | [], _, h => by simp [mnv] at h; omega
  | _ :: _, [], h => by simp [mnv] at h; omega
  | a :: A, b :: B, h => by
    rw [mnv] at h
    rw [dif, Bool.or_eq_true]
    split at h
    · exact .inr (dif_of h0 h1 A B h)
    · rename_i hne
      by_cases e : mnv per A B = t
      · exact .inr (dif_of h0 h1 A B e)
      · left
        have : rank per a = t ∨ rank per b = t := by omega
        rcases this with e2 | e2
        · have e3 : a = t := by unfold rank at e2; split at e2 <;> omega
          have e4 : b ≠ t := by rintro rfl; exact hne e3
          simp [e3, e4]
        · have e3 : b = t := by unfold rank at e2; split at e2 <;> omega
          have e4 : a ≠ t := by rintro rfl; exact hne e3.symm
          simp [e3, e4]
theorem ap_eq {per : Int} (A B : List Int) : ∀ (d : Nat) (t : Int), 0 ≤ t → t + d = per → t ≤ mnv per A B → mnv per A B ≤ per → ap A B t d = if mnv per A B = per then (0, false) else (mnv per A B, true)
  | 0, t, h0, hd, h1, h2 => by rw [ap, if_pos (by omega)]
  | d + 1, t, h0, hd, h1, h2 => by
    rw [ap]
    by_cases c : dif t A B = true
    · have := dif_le (per := per) h0 (by omega) A B c
      rw [if_pos c, if_neg (by omega)]
      congr 1; omega
    · have : mnv per A B ≠ t := fun e => c (dif_of (per := per) h0 (by omega) A B e)
      rw [if_neg c]
      exact ap_eq A B d (t + 1) (by omega) (by omega) (by omega) h2
def tot (xs : List (List Int)) : Nat := (xs.map List.length).sum
/-! worths -/
def powW (b : Int) : Nat → Int → Int
  | 0, acc => acc
  | n + 1, acc => powW b n (wrap64 (acc * b))
def facW (j : Jb) (t : Int) : Int := wrap64 (powW j.num t.toNat 1 * powW j.den (j.per - 1 - t).toNat 1)
def wpl (j : Jb) : List Int → Nat → List Int → List Int
  | [], _, acc => acc
  | p :: w, i, acc => if p ≥ 0 then wpl j w (i + 1) (acc.set p.toNat (wrap64 (rd acc p + wrap64 (rd j.val (i : Int) * facW j p)))) else wpl j w (i + 1) acc
theorem wpl_len (j : Jb) : ∀ (w : List Int) (i : Nat) (acc : List Int), (wpl j w i acc).length = acc.length
  | [], _, acc => rfl
  | p :: w, i, acc => by
    rw [wpl]
    split
    · rw [wpl_len j w]; simp
    · exact wpl_len j w _ _

end Go.Proofs.Ytpfjjheognelhaa.Ma
