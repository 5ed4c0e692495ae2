/- Small laws on rounds, lists and numbers. -/
import Derived.Test.YtoaefflonebgkaaWWords
import Derived.Test.YtoaefflonebgkaaOp
namespace Go.Proofs.Ytoaefflonebgkaa.Ma
open Go.RowKit Go.Proofs.YtoaefflonebgkaaW.PrintWords
section base
set_option linter.unusedVariables false
variable {α β : Type}
theorem Ev.pos {c : Prop} [Decidable c] {A B : Nat → Option α} {r : α} (h : c) (k : Ev A r) : Ev (fun n => if c then A n else B n) r := Ev.congr (fun n => if_pos h) k
theorem Ev.neg {c : Prop} [Decidable c] {A B : Nat → Option α} {r : α} (h : ¬ c) (k : Ev B r) : Ev (fun n => if c then A n else B n) r := Ev.congr (fun n => if_neg h) k
theorem Ev.ite {c : Prop} [Decidable c] {A B : Nat → Option α} {r s : α} (h : c → Ev A r) (k : ¬ c → Ev B s) : Ev (fun n => if c then A n else B n) (if c then r else s) := by
  by_cases hc : c
  · rw [if_pos hc]; exact Ev.pos hc (h hc)
  · rw [if_neg hc]; exact Ev.neg hc (k hc)
theorem Ev.cases {c : Prop} [Decidable c] {A B : Nat → Option α} {r : α} (h : c → Ev A r) (k : ¬ c → Ev B r) : Ev (fun n => if c then A n else B n) r := by
  by_cases hc : c
  · exact Ev.pos hc (h hc)
  · exact Ev.neg hc (k hc)
theorem Ev.is {r s : α} (h : s = r) : Ev (fun _ => some s) r := h ▸ Ev.now s
theorem Ev.sb {s : β} {f : Nat → β → Option α} {r : α} (k : Ev (fun n => f n s) r) : Ev (fun n => (some s).bind (f n)) r := k
theorem Ev.const {g : Option α} {r : α} (h : g = some r) : Ev (fun _ => g) r := h ▸ Ev.now r
theorem Ev.eqr {g : Nat → Option α} {r s : α} (h : Ev g r) (e : r = s) : Ev g s := e ▸ h
theorem Ev.uniq {g : Nat → Option α} {r s : α} (h : Ev g r) (k : Ev g s) : r = s := by
  obtain ⟨K, h⟩ := h
  obtain ⟨L, k⟩ := k
  have h1 := h (max K L) (Nat.le_max_left _ _)
  have h2 := k (max K L) (Nat.le_max_right _ _)
  rw [h1] at h2
  exact Option.some.inj h2
/-- From the end down to the beginning. -/
theorem down {n : Nat} {P : Nat → Prop} (h0 : P n) (hs : ∀ i, i < n → P (i + 1) → P i) : ∀ i, i ≤ n → P i := by
  intro i hi
  obtain ⟨d, hd⟩ : ∃ d, i + d = n := ⟨n - i, by omega⟩
  induction d generalizing i with
  | zero => obtain rfl : i = n := by omega
            exact h0
  | succ d ih => exact hs i (by omega) (ih (i + 1) (by omega) (by omega))
theorem wrap_id {x : Int} (h0 : -9223372036854775808 ≤ x) (h1 : x ≤ 9223372036854775807) : wrap64 x = x := by unfold wrap64; omega
theorem wrap_nat {i : Nat} (h : (i : Int) + 1 ≤ 9223372036854775807) : wrap64 ((i : Int) + 1) = ((i + 1 : Nat) : Int) := by unfold wrap64; omega
theorem getD_nat (xs : List α) (i : Nat) (d : α) (h : i < xs.length) : xs.getD i d = xs[i] := by
  rw [List.getD_eq_getElem?_getD, List.getElem?_eq_getElem h]; rfl
theorem rd_nat (xs : List Int) (i : Nat) (h : i < xs.length) : rd xs (i : Int) = xs[i] := by
  unfold rd; rw [Int.toNat_natCast]; exact getD_nat _ _ _ h
theorem rdOf_nat (d : α) (xs : List α) (i : Nat) (h : i < xs.length) : rdOf d xs (i : Int) = xs[i] := by
  unfold rdOf; rw [Int.toNat_natCast]; exact getD_nat _ _ _ h
theorem getT_nat (xs : List α) (i : Nat) (d : α) (h : i < xs.length) : xs.getD ((i : Int)).toNat d = xs[i] := by
  rw [Int.toNat_natCast]; exact getD_nat _ _ _ h
theorem drop_cons (xs : List α) (i : Nat) (h : i < xs.length) : xs.drop i = xs[i] :: xs.drop (i + 1) := List.drop_eq_getElem_cons h
/-- What has been filled in up to i. -/
theorem take_set (xs ys : List α) (i : Nat) (h : i < xs.length) (hy : ys.length = xs.length) : (xs.take i ++ ys.drop i).set i xs[i] = xs.take (i + 1) ++ ys.drop (i + 1) := by
  have e : i - (xs.take i).length = 0 := by simp; omega
  rw [List.set_append_right (h := by simp; omega), e, List.drop_eq_getElem_cons (by omega : i < ys.length), List.set_cons_zero, List.take_succ_eq_append_getElem h, List.append_assoc, List.singleton_append]
theorem take_len (xs ys : List α) (i : Nat) (h : i ≤ xs.length) (hy : ys.length = xs.length) : (xs.take i ++ ys.drop i).length = xs.length := by simp; omega
end base
def inR (lo up : Int) : List Int → Bool
  | [] => true
  | a :: l => decide (lo ≤ a ∧ a ≤ up) && inR lo up l
def goodV (l : List Int) : Bool := decide (1 ≤ l.length ∧ l.length ≤ 120) && inR (-1000000) 1000000 l
theorem goodV_len {l : List Int} (h : goodV l = true) : 1 ≤ l.length ∧ l.length ≤ 120 := by
  unfold goodV at h
  simp at h
  exact h.1
theorem set_mid {α : Type} (l xs : List α) (i : Nat) (v : α) (hl : l.length = i) (h : i < xs.length) : (l ++ xs.drop i).set i v = (l ++ [v]) ++ xs.drop (i + 1) := by
  have e : i - l.length = 0 := by omega
  rw [List.set_append_right (h := by omega), e, List.drop_eq_getElem_cons h, List.set_cons_zero, List.append_assoc, List.singleton_append]
theorem len_mid {α : Type} (l xs : List α) (i : Nat) (hl : l.length = i) (h : i ≤ xs.length) : (l ++ xs.drop i).length = xs.length := by simp; omega
theorem rd_set_T {α : Type} (xs : List α) (i : Nat) (v d : α) (h : i < xs.length) : (xs.set i v).getD ((i : Int)).toNat d = v := by
  rw [Int.toNat_natCast, getD_nat _ _ _ (by simpa using h)]
  simp
/-- What the marks are: whole numbers in line. -/
def marks (a : Int) (n : Nat) : List Int := (List.range n).map fun (j : Nat) => a + (j : Int)
theorem marks_len (a : Int) (n : Nat) : (marks a n).length = n := by simp [marks]
theorem marks_succ (a : Int) (n : Nat) : marks a (n + 1) = marks a n ++ [a + (n : Int)] := by simp [marks, List.range_succ]
theorem marks_get (a : Int) (n i : Nat) (h : i < (marks a n).length) : (marks a n)[i] = a + (i : Int) := by simp [marks]
/-- Lists made by a rule. -/
def rule {α : Type} (g : Nat → α) (n : Nat) : List α := (List.range n).map g
theorem rule_len {α : Type} (g : Nat → α) (n : Nat) : (rule g n).length = n := by simp [rule]
theorem rule_succ {α : Type} (g : Nat → α) (n : Nat) : rule g (n + 1) = rule g n ++ [g n] := by simp [rule, List.range_succ]
theorem rule_get {α : Type} (g : Nat → α) (n i : Nat) (h : i < (rule g n).length) : (rule g n)[i] = g i := by simp [rule]
theorem bytes_len (s : ByteArray) : (bytesOf s).length = s.size := by simp [bytesOf]
theorem bt_nat (s : ByteArray) (i : Nat) (h : i < (bytesOf s).length) : bt s (i : Int) = (bytesOf s)[i] := by
  have h2 : i < s.size := by rw [← bytes_len]; exact h
  unfold bt
  simp only [Int.toNat_natCast]
  rw [dif_pos h2]
  simp [bytesOf]
  rfl
/-- A letter or a digit. -/
def chOk (c : Int) : Bool := !((decide (c < 97) || decide (c > 122)) && (decide (c < 48) || decide (c > 57)))
def nameOk (s : ByteArray) : Bool := (bytesOf s).all chOk && decide (1 ≤ s.size ∧ s.size ≤ 12)

end Go.Proofs.Ytoaefflonebgkaa.Ma
