/- Lists of bytes, split at a byte; decimal numerals read. -/
import Derived.Test.YtoinlnlmmnmojaaGreatDoorEB
import Derived.Test.YtoinlnlmmnmojaaGreatDoorCfg
import Derived.Lib.ItoaMem
import Derived.Lib.SplitLaws
import Derived.Lib.Join
namespace Go.Proofs.YtoinlnlmmnmojaaGreatDoor.E
open Go Go.Proofs
set_option maxHeartbeats 2000000
set_option linter.unusedSimpArgs false
set_option linter.unusedVariables false
/-- A byte before the first piece. -/
def pre1 (x : UInt8) : List (List UInt8) → List (List UInt8)
  | [] => [[x]]
  | h :: t => (x :: h) :: t
def spl (b : UInt8) : List UInt8 → List (List UInt8)
  | [] => [[]]
  | x :: l => if x = b then [] :: spl b l else pre1 x (spl b l)
def jn1 (b : UInt8) : List (List UInt8) → List UInt8
  | [] => []
  | [x] => x
  | x :: y :: r => x ++ b :: jn1 b (y :: r)
theorem spl_ne (b : UInt8) : ∀ l, spl b l ≠ []
  | [] => by simp [spl]
  | x :: l => by
    rw [spl]
    split
    · simp
    · cases h : spl b l with
      | nil => exact absurd h (spl_ne b l)
      | cons y t => simp [pre1]
theorem jn1_cons (b : UInt8) (x : List UInt8) {r : List (List UInt8)} (h : r ≠ []) : jn1 b (x :: r) = x ++ b :: jn1 b r := by
  cases r with
  | nil => exact absurd rfl h
  | cons y t => rfl
theorem jn1_pre (b x : UInt8) {r : List (List UInt8)} (h : r ≠ []) : jn1 b (pre1 x r) = x :: jn1 b r := by
  cases r with
  | nil => exact absurd rfl h
  | cons y t => cases t <;> rfl
theorem jn1_spl (b : UInt8) : ∀ l, jn1 b (spl b l) = l
  | [] => rfl
  | x :: l => by
    rw [spl]
    split
    · rename_i h
      rw [jn1_cons b [] (spl_ne b l), jn1_spl b l, h]; rfl
    · rw [jn1_pre b x (spl_ne b l), jn1_spl b l]
theorem spl_app (b : UInt8) : ∀ (x r : List UInt8), b ∉ x → spl b (x ++ b :: r) = x :: spl b r
  | [], r, _ => by rw [List.nil_append, spl, if_pos rfl]
  | y :: x, r, h => by
    have h1 : ¬ y = b := fun e => h (by rw [e]; exact List.mem_cons_self)
    rw [List.cons_append, spl, if_neg h1, spl_app b x r (fun e => h (List.mem_cons_of_mem _ e))]; rfl
theorem spl_free (b : UInt8) : ∀ (x : List UInt8), b ∉ x → spl b x = [x]
  | [], _ => rfl
  | y :: x, h => by
    have h1 : ¬ y = b := fun e => h (by rw [e]; exact List.mem_cons_self)
    rw [spl, if_neg h1, spl_free b x (fun e => h (List.mem_cons_of_mem _ e))]; rfl
theorem spl_jn1 (b : UInt8) : ∀ (L : List (List UInt8)), L ≠ [] → (∀ x ∈ L, b ∉ x) → spl b (jn1 b L) = L
  | [], h, _ => absurd rfl h
  | [x], _, h => spl_free b x (h x List.mem_cons_self)
  | x :: y :: r, _, h => by
    rw [jn1, spl_app b x _ (h x List.mem_cons_self), spl_jn1 b (y :: r) (by simp) (fun z hz => h z (List.mem_cons_of_mem _ hz))]
theorem spl_mem (b : UInt8) : ∀ (l : List UInt8), ∀ x ∈ spl b l, b ∉ x
  | [], x, h => by simp [spl] at h; rw [h]; simp
  | y :: l, x, h => by
    rw [spl] at h
    split at h
    · rcases List.mem_cons.1 h with e | e
      · rw [e]; simp
      · exact spl_mem b l x e
    · rename_i hy
      have ih := spl_mem b l
      cases hs : spl b l with
      | nil => exact absurd hs (spl_ne b l)
      | cons z t =>
        rw [hs] at h ih
        rw [pre1] at h
        rcases List.mem_cons.1 h with e | e
        · rw [e]
          have := ih z List.mem_cons_self
          simp only [List.mem_cons, not_or]
          exact ⟨fun e => hy e.symm, this⟩
        · exact ih x (List.mem_cons_of_mem _ e)
/-- The pieces, when a byte comes at the end. -/
theorem spl_snoc (b : UInt8) : ∀ (l : List UInt8) (x : UInt8), (x = b → spl b (l ++ [x]) = spl b l ++ [[]]) ∧ (¬ x = b → ∀ A z, spl b l = A ++ [z] → spl b (l ++ [x]) = A ++ [z ++ [x]])
  | [], x => by
    refine ⟨fun h => by simp [spl, h], fun h A z e => ?_⟩
    cases A with
    | nil =>
      simp [spl] at e
      subst e
      simp [spl, h, pre1]
    | cons a A => simp [spl] at e
  | y :: l, x => by
    obtain ⟨i1, i2⟩ := spl_snoc b l x
    refine ⟨fun h => ?_, fun h A z e => ?_⟩
    · rw [List.cons_append, spl, spl, i1 h]
      split
      · rfl
      · cases hs : spl b l with
        | nil => exact absurd hs (spl_ne b l)
        | cons w t => rfl
    · rw [List.cons_append, spl]
      rw [spl] at e
      split
      · rename_i hy
        rw [if_pos hy] at e
        cases A with
        | nil =>
          simp at e
          exact absurd e.2 (spl_ne b l)
        | cons a A =>
          simp at e
          rw [i2 h A z e.2, ← e.1]; rfl
      · rename_i hy
        rw [if_neg hy] at e
        cases hs : spl b l with
        | nil => exact absurd hs (spl_ne b l)
        | cons w t =>
          rw [hs, pre1] at e
          cases A with
          | nil =>
            simp at e
            have := i2 h [] w (by rw [hs, e.2]; rfl)
            rw [this, ← e.1]; rfl
          | cons a A =>
            simp at e
            have := i2 h (w :: A) z (by rw [hs, e.2]; rfl)
            rw [this, ← e.1]; rfl
/-- The kit's split at one byte. -/
theorem split_one (c : UInt8) : ∀ l : List UInt8, Lib.splitK [c] 0 (Lib.count l [c]) l = spl c l
  | [] => by rw [Lib.count_miss (by simp [Lib.index])]; rfl
  | x :: l => by
    have ih := split_one c l
    rw [spl]
    by_cases h : x = c
    · subst h
      have hix : Lib.index (x :: l) [x] = 0 := by rw [Lib.index]; simp [List.isPrefixOf]
      rw [if_pos rfl, Lib.count_cons_eq, Nat.add_comm, Lib.splitK, hix]
      simp [ih]
    · rw [if_neg h, Lib.count_cons_ne x c l h, ← ih]
      have hp : ([c] : List UInt8).isPrefixOf (x :: l) = false := by simp [List.isPrefixOf, Ne.symm h]
      have hix : Lib.index (x :: l) [c] = if Lib.index l [c] == -1 then -1 else Lib.index l [c] + 1 := by rw [Lib.index, hp]; simp
      have hge := Lib.index_ge l [c]
      by_cases hm : Lib.index l [c] = -1
      · rw [Lib.count_miss hm]; rfl
      · obtain ⟨j, hj⟩ : ∃ j : Nat, Lib.index l [c] = j := ⟨(Lib.index l [c]).toNat, by omega⟩
        have hix' : Lib.index (x :: l) [c] = ((j + 1 : Nat) : Int) := by rw [hix, if_neg (fun e => hm (beq_iff_eq.1 e)), hj]; omega
        rw [Lib.count_hit (by simp) hj, Nat.add_comm, Lib.splitK, Lib.splitK, hix', hj, if_neg (by simp; omega), if_neg (by simp)]
        simp [pre1]
/-! numerals -/
def isDg (d : UInt8) : Bool := decide (48 ≤ d.toNat) && decide (d.toNat ≤ 57)
def valD (l : List UInt8) : Nat := l.foldl (fun n d => 10 * n + (d.toNat - 48)) 0
theorem valD_snoc (l : List UInt8) (d : UInt8) : valD (l ++ [d]) = 10 * valD l + (d.toNat - 48) := by unfold valD; rw [List.foldl_append]; rfl
/-- A numeral: digits alone, and no nought in front. -/
def canon (l : List UInt8) : Bool := !l.isEmpty && (l.all isDg && (decide (l.headD 0 ≠ 48) || decide (l.length = 1)))
theorem ofNat_toNat {n : Nat} (h : n < 256) : (UInt8.ofNat n).toNat = n := by simp; omega
theorem dd_ne (u : Nat) : Lib.decDigits u ≠ [] := by
  rw [Lib.decDigits]
  split <;> simp
theorem dd_head (u : Nat) (h : 1 ≤ u) : (Lib.decDigits u).headD 0 ≠ 48 := by
  induction u using Nat.strongRecOn with
  | _ u ih =>
    rw [Lib.decDigits]
    split
    · rename_i h1
      intro e
      have e2 : UInt8.ofNat (48 + u) = 48 := e
      have := congrArg UInt8.toNat e2
      rw [ofNat_toNat (by omega)] at this
      have h48 : (48 : UInt8).toNat = 48 := rfl
      omega
    · rename_i h1
      have := ih (u / 10) (by omega) (by omega)
      cases hd : Lib.decDigits (u / 10) with
      | nil => exact absurd hd (dd_ne _)
      | cons a t => rw [hd] at this; exact this
theorem dd_all (u : Nat) : (Lib.decDigits u).all isDg = true := by
  induction u using Nat.strongRecOn with
  | _ u ih =>
    rw [Lib.decDigits]
    split
    · rename_i h1
      simp only [List.all_cons, List.all_nil, Bool.and_true]
      unfold isDg
      rw [ofNat_toNat (by omega), decide_eq_true (by omega), decide_eq_true (by omega)]; rfl
    · rename_i h1
      rw [List.all_append, ih (u / 10) (by omega)]
      simp only [List.all_cons, List.all_nil, Bool.and_true, Bool.true_and]
      unfold isDg
      rw [ofNat_toNat (by omega), decide_eq_true (by omega), decide_eq_true (by omega)]; rfl
theorem dd_val (u : Nat) : valD (Lib.decDigits u) = u := by
  induction u using Nat.strongRecOn with
  | _ u ih =>
    rw [Lib.decDigits]
    split
    · rename_i h1
      show 10 * 0 + ((UInt8.ofNat (48 + u)).toNat - 48) = u
      rw [ofNat_toNat (by omega)]; omega
    · rename_i h1
      rw [valD_snoc, ih (u / 10) (by omega), ofNat_toNat (by omega)]; omega
theorem dd_canon (u : Nat) : canon (Lib.decDigits u) = true := by
  unfold canon
  rw [dd_all]
  have h1 : (Lib.decDigits u).isEmpty = false := by
    cases h : Lib.decDigits u with
    | nil => exact absurd h (dd_ne u)
    | cons a t => rfl
  rw [h1]
  by_cases h : 1 ≤ u
  · rw [decide_eq_true (dd_head u h)]; rfl
  · have : u = 0 := by omega
    subst this
    have : (Lib.decDigits 0).length = 1 := by rw [Lib.decDigits_one (by omega)]; rfl
    rw [decide_eq_true this, Bool.or_true]; rfl
theorem dg_ofNat {d : UInt8} (h : isDg d = true) {v : Nat} (hv : v = d.toNat - 48) : UInt8.ofNat (48 + v) = d := by
  unfold isDg at h
  simp at h
  have e : 48 + v = d.toNat := by omega
  rw [e]
  apply UInt8.toNat_inj.1
  rw [ofNat_toNat (by have := d.toNat_lt; omega)]
theorem val_pos : ∀ (n : Nat) {l : List UInt8}, l.length = n → l ≠ [] → l.all isDg = true → l.headD 0 ≠ 48 → 1 ≤ valD l := by
  intro n
  induction n with
  | zero => intro l hn h1; exact absurd (List.length_eq_zero_iff.1 hn) h1
  | succ n ih =>
  intro l hn h1 h2 h3
  rcases List.eq_nil_or_concat l with e | ⟨m, d, e⟩
  · exact absurd e h1
  · rw [List.concat_eq_append] at e
    subst e
    rw [valD_snoc]
    rw [List.all_append, Bool.and_eq_true] at h2
    by_cases hm : m = []
    · subst hm
      have hd : isDg d = true := by simpa using h2.2
      unfold isDg at hd
      simp at hd
      have : d.toNat ≠ 48 := fun e => h3 (by
        show d = 48
        apply UInt8.toNat_inj.1
        rw [e]; rfl)
      omega
    · have := ih (l := m) (by simpa using hn) hm h2.1 (by
        cases m with
        | nil => exact absurd rfl hm
        | cons a t => exact h3)
      omega
theorem canon_dd' : ∀ (n : Nat) {l : List UInt8}, l.length = n → canon l = true → Lib.decDigits (valD l) = l := by
  intro n
  induction n with
  | zero => intro l hn h; rw [List.length_eq_zero_iff.1 hn] at h; cases h
  | succ n ih =>
  intro l hn h
  unfold canon at h
  simp only [Bool.and_eq_true, Bool.not_eq_true', Bool.or_eq_true, decide_eq_true_eq] at h
  obtain ⟨h1, h2, h3⟩ := h
  have hne : l ≠ [] := fun e => by rw [e] at h1; cases h1
  rcases List.eq_nil_or_concat l with e | ⟨m, d, e⟩
  · exact absurd e hne
  · rw [List.concat_eq_append] at e
    subst e
    rw [valD_snoc]
    rw [List.all_append, Bool.and_eq_true] at h2
    have hd : isDg d = true := by simpa using h2.2
    have hd2 := hd
    unfold isDg at hd2
    simp at hd2
    by_cases hm : m = []
    · subst hm
      have e0 : valD [] = 0 := rfl
      rw [e0, Lib.decDigits_one (by omega), List.nil_append]
      rw [dg_ofNat hd (by omega)]
    · have hh : (m ++ [d]).headD 0 = m.headD 0 := by
        cases m with
        | nil => exact absurd rfl hm
        | cons a t => rfl
      have hlen : (m ++ [d]).length ≠ 1 := by
        cases m with
        | nil => exact absurd rfl hm
        | cons a t => simp
      have hh2 : m.headD 0 ≠ 48 := by
        rcases h3 with h3 | h3
        · rw [hh] at h3; exact h3
        · exact absurd h3 hlen
      have hv := val_pos _ rfl hm h2.1 hh2
      have ih : Lib.decDigits (valD m) = m := ih (l := m) (by simpa using hn) (by
        unfold canon
        rw [h2.1, decide_eq_true hh2]
        cases m with
        | nil => exact absurd rfl hm
        | cons a t => rfl)
      rw [Lib.decDigits, dif_neg (by omega), show (10 * valD m + (d.toNat - 48)) / 10 = valD m by omega, ih, dg_ofNat hd (by omega)]
theorem canon_dd {l : List UInt8} (h : canon l = true) : Lib.decDigits (valD l) = l := canon_dd' _ rfl h
theorem valD_lt' : ∀ (n : Nat) {l : List UInt8}, l.length = n → l.all isDg = true → valD l < 10 ^ l.length := by
  intro n
  induction n with
  | zero => intro l hn h; rw [List.length_eq_zero_iff.1 hn]; decide
  | succ n ih =>
  intro l hn h
  rcases List.eq_nil_or_concat l with e | ⟨m, d, e⟩
  · subst e; decide
  · rw [List.concat_eq_append] at e
    subst e
    rw [List.all_append, Bool.and_eq_true] at h
    have ih := ih (l := m) (by simpa using hn) h.1
    have hd : isDg d = true := by simpa using h.2
    unfold isDg at hd
    simp at hd
    rw [valD_snoc, List.length_append, List.length_singleton, Nat.pow_succ]; omega
theorem valD_lt {l : List UInt8} (h : l.all isDg = true) : valD l < 10 ^ l.length := valD_lt' _ rfl h
end Go.Proofs.YtoinlnlmmnmojaaGreatDoor.E
