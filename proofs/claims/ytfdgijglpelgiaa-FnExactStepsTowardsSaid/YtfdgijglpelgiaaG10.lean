/- Laws of a job and two plans. -/
import Derived.Test.YtfdgijglpelgiaaG3
namespace Go.Proofs.Ytfdgijglpelgiaa.E
open Go Go.Proofs
set_option linter.unusedSimpArgs false
set_option linter.unusedVariables false
/-! marks are found again -/
theorem hS_mS (k : Int) : ∀ (n : Nat) (l : List Int), hS k (mS k n ++ l) = hS (k + n) l
  | 0, l => by simp [mS]
  | n + 1, l => by
    rw [mS, List.append_assoc, hS_mS k n, List.singleton_append, hS, if_neg (by simp)]
    congr 1
    omega
theorem hS_mS0 (k : Int) (n : Nat) : hS k (mS k n) = k + n := by
  have := hS_mS k n []
  rwa [List.append_nil, hS] at this
theorem hSS_mSS : ∀ (xs : List (List Int)) (k : Int), 0 ≤ k → hSS k (mSS k xs) = k + tot xs
  | [], k, _ => by simp [mSS, hSS, tot]
  | x :: xs, k, h => by
    rw [mSS, hSS, hS_mS0, if_neg (by omega), hSS_mSS xs _ (by omega), tot]
    omega
theorem tot_mSS : ∀ (xs : List (List Int)) (k : Int), tot (mSS k xs) = tot xs
  | [], k => rfl
  | x :: xs, k => by rw [mSS, tot, tot, tot_mSS xs, mS_len]
theorem mSS_len : ∀ (xs : List (List Int)) (k : Int), (mSS k xs).length = xs.length
  | [], k => rfl
  | x :: xs, k => by rw [mSS, List.length_cons, List.length_cons, mSS_len xs]
theorem tot_app : ∀ (xs ys : List (List Int)), tot (xs ++ ys) = tot xs + tot ys
  | [], ys => by simp [tot]
  | x :: xs, ys => by rw [List.cons_append, tot, tot, tot_app xs ys]; omega
theorem szR_tot : ∀ {xs : List (List Int)} {k : Int}, 0 ≤ k → 0 ≤ szR k xs → (tot xs : Int) + szR k xs = k
  | [], k, h, _ => by simp [szR, tot]
  | x :: l, k, h, g => by
    unfold szR at g ⊢
    by_cases hk : k - x.length < 0
    · rw [if_pos hk] at g; omega
    · rw [if_neg hk] at g ⊢
      have := szR_tot (xs := l) (k := k - x.length) (by omega) g
      rw [tot]; omega
/-- What is known of a job that is not too great. -/
theorem szJ_facts {arcs : List (List Int)} {a b : List Int} (h : ¬ szJ 1048576 arcs a b < 0) : arcs.length ≤ 1048576 ∧ (∀ x ∈ arcs, x.length ≤ 1048576) ∧ tot arcs ≤ 1048576 ∧ a.length ≤ 1048576 ∧ b.length ≤ 1048576 ∧ 0 ≤ szJ 1048576 arcs a b ∧ szJ 1048576 arcs a b ≤ 1048576 := by
  unfold szJ at h ⊢
  by_cases h1 : szSS 1048576 arcs < 0
  · rw [if_pos h1] at h; exact absurd (by decide) h
  rw [if_neg h1] at h ⊢
  by_cases h2 : szv (szSS 1048576 arcs) a.length < 0
  · rw [if_pos h2] at h; exact absurd (by decide) h
  rw [if_neg h2] at h ⊢
  have g1 := szSS_spec (k := 1048576) (xs := arcs) (by decide)
  rcases g1 with g1 | ⟨g1, g2, g3, g4⟩
  · omega
  have g5 := szv_spec (n := a.length) g1
  rcases g5 with g5 | ⟨g5, g6, g7⟩
  · omega
  have g8 := szv_spec (n := b.length) g5
  have g9 : tot arcs ≤ 1048576 := by
    unfold szSS at g1 g2
    split at g1
    · omega
    · have := szR_tot (xs := arcs) (k := 1048576 - arcs.length) (by omega) g1
      omega
  exact ⟨by omega, fun x hx => by have := g4 x hx; omega, g9, by omega, by omega, by omega, by omega⟩
theorem szv_facts {k : Int} {n : Nat} (hk : 0 ≤ k) (h : ¬ szv k n < 0) : (n : Int) ≤ k ∧ 0 ≤ szv k n ∧ szv k n ≤ k := by
  have := szv_spec (k := k) (n := n) hk; omega
theorem tot_le {b : Nat} : ∀ {xs : List (List Int)}, (∀ x ∈ xs, x.length ≤ b) → tot xs ≤ xs.length * b
  | [], _ => Nat.zero_le _
  | x :: xs, h => by
    rw [tot, List.length_cons, Nat.succ_mul]
    have := tot_le (xs := xs) (fun y hy => h y (List.mem_cons_of_mem _ hy))
    have := h x List.mem_cons_self
    omega
abbrev kPlan : K := .pair I64 SI
abbrev kJob : K := .pair (.sl SI) (.pair SI (.pair SI (.pair (.pair I64 I64) (.pair I64 (.pair I64 I64)))))
def sp_JPP : Sp
  | [(true, [.ls (.sl (.int .i64)) arcs, .ls (.int .i64) ton, .ls (.int .i64) val, .i .i64 mine, .i .i64 mill, .i .i64 per, .i .i64 num, .i .i64 dn]), (true, [.i .i64 pp, .ls (.int .i64) w]), (true, [.i .i64 qq, .ls (.int .i64) v])], [] =>
    if (arcs.length ≤ maxLen ∧ (∀ x ∈ arcs, x.length ≤ maxLen) ∧ ton.length ≤ maxLen ∧ val.length ≤ maxLen) ∧ w.length ≤ maxLen ∧ v.length ≤ maxLen then some yes else none
  | _, _ => none
theorem yes_JPP {x : den kJob} {a b : den kPlan} (hx : Wf kJob x) (ha : Wf kPlan a) (hb : Wf kPlan b) : sp_JPP [(true, cvL kJob x), (true, cvL kPlan a), (true, cvL kPlan b)] [] = some yes := by
  obtain ⟨arcs, ton, val, ⟨mine, mill⟩, per, num, dn⟩ := x
  obtain ⟨pp, w⟩ := a
  obtain ⟨qq, v⟩ := b
  obtain ⟨⟨h1, h2⟩, ⟨h3, -⟩, ⟨h4, -⟩, -⟩ := hx
  obtain ⟨-, h5, -⟩ := ha
  obtain ⟨-, h6, -⟩ := hb
  exact if_pos ⟨⟨h1, fun y hy => (h2 y hy).1, h3, h4⟩, h5, h6⟩
end Go.Proofs.Ytfdgijglpelgiaa.E
