/- FnExactWorthBetween: the pure statement, a law of numbers and lists alone, is proved. -/
import Derived.Test.YtpfjjheognelhaaSFnExactWorthBetween
import Derived.Test.YtpfjjheognelhaaMa
namespace Go.Proofs.Ytpfjjheognelhaa.Pure
open Go.RowKit Go.Proofs.Ytpfjjheognelhaa.PFnExactWorthBetween Go.Proofs.YtpfjjheognelhaaW.PrintWords Go.Proofs.YtpfjjheognelhaaW.PrintLast Go.Proofs.YtpfjjheognelhaaW.PrintMore Go.Proofs.Ytpfjjheognelhaa.Ma Go.Proofs.Ytpfjjheognelhaa.SFnExactWorthBetween
set_option linter.unusedVariables false
set_option linter.unusedSimpArgs false
theorem rdT34 (xs : List S34) (i : Nat) (h : i < xs.length) : rd_T34 xs (i : Int) = xs[i] := getT_nat _ _ _ h
theorem rdT36 (xs : List S36) (i : Nat) (h : i < xs.length) : rd_T36 xs (i : Int) = xs[i] := getT_nat _ _ _ h
theorem rdL1 (xs : List (List Int)) (i : Nat) (h : i < xs.length) : rd_L1 xs (i : Int) = xs[i] := getT_nat _ _ _ h
theorem rdL2 (xs : List (List (List Int))) (i : Nat) (h : i < xs.length) : rd_L2 xs (i : Int) = xs[i] := getT_nat _ _ _ h
/-! laws_szIntS -/
theorem laws_szIntS_ev (xs : List (Int)) (n : Int) (hm : xs.length ≤ maxLen) (h0 : 0 ≤ n) (h1 : n ≤ 1048576) : ∃ r, Ev (fun _ => laws_szIntS.f xs n) r ∧ r ≤ n ∧ (0 ≤ r → xs.length ≤ 4294967296) := by
  unfold maxLen at hm
  unfold laws_szIntS.f
  rw [wrap_id (by omega) (by omega)]
  by_cases h : n - (xs.length : Int) < 0
  · exact ⟨-1, Ev.pos h (Ev.is rfl), by omega, fun h => by omega⟩
  · exact ⟨_, Ev.neg h (Ev.is rfl), by omega, fun h => by omega⟩

/-! laws_szIntSS -/
theorem laws_szIntSS_l0 (xs : List (List Int)) (hx : xs.length ≤ 4294967296) (hM : ∀ x_ ∈ xs, x_.length ≤ maxLen) : ∀ i, i ≤ xs.length → ∀ n : Int, 0 ≤ n → n ≤ 1048576 → ∃ r, Ev (fun k => laws_szIntSS.l0 k xs n i) r ∧ r ≤ n ∧ (0 ≤ r → ∀ x_ ∈ xs.drop i, (x_.length ≤ 4294967296)) := by
  refine down ?_ ?_
  · intro n h0 h1
    exact ⟨n, Ev.step (fun k => by rw [laws_szIntSS.l0]) (Ev.neg (by omega) (Ev.is rfl)), Int.le_refl _, fun _ x hx => by rw [List.drop_length] at hx; cases hx⟩
  · intro i hi ih n h0 h1
    obtain ⟨q, hq, hq1, hq2⟩ := laws_szIntS_ev xs[i] n (hM _ (List.getElem_mem hi)) h0 h1
    by_cases h : q < 0
    · exact ⟨-1, Ev.step (fun k => by rw [laws_szIntSS.l0, rdL1 _ _ hi]) (Ev.pos (by omega) (Ev.pos (by omega) (Ev.bind hq (Ev.pos h (Ev.is rfl))))), by omega, fun h => by omega⟩
    · obtain ⟨r, hr, h2, h3⟩ := ih q (by omega) (by omega)
      refine ⟨r, Ev.step (fun k => by rw [laws_szIntSS.l0, rdL1 _ _ hi, wrap_nat (by omega)]) (Ev.pos (by omega) (Ev.pos (by omega) (Ev.bind hq (Ev.neg h hr)))), by omega, fun h4 x hx => ?_⟩
      rw [drop_cons _ _ hi] at hx
      rcases List.mem_cons.1 hx with rfl | hx
      · exact hq2 (by omega)
      · exact h3 h4 x hx
theorem laws_szIntSS_ev (xs : List (List Int)) (n : Int) (hm : (xs.length ≤ maxLen ∧ ∀ x_ ∈ xs, x_.length ≤ maxLen)) (h0 : 0 ≤ n) (h1 : n ≤ 1048576) : ∃ r, Ev (fun k => laws_szIntSS.f k xs n) r ∧ r ≤ n ∧ (0 ≤ r → (xs.length ≤ 4294967296 ∧ ∀ x_ ∈ xs, (x_.length ≤ 4294967296))) := by
  obtain ⟨hm, hM⟩ := hm
  unfold maxLen at hm
  unfold laws_szIntSS.f
  rw [wrap_id (by omega) (by omega)]
  by_cases h : n - (xs.length : Int) < 0
  · exact ⟨-1, Ev.pos h (Ev.is rfl), by omega, fun h => by omega⟩
  · obtain ⟨r, hr, h2, h3⟩ := laws_szIntSS_l0 xs (by omega) hM 0 (by omega) (n - xs.length) (by omega) (by omega)
    exact ⟨r, Ev.neg h hr, by omega, fun h4 => ⟨by omega, h3 h4⟩⟩

theorem laws_szIntSS_t0 (xs : List (List Int)) (hx : xs.length ≤ 4294967296) (hM : ∀ x_ ∈ xs, x_.length ≤ maxLen) : ∀ i, i ≤ xs.length → ∀ n : Int, 0 ≤ n → n ≤ 1048576 → ∃ r, Ev (fun k => laws_szIntSS.l0 k xs n i) r ∧ (0 ≤ r → (tot (xs.drop i) : Int) ≤ n) := by
  refine down ?_ ?_
  · intro n h0 h1
    exact ⟨n, Ev.step (fun k => by rw [laws_szIntSS.l0]) (Ev.neg (by omega) (Ev.is rfl)), fun _ => by rw [List.drop_length]; simpa [tot] using h0⟩
  · intro i hi ih n h0 h1
    have hm := hM _ (List.getElem_mem hi)
    unfold maxLen at hm
    by_cases h : n - (xs[i].length : Int) < 0
    · have hq : Ev (fun _ => laws_szIntS.f xs[i] n) (-1) := by
        unfold laws_szIntS.f
        rw [wrap_id (by omega) (by omega)]
        exact Ev.pos h (Ev.is rfl)
      refine ⟨-1, ?_, fun h => by omega⟩
      refine Ev.step (fun k => by rw [laws_szIntSS.l0, rdL1 _ _ hi]) ?_
      exact Ev.pos (by omega) (Ev.pos (by omega) (Ev.bind hq (Ev.pos (by decide) (Ev.is rfl))))
    · have hq : Ev (fun _ => laws_szIntS.f xs[i] n) (n - (xs[i].length : Int)) := by
        unfold laws_szIntS.f
        rw [wrap_id (by omega) (by omega)]
        exact Ev.neg h (Ev.is rfl)
      obtain ⟨r, hr, h3⟩ := ih (n - (xs[i].length : Int)) (by omega) (by omega)
      refine ⟨r, Ev.step (fun k => by rw [laws_szIntSS.l0, rdL1 _ _ hi, wrap_nat (by omega)]) (Ev.pos (by omega) (Ev.pos (by omega) (Ev.bind hq (Ev.neg h hr)))), fun h4 => ?_⟩
      have := h3 h4
      rw [drop_cons _ _ hi]
      simp only [tot, List.map_cons, List.sum_cons] at this ⊢
      omega
theorem laws_szIntSS_tot (xs : List (List Int)) (n r : Int) (hm : xs.length ≤ maxLen ∧ ∀ x_ ∈ xs, x_.length ≤ maxLen) (h0 : 0 ≤ n) (h1 : n ≤ 1048576) (he : Ev (fun k => laws_szIntSS.f k xs n) r) (hr : 0 ≤ r) : (tot xs : Int) ≤ 1048576 := by
  obtain ⟨hm, hM⟩ := hm
  unfold maxLen at hm
  unfold laws_szIntSS.f at he
  rw [wrap_id (by omega) (by omega)] at he
  by_cases h : n - (xs.length : Int) < 0
  · have := Ev.uniq he (Ev.pos h (Ev.is rfl))
    omega
  · obtain ⟨q, hq, h3⟩ := laws_szIntSS_t0 xs (by omega) hM 0 (by omega) (n - (xs.length : Int)) (by omega) (by omega)
    have := Ev.uniq he (Ev.neg h hq)
    subst this
    have := h3 hr
    rw [List.drop_zero] at this
    omega
/-! laws_szJob -/
theorem laws_szJob_ev (l0_0 : List (List Int)) (l0_1 : List Int) (l0_2 : List Int) (a0_3 : Int) (a0_4 : Int) (a0_5 : Int) (a0_6 : Int) (a0_7 : Int) (n : Int) (hm0 : (l0_0.length ≤ maxLen ∧ ∀ x_ ∈ l0_0, x_.length ≤ maxLen)) (hm1 : l0_1.length ≤ maxLen) (hm2 : l0_2.length ≤ maxLen) (h0 : 0 ≤ n) (h1 : n ≤ 1048576) : ∃ r, Ev (fun k => laws_szJob.f k l0_0 l0_1 l0_2 a0_3 a0_4 a0_5 a0_6 a0_7 n) r ∧ r ≤ n ∧ (0 ≤ r → ((l0_0.length ≤ 4294967296 ∧ ∀ x_ ∈ l0_0, (x_.length ≤ 4294967296)) ∧ (l0_1.length ≤ 4294967296) ∧ (l0_2.length ≤ 4294967296))) := by
  unfold laws_szJob.f
  obtain ⟨r0, e0, g0, b0⟩ := laws_szIntSS_ev l0_0 n hm0 (by omega) (by omega)
  by_cases c0 : r0 < 0
  · exact ⟨-1, (Ev.bind e0 (Ev.pos c0 (Ev.is rfl))), by omega, fun h => by omega⟩
  · skip
    obtain ⟨r1, e1, g1, b1⟩ := laws_szIntS_ev l0_1 r0 hm1 (by omega) (by omega)
    by_cases c1 : r1 < 0
    · exact ⟨-1, (Ev.bind e0 (Ev.neg c0 (Ev.bind e1 (Ev.pos c1 (Ev.is rfl))))), by omega, fun h => by omega⟩
    · skip
      obtain ⟨r2, e2, g2, b2⟩ := laws_szIntS_ev l0_2 r1 hm2 (by omega) (by omega)
      by_cases c2 : r2 < 0
      · exact ⟨-1, (Ev.bind e0 (Ev.neg c0 (Ev.bind e1 (Ev.neg c1 (Ev.bind e2 (Ev.pos c2 (Ev.is rfl))))))), by omega, fun h => by omega⟩
      · exact ⟨_, (Ev.bind e0 (Ev.neg c0 (Ev.bind e1 (Ev.neg c1 (Ev.bind e2 (Ev.neg c2 (Ev.is rfl))))))), by omega, fun h => ⟨b0 (by omega), b1 (by omega), b2 (by omega)⟩⟩

theorem laws_szJob_tot (l0_0 : List (List Int)) (l0_1 l0_2 : List Int) (a0_3 a0_4 a0_5 a0_6 a0_7 n r : Int) (hm : l0_0.length ≤ maxLen ∧ ∀ x_ ∈ l0_0, x_.length ≤ maxLen) (h0 : 0 ≤ n) (h1 : n ≤ 1048576)
    (he : Ev (fun k => laws_szJob.f k l0_0 l0_1 l0_2 a0_3 a0_4 a0_5 a0_6 a0_7 n) r) (hr : 0 ≤ r) : (tot l0_0 : Int) ≤ 1048576 := by
  obtain ⟨r0, e0, g0, b0⟩ := laws_szIntSS_ev l0_0 n hm h0 h1
  by_cases h : r0 < 0
  · have e : Ev (fun k => laws_szJob.f k l0_0 l0_1 l0_2 a0_3 a0_4 a0_5 a0_6 a0_7 n) (-1) := by
      unfold laws_szJob.f
      exact Ev.bind e0 (Ev.pos h (Ev.is rfl))
    have := Ev.uniq he e
    omega
  · exact laws_szIntSS_tot l0_0 n r0 hm h0 h1 e0 (by omega)
/-! laws_szPlan -/
theorem laws_szPlan_ev (a0_0 : Int) (l0_1 : List Int) (n : Int) (hm1 : l0_1.length ≤ maxLen) (h0 : 0 ≤ n) (h1 : n ≤ 1048576) : ∃ r, Ev (fun _ => laws_szPlan.f a0_0 l0_1 n) r ∧ r ≤ n ∧ (0 ≤ r → ((l0_1.length ≤ 4294967296))) := by
  unfold laws_szPlan.f
  obtain ⟨r1, e1, g1, b1⟩ := laws_szIntS_ev l0_1 n hm1 (by omega) (by omega)
  by_cases c1 : r1 < 0
  · exact ⟨-1, (Ev.bind e1 (Ev.pos c1 (Ev.is rfl))), by omega, fun h => by omega⟩
  · exact ⟨_, (Ev.bind e1 (Ev.neg c1 (Ev.is rfl))), by omega, fun h => b1 (by omega)⟩

/-! laws_toIntS -/
theorem laws_toIntS_l0 (xs ys : List Int) (hx : xs.length ≤ 4294967296) (hy : ys.length = xs.length) : ∀ i, i ≤ xs.length → Ev (fun k => laws_toIntS.l0 k xs (xs.take i ++ ys.drop i) i) xs := by
  refine down ?_ ?_
  · refine Ev.step (fun k => by rw [laws_toIntS.l0]) ?_
    refine Ev.neg (by omega) (Ev.is (by rw [List.take_length, ← hy, List.drop_length, List.append_nil]))
  · intro i hi ih
    have hl := take_len xs ys i (by omega) hy
    refine Ev.step (fun k => by rw [laws_toIntS.l0]) ?_
    rw [rd_nat _ _ hi, wrap_nat (by omega), Int.toNat_natCast, take_set xs ys i hi hy]
    exact Ev.pos (by omega) (Ev.pos (by omega) (Ev.pos (by omega) ih))
theorem laws_toIntS_ev (xs : List Int) (hx : xs.length ≤ 4294967296) : Ev (fun k => laws_toIntS.f k xs) xs := by
  unfold laws_toIntS.f
  refine Ev.pos (by omega) (Ev.pos (by omega) ?_)
  exact laws_toIntS_l0 xs _ hx (by simp) 0 (by omega)

/-! laws_toIntSS -/
theorem laws_toIntSS_l0 (xs ys : List (List Int)) (hx : xs.length ≤ 4294967296) (hb : ∀ x_ ∈ xs, (x_.length ≤ 4294967296)) (hy : ys.length = xs.length) : ∀ i, i ≤ xs.length → Ev (fun k => laws_toIntSS.l0 k xs (xs.take i ++ ys.drop i) i) xs := by
  refine down ?_ ?_
  · refine Ev.step (fun k => by rw [laws_toIntSS.l0]) ?_
    refine Ev.neg (by omega) (Ev.is (by rw [List.take_length, ← hy, List.drop_length, List.append_nil]))
  · intro i hi ih
    have hl := take_len xs ys i (by omega) hy
    refine Ev.step (fun k => by rw [laws_toIntSS.l0]) ?_
    rw [rdL1 _ _ hi, wrap_nat (by omega), Int.toNat_natCast]
    refine Ev.pos (by omega) (Ev.pos (by omega) (Ev.bind (laws_toIntS_ev _ (hb _ (List.getElem_mem hi))) (Ev.pos (by omega) ?_)))
    rw [take_set xs ys i hi hy]
    exact ih
theorem laws_toIntSS_ev (xs : List (List Int)) (hb : (xs.length ≤ 4294967296 ∧ ∀ x_ ∈ xs, (x_.length ≤ 4294967296))) : Ev (fun k => laws_toIntSS.f k xs) xs := by
  have hx : xs.length ≤ 4294967296 := hb.1
  unfold laws_toIntSS.f
  refine Ev.pos (by omega) (Ev.pos (by omega) ?_)
  exact laws_toIntSS_l0 xs _ hx hb.2 (by simp) 0 (by omega)

/-! laws_toLimits -/
theorem laws_toLimits_ev (a0_0 : Int) (a0_1 : Int)  : Ev (fun _ => laws_toLimits.f a0_0 a0_1) (a0_0, a0_1) := by
  unfold laws_toLimits.f
  repeat' (first | (with_reducible exact Ev.is rfl) | exact Ev.is rfl)

/-! laws_toJob -/
theorem laws_toJob_ev (l0_0 : List (List Int)) (l0_1 : List Int) (l0_2 : List Int) (a0_3 : Int) (a0_4 : Int) (a0_5 : Int) (a0_6 : Int) (a0_7 : Int) (hb0 : (l0_0.length ≤ 4294967296 ∧ ∀ x_ ∈ l0_0, (x_.length ≤ 4294967296))) (hb1 : (l0_1.length ≤ 4294967296)) (hb2 : (l0_2.length ≤ 4294967296)) : Ev (fun k => laws_toJob.f k l0_0 l0_1 l0_2 a0_3 a0_4 a0_5 a0_6 a0_7) (l0_0, l0_1, l0_2, a0_3, a0_4, a0_5, a0_6, a0_7) := by
  unfold laws_toJob.f
  repeat' (first | (with_reducible refine Ev.bind (laws_toIntSS_ev _ (by assumption)) ?_) | (with_reducible refine Ev.bind (laws_toIntS_ev _ (by assumption)) ?_) | (with_reducible refine Ev.bind (laws_toLimits_ev _ _) ?_) | (with_reducible exact Ev.is rfl) | exact Ev.is rfl)

/-! laws_toPlan -/
theorem laws_toPlan_ev (a0_0 : Int) (l0_1 : List Int) (hb1 : (l0_1.length ≤ 4294967296)) : Ev (fun k => laws_toPlan.f k a0_0 l0_1) (a0_0, l0_1) := by
  unfold laws_toPlan.f
  repeat' (first | (with_reducible refine Ev.bind (laws_toIntS_ev _ (by assumption)) ?_) | (with_reducible exact Ev.is rfl) | exact Ev.is rfl)

/-! laws_eqIntS -/
theorem laws_eqIntS_l0 (xs : List (Int)) (hx : xs.length ≤ 4294967296) : ∀ i, i ≤ xs.length → Ev (fun k => laws_eqIntS.l0 k xs xs i) true := by
  refine down ?_ ?_
  · refine Ev.step (fun k => by rw [laws_eqIntS.l0]) ?_
    exact Ev.neg (by omega) (Ev.is rfl)
  · intro i hi ih
    refine Ev.step (fun k => by rw [laws_eqIntS.l0]) ?_
    rw [rd_nat _ _ hi, wrap_nat (by omega)]
    refine Ev.pos (by omega) (Ev.pos (by omega) (Ev.pos (by omega) (Ev.pos rfl ih)))
theorem laws_eqIntS_ev (xs : List (Int)) (hb : (xs.length ≤ 4294967296)) : Ev (fun k => laws_eqIntS.f k xs xs) true := by
  unfold laws_eqIntS.f
  exact Ev.pos rfl (laws_eqIntS_l0 xs hb 0 (by omega))

/-! laws_eqIntSS -/
theorem laws_eqIntSS_l0 (xs : List (List Int)) (hx : xs.length ≤ 4294967296) (hb : ∀ x_ ∈ xs, (x_.length ≤ 4294967296)) : ∀ i, i ≤ xs.length → Ev (fun k => laws_eqIntSS.l0 k xs xs i) true := by
  refine down ?_ ?_
  · refine Ev.step (fun k => by rw [laws_eqIntSS.l0]) ?_
    exact Ev.neg (by omega) (Ev.is rfl)
  · intro i hi ih
    refine Ev.step (fun k => by rw [laws_eqIntSS.l0]) ?_
    rw [rdL1 _ _ hi, wrap_nat (by omega)]
    refine Ev.pos (by omega) (Ev.pos (by omega) (Ev.pos (by omega) (Ev.bind (laws_eqIntS_ev _ (hb _ (List.getElem_mem hi))) (Ev.pos rfl ih))))
theorem laws_eqIntSS_ev (xs : List (List Int)) (hb : (xs.length ≤ 4294967296 ∧ ∀ x_ ∈ xs, (x_.length ≤ 4294967296))) : Ev (fun k => laws_eqIntSS.f k xs xs) true := by
  unfold laws_eqIntSS.f
  exact Ev.pos rfl (laws_eqIntSS_l0 xs hb.1 hb.2 0 (by omega))

/-! laws_eqLimits -/
theorem laws_eqLimits_ev (a0_0 : Int) (a0_1 : Int)  : Ev (fun _ => laws_eqLimits.f a0_0 a0_1 a0_0 a0_1) true := by
  unfold laws_eqLimits.f
  repeat' (first | (with_reducible refine Ev.pos rfl ?_) | (with_reducible exact Ev.is rfl))

/-! laws_eqJob -/
theorem laws_eqJob_ev (l0_0 : List (List Int)) (l0_1 : List Int) (l0_2 : List Int) (a0_3 : Int) (a0_4 : Int) (a0_5 : Int) (a0_6 : Int) (a0_7 : Int) (hb0 : (l0_0.length ≤ 4294967296 ∧ ∀ x_ ∈ l0_0, (x_.length ≤ 4294967296))) (hb1 : (l0_1.length ≤ 4294967296)) (hb2 : (l0_2.length ≤ 4294967296)) : Ev (fun k => laws_eqJob.f k l0_0 l0_1 l0_2 a0_3 a0_4 a0_5 a0_6 a0_7 l0_0 l0_1 l0_2 a0_3 a0_4 a0_5 a0_6 a0_7) true := by
  unfold laws_eqJob.f
  repeat' (first | (with_reducible refine Ev.bind (laws_eqIntSS_ev _ (by assumption)) ?_) | (with_reducible refine Ev.bind (laws_eqIntS_ev _ (by assumption)) ?_) | (with_reducible refine Ev.bind (laws_eqLimits_ev _ _) ?_) | (with_reducible refine Ev.pos rfl ?_) | (with_reducible exact Ev.is rfl))

/-! laws_eqPlan -/
theorem laws_eqPlan_ev (a0_0 : Int) (l0_1 : List Int) (hb1 : (l0_1.length ≤ 4294967296)) : Ev (fun k => laws_eqPlan.f k a0_0 l0_1 a0_0 l0_1) true := by
  unfold laws_eqPlan.f
  repeat' (first | (with_reducible refine Ev.bind (laws_eqIntS_ev _ (by assumption)) ?_) | (with_reducible refine Ev.pos rfl ?_) | (with_reducible exact Ev.is rfl))

/-! laws_markIntS -/
theorem markIntS_l0 (xs : List Int) (a : Int) (h0 : 0 ≤ a) (h1 : a + xs.length ≤ 1099511627776) : ∀ i, i ≤ xs.length → Ev (fun k => laws_markIntS.l0 k (marks a i ++ xs.drop i) (a + (i : Int)) i) (a + (xs.length : Int), marks a xs.length) := by
  refine down ?_ ?_
  · refine Ev.step (fun k => by rw [laws_markIntS.l0]) ?_
    refine Ev.neg (by rw [len_mid _ _ _ (marks_len _ _) (Nat.le_refl _)]; omega) (Ev.is (by rw [List.drop_length, List.append_nil]))
  · intro i hi ih
    have hl := len_mid (marks a i) xs i (marks_len _ _) (by omega)
    refine Ev.step (fun k => by rw [laws_markIntS.l0]) ?_
    rw [Int.toNat_natCast, set_mid _ _ _ _ (marks_len _ _) hi, ← marks_succ, wrap_nat (by omega), wrap_id (x := a + (i : Int) + 1) (by omega) (by omega), show a + (i : Int) + 1 = a + ((i + 1 : Nat) : Int) from by omega]
    exact Ev.pos (by omega) (Ev.pos (by omega) ih)
theorem laws_markIntS_ev (xs : List Int) (a : Int) (h0 : 0 ≤ a) (h1 : a + xs.length ≤ 1099511627776) : Ev (fun k => laws_markIntS.f k xs a) (a + (xs.length : Int), marks a xs.length) := by
  have := markIntS_l0 xs a h0 h1 0 (by omega)
  unfold laws_markIntS.f
  simpa [marks] using this
/-! laws_markIntSS -/
theorem markIntSS_l0 (xs : List (List Int)) (hx : xs.length ≤ 4294967296) : ∀ i, i ≤ xs.length → ∀ (done : List (List Int)) (a : Int), done.length = i → 0 ≤ a → a + tot (xs.drop i) ≤ 1099511627776 → ∃ ys, Ev (fun k => laws_markIntSS.l0 k (done ++ xs.drop i) a i) (a + (tot (xs.drop i) : Int), ys) := by
  refine down ?_ ?_
  · intro done a hd h0 h1
    refine ⟨done, Ev.step (fun k => by rw [laws_markIntSS.l0]) (Ev.neg (by rw [len_mid _ _ _ hd (Nat.le_refl _)]; omega) (Ev.is ?_))⟩
    rw [List.drop_length, List.append_nil]
    simp [tot]
  · intro i hi ih done a hd h0 h1
    have hl := len_mid done xs i hd (by omega)
    have e1 : tot (xs.drop i) = xs[i].length + tot (xs.drop (i + 1)) := by rw [drop_cons _ _ hi]; simp only [tot, List.map_cons, List.sum_cons]
    have hm := laws_markIntS_ev xs[i] a h0 (by omega)
    obtain ⟨ys, hy⟩ := ih (done ++ [marks a xs[i].length]) (a + (xs[i].length : Int)) (by simp; omega) (by omega) (by omega)
    refine ⟨ys, Ev.step (fun k => by rw [laws_markIntSS.l0]) ?_⟩
    have eg : (done ++ xs.drop i).getD ((i : Int)).toNat [] = xs[i] := by
      rw [Int.toNat_natCast, getD_nat _ _ _ (by omega), List.getElem_append_right (by omega)]
      simp [hd]
    rw [eg, Int.toNat_natCast, wrap_nat (by omega)]
    refine Ev.pos (by omega) (Ev.pos (by omega) (Ev.bind hm ?_))
    show Ev (fun k => laws_markIntSS.l0 k ((done ++ xs.drop i).set i (marks a xs[i].length)) (a + (xs[i].length : Int)) ((i + 1 : Nat) : Int)) _
    rw [set_mid _ _ _ _ hd hi]
    exact Ev.eqr hy (by rw [e1]; congr 1; omega)
theorem laws_markIntSS_ev (xs : List (List Int)) (a : Int) (h0 : 0 ≤ a) (h1 : a + tot xs ≤ 1099511627776) (hb : xs.length ≤ 4294967296 ∧ ∀ x_ ∈ xs, (x_.length ≤ 4294967296)) : ∃ ys, Ev (fun k => laws_markIntSS.f k xs a) (a + (tot xs : Int), ys) := by
  have := markIntSS_l0 xs hb.1 0 (by omega) [] a rfl h0 (by rw [List.drop_zero]; exact h1)
  unfold laws_markIntSS.f
  simpa using this
/-! laws_markJob -/
theorem laws_markJob_ev (l0 : List (List Int)) (l1 l2 : List Int) (a3 a4 a5 a6 a7 a : Int) (h0 : 0 ≤ a) (h1 : a + tot l0 + l1.length + l2.length ≤ 1099511627776) (hb : l0.length ≤ 4294967296 ∧ ∀ x_ ∈ l0, (x_.length ≤ 4294967296)) :
    Ev (fun k => laws_markJob.f k l0 l1 l2 a3 a4 a5 a6 a7 a) (a + (tot l0 : Int) + (l1.length : Int) + (l2.length : Int)) := by
  obtain ⟨ys, hy⟩ := laws_markIntSS_ev l0 a h0 (by omega) hb
  unfold laws_markJob.f
  exact Ev.bind hy (Ev.bind (laws_markIntS_ev l1 _ (by omega) (by omega)) (Ev.bind (laws_markIntS_ev l2 _ (by omega) (by omega)) (Ev.is rfl)))
/-! laws_markPlan -/
theorem laws_markPlan_ev (p : Int) (l : List Int) (a : Int) (h0 : 0 ≤ a) (h1 : a + l.length ≤ 1099511627776) : Ev (fun k => laws_markPlan.f k p l a) (a + (l.length : Int), marks a l.length) := by
  unfold laws_markPlan.f
  exact Ev.bind (laws_markIntS_ev l a h0 h1) (Ev.is rfl)
/-! laws_heldIntS -/
theorem heldIntS_l0 (n : Nat) (a : Int) (h0 : 0 ≤ a) (h1 : a + n ≤ 1099511627776) : ∀ i, i ≤ n → Ev (fun k => laws_heldIntS.l0 k (marks a n) (a + (i : Int)) i) (a + (n : Int)) := by
  have hl := marks_len a n
  refine down ?_ ?_
  · refine Ev.step (fun k => by rw [laws_heldIntS.l0]) ?_
    exact Ev.neg (by omega) (Ev.is rfl)
  · intro i hi ih
    refine Ev.step (fun k => by rw [laws_heldIntS.l0]) ?_
    rw [rd_nat _ _ (by omega), marks_get, wrap_nat (by omega), wrap_id (x := a + (i : Int) + 1) (by omega) (by omega), show a + (i : Int) + 1 = a + ((i + 1 : Nat) : Int) from by omega]
    exact Ev.pos (by omega) (Ev.pos (by omega) (Ev.pos rfl ih))
theorem laws_heldIntS_ev (n : Nat) (a : Int) (h0 : 0 ≤ a) (h1 : a + n ≤ 1099511627776) : Ev (fun k => laws_heldIntS.f k (marks a n) a) (a + (n : Int)) := by
  have := heldIntS_l0 n a h0 h1 0 (by omega)
  unfold laws_heldIntS.f
  simpa using this
/-! spec_l1In -/
theorem l1In_f (a lo up : Int) : spec_l1In.f a lo up = some (decide (lo ≤ a ∧ a ≤ up)) := by
  unfold spec_l1In.f
  by_cases h : a ≥ lo
  · rw [if_pos h]; congr 1; simp; omega
  · rw [if_neg h]; congr 1; simp; omega
/-! spec_l1All -/
theorem l1All_l0 (xs : List Int) (lo up : Int) (hx : xs.length ≤ 4294967296) : ∀ i, i ≤ xs.length → Ev (fun k => spec_l1All.l0 k lo up xs xs.length i) (inR lo up (xs.drop i)) := by
  refine down ?_ ?_
  · refine Ev.step (fun k => by rw [spec_l1All.l0]) ?_
    repeat' (first
      | (with_reducible refine Ev.sb ?_)
      | (with_reducible refine Ev.pos ?hc ?_; case hc => (first | assumption | omega))
      | (with_reducible refine Ev.neg ?hc ?_; case hc => (first | assumption | omega))
      | (with_reducible refine Ev.cases (fun _ => ?_) (fun _ => ?_)))
    all_goals first
      | (refine Ev.is ?_; (first | done | rfl | (simp only [inR]; done) | (simp_all [inR, -List.getElem_cons_drop]; done) | (simp_all [inR, -List.getElem_cons_drop]; omega) | omega))
      | (exfalso; first | omega | (simp_all; done) | (simp_all; omega))
  · intro i hi ih
    refine Ev.step (fun k => by rw [spec_l1All.l0]) ?_
    rw [rd_nat _ _ hi, l1In_f, wrap_nat (by omega), drop_cons _ _ hi]
    repeat' (first
      | (with_reducible refine Ev.sb ?_)
      | (with_reducible refine Ev.pos ?hc ?_; case hc => (first | assumption | omega))
      | (with_reducible refine Ev.neg ?hc ?_; case hc => (first | assumption | omega))
      | (with_reducible refine Ev.cases (fun _ => ?_) (fun _ => ?_)))
    all_goals first
      | (refine Ev.eqr (ih) ?_; (first | done | rfl | (simp only [inR]; done) | (simp_all [inR, -List.getElem_cons_drop]; done) | (simp_all [inR, -List.getElem_cons_drop]; omega) | omega))
      | (refine Ev.is ?_; (first | done | rfl | (simp only [inR]; done) | (simp_all [inR, -List.getElem_cons_drop]; done) | (simp_all [inR, -List.getElem_cons_drop]; omega) | omega))
      | (exfalso; first | omega | (simp_all; done) | (simp_all; omega))
theorem l1All_f (xs : List Int) (lo up : Int) (hx : xs.length ≤ 4294967296) : Ev (fun k => spec_l1All.f k xs lo up) (inR lo up xs) := by
  unfold spec_l1All.f
  exact l1All_l0 xs lo up hx 0 (by omega)
/-! spec_plGood -/
theorem plGood_f (j : Jb) (per : Int) (w : List Int) (hj : 1 ≤ j.per ∧ j.per ≤ 6) (hw : w.length ≤ 4294967296) : Ev (fun k => spec_plGood.f k j.arcs j.ton j.val j.mine j.mill j.per j.num j.den per w) (planOk j per w) := by
  unfold spec_plGood.f planOk
  rw [wrap_id (by omega) (by omega)]
  refine Ev.cases (fun c1 => Ev.cases (fun c2 => Ev.bind (l1All_f _ _ _ hw) (Ev.is ?_)) (fun c2 => Ev.is ?_)) (fun c1 => Ev.is (by simp [c1]))
  · have : w.length = j.arcs.length := by omega
    simp [c1, this]
  · have : ¬ w.length = j.arcs.length := by omega
    simp [this]
/-! spec_l1Rising -/
theorem l1Rising_l0 (xs : List Int) (lo up : Int) (hx : xs.length ≤ 4294967296) : ∀ i, i ≤ xs.length → ∀ p : Option Int, (i = 0 → p = none) → (∀ h : 0 < i ∧ i - 1 < xs.length, p = some (xs[i - 1]'h.2)) → Ev (fun k => spec_l1Rising.l0 k xs lo up xs xs.length i) (ris lo up p (xs.drop i)) := by
  refine down ?_ ?_
  · intro p h0 h1
    refine Ev.step (fun k => by rw [spec_l1Rising.l0]) (Ev.neg (by omega) (Ev.is ?_))
    rw [List.drop_length]; cases p <;> rfl
  · intro i hi ih p h0 h1
    have ih := ih (some xs[i]) (by omega) (fun h => rfl)
    refine Ev.step (fun k => by rw [spec_l1Rising.l0]) ?_
    rw [rd_nat _ _ hi, l1In_f, wrap_nat (by omega), drop_cons _ _ hi]
    refine Ev.pos (by omega) (Ev.pos (by omega) (Ev.pos (by omega) (Ev.sb ?_)))
    by_cases hz : i = 0
    · rw [h0 hz, ris]
      refine Ev.cases (fun h => Ev.neg (by omega) (Ev.eqr ih (by rw [h, Bool.true_and]))) (fun h => Ev.is (by simp at h; symm; simp; intros; omega))
    · have e : wrap64 ((i : Int) - 1) = ((i - 1 : Nat) : Int) := by unfold wrap64; omega
      rw [h1 ⟨by omega, by omega⟩, ris, e, rd_nat _ _ (by omega : i - 1 < xs.length)]
      refine Ev.cases (fun h => ?_) (fun h => Ev.is (by simp at h; symm; simp; intros; omega))
      rw [h, Bool.true_and]
      refine Ev.pos (by omega) (Ev.pos (by omega) (Ev.pos (by omega) (Ev.cases (fun h2 => Ev.is ?_) (fun h2 => Ev.eqr ih ?_))))
      · have : ¬ xs[i - 1] < xs[i] := by omega
        simp [this]
      · have : xs[i - 1] < xs[i] := by omega
        simp [this]
theorem l1Rising_f (xs : List Int) (lo up : Int) (hx : xs.length ≤ 4294967296) : Ev (fun k => spec_l1Rising.f k xs lo up) (ris lo up none xs) := by
  unfold spec_l1Rising.f
  exact l1Rising_l0 xs lo up hx 0 (by omega) none (fun _ => rfl) (fun h => by omega)
/-! spec_clArcs -/
theorem clArcs_l0 (xs : List (List Int)) (hx : xs.length ≤ 4294967296) (hb : ∀ x_ ∈ xs, (x_.length ≤ 4294967296)) : ∀ i, i ≤ xs.length → Ev (fun k => spec_clArcs.l0 k xs xs xs.length i) (arcsFrom i (xs.drop i) && decide (1 ≤ xs.length ∧ xs.length ≤ 120)) := by
  refine down ?_ ?_
  · refine Ev.step (fun k => by rw [spec_clArcs.l0]) (Ev.neg (by omega) ?_)
    rw [l1In_f, List.drop_length, arcsFrom, Bool.true_and]
    exact Ev.sb (Ev.is (by congr 1; simp; omega))
  · intro i hi ih
    refine Ev.step (fun k => by rw [spec_clArcs.l0]) ?_
    rw [rdL1 _ _ hi, wrap_nat (by omega), drop_cons _ _ hi, arcsFrom, wrap_id (x := (i : Int) - 1) (by omega) (by omega)]
    exact Ev.pos (by omega) (Ev.pos (by omega) (Ev.pos (by omega) (Ev.bind (l1Rising_f _ _ _ (hb _ (List.getElem_mem hi))) (Ev.cases (fun h => Ev.eqr ih (by simp [h])) (fun h => Ev.is (by simp [h]))))))
theorem clArcs_f (xs : List (List Int)) (hx : xs.length ≤ 4294967296) (hb : ∀ x_ ∈ xs, (x_.length ≤ 4294967296)) : Ev (fun k => spec_clArcs.f k xs) (arcsOk xs) := by
  unfold spec_clArcs.f
  exact clArcs_l0 xs hx hb 0 (by omega)
/-! spec_plJob -/
theorem plJob_f (j : Jb) (hb : JobB j) : Ev (fun k => spec_plJob.f k j.arcs j.ton j.val j.mine j.mill j.per j.num j.den) (jobOk j) := by
  obtain ⟨⟨h0, h0'⟩, h1, h2⟩ := hb
  have no : Ev (fun k => spec_plJob.j0 k true j.arcs j.ton j.val j.mine j.mill j.per j.num j.den) false := Ev.step (fun k => by rw [spec_plJob.j0]) (Ev.pos rfl (Ev.is rfl))
  have yes : Ev (fun k => spec_plJob.j0 k false j.arcs j.ton j.val j.mine j.mill j.per j.num j.den) (limOk j) := by
    refine Ev.step (fun k => by rw [spec_plJob.j0]) (Ev.neg (by simp) ?_)
    simp only [l1In_f]
    unfold limOk
    refine Ev.sb (Ev.cases (fun g1 => Ev.sb (Ev.cases (fun g2 => Ev.sb (Ev.cases (fun g3 => Ev.sb (Ev.cases (fun g4 => Ev.sb (Ev.is ?_)) (fun g4 => Ev.is ?_))) (fun g3 => Ev.is ?_))) (fun g2 => Ev.is ?_))) (fun g1 => Ev.is ?_))
    all_goals (simp only [decide_eq_true_eq] at *; first | (symm; rw [decide_eq_false_iff_not]; omega) | (rw [Bool.eq_iff_iff]; simp only [decide_eq_true_eq]; omega))
  unfold spec_plJob.f jobOk
  refine Ev.bind (clArcs_f _ h0 h0') (Ev.cases (fun c1 => Ev.cases (fun c2 => Ev.cases (fun c3 => ?_) (fun c3 => Ev.eqr no ?_)) (fun c2 => Ev.eqr no ?_)) (fun c1 => Ev.eqr no (by simp [c1])))
  · have e : j.ton.length = j.arcs.length ∧ j.val.length = j.arcs.length := by omega
    refine Ev.bind (l1All_f _ _ _ h1) (Ev.cases (fun c4 => Ev.bind (l1All_f _ _ _ h2) ?_) (fun c4 => Ev.eqr no (by simp [c4])))
    cases c5 : inR (-1000000) 1000000 j.val with
    | true => exact Ev.eqr yes (by simp [c1, e, c4])
    | false => exact Ev.eqr no (by simp)
  · have e : ¬ (j.ton.length = j.arcs.length ∧ j.val.length = j.arcs.length) := by omega
    simp only [e]; simp
  · have e : ¬ (j.ton.length = j.arcs.length ∧ j.val.length = j.arcs.length) := by omega
    simp only [e]; simp
/-! spec_plBoth -/
theorem plBoth_f (j : Jb) (per : Int) (w : List Int) (hb : JobB j) (hw : w.length ≤ 4294967296) : Ev (fun k => spec_plBoth.f k j.arcs j.ton j.val j.mine j.mill j.per j.num j.den per w) (jobOk j && planOk j per w) := by
  unfold spec_plBoth.f
  refine Ev.bind (plJob_f j hb) (Ev.cases (fun c => ?_) (fun c => Ev.is (by simp [c])))
  have := jobOk_parts c
  exact Ev.bind (plGood_f j per w (by omega) hw) (Ev.is (by simp [c]))
/-! spec_coGood -/
theorem coGood_f (j : Jb) (pa : Int) (a : List Int) (pb : Int) (b : List Int) (hb : JobB j) (ha : a.length ≤ 4294967296) (hb2 : b.length ≤ 4294967296) : Ev (fun k => spec_coGood.f k j.arcs j.ton j.val j.mine j.mill j.per j.num j.den pa a pb b) (jobOk j && (planOk j pa a && planOk j pb b)) := by
  unfold spec_coGood.f
  refine Ev.bind (plBoth_f j pa a hb ha) (Ev.cases (fun c => ?_) (fun c => Ev.is ?_))
  · have c' := c
    simp at c
    have := jobOk_parts c.1
    exact Ev.bind (plGood_f j pb b (by omega) hb2) (Ev.is (by simp [c]))
  · simp at c
    cases h : jobOk j with
    | true => simp [c h]
    | false => rfl
/-! spec_srPower -/
theorem spec_srPower_l0 (b : Int) : ∀ (n : Nat) (acc : Int), n ≤ 1000000 → Ev (fun k => spec_srPower.l0 k b (n : Int) acc) (powW b n acc)
  | 0, acc, h => by
    refine Ev.step (fun k => by rw [spec_srPower.l0]) ?_
    exact Ev.neg (by omega) (Ev.is rfl)
  | n + 1, acc, h => by
    refine Ev.step (fun k => by rw [spec_srPower.l0]) ?_
    refine Ev.pos (by omega) ?_
    rw [wrap_id (x := ((n + 1 : Nat) : Int) - 1) (by omega) (by omega), show ((n + 1 : Nat) : Int) - 1 = (n : Int) from by omega]
    exact spec_srPower_l0 b n _ (by omega)
theorem spec_srPower_f (b : Int) (n : Nat) (h : n ≤ 1000000) : Ev (fun k => spec_srPower.f k b (n : Int)) (powW b n 1) := by
  unfold spec_srPower.f
  exact spec_srPower_l0 b n 1 h
/-! spec_srFactor -/
theorem srFactor_f (j : Jb) (hj : 1 ≤ j.per ∧ j.per ≤ 6) (t : Int) (h0 : 0 ≤ t) (h1 : t < j.per) : Ev (fun k => spec_srFactor.f k j.arcs j.ton j.val j.mine j.mill j.per j.num j.den t) (facW j t) := by
  obtain ⟨n, rfl⟩ := Int.eq_ofNat_of_zero_le h0
  obtain ⟨m, hm⟩ := Int.eq_ofNat_of_zero_le (a := j.per - 1 - n) (by omega)
  unfold spec_srFactor.f facW
  rw [wrap_id (x := j.per - 1) (by omega) (by omega), wrap_id (x := j.per - 1 - (n : Int)) (by omega) (by omega), hm, Int.toNat_natCast, Int.toNat_natCast]
  exact Ev.bind (spec_srPower_f _ n (by omega)) (Ev.bind (spec_srPower_f _ m (by omega)) (Ev.is rfl))
/-! spec_woPeriods -/
theorem spec_woPeriods_l0 (j : Jb) (hj : 1 ≤ j.per ∧ j.per ≤ 6) (w : List Int) (hn : w.length ≤ 4294967296) (hv : w.length = j.val.length) (hw : ∀ x ∈ w, -1 ≤ x ∧ x ≤ j.per - 1) : ∀ i, i ≤ w.length → ∀ acc : List Int, (acc.length : Int) = j.per → Ev (fun k => spec_woPeriods.l0 k acc w w.length i j.arcs j.ton j.val j.mine j.mill j.per j.num j.den) (wpl j (w.drop i) i acc) := by
  refine down ?_ ?_
  · intro acc ha
    refine Ev.step (fun k => by rw [spec_woPeriods.l0]) (Ev.neg (by omega) (Ev.is ?_))
    rw [List.drop_length]
    rfl
  · intro i hi ih acc ha
    have hx := hw _ (List.getElem_mem hi)
    refine Ev.step (fun k => by rw [spec_woPeriods.l0]) ?_
    rw [rd_nat _ _ hi, wrap_nat (by omega), drop_cons _ _ hi, wpl]
    refine Ev.pos (by omega) (Ev.pos (by omega) (Ev.pos (by omega) (Ev.cases (fun c => ?_) (fun c => ?_))))
    · rw [if_pos c]
      exact Ev.pos (by omega) (Ev.pos (by omega) (Ev.pos (by omega) (Ev.bind (srFactor_f j hj w[i] (by omega) (by omega)) (ih _ (by rw [List.length_set]; exact ha)))))
    · rw [if_neg c]
      exact ih acc ha
theorem spec_woPeriods_f (j : Jb) (pa : Int) (hj : 1 ≤ j.per ∧ j.per ≤ 6) (w : List Int) (hn : w.length ≤ 4294967296) (hv : w.length = j.val.length) (hw : ∀ x ∈ w, -1 ≤ x ∧ x ≤ j.per - 1) : Ev (fun k => spec_woPeriods.f k j.arcs j.ton j.val j.mine j.mill j.per j.num j.den pa w) (wpl j w 0 (List.replicate j.per.toNat 0)) := by
  unfold spec_woPeriods.f
  refine Ev.pos (by omega) (Ev.pos (by omega) ?_)
  have := spec_woPeriods_l0 j hj w hn hv hw 0 (by omega) (List.replicate j.per.toNat 0) (by simp; omega)
  rw [List.drop_zero] at this
  exact this
/-! spec_WorthBetween -/
def wbG (A B : List Int) : Nat → Int := fun i => wrap64 (rd B (i : Int) - rd A (i : Int))
def wbOut (j : Jb) (pa : Int) (a : List Int) (pb : Int) (b : List Int) : List Int × Bool :=
  if (jobOk j && (planOk j pa a && planOk j pb b)) = true then (rule (wbG (wpl j a 0 (List.replicate j.per.toNat 0)) (wpl j b 0 (List.replicate j.per.toNat 0))) j.per.toNat, true) else ([], false)
theorem specWB_l0 (A B : List Int) (hl : A.length = B.length) (hn : A.length ≤ 1000) : ∀ i, i ≤ A.length → Ev (fun k => spec_WorthBetween.l0 k B (rule (wbG A B) i) A A.length i) (rule (wbG A B) A.length, true) := by
  refine down ?_ ?_
  · refine Ev.step (fun k => by rw [spec_WorthBetween.l0]) ?_
    exact Ev.neg (by omega) (Ev.is rfl)
  · intro i hi ih
    have hz := rule_len (wbG A B) i
    refine Ev.step (fun k => by rw [spec_WorthBetween.l0]) ?_
    rw [wrap_nat (by omega)]
    rw [rule_succ] at ih
    exact Ev.pos (by omega) (Ev.pos (by omega) (Ev.pos (by omega) (Ev.pos (by omega) (Ev.pos (by omega) ih))))
theorem specWB_f (j : Jb) (pa : Int) (a : List Int) (pb : Int) (b : List Int) (hb : JobB j) (ha : a.length ≤ 4294967296) (hb2 : b.length ≤ 4294967296) : Ev (fun k => spec_WorthBetween.f k j.arcs j.ton j.val j.mine j.mill j.per j.num j.den pa a pb b) (wbOut j pa a pb b) := by
  unfold spec_WorthBetween.f wbOut
  refine Ev.bind (coGood_f j pa a pb b hb ha hb2) (Ev.ite (fun c => ?_) (fun c => Ev.is rfl))
  simp at c
  obtain ⟨cj, ca, cb⟩ := c
  have pj := jobOk_parts cj
  obtain ⟨rfl, hla, ma⟩ := planOk_parts ca
  obtain ⟨rfl, hlb, mb⟩ := planOk_parts cb
  have lz : (List.replicate j.per.toNat (0 : Int)).length = j.per.toNat := by simp
  have la := wpl_len j a 0 (List.replicate j.per.toNat 0)
  have lb := wpl_len j b 0 (List.replicate j.per.toNat 0)
  have wa := spec_woPeriods_f j j.per (by omega) a (by omega) (by omega) ma
  have wb := spec_woPeriods_f j j.per (by omega) b (by omega) (by omega) mb
  generalize wpl j a 0 (List.replicate j.per.toNat 0) = A at *
  generalize wpl j b 0 (List.replicate j.per.toNat 0) = B at *
  refine Ev.bind wa (Ev.bind wb ?_)
  have := specWB_l0 A B (by omega) (by omega) 0 (by omega)
  rw [la, lz] at this
  rw [show (A.length : Int) = ((j.per.toNat : Nat) : Int) from by omega]
  exact this
/-! impl_areBlocks -/
theorem areBlocks_l0 (xs : List Int) (n : Int) (hx : xs.length ≤ 4294967296) : ∀ i, i ≤ xs.length → ∀ p : Option Int, (i = 0 → p = none) → (∀ h : 0 < i ∧ i - 1 < xs.length, p = some (xs[i - 1]'h.2)) → Ev (fun k => impl_areBlocks.l0 k xs n xs xs.length i) (ris 0 (n - 1) p (xs.drop i)) := by
  refine down ?_ ?_
  · intro p h0 h1
    refine Ev.step (fun k => by rw [impl_areBlocks.l0]) (Ev.neg (by omega) (Ev.is ?_))
    rw [List.drop_length]; cases p <;> rfl
  · intro i hi ih p h0 h1
    have ih := ih (some xs[i]) (by omega) (fun h => rfl)
    refine Ev.step (fun k => by rw [impl_areBlocks.l0]) ?_
    rw [rd_nat _ _ hi, wrap_nat (by omega), drop_cons _ _ hi]
    refine Ev.pos (by omega) (Ev.pos (by omega) (Ev.pos (by omega) ?_))
    by_cases hz : i = 0
    · rw [h0 hz, ris]
      refine Ev.cases (fun h => Ev.is (by symm; simp; intros; omega)) (fun h => Ev.cases (fun h2 => Ev.is (by symm; simp; intros; omega)) (fun h2 => Ev.neg (by omega) (Ev.eqr ih ?_)))
      have : (0 ≤ xs[i] ∧ xs[i] ≤ n - 1) := by omega
      simp [this]
    · have e : wrap64 ((i : Int) - 1) = ((i - 1 : Nat) : Int) := by unfold wrap64; omega
      rw [h1 ⟨by omega, by omega⟩, ris, e, rd_nat _ _ (by omega : i - 1 < xs.length)]
      refine Ev.cases (fun h => Ev.is (by symm; simp; intros; omega)) (fun h => Ev.cases (fun h2 => Ev.is (by symm; simp; intros; omega)) (fun h2 => Ev.pos (by omega) (Ev.pos (by omega) (Ev.pos (by omega) (Ev.cases (fun h3 => Ev.is ?_) (fun h3 => Ev.eqr ih ?_))))))
      · have : ¬ xs[i - 1] < xs[i] := by omega
        simp [this]
      · have : (0 ≤ xs[i] ∧ xs[i] ≤ n - 1) := by omega
        have : xs[i - 1] < xs[i] := by omega
        simp [*]
theorem areBlocks_f (xs : List Int) (n : Int) (hx : xs.length ≤ 4294967296) : Ev (fun k => impl_areBlocks.f k xs n) (ris 0 (n - 1) none xs) := by
  unfold impl_areBlocks.f
  exact areBlocks_l0 xs n hx 0 (by omega) none (fun _ => rfl) (fun h => by omega)
/-! impl_AreArcs -/
theorem AreArcs_l0 (xs : List (List Int)) (hx : xs.length ≤ 4294967296) (hb : ∀ x_ ∈ xs, (x_.length ≤ 4294967296)) : ∀ i, i ≤ xs.length → Ev (fun k => impl_AreArcs.l0 k xs xs.length i) (arcsFrom i (xs.drop i)) := by
  refine down ?_ ?_
  · refine Ev.step (fun k => by rw [impl_AreArcs.l0]) (Ev.neg (by omega) (Ev.is ?_))
    rw [List.drop_length, arcsFrom]
  · intro i hi ih
    refine Ev.step (fun k => by rw [impl_AreArcs.l0]) ?_
    rw [rdL1 _ _ hi, wrap_nat (by omega), drop_cons _ _ hi, arcsFrom]
    exact Ev.pos (by omega) (Ev.pos (by omega) (Ev.pos (by omega) (Ev.bind (areBlocks_f _ _ (hb _ (List.getElem_mem hi))) (Ev.cases (fun h => Ev.eqr ih (by simp [h])) (fun h => Ev.is (by simp [h]))))))
theorem AreArcs_f (xs : List (List Int)) (hx : xs.length ≤ 4294967296) (hb : ∀ x_ ∈ xs, (x_.length ≤ 4294967296)) : Ev (fun k => impl_AreArcs.f k xs) (arcsOk xs) := by
  have h0 := AreArcs_l0 xs hx hb 0 (by omega)
  rw [List.drop_zero] at h0
  have no : Ev (fun k => impl_AreArcs.j0 k xs true) false := Ev.step (fun k => by rw [impl_AreArcs.j0]) (Ev.pos rfl (Ev.is rfl))
  have yes : Ev (fun k => impl_AreArcs.j0 k xs false) (arcsFrom 0 xs) := by
    refine Ev.step (fun k => by rw [impl_AreArcs.j0]) (Ev.neg (by simp) ?_)
    exact h0
  unfold impl_AreArcs.f arcsOk
  refine Ev.cases (fun h => Ev.eqr no (by symm; simp; intros; omega)) (fun h => ?_)
  by_cases h2 : (xs.length : Int) > 120
  · rw [decide_eq_true h2]
    exact Ev.eqr no (by symm; simp; intros; omega)
  · rw [decide_eq_false h2]
    have : 1 ≤ xs.length ∧ xs.length ≤ 120 := by omega
    exact Ev.eqr yes (by simp [this])
/-! impl_goodValues -/
theorem goodValues_l0 (xs : List Int) (hx : xs.length ≤ 4294967296) : ∀ i, i ≤ xs.length → Ev (fun k => impl_goodValues.l0 k xs xs.length i) (inR (-1000000) 1000000 (xs.drop i)) := by
  refine down ?_ ?_
  · refine Ev.step (fun k => by rw [impl_goodValues.l0]) ?_
    repeat' (first
      | (with_reducible refine Ev.sb ?_)
      | (with_reducible refine Ev.pos ?hc ?_; case hc => (first | assumption | omega))
      | (with_reducible refine Ev.neg ?hc ?_; case hc => (first | assumption | omega))
      | (with_reducible refine Ev.cases (fun _ => ?_) (fun _ => ?_)))
    all_goals first
      | (refine Ev.is ?_; (first | done | rfl | (simp only [inR]; done) | (simp_all [inR, -List.getElem_cons_drop]; done) | (simp_all [inR, -List.getElem_cons_drop]; omega) | omega))
      | (exfalso; first | omega | (simp_all; done) | (simp_all; omega))
  · intro i hi ih
    refine Ev.step (fun k => by rw [impl_goodValues.l0]) ?_
    rw [rd_nat _ _ hi, wrap_nat (by omega), drop_cons _ _ hi]
    repeat' (first
      | (with_reducible refine Ev.sb ?_)
      | (with_reducible refine Ev.pos ?hc ?_; case hc => (first | assumption | omega))
      | (with_reducible refine Ev.neg ?hc ?_; case hc => (first | assumption | omega))
      | (with_reducible refine Ev.cases (fun _ => ?_) (fun _ => ?_)))
    all_goals first
      | (refine Ev.eqr (ih) ?_; (first | done | rfl | (simp only [inR]; done) | (simp_all [inR, -List.getElem_cons_drop]; done) | (simp_all [inR, -List.getElem_cons_drop]; omega) | omega))
      | (refine Ev.is ?_; (first | done | rfl | (simp only [inR]; done) | (simp_all [inR, -List.getElem_cons_drop]; done) | (simp_all [inR, -List.getElem_cons_drop]; omega) | omega))
      | (exfalso; first | omega | (simp_all; done) | (simp_all; omega))
theorem goodValues_f (xs : List Int) (hx : xs.length ≤ 4294967296) : Ev (fun k => impl_goodValues.f k xs) (goodV xs) := by
  have h0 := goodValues_l0 xs hx 0 (by omega)
  rw [List.drop_zero] at h0
  unfold impl_goodValues.f
  refine Ev.cases (fun h => ?_) (fun h => ?_)
  · refine Ev.step (fun k => by rw [impl_goodValues.j0]) ?_
    refine Ev.pos rfl (Ev.is ?_)
    simp [goodV]; omega
  · refine Ev.step (fun k => by rw [impl_goodValues.j0]) ?_
    refine Ev.cases (fun h => ?_) (fun h => ?_)
    · refine Ev.is ?_
      simp at h
      simp [goodV]; omega
    · refine Ev.eqr h0 ?_
      simp at h
      have e : (1 ≤ xs.length ∧ xs.length ≤ 120) := by omega
      simp [goodV, e]
/-! impl_areValued -/
theorem areValued_f (xs : List (List Int)) (v : List Int) (hx : xs.length ≤ 4294967296) (hb : ∀ x_ ∈ xs, (x_.length ≤ 4294967296)) (hv : v.length ≤ 4294967296) : Ev (fun k => impl_areValued.f k xs v) (arcsOk xs && (decide (v.length = xs.length) && inR (-1000000) 1000000 v)) := by
  unfold impl_areValued.f
  refine Ev.bind (AreArcs_f xs hx hb) (Ev.cases (fun h => ?_) (fun h => Ev.is (by simp [h])))
  have hl := arcsOk_len h
  refine Ev.bind (goodValues_f v hv) (Ev.cases (fun h2 => Ev.is ?_) (fun h2 => Ev.is ?_))
  · unfold goodV at h2
    simp at h2
    rw [h, h2.2]
    simp
    rw [Bool.eq_iff_iff]; simp; omega
  · symm
    rw [h, Bool.true_and]
    by_cases e : v.length = xs.length
    · have : (1 ≤ v.length ∧ v.length ≤ 120) := by omega
      unfold goodV at h2
      simp [this] at h2
      simp [h2]
    · simp [e]
/-! impl_IsJob -/
theorem IsJob_l0 (j : Jb) (hb : JobB j) : ∀ i, i ≤ j.ton.length → Ev (fun k => impl_IsJob.l0 k j.ton j.ton.length i j.arcs j.ton j.val j.mine j.mill j.per j.num j.den) (inR 0 10000 (j.ton.drop i) && limOk j) := by
  obtain ⟨_, h1, _⟩ := hb
  refine down ?_ ?_
  · refine Ev.step (fun k => by rw [impl_IsJob.l0]) (Ev.neg (by omega) ?_)
    rw [List.drop_length, inR, Bool.true_and]
    unfold limOk
    repeat' (first | (with_reducible refine Ev.cases (fun _ => ?_) (fun _ => ?_)))
    all_goals (refine Ev.is ?_; first | (symm; rw [decide_eq_false_iff_not]; omega) | (rw [Bool.eq_iff_iff]; simp only [decide_eq_true_eq]; omega))
  · intro i hi ih
    refine Ev.step (fun k => by rw [impl_IsJob.l0]) ?_
    rw [rd_nat _ _ hi, wrap_nat (by omega), drop_cons _ _ hi, inR]
    refine Ev.pos (by omega) (Ev.pos (by omega) (Ev.pos (by omega) (Ev.cases (fun c => Ev.is ?_) (fun c => Ev.cases (fun c2 => Ev.is ?_) (fun c2 => Ev.eqr ih ?_)))))
    · have : ¬ (0 ≤ j.ton[i] ∧ j.ton[i] ≤ 10000) := by omega
      simp only [this]; simp
    · have : ¬ (0 ≤ j.ton[i] ∧ j.ton[i] ≤ 10000) := by omega
      simp only [this]; simp
    · have : (0 ≤ j.ton[i] ∧ j.ton[i] ≤ 10000) := by omega
      simp [this]
theorem IsJob_f (j : Jb) (hb : JobB j) : Ev (fun k => impl_IsJob.f k j.arcs j.ton j.val j.mine j.mill j.per j.num j.den) (jobOk j) := by
  have hb' := hb
  obtain ⟨⟨h0, h0'⟩, h1, h2⟩ := hb
  have no : Ev (fun k => impl_IsJob.j0 k true j.arcs j.ton j.val j.mine j.mill j.per j.num j.den) false := Ev.step (fun k => by rw [impl_IsJob.j0]) (Ev.pos rfl (Ev.is rfl))
  have yes : Ev (fun k => impl_IsJob.j0 k false j.arcs j.ton j.val j.mine j.mill j.per j.num j.den) (inR 0 10000 j.ton && limOk j) := by
    refine Ev.step (fun k => by rw [impl_IsJob.j0]) (Ev.neg (by simp) ?_)
    exact IsJob_l0 j hb' 0 (by omega)
  unfold impl_IsJob.f jobOk
  refine Ev.bind (areValued_f _ _ h0 h0' h2) (Ev.cases (fun c1 => ?_) (fun c1 => Ev.eqr no ?_))
  · simp at c1
    by_cases e : j.ton.length = j.arcs.length
    · have : ((j.ton.length : Int) != (j.arcs.length : Int)) = false := by simp [e]
      rw [this]
      exact Ev.eqr yes (by simp [c1, e])
    · have : ((j.ton.length : Int) != (j.arcs.length : Int)) = true := by simp; omega
      rw [this]
      exact Ev.eqr no (by simp [e])
  · simp at c1
    symm
    cases c2 : arcsOk j.arcs with
    | false => rfl
    | true =>
      by_cases e : j.val.length = j.arcs.length
      · have := c1 c2 e
        simp [this]
      · simp [e]
/-! impl_isPlan -/
theorem isPlan_l0 (j : Jb) (w : List Int) (hw : w.length ≤ 4294967296) : ∀ i, i ≤ w.length → Ev (fun k => impl_isPlan.l0 k w w.length i j.arcs j.ton j.val j.mine j.mill j.per j.num j.den) (inR (-1) (j.per - 1) (w.drop i)) := by
  refine down ?_ ?_
  · refine Ev.step (fun k => by rw [impl_isPlan.l0]) (Ev.neg (by omega) (Ev.is ?_))
    rw [List.drop_length, inR]
  · intro i hi ih
    refine Ev.step (fun k => by rw [impl_isPlan.l0]) ?_
    rw [rd_nat _ _ hi, wrap_nat (by omega), drop_cons _ _ hi, inR]
    refine Ev.pos (by omega) (Ev.pos (by omega) (Ev.pos (by omega) (Ev.cases (fun c => Ev.is ?_) (fun c => Ev.cases (fun c2 => Ev.is ?_) (fun c2 => Ev.eqr ih ?_)))))
    · have : ¬ (-1 ≤ w[i] ∧ w[i] ≤ j.per - 1) := by omega
      simp only [this]; simp
    · have : ¬ (-1 ≤ w[i] ∧ w[i] ≤ j.per - 1) := by omega
      simp only [this]; simp
    · have : (-1 ≤ w[i] ∧ w[i] ≤ j.per - 1) := by omega
      simp [this]
theorem isPlan_f (j : Jb) (per : Int) (w : List Int) (hw : w.length ≤ 4294967296) : Ev (fun k => impl_isPlan.f k j.arcs j.ton j.val j.mine j.mill j.per j.num j.den per w) (planOk j per w) := by
  have no : Ev (fun k => impl_isPlan.j0 k true j.arcs j.ton j.val j.mine j.mill j.per j.num j.den per w) false := Ev.step (fun k => by rw [impl_isPlan.j0]) (Ev.pos rfl (Ev.is rfl))
  have yes : Ev (fun k => impl_isPlan.j0 k false j.arcs j.ton j.val j.mine j.mill j.per j.num j.den per w) (inR (-1) (j.per - 1) w) := by
    refine Ev.step (fun k => by rw [impl_isPlan.j0]) (Ev.neg (by simp) ?_)
    exact isPlan_l0 j w hw 0 (by omega)
  unfold impl_isPlan.f planOk
  refine Ev.cases (fun c => ?_) (fun c => Ev.eqr no (by simp [c]))
  by_cases e : w.length = j.arcs.length
  · have : ((w.length : Int) != (j.arcs.length : Int)) = false := by simp [e]
    rw [this]
    exact Ev.eqr yes (by simp [c, e])
  · have : ((w.length : Int) != (j.arcs.length : Int)) = true := by simp; omega
    rw [this]
    exact Ev.eqr no (by simp [e])
/-! impl_arePlans -/
theorem arePlans_f (j : Jb) (pa : Int) (a : List Int) (pb : Int) (b : List Int) (hb : JobB j) (ha : a.length ≤ 4294967296) (hb2 : b.length ≤ 4294967296) : Ev (fun k => impl_arePlans.f k j.arcs j.ton j.val j.mine j.mill j.per j.num j.den pa a pb b) (jobOk j && (planOk j pa a && planOk j pb b)) := by
  unfold impl_arePlans.f
  refine Ev.bind (IsJob_f j hb) (Ev.cases (fun c => ?_) (fun c => Ev.is (by simp [c])))
  refine Ev.bind (isPlan_f j pa a ha) (Ev.cases (fun c2 => ?_) (fun c2 => Ev.is (by simp [c2])))
  exact Ev.bind (isPlan_f j pb b hb2) (Ev.is (by simp [c, c2]))
/-! impl_power -/
theorem impl_power_l0 (b : Int) : ∀ (n : Nat) (acc : Int), n ≤ 1000000 → Ev (fun k => impl_power.l0 k b (n : Int) acc) (powW b n acc)
  | 0, acc, h => by
    refine Ev.step (fun k => by rw [impl_power.l0]) ?_
    exact Ev.neg (by omega) (Ev.is rfl)
  | n + 1, acc, h => by
    refine Ev.step (fun k => by rw [impl_power.l0]) ?_
    refine Ev.pos (by omega) ?_
    rw [wrap_id (x := ((n + 1 : Nat) : Int) - 1) (by omega) (by omega), show ((n + 1 : Nat) : Int) - 1 = (n : Int) from by omega]
    exact impl_power_l0 b n _ (by omega)
theorem impl_power_f (b : Int) (n : Nat) (h : n ≤ 1000000) : Ev (fun k => impl_power.f k b (n : Int)) (powW b n 1) := by
  unfold impl_power.f
  exact impl_power_l0 b n 1 h
/-! impl_scaledFactor -/
theorem scaledFactor_f (j : Jb) (hj : 1 ≤ j.per ∧ j.per ≤ 6) (t : Int) (h0 : 0 ≤ t) (h1 : t < j.per) : Ev (fun k => impl_scaledFactor.f k j.arcs j.ton j.val j.mine j.mill j.per j.num j.den t) (facW j t) := by
  obtain ⟨n, rfl⟩ := Int.eq_ofNat_of_zero_le h0
  obtain ⟨m, hm⟩ := Int.eq_ofNat_of_zero_le (a := j.per - 1 - n) (by omega)
  unfold impl_scaledFactor.f facW
  rw [wrap_id (x := j.per - 1) (by omega) (by omega), wrap_id (x := j.per - 1 - (n : Int)) (by omega) (by omega), hm, Int.toNat_natCast, Int.toNat_natCast]
  refine Ev.neg (by omega) ?_
  exact Ev.bind (impl_power_f _ n (by omega)) (Ev.bind (impl_power_f _ m (by omega)) (Ev.is rfl))
/-! impl_periodWorths -/
theorem impl_periodWorths_l0 (j : Jb) (hj : 1 ≤ j.per ∧ j.per ≤ 6) (w : List Int) (hn : w.length ≤ 4294967296) (hv : w.length = j.val.length) (hw : ∀ x ∈ w, -1 ≤ x ∧ x ≤ j.per - 1) : ∀ i, i ≤ w.length → ∀ acc : List Int, (acc.length : Int) = j.per → Ev (fun k => impl_periodWorths.l0 k acc w w.length i j.arcs j.ton j.val j.mine j.mill j.per j.num j.den) (wpl j (w.drop i) i acc) := by
  refine down ?_ ?_
  · intro acc ha
    refine Ev.step (fun k => by rw [impl_periodWorths.l0]) (Ev.neg (by omega) (Ev.is ?_))
    rw [List.drop_length]
    rfl
  · intro i hi ih acc ha
    have hx := hw _ (List.getElem_mem hi)
    refine Ev.step (fun k => by rw [impl_periodWorths.l0]) ?_
    rw [rd_nat _ _ hi, wrap_nat (by omega), drop_cons _ _ hi, wpl]
    refine Ev.pos (by omega) (Ev.pos (by omega) (Ev.pos (by omega) (Ev.cases (fun c => ?_) (fun c => ?_))))
    · rw [if_pos c]
      exact Ev.pos (by omega) (Ev.pos (by omega) (Ev.pos (by omega) (Ev.bind (scaledFactor_f j hj w[i] (by omega) (by omega)) (ih _ (by rw [List.length_set]; exact ha)))))
    · rw [if_neg c]
      exact ih acc ha
theorem impl_periodWorths_f (j : Jb) (pa : Int) (hj : 1 ≤ j.per ∧ j.per ≤ 6) (w : List Int) (hn : w.length ≤ 4294967296) (hv : w.length = j.val.length) (hw : ∀ x ∈ w, -1 ≤ x ∧ x ≤ j.per - 1) : Ev (fun k => impl_periodWorths.f k j.arcs j.ton j.val j.mine j.mill j.per j.num j.den pa w) (wpl j w 0 (List.replicate j.per.toNat 0)) := by
  unfold impl_periodWorths.f
  refine Ev.pos (by omega) (Ev.pos (by omega) ?_)
  have := impl_periodWorths_l0 j hj w hn hv hw 0 (by omega) (List.replicate j.per.toNat 0) (by simp; omega)
  rw [List.drop_zero] at this
  exact this
/-! impl_WorthBetween -/
theorem implWB_l0 (A B : List Int) (hl : A.length = B.length) (hn : A.length ≤ 1000) : ∀ i, i ≤ A.length → Ev (fun k => impl_WorthBetween.l0 k (rule (wbG A B) i ++ B.drop i) A A.length i) (rule (wbG A B) A.length, true) := by
  refine down ?_ ?_
  · refine Ev.step (fun k => by rw [impl_WorthBetween.l0]) (Ev.neg (by omega) (Ev.is ?_))
    rw [hl, List.drop_length, List.append_nil]
  · intro i hi ih
    have hi2 : i < B.length := by omega
    have hz := len_mid (rule (wbG A B) i) B i (rule_len _ _) (by omega)
    refine Ev.step (fun k => by rw [impl_WorthBetween.l0]) ?_
    have er : rd (rule (wbG A B) i ++ B.drop i) (i : Int) = rd B (i : Int) := by
      rw [rd_nat _ _ (by omega), rd_nat _ _ hi2, List.getElem_append_right (by rw [rule_len]; omega)]
      simp [rule_len]
    rw [er, Int.toNat_natCast, set_mid _ _ _ _ (rule_len _ _) hi2, wrap_nat (by omega)]
    rw [rule_succ] at ih
    exact Ev.pos (by omega) (Ev.pos (by omega) (Ev.pos (by omega) (Ev.pos (by omega) ih)))
theorem implWB_f (j : Jb) (pa : Int) (a : List Int) (pb : Int) (b : List Int) (hb : JobB j) (ha : a.length ≤ 4294967296) (hb2 : b.length ≤ 4294967296) : Ev (fun k => impl_WorthBetween.f k j.arcs j.ton j.val j.mine j.mill j.per j.num j.den pa a pb b) (wbOut j pa a pb b) := by
  unfold impl_WorthBetween.f wbOut
  refine Ev.bind (arePlans_f j pa a pb b hb ha hb2) (Ev.ite (fun c => ?_) (fun c => Ev.is rfl))
  simp at c
  obtain ⟨cj, ca, cb⟩ := c
  have pj := jobOk_parts cj
  obtain ⟨rfl, hla, ma⟩ := planOk_parts ca
  obtain ⟨rfl, hlb, mb⟩ := planOk_parts cb
  have lz : (List.replicate j.per.toNat (0 : Int)).length = j.per.toNat := by simp
  have la := wpl_len j a 0 (List.replicate j.per.toNat 0)
  have lb := wpl_len j b 0 (List.replicate j.per.toNat 0)
  have wa := impl_periodWorths_f j j.per (by omega) a (by omega) (by omega) ma
  have wb := impl_periodWorths_f j j.per (by omega) b (by omega) (by omega) mb
  generalize wpl j a 0 (List.replicate j.per.toNat 0) = A at *
  generalize wpl j b 0 (List.replicate j.per.toNat 0) = B at *
  refine Ev.bind wb (Ev.bind wa ?_)
  have := implWB_l0 A B (by omega) (by omega) 0 (by omega)
  rw [la, lz] at this
  rw [show (A.length : Int) = ((j.per.toNat : Nat) : Int) from by omega]
  simpa [rule] using this
/-! the two answers are one -/
-- lists: 1
theorem WorthBetween_core (l0_0 : List (List Int)) (l0_1 : List Int) (l0_2 : List Int) (a0_3 a0_4 a0_5 a0_6 a0_7 a1_0 : Int) (l1_1 : List Int) (a2_0 : Int) (l2_1 : List Int)
    (b0 : l0_0.length ≤ 4294967296 ∧ ∀ x_ ∈ l0_0, (x_.length ≤ 4294967296)) (b1 : l0_1.length ≤ 4294967296) (b2 : l0_2.length ≤ 4294967296) (b3 : l1_1.length ≤ 4294967296) (b4 : l2_1.length ≤ 4294967296) :
    ∃ r : List Int × Bool, Ev (fun k => spec_WorthBetween.f k l0_0 l0_1 l0_2 a0_3 a0_4 a0_5 a0_6 a0_7 a1_0 l1_1 a2_0 l2_1) r ∧ Ev (fun k => impl_WorthBetween.f k l0_0 l0_1 l0_2 a0_3 a0_4 a0_5 a0_6 a0_7 a1_0 l1_1 a2_0 l2_1) r ∧ r.1.length ≤ 4294967296 := by
  refine ⟨_, specWB_f ⟨l0_0, l0_1, l0_2, a0_3, a0_4, a0_5, a0_6, a0_7⟩ _ _ _ _ ⟨b0, b1, b2⟩ b3 b4, implWB_f ⟨l0_0, l0_1, l0_2, a0_3, a0_4, a0_5, a0_6, a0_7⟩ _ _ _ _ ⟨b0, b1, b2⟩ b3 b4, ?_⟩
  unfold wbOut
  split
  · rename_i c
    simp at c
    have pj := jobOk_parts c.1
    show (rule _ _).length ≤ _
    rw [rule_len]
    have : a0_5 ≤ 6 := pj.2.2.2.2.2.2.2.2.2.2.1
    show a0_5.toNat ≤ _
    omega
  · simp
theorem FnExactWorthBetween : SFnExactWorthBetween.Pure := by
  intro l0_0 l0_1 l0_2 a0_3 a0_4 a0_5 a0_6 a0_7 a1_0 l1_1 a2_0 l2_1 hl0_0 hl0_1 hl0_2 ha0_3 ha0_4 ha0_5 ha0_6 ha0_7 ha1_0 hl1_1 ha2_0 hl2_1
  suffices h : Ev (fun k => laws_FnExactWorthBetween.f k l0_0 l0_1 l0_2 a0_3 a0_4 a0_5 a0_6 a0_7 a1_0 l1_1 a2_0 l2_1) true from Ev.rounds h
  unfold laws_FnExactWorthBetween.f
  obtain ⟨r0, e0, u0, w0⟩ := laws_szJob_ev l0_0 l0_1 l0_2 a0_3 a0_4 a0_5 a0_6 a0_7 1048576 ⟨hl0_0.1, fun x hx => (hl0_0.2 x hx).1⟩ hl0_1.1 hl0_2.1 (by omega) (by omega)
  refine Ev.bind e0 (Ev.cases (fun _ => Ev.is rfl) (fun g0 => ?_))
  obtain ⟨b_l0_0, b_l0_1, b_l0_2⟩ := w0 (by omega)
  have t_l0_0 := laws_szJob_tot l0_0 l0_1 l0_2 a0_3 a0_4 a0_5 a0_6 a0_7 1048576 r0 ⟨hl0_0.1, fun x hx => (hl0_0.2 x hx).1⟩ (by omega) (by omega) e0 (by omega)
  obtain ⟨r1, e1, u1, w1⟩ := laws_szPlan_ev a1_0 l1_1 r0 hl1_1.1 (by omega) (by omega)
  refine Ev.bind e1 (Ev.cases (fun _ => Ev.is rfl) (fun g1 => ?_))
  obtain b_l1_1 := w1 (by omega)
  obtain ⟨r2, e2, u2, w2⟩ := laws_szPlan_ev a2_0 l2_1 r1 hl2_1.1 (by omega) (by omega)
  refine Ev.bind e2 (Ev.cases (fun _ => Ev.is rfl) (fun g2 => ?_))
  obtain b_l2_1 := w2 (by omega)
  obtain ⟨res, s, m, bd⟩ := WorthBetween_core l0_0 l0_1 l0_2 a0_3 a0_4 a0_5 a0_6 a0_7 a1_0 l1_1 a2_0 l2_1 b_l0_0 b_l0_1 b_l0_2 b_l1_1 b_l2_1
  repeat' (first
    | (with_reducible exact Ev.is rfl)
    | (with_reducible refine Ev.bind (s) ?_)
    | (with_reducible refine Ev.bind (m) ?_)
    | (with_reducible refine Ev.bind (laws_toJob_ev _ _ _ _ _ _ _ _ (by assumption) (by assumption) (by assumption)) ?_)
    | (with_reducible refine Ev.bind (laws_eqJob_ev _ _ _ _ _ _ _ _ (by assumption) (by assumption) (by assumption)) ?_)
    | (with_reducible refine Ev.bind (laws_toPlan_ev _ _ (by assumption)) ?_)
    | (with_reducible refine Ev.bind (laws_eqPlan_ev _ _ (by assumption)) ?_)
    | (with_reducible refine Ev.bind (laws_markJob_ev _ _ _ _ _ _ _ _ _ (by (try dsimp only); omega) (by (try dsimp only); omega) (by assumption)) ?_)
    | (with_reducible refine Ev.bind (laws_markPlan_ev _ _ _ (by (try dsimp only); omega) (by (try dsimp only); omega)) ?_)
    | (with_reducible refine Ev.bind (laws_eqIntS_ev _ (by assumption)) ?_)
    | (with_reducible refine Ev.bind (laws_markIntS_ev _ _ (by (try dsimp only); omega) (by (try dsimp only); omega)) ?_)
    | (with_reducible refine Ev.bind (laws_heldIntS_ev _ _ (by (try dsimp only); omega) (by (try dsimp only); omega)) ?_)
    | (with_reducible refine Ev.sb ?_)
    | (with_reducible refine Ev.pos rfl ?_)
    | (with_reducible refine Ev.neg ?hc ?_; case hc => (first | omega | (simp; done)))
    | (with_reducible refine Ev.pos ?hc ?_; case hc => (first | omega | (simp; done)))
    | (refine Ev.step (fun k => by rw [laws_FnExactWorthBetween.j0]) ?_)
    | (refine Ev.step (fun k => by rw [laws_FnExactWorthBetween.j1]) ?_)
    | (refine Ev.step (fun k => by rw [laws_FnExactWorthBetween.j2]) ?_))

end Go.Proofs.Ytpfjjheognelhaa.Pure
