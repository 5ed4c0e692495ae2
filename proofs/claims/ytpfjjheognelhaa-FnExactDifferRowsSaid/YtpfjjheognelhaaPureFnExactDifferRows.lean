/- FnExactDifferRows: the pure statement, a law of numbers and lists alone, is proved. -/
import Derived.Test.YtpfjjheognelhaaSFnExactDifferRows
import Derived.Test.YtpfjjheognelhaaMa
namespace Go.Proofs.Ytpfjjheognelhaa.Pure
open Go.RowKit Go.Proofs.Ytpfjjheognelhaa.PFnExactDifferRows Go.Proofs.YtpfjjheognelhaaW.PrintWords Go.Proofs.YtpfjjheognelhaaW.PrintLast Go.Proofs.YtpfjjheognelhaaW.PrintMore Go.Proofs.Ytpfjjheognelhaa.Ma Go.Proofs.Ytpfjjheognelhaa.SFnExactDifferRows
set_option linter.unusedVariables false
set_option linter.unusedSimpArgs false
theorem rdT133 (xs : List S133) (i : Nat) (h : i < xs.length) : rd_T133 xs (i : Int) = xs[i] := getT_nat _ _ _ h
theorem rdT81 (xs : List S81) (i : Nat) (h : i < xs.length) : rd_T81 xs (i : Int) = xs[i] := getT_nat _ _ _ h
theorem rdT49 (xs : List S49) (i : Nat) (h : i < xs.length) : rd_T49 xs (i : Int) = xs[i] := getT_nat _ _ _ h
theorem rdL2 (xs : List (List Int)) (i : Nat) (h : i < xs.length) : rd_L2 xs (i : Int) = xs[i] := getT_nat _ _ _ h
theorem rdL6 (xs : List (List S81)) (i : Nat) (h : i < xs.length) : rd_L6 xs (i : Int) = xs[i] := getT_nat _ _ _ h
/-! laws_szIntS -/
theorem laws_szIntS_ev (xs : List (Int)) (n : Int) (hm : xs.length ≤ maxLen) (h0 : 0 ≤ n) (h1 : n ≤ 1048576) : ∃ r, Ev (fun _ => laws_szIntS.f xs n) r ∧ r ≤ n ∧ (0 ≤ r → xs.length ≤ 4294967296) := by
  unfold maxLen at hm
  unfold laws_szIntS.f
  rw [wrap_id (by omega) (by omega)]
  by_cases h : n - (xs.length : Int) < 0
  · exact ⟨-1, Ev.pos h (Ev.is rfl), by omega, fun h => by omega⟩
  · exact ⟨_, Ev.neg h (Ev.is rfl), by omega, fun h => by omega⟩

/-! laws_szRow -/
theorem laws_szRow_ev (a0_0 : ByteArray) (l0_1 : List Int) (n : Int) (hm0 : a0_0.size ≤ maxLen) (hm1 : l0_1.length ≤ maxLen) (h0 : 0 ≤ n) (h1 : n ≤ 1048576) : ∃ r, Ev (fun _ => laws_szRow.f a0_0 l0_1 n) r ∧ r ≤ n ∧ (0 ≤ r → (a0_0.size ≤ 4294967296 ∧ (l0_1.length ≤ 4294967296))) := by
  unfold laws_szRow.f
  have hz0 := hm0
  unfold maxLen at hz0
  rw [wrap_id (x := n - (a0_0.size : Int)) (by omega) (by omega)]
  by_cases c0 : n - (a0_0.size : Int) < 0
  · exact ⟨-1, (Ev.pos c0 (Ev.is rfl)), by omega, fun h => by omega⟩
  · skip
    obtain ⟨r1, e1, g1, b1⟩ := laws_szIntS_ev l0_1 (n - (a0_0.size : Int)) hm1 (by omega) (by omega)
    by_cases c1 : r1 < 0
    · exact ⟨-1, (Ev.neg c0 (Ev.bind e1 (Ev.pos c1 (Ev.is rfl)))), by omega, fun h => by omega⟩
    · exact ⟨_, (Ev.neg c0 (Ev.bind e1 (Ev.neg c1 (Ev.is rfl)))), by omega, fun h => ⟨by omega, b1 (by omega)⟩⟩

/-! laws_szRowS -/
theorem laws_szRowS_l0 (xs : List (S133)) (hx : xs.length ≤ 4294967296) (hM : ∀ x_ ∈ xs, (x_.f0.size ≤ maxLen ∧ x_.f1.length ≤ maxLen)) : ∀ i, i ≤ xs.length → ∀ n : Int, 0 ≤ n → n ≤ 1048576 → ∃ r, Ev (fun k => laws_szRowS.l0 k xs n i) r ∧ r ≤ n ∧ (0 ≤ r → ∀ x_ ∈ xs.drop i, (x_.f0.size ≤ 4294967296 ∧ (x_.f1.length ≤ 4294967296))) := by
  refine down ?_ ?_
  · intro n h0 h1
    exact ⟨n, Ev.step (fun k => by rw [laws_szRowS.l0]) (Ev.neg (by omega) (Ev.is rfl)), Int.le_refl _, fun _ x hx => by rw [List.drop_length] at hx; cases hx⟩
  · intro i hi ih n h0 h1
    obtain ⟨q, hq, hq1, hq2⟩ := laws_szRow_ev xs[i].f0 xs[i].f1 n (hM _ (List.getElem_mem hi)).1 (hM _ (List.getElem_mem hi)).2 h0 h1
    by_cases h : q < 0
    · exact ⟨-1, Ev.step (fun k => by rw [laws_szRowS.l0, rdT133 _ _ hi]) (Ev.pos (by omega) (Ev.pos (by omega) (Ev.bind hq (Ev.pos h (Ev.is rfl))))), by omega, fun h => by omega⟩
    · obtain ⟨r, hr, h2, h3⟩ := ih q (by omega) (by omega)
      refine ⟨r, Ev.step (fun k => by rw [laws_szRowS.l0, rdT133 _ _ hi, wrap_nat (by omega)]) (Ev.pos (by omega) (Ev.pos (by omega) (Ev.bind hq (Ev.neg h hr)))), by omega, fun h4 x hx => ?_⟩
      rw [drop_cons _ _ hi] at hx
      rcases List.mem_cons.1 hx with rfl | hx
      · exact hq2 (by omega)
      · exact h3 h4 x hx
theorem laws_szRowS_ev (xs : List (S133)) (n : Int) (hm : (xs.length ≤ maxLen ∧ ∀ x_ ∈ xs, (x_.f0.size ≤ maxLen ∧ x_.f1.length ≤ maxLen))) (h0 : 0 ≤ n) (h1 : n ≤ 1048576) : ∃ r, Ev (fun k => laws_szRowS.f k xs n) r ∧ r ≤ n ∧ (0 ≤ r → (xs.length ≤ 4294967296 ∧ ∀ x_ ∈ xs, (x_.f0.size ≤ 4294967296 ∧ (x_.f1.length ≤ 4294967296)))) := by
  obtain ⟨hm, hM⟩ := hm
  unfold maxLen at hm
  unfold laws_szRowS.f
  rw [wrap_id (by omega) (by omega)]
  by_cases h : n - (xs.length : Int) < 0
  · exact ⟨-1, Ev.pos h (Ev.is rfl), by omega, fun h => by omega⟩
  · obtain ⟨r, hr, h2, h3⟩ := laws_szRowS_l0 xs (by omega) hM 0 (by omega) (n - xs.length) (by omega) (by omega)
    exact ⟨r, Ev.neg h hr, by omega, fun h4 => ⟨by omega, h3 h4⟩⟩

def totL (xs : List S133) : Nat := (xs.map fun x => x.f1.length).sum
def totR (xs : List S81) : Nat := (xs.map fun x => x.f1.length).sum
theorem szRow_q (s : ByteArray) (l : List Int) (n : Int) (hs : s.size ≤ maxLen) (hl : l.length ≤ maxLen) (h0 : 0 ≤ n) (h1 : n ≤ 1048576) : ∃ q, laws_szRow.f s l n = some q ∧ q ≤ n ∧ (0 ≤ q → (l.length : Int) + q ≤ n) := by
  unfold maxLen at hs hl
  unfold laws_szRow.f laws_szIntS.f
  rw [wrap_id (by omega) (by omega)]
  by_cases h : n - (s.size : Int) < 0
  · exact ⟨-1, by rw [if_pos h], by omega, fun h => by omega⟩
  · rw [if_neg h, wrap_id (by omega) (by omega)]
    by_cases h2 : n - (s.size : Int) - (l.length : Int) < 0
    · exact ⟨-1, by rw [if_pos h2]; rfl, by omega, fun h => by omega⟩
    · exact ⟨n - (s.size : Int) - (l.length : Int), by rw [if_neg h2, Option.bind_some, if_neg h2], by omega, fun h => by omega⟩
theorem laws_szRowS_t0 (xs : List S133) (hx : xs.length ≤ 4294967296) (hM : ∀ x_ ∈ xs, (x_.f0.size ≤ maxLen ∧ x_.f1.length ≤ maxLen)) : ∀ i, i ≤ xs.length → ∀ n : Int, 0 ≤ n → n ≤ 1048576 → ∃ r, Ev (fun k => laws_szRowS.l0 k xs n i) r ∧ (0 ≤ r → (totL (xs.drop i) : Int) ≤ n) := by
  refine down ?_ ?_
  · intro n h0 h1
    exact ⟨n, Ev.step (fun k => by rw [laws_szRowS.l0]) (Ev.neg (by omega) (Ev.is rfl)), fun _ => by rw [List.drop_length]; simpa [totL] using h0⟩
  · intro i hi ih n h0 h1
    have hm := hM _ (List.getElem_mem hi)
    obtain ⟨q, hq, q1, q2⟩ := szRow_q xs[i].f0 xs[i].f1 n hm.1 hm.2 h0 h1
    by_cases h : q < 0
    · refine ⟨-1, ?_, fun h => by omega⟩
      refine Ev.step (fun k => by rw [laws_szRowS.l0, rdT133 _ _ hi]) ?_
      exact Ev.pos (by omega) (Ev.pos (by omega) (Ev.bind (Ev.const hq) (Ev.pos h (Ev.is rfl))))
    · obtain ⟨r, hr, h3⟩ := ih q (by omega) (by omega)
      refine ⟨r, ?_, fun h4 => ?_⟩
      · refine Ev.step (fun k => by rw [laws_szRowS.l0, rdT133 _ _ hi, wrap_nat (by omega)]) ?_
        exact Ev.pos (by omega) (Ev.pos (by omega) (Ev.bind (Ev.const hq) (Ev.neg h hr)))
      · have := h3 h4
        have := q2 (by omega)
        rw [drop_cons _ _ hi]
        simp only [totL, List.map_cons, List.sum_cons] at *
        omega
theorem laws_szRowS_tot (xs : List S133) (n r : Int) (hm : xs.length ≤ maxLen ∧ ∀ x_ ∈ xs, (x_.f0.size ≤ maxLen ∧ x_.f1.length ≤ maxLen)) (h0 : 0 ≤ n) (h1 : n ≤ 1048576) (he : Ev (fun k => laws_szRowS.f k xs n) r) (hr : 0 ≤ r) : (totL xs : Int) ≤ 1048576 := by
  obtain ⟨hm, hM⟩ := hm
  unfold maxLen at hm
  unfold laws_szRowS.f at he
  rw [wrap_id (by omega) (by omega)] at he
  by_cases h : n - (xs.length : Int) < 0
  · have := Ev.uniq he (Ev.pos h (Ev.is rfl))
    omega
  · obtain ⟨q, hq, h3⟩ := laws_szRowS_t0 xs (by omega) hM 0 (by omega) (n - (xs.length : Int)) (by omega) (by omega)
    have := Ev.uniq he (Ev.neg h hq)
    subst this
    have := h3 hr
    rw [List.drop_zero] at this
    omega
/-! laws_szReport -/
theorem laws_szReport_ev (a0_0 : ByteArray) (a0_1 : Int) (l0_2 : List (S133)) (n : Int) (hm0 : a0_0.size ≤ maxLen) (hm2 : (l0_2.length ≤ maxLen ∧ ∀ x_ ∈ l0_2, (x_.f0.size ≤ maxLen ∧ x_.f1.length ≤ maxLen))) (h0 : 0 ≤ n) (h1 : n ≤ 1048576) : ∃ r, Ev (fun k => laws_szReport.f k a0_0 a0_1 l0_2 n) r ∧ r ≤ n ∧ (0 ≤ r → (a0_0.size ≤ 4294967296 ∧ (l0_2.length ≤ 4294967296 ∧ ∀ x_ ∈ l0_2, (x_.f0.size ≤ 4294967296 ∧ (x_.f1.length ≤ 4294967296))))) := by
  unfold laws_szReport.f
  have hz0 := hm0
  unfold maxLen at hz0
  rw [wrap_id (x := n - (a0_0.size : Int)) (by omega) (by omega)]
  by_cases c0 : n - (a0_0.size : Int) < 0
  · exact ⟨-1, (Ev.pos c0 (Ev.is rfl)), by omega, fun h => by omega⟩
  · skip
    obtain ⟨r2, e2, g2, b2⟩ := laws_szRowS_ev l0_2 (n - (a0_0.size : Int)) hm2 (by omega) (by omega)
    by_cases c2 : r2 < 0
    · exact ⟨-1, (Ev.neg c0 (Ev.bind e2 (Ev.pos c2 (Ev.is rfl)))), by omega, fun h => by omega⟩
    · exact ⟨_, (Ev.neg c0 (Ev.bind e2 (Ev.neg c2 (Ev.is rfl)))), by omega, fun h => ⟨by omega, b2 (by omega)⟩⟩

theorem laws_szReport_tot0 (t : ByteArray) (w : Int) (xs : List S133) (n r : Int) (ht : t.size ≤ maxLen) (hm : xs.length ≤ maxLen ∧ ∀ x_ ∈ xs, (x_.f0.size ≤ maxLen ∧ x_.f1.length ≤ maxLen)) (h0 : 0 ≤ n) (h1 : n ≤ 1048576)
    (he : Ev (fun k => laws_szReport.f k t w xs n) r) (hr : 0 ≤ r) : (totL xs : Int) ≤ 1048576 := by
  unfold maxLen at ht
  unfold laws_szReport.f at he
  rw [wrap_id (by omega) (by omega)] at he
  by_cases h : n - (t.size : Int) < 0
  · have := Ev.uniq he (Ev.pos h (Ev.is rfl))
    omega
  · obtain ⟨r0, e0, g0, b0⟩ := laws_szRowS_ev xs (n - (t.size : Int)) hm (by omega) (by omega)
    by_cases h2 : r0 < 0
    · have := Ev.uniq he (Ev.neg h (Ev.bind e0 (Ev.pos h2 (Ev.is rfl))))
      omega
    · exact laws_szRowS_tot xs _ r0 hm (by omega) (by omega) e0 (by omega)
/-! laws_toIntS -/
theorem laws_toIntS_l0 (xs ys : List Int) (hx : xs.length ≤ 4294967296) (hy : ys.length = xs.length) : ∀ i, i ≤ xs.length → Ev (fun k => laws_toIntS.l0 k xs (xs.take i ++ ys.drop i) i) xs := by
  refine down ?_ ?_
  · refine Ev.step (fun k => by rw [laws_toIntS.l0]) ?_
    refine Ev.neg (by omega) (Ev.is (by rw [List.take_length, ← hy, List.drop_length, List.append_nil]))
  · intro i hi ih
    have hl := take_len xs ys i (by omega) hy
    refine Ev.step (fun k => by rw [laws_toIntS.l0]) ?_
    rw [rd_nat _ _ hi, wrap_nat (by omega), Int.toNat_natCast, take_set xs ys i hi hy]
    exact Ev.pos (by omega) (Ev.pos (by omega) (Ev.pos (by omega) ih))
theorem laws_toIntS_ev (xs : List Int) (hx : xs.length ≤ 4294967296) : Ev (fun k => laws_toIntS.f k xs) xs := by
  unfold laws_toIntS.f
  refine Ev.pos (by omega) (Ev.pos (by omega) ?_)
  exact laws_toIntS_l0 xs _ hx (by simp) 0 (by omega)

/-! laws_toRow -/
theorem laws_toRow_ev (a0_0 : ByteArray) (l0_1 : List Int) (hb0 : a0_0.size ≤ 4294967296) (hb1 : (l0_1.length ≤ 4294967296)) : Ev (fun k => laws_toRow.f k a0_0 l0_1) (a0_0, l0_1) := by
  unfold laws_toRow.f
  repeat' (first | (with_reducible refine Ev.bind (laws_toIntS_ev _ (by assumption)) ?_) | (with_reducible exact Ev.is rfl) | exact Ev.is rfl)

/-! laws_toRowS -/
def cv133 (x : S133) : S81 := ⟨x.f0, x.f1⟩
theorem cvb133 (xs : List (S133)) (hb : (xs.length ≤ 4294967296 ∧ ∀ x_ ∈ xs, (x_.f0.size ≤ 4294967296 ∧ (x_.f1.length ≤ 4294967296)))) : ((xs.map cv133).length ≤ 4294967296 ∧ ∀ x_ ∈ xs.map cv133, (x_.f0.size ≤ 4294967296 ∧ (x_.f1.length ≤ 4294967296))) := by
  refine ⟨by simpa using hb.1, fun x hx => ?_⟩
  obtain ⟨y, hy, rfl⟩ := List.mem_map.1 hx
  exact hb.2 y hy
theorem laws_toRowS_l0 (xs : List (S133)) (ys : List (S81)) (hx : xs.length ≤ 4294967296) (hb : ∀ x_ ∈ xs, (x_.f0.size ≤ 4294967296 ∧ (x_.f1.length ≤ 4294967296))) (hy : ys.length = xs.length) : ∀ i, i ≤ xs.length → Ev (fun k => laws_toRowS.l0 k xs ((xs.map cv133).take i ++ ys.drop i) i) (xs.map cv133) := by
  have hm : (xs.map cv133).length = xs.length := by simp
  refine down ?_ ?_
  · refine Ev.step (fun k => by rw [laws_toRowS.l0]) ?_
    refine Ev.neg (by omega) (Ev.is (by rw [← hm, List.take_length, hm, ← hy, List.drop_length, List.append_nil]))
  · intro i hi ih
    have hl := take_len (xs.map cv133) ys i (by omega) (by omega)
    have hs := take_set (xs.map cv133) ys i (by omega) (by omega)
    rw [List.getElem_map] at hs
    refine Ev.step (fun k => by rw [laws_toRowS.l0]) ?_
    rw [rdT133 _ _ hi, wrap_nat (by omega), Int.toNat_natCast]
    refine Ev.pos (by omega) (Ev.pos (by omega) (Ev.bind (laws_toRow_ev _ _ ((hb _ (List.getElem_mem hi)).1) ((hb _ (List.getElem_mem hi)).2)) (Ev.pos (by omega) ?_)))
    show Ev (fun k => laws_toRowS.l0 k xs (((xs.map cv133).take i ++ ys.drop i).set i (cv133 xs[i])) _) _
    rw [hs]
    exact ih
theorem laws_toRowS_ev (xs : List (S133)) (hb : (xs.length ≤ 4294967296 ∧ ∀ x_ ∈ xs, (x_.f0.size ≤ 4294967296 ∧ (x_.f1.length ≤ 4294967296)))) : Ev (fun k => laws_toRowS.f k xs) (xs.map cv133) := by
  have hx : xs.length ≤ 4294967296 := hb.1
  unfold laws_toRowS.f
  refine Ev.pos (by omega) (Ev.pos (by omega) ?_)
  exact laws_toRowS_l0 xs _ hx hb.2 (by simp) 0 (by omega)

theorem laws_szReport_tot (t : ByteArray) (w : Int) (xs : List S133) (n r : Int) (ht : t.size ≤ maxLen) (hm : xs.length ≤ maxLen ∧ ∀ x_ ∈ xs, (x_.f0.size ≤ maxLen ∧ x_.f1.length ≤ maxLen)) (h0 : 0 ≤ n) (h1 : n ≤ 1048576)
    (he : Ev (fun k => laws_szReport.f k t w xs n) r) (hr : 0 ≤ r) : (totR (xs.map cv133) : Int) ≤ 1048576 := by
  have e : totR (xs.map cv133) = totL xs := by
    unfold totR totL
    rw [List.map_map]
    rfl
  rw [e]
  exact laws_szReport_tot0 t w xs n r ht hm h0 h1 he hr
/-! laws_toReport -/
theorem laws_toReport_ev (a0_0 : ByteArray) (a0_1 : Int) (l0_2 : List (S133)) (hb0 : a0_0.size ≤ 4294967296) (hb2 : (l0_2.length ≤ 4294967296 ∧ ∀ x_ ∈ l0_2, (x_.f0.size ≤ 4294967296 ∧ (x_.f1.length ≤ 4294967296)))) : Ev (fun k => laws_toReport.f k a0_0 a0_1 l0_2) (a0_0, a0_1, (l0_2.map cv133)) := by
  unfold laws_toReport.f
  repeat' (first | (with_reducible refine Ev.bind (laws_toRowS_ev _ (by assumption)) ?_) | (with_reducible exact Ev.is rfl) | exact Ev.is rfl)

/-! laws_eqIntS -/
theorem laws_eqIntS_l0 (xs : List (Int)) (hx : xs.length ≤ 4294967296) : ∀ i, i ≤ xs.length → Ev (fun k => laws_eqIntS.l0 k xs xs i) true := by
  refine down ?_ ?_
  · refine Ev.step (fun k => by rw [laws_eqIntS.l0]) ?_
    exact Ev.neg (by omega) (Ev.is rfl)
  · intro i hi ih
    refine Ev.step (fun k => by rw [laws_eqIntS.l0]) ?_
    rw [rd_nat _ _ hi, wrap_nat (by omega)]
    refine Ev.pos (by omega) (Ev.pos (by omega) (Ev.pos (by omega) (Ev.pos rfl ih)))
theorem laws_eqIntS_ev (xs : List (Int)) (hb : (xs.length ≤ 4294967296)) : Ev (fun k => laws_eqIntS.f k xs xs) true := by
  unfold laws_eqIntS.f
  exact Ev.pos rfl (laws_eqIntS_l0 xs hb 0 (by omega))

/-! laws_eqRow -/
theorem laws_eqRow_ev (a0_0 : ByteArray) (l0_1 : List Int) (hb0 : a0_0.size ≤ 4294967296) (hb1 : (l0_1.length ≤ 4294967296)) : Ev (fun k => laws_eqRow.f k a0_0 l0_1 a0_0 l0_1) true := by
  unfold laws_eqRow.f
  repeat' (first | (with_reducible refine Ev.bind (laws_eqIntS_ev _ (by assumption)) ?_) | (with_reducible refine Ev.pos rfl ?_) | (with_reducible exact Ev.is rfl))

/-! laws_eqRowS -/
theorem laws_eqRowS_l0 (xs : List (S81)) (hx : xs.length ≤ 4294967296) (hb : ∀ x_ ∈ xs, (x_.f0.size ≤ 4294967296 ∧ (x_.f1.length ≤ 4294967296))) : ∀ i, i ≤ xs.length → Ev (fun k => laws_eqRowS.l0 k xs xs i) true := by
  refine down ?_ ?_
  · refine Ev.step (fun k => by rw [laws_eqRowS.l0]) ?_
    exact Ev.neg (by omega) (Ev.is rfl)
  · intro i hi ih
    refine Ev.step (fun k => by rw [laws_eqRowS.l0]) ?_
    rw [rdT81 _ _ hi, wrap_nat (by omega)]
    refine Ev.pos (by omega) (Ev.pos (by omega) (Ev.pos (by omega) (Ev.bind (laws_eqRow_ev _ _ ((hb _ (List.getElem_mem hi)).1) ((hb _ (List.getElem_mem hi)).2)) (Ev.pos rfl ih))))
theorem laws_eqRowS_ev (xs : List (S81)) (hb : (xs.length ≤ 4294967296 ∧ ∀ x_ ∈ xs, (x_.f0.size ≤ 4294967296 ∧ (x_.f1.length ≤ 4294967296)))) : Ev (fun k => laws_eqRowS.f k xs xs) true := by
  unfold laws_eqRowS.f
  exact Ev.pos rfl (laws_eqRowS_l0 xs hb.1 hb.2 0 (by omega))

/-! laws_eqReport -/
theorem laws_eqReport_ev (a0_0 : ByteArray) (a0_1 : Int) (l0_2 : List (S81)) (hb0 : a0_0.size ≤ 4294967296) (hb2 : (l0_2.length ≤ 4294967296 ∧ ∀ x_ ∈ l0_2, (x_.f0.size ≤ 4294967296 ∧ (x_.f1.length ≤ 4294967296)))) : Ev (fun k => laws_eqReport.f k a0_0 a0_1 l0_2 a0_0 a0_1 l0_2) true := by
  unfold laws_eqReport.f
  repeat' (first | (with_reducible refine Ev.bind (laws_eqRowS_ev _ (by assumption)) ?_) | (with_reducible refine Ev.pos rfl ?_) | (with_reducible exact Ev.is rfl))

/-! laws_markIntS -/
theorem markIntS_l0 (xs : List Int) (a : Int) (h0 : 0 ≤ a) (h1 : a + xs.length ≤ 1099511627776) : ∀ i, i ≤ xs.length → Ev (fun k => laws_markIntS.l0 k (marks a i ++ xs.drop i) (a + (i : Int)) i) (a + (xs.length : Int), marks a xs.length) := by
  refine down ?_ ?_
  · refine Ev.step (fun k => by rw [laws_markIntS.l0]) ?_
    refine Ev.neg (by rw [len_mid _ _ _ (marks_len _ _) (Nat.le_refl _)]; omega) (Ev.is (by rw [List.drop_length, List.append_nil]))
  · intro i hi ih
    have hl := len_mid (marks a i) xs i (marks_len _ _) (by omega)
    refine Ev.step (fun k => by rw [laws_markIntS.l0]) ?_
    rw [Int.toNat_natCast, set_mid _ _ _ _ (marks_len _ _) hi, ← marks_succ, wrap_nat (by omega), wrap_id (x := a + (i : Int) + 1) (by omega) (by omega), show a + (i : Int) + 1 = a + ((i + 1 : Nat) : Int) from by omega]
    exact Ev.pos (by omega) (Ev.pos (by omega) ih)
theorem laws_markIntS_ev (xs : List Int) (a : Int) (h0 : 0 ≤ a) (h1 : a + xs.length ≤ 1099511627776) : Ev (fun k => laws_markIntS.f k xs a) (a + (xs.length : Int), marks a xs.length) := by
  have := markIntS_l0 xs a h0 h1 0 (by omega)
  unfold laws_markIntS.f
  simpa [marks] using this
/-! laws_markText -/
theorem markText_l0 : ∀ (n : Nat) (a : Int) (s : ByteArray), 0 ≤ a → a ≤ n → s.size + n ≤ 4398046511104 → ∃ t, Ev (fun k => laws_markText.l0 k a s) t
  | 0, a, s, h0, h1, h2 => by
    refine ⟨(⟨#[109]⟩ : ByteArray) ++ s, ?_⟩
    refine Ev.step (fun k => by rw [laws_markText.l0]) ?_
    exact Ev.neg (by omega) (Ev.pos (by omega) (Ev.is rfl))
  | n + 1, a, s, h0, h1, h2 => by
    by_cases h : a > 0
    · have e : Int.tdiv a 10 = a / 10 := Int.tdiv_eq_ediv_of_nonneg h0
      have hz : (strOfNums [wrap64 (48 + Int.tmod a 10) % 256]).size = 1 := strOfNums_size _
      obtain ⟨t, ht⟩ := markText_l0 n (a / 10) (strOfNums [wrap64 (48 + Int.tmod a 10) % 256] ++ s) (by omega) (by omega) (by rw [ByteArray.size_append, hz]; omega)
      refine ⟨t, Ev.step (fun k => by rw [laws_markText.l0]) ?_⟩
      refine Ev.pos h (Ev.sb (Ev.pos (by rw [hz]; omega) ?_))
      rw [e, wrap_id (by omega) (by omega)]
      exact ht
    · refine ⟨(⟨#[109]⟩ : ByteArray) ++ s, ?_⟩
      refine Ev.step (fun k => by rw [laws_markText.l0]) ?_
      exact Ev.neg h (Ev.pos (by omega) (Ev.is rfl))
noncomputable def mtx (a : Int) : ByteArray := open Classical in if h : ∃ t, Ev (fun k => laws_markText.f k a) t then h.choose else ByteArray.empty
theorem laws_markText_ev (a : Int) (h0 : 0 ≤ a) (h1 : a ≤ 2199023255552) : Ev (fun k => laws_markText.f k a) (mtx a) := by
  have h : ∃ t, Ev (fun k => laws_markText.f k a) t := by
    unfold laws_markText.f
    by_cases c : a ≤ 0
    · exact ⟨_, Ev.pos c (Ev.is rfl)⟩
    · obtain ⟨t, ht⟩ := markText_l0 a.toNat a ⟨#[]⟩ h0 (by omega) (by show 0 + a.toNat ≤ _; omega)
      exact ⟨t, Ev.neg c ht⟩
  unfold mtx
  rw [dif_pos h]
  exact h.choose_spec
/-! laws_markRowS -/
theorem markRowS_l0 (xs : List S81) (hx : xs.length ≤ 4294967296) : ∀ i, i ≤ xs.length → ∀ (done : List S81) (a : Int), done.length = i → 0 ≤ a → a + ((xs.length - i : Nat) : Int) + totR (xs.drop i) ≤ 1099511627776 → ∃ ys, Ev (fun k => laws_markRowS.l0 k (done ++ xs.drop i) a i) (a + ((xs.length - i : Nat) : Int) + (totR (xs.drop i) : Int), ys) := by
  refine down ?_ ?_
  · intro done a hd h0 h1
    refine ⟨done, Ev.step (fun k => by rw [laws_markRowS.l0]) (Ev.neg (by rw [len_mid _ _ _ hd (Nat.le_refl _)]; omega) (Ev.is ?_))⟩
    rw [List.drop_length, List.append_nil, Nat.sub_self]
    simp [totR]
  · intro i hi ih done a hd h0 h1
    have hl := len_mid done xs i hd (by omega)
    have e1 : totR (xs.drop i) = xs[i].f1.length + totR (xs.drop (i + 1)) := by rw [drop_cons _ _ hi]; simp only [totR, List.map_cons, List.sum_cons]
    have e2 : xs.length - i = 1 + (xs.length - (i + 1)) := by omega
    rw [e1, e2] at h1
    have hm := laws_markIntS_ev xs[i].f1 (a + 1) (by omega) (by omega)
    obtain ⟨ys, hy⟩ := ih (done ++ [⟨mtx a, marks (a + 1) xs[i].f1.length⟩]) (a + 1 + (xs[i].f1.length : Int)) (by simp; omega) (by omega) (by omega)
    refine ⟨ys, Ev.step (fun k => by rw [laws_markRowS.l0]) ?_⟩
    have eg : (done ++ xs.drop i)[i]'(by omega) = xs[i] := by
      rw [List.getElem_append_right (by omega)]
      simp [hd]
    rw [rdT81 _ _ (by omega), eg, Int.toNat_natCast, wrap_nat (by omega), wrap_id (x := a + 1) (by omega) (by omega)]
    refine Ev.pos (by omega) (Ev.pos (by omega) (Ev.bind (laws_markText_ev a h0 (by omega)) (Ev.bind hm ?_)))
    show Ev (fun k => laws_markRowS.l0 k ((done ++ xs.drop i).set i ⟨mtx a, marks (a + 1) xs[i].f1.length⟩) (a + 1 + (xs[i].f1.length : Int)) ((i + 1 : Nat) : Int)) _
    rw [set_mid _ _ _ _ hd hi]
    exact Ev.eqr hy (by rw [e1, e2]; congr 1; omega)
theorem laws_markRowS_ev (xs : List S81) (a : Int) (h0 : 0 ≤ a) (h1 : a + xs.length + totR xs ≤ 1099511627776) (hb : xs.length ≤ 4294967296) : ∃ ys, Ev (fun k => laws_markRowS.f k xs a) (a + (xs.length : Int) + (totR xs : Int), ys) := by
  have := markRowS_l0 xs hb 0 (by omega) [] a rfl h0 (by rw [List.drop_zero]; exact h1)
  unfold laws_markRowS.f
  simpa using this
/-! laws_markReport -/
theorem laws_markReport_ev (t : ByteArray) (w : Int) (l : List S81) (a : Int) (h0 : 0 ≤ a) (h1 : a + l.length + totR l ≤ 1099511627776) (hb : l.length ≤ 4294967296 ∧ ∀ x_ ∈ l, (x_.f0.size ≤ 4294967296 ∧ (x_.f1.length ≤ 4294967296))) :
    Ev (fun k => laws_markReport.f k t w l a) (a + (l.length : Int) + (totR l : Int)) := by
  obtain ⟨ys, hy⟩ := laws_markRowS_ev l a h0 h1 hb.1
  unfold laws_markReport.f
  exact Ev.bind hy (Ev.is rfl)
/-! spec_rpRow -/
/-- The place of the row with a name, -1 for none. -/
def rowIx (nm : ByteArray) : List S81 → Nat → Int
  | [], _ => -1
  | x :: l, i => if x.f0.toList = nm.toList then (i : Int) else rowIx nm l (i + 1)
theorem rowIx_none {nm : ByteArray} : ∀ {l : List S81} {i : Nat}, (∀ x ∈ l, x.f0.toList ≠ nm.toList) → rowIx nm l i = -1
  | [], _, _ => rfl
  | x :: l, i, h => by rw [rowIx, if_neg (h x List.mem_cons_self)]; exact rowIx_none (fun y hy => h y (List.mem_cons_of_mem _ hy))
theorem rowIx_some {nm : ByteArray} : ∀ {l : List S81} {i : Nat}, ¬ (∀ x ∈ l, x.f0.toList ≠ nm.toList) → ∃ j, j < l.length ∧ rowIx nm l i = ((i + j : Nat) : Int) ∧ ∀ h : j < l.length, l[j].f0.toList = nm.toList
  | [], _, h => absurd (fun x hx => by cases hx) h
  | x :: l, i, h => by
    by_cases e : x.f0.toList = nm.toList
    · exact ⟨0, by simp, by rw [rowIx, if_pos e, Nat.add_zero], fun _ => e⟩
    · obtain ⟨j, h1, h2, h3⟩ := rowIx_some (l := l) (i := i + 1) (fun h4 => h (fun y hy => by
        rcases List.mem_cons.1 hy with rfl | hy
        · exact e
        · exact h4 y hy))
      refine ⟨j + 1, by simp; omega, ?_, fun h => ?_⟩
      · rw [rowIx, if_neg e, h2]; congr 1; omega
      · simpa using h3 h1
theorem rowIx_app {nm : ByteArray} : ∀ (a b : List S81) (i : Nat), (∀ x ∈ a, x.f0.toList ≠ nm.toList) → rowIx nm (a ++ b) i = rowIx nm b (i + a.length)
  | [], b, i, _ => rfl
  | x :: a, b, i, h => by
    rw [List.cons_append, rowIx, if_neg (h x List.mem_cons_self), rowIx_app a b (i + 1) (fun y hy => h y (List.mem_cons_of_mem _ hy))]
    congr 1; simp; omega
theorem rowIx_ge {nm : ByteArray} : ∀ (l : List S81) (i : Nat), rowIx nm l i = -1 ∨ (i : Int) ≤ rowIx nm l i ∧ rowIx nm l i < i + l.length
  | [], _ => .inl rfl
  | x :: l, i => by
    by_cases e : x.f0.toList = nm.toList
    · right; rw [rowIx, if_pos e]; simp; omega
    · rw [rowIx, if_neg e]
      rcases rowIx_ge l (i + 1) with h | h
      · exact .inl h
      · right; simp; omega
/-- Both ways to ask whether a name is a row's first. -/
theorem rowIx_at (rows : List S81) (i : Nat) (hi : i < rows.length) : (rowIx rows[i].f0 rows 0 = (i : Int)) ↔ ¬ rowIx rows[i].f0 (rows.take i) 0 ≥ 0 := by
  have hs : rows = rows.take i ++ rows.drop i := (List.take_append_drop i rows).symm
  by_cases h : ∀ x ∈ rows.take i, x.f0.toList ≠ (rows[i].f0).toList
  · rw [rowIx_none h]
    constructor
    · intro _; omega
    · intro _
      have e := rowIx_app (rows.take i) (rows.drop i) 0 h
      rw [← hs] at e
      rw [e, drop_cons _ _ hi, rowIx, if_pos rfl]
      simp; omega
  · obtain ⟨j, h1, h2, h3⟩ := rowIx_some (i := 0) h
    have hj : j < i := by simp at h1; omega
    constructor
    · intro e
      exfalso
      obtain ⟨j', g1, g2, g3⟩ : ∃ j', j' < i ∧ j' < rows.length ∧ rowIx rows[i].f0 rows 0 ≤ (j' : Int) := by
        refine ⟨j, hj, by omega, ?_⟩
        have h4 : (rows.take i)[j] = rows[j] := by simp
        have h5 := h3 h1
        rw [h4] at h5
        suffices ∀ (l : List S81) (j k : Nat) (hj : j < l.length) (nm : ByteArray), l[j].f0.toList = nm.toList → rowIx nm l k ≤ ((k + j : Nat) : Int) by
          simpa using this rows j 0 (by omega) rows[i].f0 h5
        intro l
        induction l with
        | nil => intro j k hj; simp at hj
        | cons x l ih =>
          intro j k hj nm e
          rw [rowIx]
          split
          · omega
          · cases j with
            | zero => exact absurd e ‹_›
            | succ j =>
              have := ih j (k + 1) (by simpa using hj) nm (by simpa using e)
              omega
      omega
    · intro e
      rw [h2] at e
      omega
theorem rpRow_l0 (nm : ByteArray) (xs : List S81) (hx : xs.length ≤ 4294967296) : ∀ i, i ≤ xs.length → Ev (fun k => spec_rpRow.l0 k nm xs xs.length i) (rowIx nm (xs.drop i) i) := by
  refine down ?_ ?_
  · refine Ev.step (fun k => by rw [spec_rpRow.l0]) (Ev.neg (by omega) (Ev.is (by rw [List.drop_length]; rfl)))
  · intro i hi ih
    refine Ev.step (fun k => by rw [spec_rpRow.l0]) ?_
    rw [rdT81 _ _ hi, wrap_nat (by omega), drop_cons _ _ hi, rowIx]
    exact Ev.pos (by omega) (Ev.pos (by omega) (Ev.pos (by omega) (Ev.ite (fun _ => Ev.is rfl) (fun _ => ih))))
theorem rpRow_f (t : ByteArray) (w : Int) (nm : ByteArray) (xs : List S81) (hx : xs.length ≤ 4294967296) : Ev (fun k => spec_rpRow.f k t w xs nm) (rowIx nm xs 0) := by
  unfold spec_rpRow.f
  exact rpRow_l0 nm xs hx 0 (by omega)
/-! spec_l1In -/
theorem l1In_f (a lo up : Int) : spec_l1In.f a lo up = some (decide (lo ≤ a ∧ a ≤ up)) := by
  unfold spec_l1In.f
  by_cases h : a ≥ lo
  · rw [if_pos h]; congr 1; simp; omega
  · rw [if_neg h]; congr 1; simp; omega
/-! spec_rpName -/
theorem rpName_l0 (s : ByteArray) (hs : s.size ≤ 4294967296) : ∀ i, i ≤ (bytesOf s).length → Ev (fun k => spec_rpName.l0 k s i) (((bytesOf s).drop i).all chOk && decide (1 ≤ s.size ∧ s.size ≤ 12)) := by
  have hl := bytes_len s
  refine down ?_ ?_
  · refine Ev.step (fun k => by rw [spec_rpName.l0]) (Ev.neg (by omega) ?_)
    rw [List.drop_length, List.all_nil, Bool.true_and]
    rw [l1In_f]
    exact Ev.is (by congr 1; simp; omega)
  · intro i hi ih
    refine Ev.step (fun k => by rw [spec_rpName.l0]) ?_
    rw [bt_nat _ _ hi, wrap_nat (by omega), drop_cons _ _ hi, List.all_cons]
    generalize ((bytesOf s).drop (i + 1)).all chOk = v at *
    refine Ev.pos (by omega) (Ev.pos (by omega) ?_)
    repeat' (first | (with_reducible refine Ev.cases (fun _ => ?_) (fun _ => ?_)))
    all_goals first
      | (refine Ev.eqr ih ?_; have : chOk (bytesOf s)[i] = true := by (simp [chOk]; omega)
         rw [this, Bool.true_and])
      | (refine Ev.is ?_; have : chOk (bytesOf s)[i] = false := by (simp [chOk]; omega)
         rw [this, Bool.false_and, Bool.false_and])
theorem rpName_f (s : ByteArray) (hs : s.size ≤ 4294967296) : Ev (fun k => spec_rpName.f k s) (nameOk s) := by
  unfold spec_rpName.f
  exact rpName_l0 s hs 0 (by omega)
/-! spec_l1All -/
theorem l1All_l0 (xs : List Int) (lo up : Int) (hx : xs.length ≤ 4294967296) : ∀ i, i ≤ xs.length → Ev (fun k => spec_l1All.l0 k lo up xs xs.length i) (inR lo up (xs.drop i)) := by
  refine down ?_ ?_
  · refine Ev.step (fun k => by rw [spec_l1All.l0]) ?_
    repeat' (first
      | (with_reducible refine Ev.sb ?_)
      | (with_reducible refine Ev.pos ?hc ?_; case hc => (first | assumption | omega))
      | (with_reducible refine Ev.neg ?hc ?_; case hc => (first | assumption | omega))
      | (with_reducible refine Ev.cases (fun _ => ?_) (fun _ => ?_)))
    all_goals first
      | (refine Ev.is ?_; (first | done | rfl | (simp only [inR]; done) | (simp_all [inR, -List.getElem_cons_drop]; done) | (simp_all [inR, -List.getElem_cons_drop]; omega) | omega))
      | (exfalso; first | omega | (simp_all; done) | (simp_all; omega))
  · intro i hi ih
    refine Ev.step (fun k => by rw [spec_l1All.l0]) ?_
    rw [rd_nat _ _ hi, l1In_f, wrap_nat (by omega), drop_cons _ _ hi]
    repeat' (first
      | (with_reducible refine Ev.sb ?_)
      | (with_reducible refine Ev.pos ?hc ?_; case hc => (first | assumption | omega))
      | (with_reducible refine Ev.neg ?hc ?_; case hc => (first | assumption | omega))
      | (with_reducible refine Ev.cases (fun _ => ?_) (fun _ => ?_)))
    all_goals first
      | (refine Ev.eqr (ih) ?_; (first | done | rfl | (simp only [inR]; done) | (simp_all [inR, -List.getElem_cons_drop]; done) | (simp_all [inR, -List.getElem_cons_drop]; omega) | omega))
      | (refine Ev.is ?_; (first | done | rfl | (simp only [inR]; done) | (simp_all [inR, -List.getElem_cons_drop]; done) | (simp_all [inR, -List.getElem_cons_drop]; omega) | omega))
      | (exfalso; first | omega | (simp_all; done) | (simp_all; omega))
theorem l1All_f (xs : List Int) (lo up : Int) (hx : xs.length ≤ 4294967296) : Ev (fun k => spec_l1All.f k xs lo up) (inR lo up xs) := by
  unfold spec_l1All.f
  exact l1All_l0 xs lo up hx 0 (by omega)
/-! spec_rpGood -/
/-- One row of a report that is valid. -/
def rowOk (rows : List S81) (w : Int) (i : Nat) : Bool :=
  nameOk (rd_T81 rows i).f0 && (decide (rowIx (rd_T81 rows i).f0 rows 0 = (i : Int)) && (decide (((rd_T81 rows i).f1.length : Int) = w) && inR (-1000000000) 1000000000 (rd_T81 rows i).f1))
def rowsFrom (rows : List S81) (w : Int) : Nat → Nat → Bool
  | _, 0 => true
  | i, n + 1 => rowOk rows w i && rowsFrom rows w (i + 1) n
def headOk (t : ByteArray) (w : Int) (rows : List S81) : Bool := nameOk t && (decide (1 ≤ w ∧ w ≤ 8) && decide ((rows.length : Int) ≤ 40))
def repOk (t : ByteArray) (w : Int) (rows : List S81) : Bool := rowsFrom rows w 0 rows.length && headOk t w rows
/-- What is asked of a report's sizes. -/
def RepB (t : ByteArray) (rows : List S81) : Prop := t.size ≤ 4294967296 ∧ (rows.length ≤ 4294967296 ∧ ∀ x_ ∈ rows, (x_.f0.size ≤ 4294967296 ∧ (x_.f1.length ≤ 4294967296)))
theorem rpGood_l0 (t : ByteArray) (w : Int) (rows : List S81) (hb : RepB t rows) : ∀ i, i ≤ rows.length → Ev (fun k => spec_rpGood.l0 k rows rows.length i t w rows) (rowsFrom rows w i (rows.length - i) && headOk t w rows) := by
  obtain ⟨ht, hx, hr⟩ := hb
  refine down ?_ ?_
  · refine Ev.step (fun k => by rw [spec_rpGood.l0]) (Ev.neg (by omega) ?_)
    rw [Nat.sub_self, rowsFrom, Bool.true_and, l1In_f]
    unfold headOk
    refine Ev.bind (rpName_f t ht) (Ev.cases (fun h => Ev.sb (Ev.cases (fun h2 => Ev.is ?_) (fun h2 => Ev.is ?_))) (fun h => Ev.is ?_))
    · rw [h, h2]; simp
    · simp at h2; symm; simp; intros; omega
    · simp [h]
  · intro i hi ih
    have hm := hr _ (List.getElem_mem hi)
    have hv : rowsFrom rows w i (rows.length - i) = (rowOk rows w i && rowsFrom rows w (i + 1) (rows.length - (i + 1))) := by
      rw [show rows.length - i = (rows.length - (i + 1)) + 1 from by omega, rowsFrom]
    rw [hv]
    refine Ev.step (fun k => by rw [spec_rpGood.l0]) ?_
    unfold rowOk
    rw [rdT81 _ _ hi, wrap_nat (by omega)]
    generalize rowsFrom rows w (i + 1) (rows.length - (i + 1)) = v at *
    refine Ev.pos (by omega) (Ev.pos (by omega) (Ev.pos (by omega) (Ev.bind (rpName_f _ hm.1) (Ev.cases (fun h => ?_) (fun h => Ev.is (by simp [h]))))))
    refine Ev.bind (rpRow_f _ _ _ _ hx) (Ev.cases (fun h2 => Ev.cases (fun h3 => ?_) (fun h3 => Ev.is (by simp [h3]))) (fun h2 => Ev.is (by simp [h2])))
    exact Ev.bind (l1All_f _ _ _ hm.2) (Ev.cases (fun h4 => Ev.eqr ih (by simp [h, h2, h3, h4])) (fun h4 => Ev.is (by simp [h4])))
theorem rpGood_f (t : ByteArray) (w : Int) (rows : List S81) (hb : RepB t rows) : Ev (fun k => spec_rpGood.f k t w rows) (repOk t w rows) := by
  unfold spec_rpGood.f
  exact rpGood_l0 t w rows hb 0 (by omega)
theorem rowsFrom_at (rows : List S81) (w : Int) : ∀ (n i : Nat), rowsFrom rows w i n = true → ∀ j, i ≤ j → j < i + n → rowOk rows w j = true
  | 0, i, _, j, h1, h2 => by omega
  | n + 1, i, h, j, h1, h2 => by
    rw [rowsFrom, Bool.and_eq_true] at h
    by_cases e : j = i
    · subst e; exact h.1
    · exact rowsFrom_at rows w n (i + 1) h.2 j (by omega) (by omega)
theorem repOk_parts {t : ByteArray} {w : Int} {rows : List S81} (h : repOk t w rows = true) : nameOk t = true ∧ (1 ≤ w ∧ w ≤ 8) ∧ rows.length ≤ 40 ∧ ∀ x ∈ rows, nameOk x.f0 = true ∧ (x.f1.length : Int) = w ∧ ∀ y ∈ x.f1, -1000000000 ≤ y ∧ y ≤ 1000000000 := by
  unfold repOk headOk at h
  simp only [Bool.and_eq_true, decide_eq_true_eq] at h
  obtain ⟨h1, h2, h3, h4⟩ := h
  refine ⟨h2, h3, by omega, fun x hx => ?_⟩
  obtain ⟨i, hi, rfl⟩ := List.getElem_of_mem hx
  have h5 := rowsFrom_at rows w _ 0 h1 i (by omega) (by omega)
  unfold rowOk at h5
  rw [rdT81 _ _ hi] at h5
  simp only [Bool.and_eq_true, decide_eq_true_eq] at h5
  exact ⟨h5.1, h5.2.2.1, inR_mem h5.2.2.2⟩
/-! spec_l1Same -/
theorem spec_l1Same_l0 (xs ys : List Int) (hl : xs.length = ys.length) (hx : xs.length ≤ 4294967296) : ∀ i, i ≤ xs.length → Ev (fun k => spec_l1Same.l0 k xs ys xs.length i) (decide (xs.drop i = ys.drop i)) := by
  refine down ?_ ?_
  · refine Ev.step (fun k => by rw [spec_l1Same.l0]) (Ev.neg (by omega) (Ev.is ?_))
    rw [List.drop_length, hl, List.drop_length]
    simp
  · intro i hi ih
    have hi2 : i < ys.length := by omega
    refine Ev.step (fun k => by rw [spec_l1Same.l0]) ?_
    rw [rd_nat _ _ hi, rd_nat _ _ hi2, wrap_nat (by omega), drop_cons _ _ hi, drop_cons _ _ hi2]
    refine Ev.pos (by omega) (Ev.pos (by omega) (Ev.pos (by omega) (Ev.pos (by omega) (Ev.cases (fun c => Ev.eqr ih ?_) (fun c => Ev.is ?_)))))
    · simp only [List.cons.injEq, c, true_and]
    · simp only [List.cons.injEq, c, false_and, decide_false]
theorem spec_l1Same_ev (xs ys : List Int) (hx : xs.length ≤ 4294967296) : Ev (fun k => spec_l1Same.f k xs ys) (decide (xs = ys)) := by
  unfold spec_l1Same.f
  refine Ev.cases (fun c => ?_) (fun c => Ev.is ?_)
  · have := spec_l1Same_l0 xs ys (by omega) hx 0 (by omega)
    simpa using this
  · symm
    simp only [decide_eq_false_iff_not]
    rintro rfl
    exact c rfl
/-! spec_DifferRows -/
def dA (b : List S81) : List S81 → List ByteArray
  | [] => []
  | x :: l => if rowIx x.f0 b 0 < 0 then x.f0 :: dA b l else if (rd_T81 b (rowIx x.f0 b 0)).f1 = x.f1 then dA b l else x.f0 :: dA b l
def dB (a : List S81) : List S81 → List ByteArray
  | [] => []
  | x :: l => if rowIx x.f0 a 0 < 0 then x.f0 :: dB a l else dB a l
theorem dA_len (b : List S81) : ∀ l, (dA b l).length ≤ l.length
  | [] => by simp [dA]
  | x :: l => by
    have := dA_len b l
    rw [dA]
    split
    · simp; omega
    · split <;> simp <;> omega
theorem dB_len (a : List S81) : ∀ l, (dB a l).length ≤ l.length
  | [] => by simp [dB]
  | x :: l => by
    have := dB_len a l
    rw [dB]
    split <;> simp <;> omega
theorem dA_mem (b : List S81) : ∀ l, ∀ s ∈ dA b l, ∃ x ∈ l, x.f0 = s
  | [], s, h => by simp [dA] at h
  | x :: l, s, h => by
    rw [dA] at h
    have ih := dA_mem b l s
    split at h
    · rcases List.mem_cons.1 h with rfl | h
      · exact ⟨x, by simp, rfl⟩
      · obtain ⟨y, h1, h2⟩ := ih h
        exact ⟨y, by simp [h1], h2⟩
    · split at h
      · obtain ⟨y, h1, h2⟩ := ih h
        exact ⟨y, by simp [h1], h2⟩
      · rcases List.mem_cons.1 h with rfl | h
        · exact ⟨x, by simp, rfl⟩
        · obtain ⟨y, h1, h2⟩ := ih h
          exact ⟨y, by simp [h1], h2⟩
theorem dB_mem (a : List S81) : ∀ l, ∀ s ∈ dB a l, ∃ x ∈ l, x.f0 = s
  | [], s, h => by simp [dB] at h
  | x :: l, s, h => by
    rw [dB] at h
    have ih := dB_mem a l s
    split at h
    · rcases List.mem_cons.1 h with rfl | h
      · exact ⟨x, by simp, rfl⟩
      · obtain ⟨y, h1, h2⟩ := ih h
        exact ⟨y, by simp [h1], h2⟩
    · obtain ⟨y, h1, h2⟩ := ih h
      exact ⟨y, by simp [h1], h2⟩
def diffOut (t : ByteArray) (w : Int) (a : List S81) (t2 : ByteArray) (w2 : Int) (b : List S81) : List ByteArray × Bool :=
  if repOk t w a = true ∧ repOk t2 w2 b = true then (dA b a ++ dB a b, true) else ([], false)
theorem spec_DifferRows_l1e (t : ByteArray) (w : Int) (a b : List S81) (ha : a.length ≤ 40) (hb : b.length ≤ 40) : ∀ i, i ≤ b.length → ∀ acc : List ByteArray, acc.length ≤ 40 + i → Ev (fun k => spec_DifferRows.l1 k acc b b.length i t w a) (acc ++ dB a (b.drop i), true) := by
  refine down ?_ ?_
  · intro acc hc
    refine Ev.step (fun k => by rw [spec_DifferRows.l1]) (Ev.neg (by omega) (Ev.is ?_))
    rw [List.drop_length, dB, List.append_nil]
  · intro i hi ih acc hc
    refine Ev.step (fun k => by rw [spec_DifferRows.l1]) ?_
    rw [rdT81 _ _ hi, wrap_nat (by omega), drop_cons _ _ hi, dB]
    refine Ev.pos (by omega) (Ev.pos (by omega) (Ev.pos (by omega) (Ev.bind (rpRow_f t w _ a (by omega)) (Ev.cases (fun c => Ev.pos (by omega) (Ev.eqr (ih _ (by simp; omega)) ?_)) (fun c => Ev.eqr (ih _ (by omega)) ?_)))))
    · rw [if_pos c, List.append_assoc, List.singleton_append]
    · rw [if_neg c]
theorem spec_DifferRows_l0e (t : ByteArray) (w : Int) (a : List S81) (t2 : ByteArray) (w2 : Int) (b : List S81) (ha : a.length ≤ 40) (hb : b.length ≤ 40) (hxa : ∀ x ∈ a, x.f1.length ≤ 4294967296) (hxb : ∀ x ∈ b, x.f1.length ≤ 4294967296) :
    ∀ i, i ≤ a.length → ∀ acc : List ByteArray, acc.length ≤ i → Ev (fun k => spec_DifferRows.l0 k acc a a.length i t w a t2 w2 b) (acc ++ dA b (a.drop i) ++ dB a b, true) := by
  refine down ?_ ?_
  · intro acc hc
    refine Ev.step (fun k => by rw [spec_DifferRows.l0]) (Ev.neg (by omega) ?_)
    rw [List.drop_length, dA, List.append_nil]
    have := spec_DifferRows_l1e t w a b ha hb 0 (by omega) acc (by omega)
    rw [List.drop_zero] at this
    exact this
  · intro i hi ih acc hc
    have hm := hxa _ (List.getElem_mem hi)
    refine Ev.step (fun k => by rw [spec_DifferRows.l0]) ?_
    rw [rdT81 _ _ hi, wrap_nat (by omega), drop_cons _ _ hi, dA]
    refine Ev.pos (by omega) (Ev.pos (by omega) (Ev.pos (by omega) (Ev.bind (rpRow_f t2 w2 _ b (by omega)) (Ev.cases (fun c => Ev.pos (by omega) (Ev.eqr (ih _ (by simp; omega)) ?_)) (fun c => ?_)))))
    · rw [if_pos c, List.append_assoc acc, List.singleton_append]
    · rw [if_neg c]
      have e0 : 0 ≤ rowIx a[i].f0 b 0 := by omega
      obtain ⟨q, hq⟩ := Int.eq_ofNat_of_zero_le e0
      rw [hq]
      have h2 : q < b.length := by rcases rowIx_ge (nm := a[i].f0) b 0 with h | h <;> omega
      have hm2 := hxb _ (List.getElem_mem h2)
      rw [rdT81 _ _ h2]
      refine Ev.pos (by omega) (Ev.pos (by omega) (Ev.bind (spec_l1Same_ev _ _ hm) (Ev.cases (fun d => Ev.eqr (ih _ (by omega)) ?_) (fun d => Ev.pos (by omega) (Ev.eqr (ih _ (by simp; omega)) ?_)))))
      · rw [decide_eq_true_eq] at d
        rw [if_pos d.symm]
      · rw [decide_eq_true_eq] at d
        rw [if_neg (fun e => d e.symm), List.append_assoc acc, List.singleton_append]
theorem spec_DifferRows_e (t : ByteArray) (w : Int) (a : List S81) (t2 : ByteArray) (w2 : Int) (b : List S81) (ha : RepB t a) (hb : RepB t2 b) : Ev (fun k => spec_DifferRows.f k t w a t2 w2 b) (diffOut t w a t2 w2 b) := by
  unfold spec_DifferRows.f diffOut
  refine Ev.bind (rpGood_f t w a ha) (Ev.cases (fun c => Ev.bind (rpGood_f t2 w2 b hb) ?_) (fun c => ?_))
  · obtain ⟨_, hw, hr, hx⟩ := repOk_parts c
    refine Ev.step (fun k => by rw [spec_DifferRows.j0]) (Ev.cases (fun d => Ev.is ?_) (fun d => ?_))
    · rw [if_neg]
      rintro ⟨_, h⟩
      rw [h] at d
      cases d
    · have c2 : repOk t2 w2 b = true := by simpa using d
      obtain ⟨_, hw2, hr2, hx2⟩ := repOk_parts c2
      rw [if_pos ⟨c, c2⟩]
      have := spec_DifferRows_l0e t w a t2 w2 b hr hr2 (fun x h => (ha.2.2 x h).2) (fun x h => (hb.2.2 x h).2) 0 (by omega) [] (by simp)
      rw [List.drop_zero, List.nil_append] at this
      exact this
  · refine Ev.step (fun k => by rw [spec_DifferRows.j0]) (Ev.pos rfl (Ev.is ?_))
    rw [if_neg (fun h => c h.1)]
/-! impl_rowNamed -/
theorem rowNamed_l0 (nm : ByteArray) (xs : List S81) (hx : xs.length ≤ 4294967296) : ∀ i, i ≤ xs.length → Ev (fun k => impl_rowNamed.l0 k nm xs xs.length i) (rowIx nm (xs.drop i) i) := by
  refine down ?_ ?_
  · refine Ev.step (fun k => by rw [impl_rowNamed.l0]) (Ev.neg (by omega) (Ev.is (by rw [List.drop_length]; rfl)))
  · intro i hi ih
    refine Ev.step (fun k => by rw [impl_rowNamed.l0]) ?_
    rw [rdT81 _ _ hi, wrap_nat (by omega), drop_cons _ _ hi, rowIx]
    exact Ev.pos (by omega) (Ev.pos (by omega) (Ev.pos (by omega) (Ev.ite (fun _ => Ev.is rfl) (fun _ => ih))))
theorem rowNamed_f (nm : ByteArray) (xs : List S81) (hx : xs.length ≤ 4294967296) : Ev (fun k => impl_rowNamed.f k xs nm) (rowIx nm xs 0) := by
  unfold impl_rowNamed.f
  exact rowNamed_l0 nm xs hx 0 (by omega)
/-! impl_isName -/
theorem isName_l0 (s : ByteArray) (hs : s.size ≤ 4294967296) : ∀ i, i ≤ (bytesOf s).length → Ev (fun k => impl_isName.l0 k s i) (((bytesOf s).drop i).all chOk && decide (1 ≤ s.size ∧ s.size ≤ 12)) := by
  have hl := bytes_len s
  refine down ?_ ?_
  · refine Ev.step (fun k => by rw [impl_isName.l0]) (Ev.neg (by omega) ?_)
    rw [List.drop_length, List.all_nil, Bool.true_and]
    refine Ev.cases (fun h => Ev.is ?_) (fun h => Ev.is ?_)
    · congr 1; simp; omega
    · symm; simp; omega
  · intro i hi ih
    refine Ev.step (fun k => by rw [impl_isName.l0]) ?_
    rw [bt_nat _ _ hi, wrap_nat (by omega), drop_cons _ _ hi, List.all_cons]
    generalize ((bytesOf s).drop (i + 1)).all chOk = v at *
    refine Ev.pos (by omega) (Ev.pos (by omega) ?_)
    repeat' (first | (with_reducible refine Ev.cases (fun _ => ?_) (fun _ => ?_)))
    all_goals first
      | (refine Ev.eqr ih ?_; have : chOk (bytesOf s)[i] = true := by (simp [chOk]; omega)
         rw [this, Bool.true_and])
      | (refine Ev.is ?_; have : chOk (bytesOf s)[i] = false := by (simp [chOk]; omega)
         rw [this, Bool.false_and, Bool.false_and])
theorem isName_f (s : ByteArray) (hs : s.size ≤ 4294967296) : Ev (fun k => impl_isName.f k s) (nameOk s) := by
  unfold impl_isName.f
  exact isName_l0 s hs 0 (by omega)
/-! impl_isReported -/
theorem isReported_f (a : Int) : impl_isReported.f a = some (decide (-1000000000 ≤ a ∧ a ≤ 1000000000)) := by
  unfold impl_isReported.f
  by_cases h : a ≥ -1000000000
  · rw [if_pos h]; congr 1; simp; omega
  · rw [if_neg h]; congr 1; simp; omega
/-! impl_IsReport -/
theorem IsReport_l1 (t : ByteArray) (w : Int) (rows : List S81) (xs : List Int) (hx : xs.length ≤ 4294967296) (i : Int) (v : Bool) (hv : Ev (fun k => impl_IsReport.l0 k rows rows.length (wrap64 (i + 1)) t w rows) v) :
    ∀ j, j ≤ xs.length → Ev (fun k => impl_IsReport.l1 k rows rows.length i xs xs.length j t w rows) (inR (-1000000000) 1000000000 (xs.drop j) && v) := by
  refine down ?_ ?_
  · refine Ev.step (fun k => by rw [impl_IsReport.l1]) (Ev.neg (by omega) ?_)
    rw [List.drop_length, inR, Bool.true_and]
    exact hv
  · intro j hj ih
    refine Ev.step (fun k => by rw [impl_IsReport.l1]) ?_
    rw [rd_nat _ _ hj, isReported_f, drop_cons _ _ hj, wrap_nat (i := j) (by omega), inR]
    exact Ev.pos (by omega) (Ev.pos (by omega) (Ev.pos (by omega) (Ev.sb (Ev.cases (fun h => Ev.eqr ih (by simp [h])) (fun h => Ev.is (by simp [h]))))))
theorem IsReport_l0 (t : ByteArray) (w : Int) (rows : List S81) (hb : RepB t rows) : ∀ i, i ≤ rows.length → Ev (fun k => impl_IsReport.l0 k rows rows.length i t w rows) (rowsFrom rows w i (rows.length - i)) := by
  obtain ⟨ht, hx, hr⟩ := hb
  refine down ?_ ?_
  · refine Ev.step (fun k => by rw [impl_IsReport.l0]) (Ev.neg (by omega) (Ev.is ?_))
    rw [Nat.sub_self, rowsFrom]
  · intro i hi ih
    have hm := hr _ (List.getElem_mem hi)
    have hv : rowsFrom rows w i (rows.length - i) = (rowOk rows w i && rowsFrom rows w (i + 1) (rows.length - (i + 1))) := by
      rw [show rows.length - i = (rows.length - (i + 1)) + 1 from by omega, rowsFrom]
    rw [hv]
    refine Ev.step (fun k => by rw [impl_IsReport.l0]) ?_
    unfold rowOk
    rw [rdT81 _ _ hi, Int.toNat_natCast]
    rw [← wrap_nat (by omega)] at ih
    have hl := IsReport_l1 t w rows rows[i].f1 hm.2 i _ ih 0 (by omega)
    rw [List.drop_zero] at hl
    have no : Ev (fun k => impl_IsReport.j2 k rows rows.length i true t w rows rows[i].f0 rows[i].f1) false := Ev.step (fun k => by rw [impl_IsReport.j2]) (Ev.pos rfl (Ev.is rfl))
    have yes : Ev (fun k => impl_IsReport.j2 k rows rows.length i false t w rows rows[i].f0 rows[i].f1) (inR (-1000000000) 1000000000 rows[i].f1 && rowsFrom rows w (i + 1) (rows.length - (i + 1))) := by
      refine Ev.step (fun k => by rw [impl_IsReport.j2]) (Ev.neg (by simp) ?_)
      exact hl
    generalize rowsFrom rows w (i + 1) (rows.length - (i + 1)) = v at *
    refine Ev.pos (by omega) (Ev.pos (by omega) (Ev.pos (by omega) (Ev.bind (isName_f _ hm.1) (Ev.cases (fun h => ?_) (fun h => Ev.eqr no (by simp [h]))))))
    refine Ev.cases (fun h3 => Ev.pos (by omega) (Ev.bind (rowNamed_f _ _ (by simp; omega)) ?_)) (fun h3 => Ev.eqr no (by simp [h3]))
    have at_ := rowIx_at rows i hi
    by_cases h2 : rowIx rows[i].f0 (rows.take i) 0 ≥ 0
    · rw [decide_eq_true h2]
      have : ¬ rowIx rows[i].f0 rows 0 = (i : Int) := fun e => (at_.1 e) h2
      exact Ev.eqr no (by simp [this])
    · rw [decide_eq_false h2]
      have := at_.2 h2
      exact Ev.eqr yes (by simp [this, h, h3])
theorem implIsReport_f (t : ByteArray) (w : Int) (rows : List S81) (hb : RepB t rows) : Ev (fun k => impl_IsReport.f k t w rows) (repOk t w rows) := by
  have no : Ev (fun k => impl_IsReport.j0 k true t w rows) false := Ev.step (fun k => by rw [impl_IsReport.j0]) (Ev.pos rfl (Ev.is rfl))
  have l0 := IsReport_l0 t w rows hb 0 (by omega)
  have yes : Ev (fun k => impl_IsReport.j0 k false t w rows) (rowsFrom rows w 0 (rows.length - 0)) := by
    refine Ev.step (fun k => by rw [impl_IsReport.j0]) (Ev.neg (by simp) ?_)
    exact l0
  unfold impl_IsReport.f repOk headOk
  rw [Nat.sub_zero] at yes
  generalize rowsFrom rows w 0 rows.length = v at *
  refine Ev.bind (isName_f t hb.1) (Ev.cases (fun h => ?_) (fun h => Ev.eqr no (by simp [h])))
  refine Ev.cases (fun h2 => Ev.eqr no ?_) (fun h2 => Ev.cases (fun h3 => Ev.eqr no ?_) (fun h3 => ?_))
  · symm; simp; intros; omega
  · symm; simp; intros; omega
  · have e : 1 ≤ w ∧ w ≤ 8 := by omega
    by_cases h4 : (rows.length : Int) > 40
    · rw [decide_eq_true h4]
      exact Ev.eqr no (by symm; simp; intros; omega)
    · rw [decide_eq_false h4]
      have : (rows.length : Int) ≤ 40 := by omega
      exact Ev.eqr yes (by simp [h, e, this])
/-! slices_Equal_int_int -/
theorem slices_Equal_int_int_l0 (xs ys : List Int) (hl : xs.length = ys.length) (hx : xs.length ≤ 4294967296) : ∀ i, i ≤ xs.length → Ev (fun k => slices_Equal_int_int.l0 k xs ys xs.length i) (decide (xs.drop i = ys.drop i)) := by
  refine down ?_ ?_
  · refine Ev.step (fun k => by rw [slices_Equal_int_int.l0]) (Ev.neg (by omega) (Ev.is ?_))
    rw [List.drop_length, hl, List.drop_length]
    simp
  · intro i hi ih
    have hi2 : i < ys.length := by omega
    refine Ev.step (fun k => by rw [slices_Equal_int_int.l0]) ?_
    rw [rd_nat _ _ hi, rd_nat _ _ hi2, wrap_nat (by omega), drop_cons _ _ hi, drop_cons _ _ hi2]
    refine Ev.pos (by omega) (Ev.pos (by omega) (Ev.pos (by omega) (Ev.pos (by omega) (Ev.cases (fun c => Ev.eqr ih ?_) (fun c => Ev.is ?_)))))
    · simp only [List.cons.injEq, c, true_and]
    · simp only [List.cons.injEq, c, false_and, decide_false]
theorem slices_Equal_int_int_ev (xs ys : List Int) (hx : xs.length ≤ 4294967296) : Ev (fun k => slices_Equal_int_int.f k xs ys) (decide (xs = ys)) := by
  unfold slices_Equal_int_int.f
  refine Ev.cases (fun c => ?_) (fun c => Ev.is ?_)
  · have := slices_Equal_int_int_l0 xs ys (by omega) hx 0 (by omega)
    simpa using this
  · symm
    simp only [decide_eq_false_iff_not]
    rintro rfl
    exact c rfl
/-! impl_DifferRows -/
theorem impl_DifferRows_l1e (t : ByteArray) (w : Int) (a b : List S81) (ha : a.length ≤ 40) (hb : b.length ≤ 40) : ∀ i, i ≤ b.length → ∀ acc : List ByteArray, acc.length ≤ 40 + i → Ev (fun k => impl_DifferRows.l1 k acc b b.length i t w a) (acc ++ dB a (b.drop i), true) := by
  refine down ?_ ?_
  · intro acc hc
    refine Ev.step (fun k => by rw [impl_DifferRows.l1]) (Ev.neg (by omega) (Ev.is ?_))
    rw [List.drop_length, dB, List.append_nil]
  · intro i hi ih acc hc
    refine Ev.step (fun k => by rw [impl_DifferRows.l1]) ?_
    rw [rdT81 _ _ hi, wrap_nat (by omega), drop_cons _ _ hi, dB]
    refine Ev.pos (by omega) (Ev.pos (by omega) (Ev.pos (by omega) (Ev.bind (rowNamed_f _ a (by omega)) (Ev.cases (fun c => Ev.pos (by omega) (Ev.eqr (ih _ (by simp; omega)) ?_)) (fun c => Ev.eqr (ih _ (by omega)) ?_)))))
    · rw [if_pos c, List.append_assoc, List.singleton_append]
    · rw [if_neg c]
theorem impl_DifferRows_l0e (t : ByteArray) (w : Int) (a : List S81) (t2 : ByteArray) (w2 : Int) (b : List S81) (ha : a.length ≤ 40) (hb : b.length ≤ 40) (hxa : ∀ x ∈ a, x.f1.length ≤ 4294967296) (hxb : ∀ x ∈ b, x.f1.length ≤ 4294967296) :
    ∀ i, i ≤ a.length → ∀ acc : List ByteArray, acc.length ≤ i → Ev (fun k => impl_DifferRows.l0 k acc a a.length i t w a t2 w2 b) (acc ++ dA b (a.drop i) ++ dB a b, true) := by
  refine down ?_ ?_
  · intro acc hc
    refine Ev.step (fun k => by rw [impl_DifferRows.l0]) (Ev.neg (by omega) ?_)
    rw [List.drop_length, dA, List.append_nil]
    have := impl_DifferRows_l1e t w a b ha hb 0 (by omega) acc (by omega)
    rw [List.drop_zero] at this
    exact this
  · intro i hi ih acc hc
    have hm := hxa _ (List.getElem_mem hi)
    refine Ev.step (fun k => by rw [impl_DifferRows.l0]) ?_
    rw [rdT81 _ _ hi, wrap_nat (by omega), drop_cons _ _ hi, dA]
    refine Ev.pos (by omega) (Ev.pos (by omega) (Ev.pos (by omega) (Ev.bind (rowNamed_f _ b (by omega)) (Ev.cases (fun c => Ev.pos (by omega) (Ev.eqr (ih _ (by simp; omega)) ?_)) (fun c => ?_)))))
    · rw [if_pos c, List.append_assoc acc, List.singleton_append]
    · rw [if_neg c]
      have e0 : 0 ≤ rowIx a[i].f0 b 0 := by omega
      obtain ⟨q, hq⟩ := Int.eq_ofNat_of_zero_le e0
      rw [hq]
      have h2 : q < b.length := by rcases rowIx_ge (nm := a[i].f0) b 0 with h | h <;> omega
      have hm2 := hxb _ (List.getElem_mem h2)
      rw [rdT81 _ _ h2]
      refine Ev.pos (by omega) (Ev.pos (by omega) (Ev.bind (slices_Equal_int_int_ev _ _ hm2) (Ev.cases (fun d => Ev.eqr (ih _ (by omega)) ?_) (fun d => Ev.pos (by omega) (Ev.eqr (ih _ (by simp; omega)) ?_)))))
      · rw [decide_eq_true_eq] at d
        rw [if_pos d]
      · rw [decide_eq_true_eq] at d
        rw [if_neg d, List.append_assoc acc, List.singleton_append]
theorem impl_DifferRows_e (t : ByteArray) (w : Int) (a : List S81) (t2 : ByteArray) (w2 : Int) (b : List S81) (ha : RepB t a) (hb : RepB t2 b) : Ev (fun k => impl_DifferRows.f k t w a t2 w2 b) (diffOut t w a t2 w2 b) := by
  unfold impl_DifferRows.f diffOut
  refine Ev.bind (implIsReport_f t w a ha) (Ev.cases (fun c => Ev.bind (implIsReport_f t2 w2 b hb) ?_) (fun c => ?_))
  · obtain ⟨_, hw, hr, hx⟩ := repOk_parts c
    refine Ev.step (fun k => by rw [impl_DifferRows.j0]) (Ev.cases (fun d => Ev.is ?_) (fun d => ?_))
    · rw [if_neg]
      rintro ⟨_, h⟩
      rw [h] at d
      cases d
    · have c2 : repOk t2 w2 b = true := by simpa using d
      obtain ⟨_, hw2, hr2, hx2⟩ := repOk_parts c2
      rw [if_pos ⟨c, c2⟩]
      have := impl_DifferRows_l0e t w a t2 w2 b hr hr2 (fun x h => (ha.2.2 x h).2) (fun x h => (hb.2.2 x h).2) 0 (by omega) [] (by simp)
      rw [List.drop_zero, List.nil_append] at this
      exact this
  · refine Ev.step (fun k => by rw [impl_DifferRows.j0]) (Ev.pos rfl (Ev.is ?_))
    rw [if_neg (fun h => c h.1)]
/-! laws_eqStringS -/
theorem laws_eqStringS_l0 (xs : List (ByteArray)) (hx : xs.length ≤ 4294967296) (hb : ∀ x_ ∈ xs, x_.size ≤ 4294967296) : ∀ i, i ≤ xs.length → Ev (fun k => laws_eqStringS.l0 k xs xs i) true := by
  refine down ?_ ?_
  · refine Ev.step (fun k => by rw [laws_eqStringS.l0]) ?_
    exact Ev.neg (by omega) (Ev.is rfl)
  · intro i hi ih
    refine Ev.step (fun k => by rw [laws_eqStringS.l0]) ?_
    rw [rdOf_nat _ _ _ hi, wrap_nat (by omega)]
    refine Ev.pos (by omega) (Ev.pos (by omega) (Ev.pos (by omega) (Ev.pos rfl ih)))
theorem laws_eqStringS_ev (xs : List (ByteArray)) (hb : (xs.length ≤ 4294967296 ∧ ∀ x_ ∈ xs, x_.size ≤ 4294967296)) : Ev (fun k => laws_eqStringS.f k xs xs) true := by
  unfold laws_eqStringS.f
  exact Ev.pos rfl (laws_eqStringS_l0 xs hb.1 hb.2 0 (by omega))

/-! laws_markStringS -/
noncomputable def ruleM (a : Int) : Nat → ByteArray := fun j => mtx (a + (j : Int))
theorem markStringS_l0 (xs : List ByteArray) (a : Int) (h0 : 0 ≤ a) (h1 : a + xs.length ≤ 1099511627776) : ∀ i, i ≤ xs.length → Ev (fun k => laws_markStringS.l0 k (rule (ruleM a) i ++ xs.drop i) (a + (i : Int)) i) (a + (xs.length : Int), rule (ruleM a) xs.length) := by
  refine down ?_ ?_
  · refine Ev.step (fun k => by rw [laws_markStringS.l0]) ?_
    refine Ev.neg (by rw [len_mid _ _ _ (rule_len _ _) (Nat.le_refl _)]; omega) (Ev.is (by rw [List.drop_length, List.append_nil]))
  · intro i hi ih
    have hl := len_mid (rule (ruleM a) i) xs i (rule_len _ _) (by omega)
    refine Ev.step (fun k => by rw [laws_markStringS.l0]) ?_
    refine Ev.pos (by omega) (Ev.bind (laws_markText_ev (a + (i : Int)) (by omega) (by omega)) (Ev.pos (by omega) ?_))
    rw [Int.toNat_natCast, set_mid _ _ _ _ (rule_len _ _) hi, wrap_nat (by omega), wrap_id (x := a + (i : Int) + 1) (by omega) (by omega), show a + (i : Int) + 1 = a + ((i + 1 : Nat) : Int) from by omega]
    rw [rule_succ] at ih
    exact ih
theorem laws_markStringS_ev (xs : List ByteArray) (a : Int) (h0 : 0 ≤ a) (h1 : a + xs.length ≤ 1099511627776) : Ev (fun k => laws_markStringS.f k xs a) (a + (xs.length : Int), rule (ruleM a) xs.length) := by
  have := markStringS_l0 xs a h0 h1 0 (by omega)
  unfold laws_markStringS.f
  simpa [rule] using this
/-! laws_heldStringS -/
theorem heldStringS_l0 (n : Nat) (a : Int) (h0 : 0 ≤ a) (h1 : a + n ≤ 1099511627776) : ∀ i, i ≤ n → Ev (fun k => laws_heldStringS.l0 k (rule (ruleM a) n) (a + (i : Int)) i) (a + (n : Int)) := by
  have hl := rule_len (ruleM a) n
  refine down ?_ ?_
  · refine Ev.step (fun k => by rw [laws_heldStringS.l0]) ?_
    exact Ev.neg (by omega) (Ev.is rfl)
  · intro i hi ih
    refine Ev.step (fun k => by rw [laws_heldStringS.l0]) ?_
    rw [rdOf_nat _ _ _ (by omega), rule_get, wrap_nat (by omega), wrap_id (x := a + (i : Int) + 1) (by omega) (by omega), show a + (i : Int) + 1 = a + ((i + 1 : Nat) : Int) from by omega]
    exact Ev.pos (by omega) (Ev.pos (by omega) (Ev.bind (laws_markText_ev (a + (i : Int)) (by omega) (by omega)) (Ev.pos rfl ih)))
theorem laws_heldStringS_ev (n : Nat) (a : Int) (h0 : 0 ≤ a) (h1 : a + n ≤ 1099511627776) : Ev (fun k => laws_heldStringS.f k (rule (ruleM a) n) a) (a + (n : Int)) := by
  have := heldStringS_l0 n a h0 h1 0 (by omega)
  unfold laws_heldStringS.f
  simpa using this
/-! the two answers are one -/
-- lists: 1
theorem DifferRows_core (t : ByteArray) (w : Int) (a : List S133) (t2 : ByteArray) (w2 : Int) (b : List S133) (b0 : t.size ≤ 4294967296) (b1 : a.length ≤ 4294967296 ∧ ∀ x_ ∈ a, (x_.f0.size ≤ 4294967296 ∧ (x_.f1.length ≤ 4294967296)))
    (b2 : t2.size ≤ 4294967296) (b3 : b.length ≤ 4294967296 ∧ ∀ x_ ∈ b, (x_.f0.size ≤ 4294967296 ∧ (x_.f1.length ≤ 4294967296))) :
    ∃ r : List ByteArray × Bool, Ev (fun k => spec_DifferRows.f k t w (a.map cv133) t2 w2 (b.map cv133)) r ∧ Ev (fun k => impl_DifferRows.f k t w (a.map cv133) t2 w2 (b.map cv133)) r ∧ (r.1.length ≤ 4294967296 ∧ ∀ x_ ∈ r.1, x_.size ≤ 4294967296) := by
  have ha : RepB t (a.map cv133) := ⟨b0, cvb133 a b1⟩
  have hb : RepB t2 (b.map cv133) := ⟨b2, cvb133 b b3⟩
  refine ⟨_, spec_DifferRows_e _ _ _ _ _ _ ha hb, impl_DifferRows_e _ _ _ _ _ _ ha hb, ?_⟩
  unfold diffOut
  split
  · rename_i c
    have h1 := (repOk_parts c.1).2.2.1
    have h2 := (repOk_parts c.2).2.2.1
    have l1 := dA_len (b.map cv133) (a.map cv133)
    have l2 := dB_len (a.map cv133) (b.map cv133)
    refine ⟨?_, fun s hs => ?_⟩
    · show (_ ++ _ : List ByteArray).length ≤ _
      rw [List.length_append]
      omega
    · rcases List.mem_append.1 hs with h | h
      · obtain ⟨x, hx, rfl⟩ := dA_mem _ _ s h
        exact (ha.2.2 x hx).1
      · obtain ⟨x, hx, rfl⟩ := dB_mem _ _ s h
        exact (hb.2.2 x hx).1
  · exact ⟨by simp, fun s hs => by simp at hs⟩
theorem FnExactDifferRows : SFnExactDifferRows.Pure := by
  intro a0_0 a0_1 l0_2 a1_0 a1_1 l1_2 ha0_0 ha0_1 hl0_2 ha1_0 ha1_1 hl1_2
  suffices h : Ev (fun k => laws_FnExactDifferRows.f k a0_0 a0_1 l0_2 a1_0 a1_1 l1_2) true from Ev.rounds h
  unfold laws_FnExactDifferRows.f
  obtain ⟨r0, e0, u0, w0⟩ := laws_szReport_ev a0_0 a0_1 l0_2 1048576 ha0_0 ⟨hl0_2.1, fun x hx => ⟨(hl0_2.2 x hx).1, (hl0_2.2 x hx).2.1⟩⟩ (by omega) (by omega)
  refine Ev.bind e0 (Ev.cases (fun _ => Ev.is rfl) (fun g0 => ?_))
  obtain ⟨b_a0_0, b_l0_2⟩ := w0 (by omega)
  have t_l0_2 := laws_szReport_tot a0_0 a0_1 l0_2 1048576 r0 ha0_0 ⟨hl0_2.1, fun x hx => ⟨(hl0_2.2 x hx).1, (hl0_2.2 x hx).2.1⟩⟩ (by omega) (by omega) e0 (by omega)
  obtain ⟨r1, e1, u1, w1⟩ := laws_szReport_ev a1_0 a1_1 l1_2 r0 ha1_0 ⟨hl1_2.1, fun x hx => ⟨(hl1_2.2 x hx).1, (hl1_2.2 x hx).2.1⟩⟩ (by omega) (by omega)
  refine Ev.bind e1 (Ev.cases (fun _ => Ev.is rfl) (fun g1 => ?_))
  obtain ⟨b_a1_0, b_l1_2⟩ := w1 (by omega)
  have t_l1_2 := laws_szReport_tot a1_0 a1_1 l1_2 r0 r1 ha1_0 ⟨hl1_2.1, fun x hx => ⟨(hl1_2.2 x hx).1, (hl1_2.2 x hx).2.1⟩⟩ (by omega) (by omega) e1 (by omega)
  obtain ⟨res, s, m, bd⟩ := DifferRows_core a0_0 a0_1 l0_2 a1_0 a1_1 l1_2 b_a0_0 b_l0_2 b_a1_0 b_l1_2
  have c_l0_2 := cvb133 l0_2 b_l0_2
  have c_l1_2 := cvb133 l1_2 b_l1_2
  repeat' (first
    | (with_reducible exact Ev.is rfl)
    | (with_reducible refine Ev.bind (s) ?_)
    | (with_reducible refine Ev.bind (m) ?_)
    | (with_reducible refine Ev.bind (laws_toReport_ev _ _ _ (by assumption) (by assumption)) ?_)
    | (with_reducible refine Ev.bind (laws_eqReport_ev _ _ _ (by assumption) (by assumption)) ?_)
    | (with_reducible refine Ev.bind (laws_markReport_ev _ _ _ _ (by (try dsimp only); omega) (by (try dsimp only); omega) (by assumption)) ?_)
    | (with_reducible refine Ev.bind (laws_eqStringS_ev _ (by assumption)) ?_)
    | (with_reducible refine Ev.bind (laws_markStringS_ev _ _ (by (try dsimp only); omega) (by (try dsimp only); omega)) ?_)
    | (with_reducible refine Ev.bind (laws_heldStringS_ev _ _ (by (try dsimp only); omega) (by (try dsimp only); omega)) ?_)
    | (with_reducible refine Ev.sb ?_)
    | (with_reducible refine Ev.pos rfl ?_)
    | (with_reducible refine Ev.neg ?hc ?_; case hc => (first | omega | (simp; done)))
    | (with_reducible refine Ev.pos ?hc ?_; case hc => (first | omega | (simp; done)))
    | (refine Ev.step (fun k => by rw [laws_FnExactDifferRows.j0]) ?_)
    | (refine Ev.step (fun k => by rw [laws_FnExactDifferRows.j1]) ?_)
    | (refine Ev.step (fun k => by rw [laws_FnExactDifferRows.j2]) ?_))

end Go.Proofs.Ytpfjjheognelhaa.Pure
