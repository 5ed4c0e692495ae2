/- FnExactSumRow: the pure statement, a law of numbers and lists alone, is proved. -/
import Derived.Test.YtoaefflonebgkaaSFnExactSumRow
import Derived.Test.YtoaefflonebgkaaMa
namespace Go.Proofs.Ytoaefflonebgkaa.Pure
open Go.RowKit Go.Proofs.Ytoaefflonebgkaa.PFnExactSumRow Go.Proofs.YtoaefflonebgkaaW.PrintWords Go.Proofs.YtoaefflonebgkaaW.PrintLast Go.Proofs.YtoaefflonebgkaaW.PrintMore Go.Proofs.Ytoaefflonebgkaa.Ma Go.Proofs.Ytoaefflonebgkaa.SFnExactSumRow
set_option linter.unusedVariables false
set_option linter.unusedSimpArgs false
theorem rdT84 (xs : List S84) (i : Nat) (h : i < xs.length) : rd_T84 xs (i : Int) = xs[i] := getT_nat _ _ _ h
theorem rdT58 (xs : List S58) (i : Nat) (h : i < xs.length) : rd_T58 xs (i : Int) = xs[i] := getT_nat _ _ _ h
theorem rdT50 (xs : List S50) (i : Nat) (h : i < xs.length) : rd_T50 xs (i : Int) = xs[i] := getT_nat _ _ _ h
theorem rdL2 (xs : List (List Int)) (i : Nat) (h : i < xs.length) : rd_L2 xs (i : Int) = xs[i] := getT_nat _ _ _ h
theorem rdL6 (xs : List (List S58)) (i : Nat) (h : i < xs.length) : rd_L6 xs (i : Int) = xs[i] := getT_nat _ _ _ h
/-! laws_szIntS -/
theorem laws_szIntS_ev (xs : List (Int)) (n : Int) (hm : xs.length ≤ maxLen) (h0 : 0 ≤ n) (h1 : n ≤ 1048576) : ∃ r, Ev (fun _ => laws_szIntS.f xs n) r ∧ r ≤ n ∧ (0 ≤ r → xs.length ≤ 4294967296) := by
  unfold maxLen at hm
  unfold laws_szIntS.f
  rw [wrap_id (by omega) (by omega)]
  by_cases h : n - (xs.length : Int) < 0
  · exact ⟨-1, Ev.pos h (Ev.is rfl), by omega, fun h => by omega⟩
  · exact ⟨_, Ev.neg h (Ev.is rfl), by omega, fun h => by omega⟩

/-! laws_szRow -/
theorem laws_szRow_ev (a0_0 : ByteArray) (l0_1 : List Int) (n : Int) (hm0 : a0_0.size ≤ maxLen) (hm1 : l0_1.length ≤ maxLen) (h0 : 0 ≤ n) (h1 : n ≤ 1048576) : ∃ r, Ev (fun _ => laws_szRow.f a0_0 l0_1 n) r ∧ r ≤ n ∧ (0 ≤ r → (a0_0.size ≤ 4294967296 ∧ (l0_1.length ≤ 4294967296))) := by
  unfold laws_szRow.f
  have hz0 := hm0
  unfold maxLen at hz0
  rw [wrap_id (x := n - (a0_0.size : Int)) (by omega) (by omega)]
  by_cases c0 : n - (a0_0.size : Int) < 0
  · exact ⟨-1, (Ev.pos c0 (Ev.is rfl)), by omega, fun h => by omega⟩
  · skip
    obtain ⟨r1, e1, g1, b1⟩ := laws_szIntS_ev l0_1 (n - (a0_0.size : Int)) hm1 (by omega) (by omega)
    by_cases c1 : r1 < 0
    · exact ⟨-1, (Ev.neg c0 (Ev.bind e1 (Ev.pos c1 (Ev.is rfl)))), by omega, fun h => by omega⟩
    · exact ⟨_, (Ev.neg c0 (Ev.bind e1 (Ev.neg c1 (Ev.is rfl)))), by omega, fun h => ⟨by omega, b1 (by omega)⟩⟩

/-! laws_szRowS -/
theorem laws_szRowS_l0 (xs : List (S84)) (hx : xs.length ≤ 4294967296) (hM : ∀ x_ ∈ xs, (x_.f0.size ≤ maxLen ∧ x_.f1.length ≤ maxLen)) : ∀ i, i ≤ xs.length → ∀ n : Int, 0 ≤ n → n ≤ 1048576 → ∃ r, Ev (fun k => laws_szRowS.l0 k xs n i) r ∧ r ≤ n ∧ (0 ≤ r → ∀ x_ ∈ xs.drop i, (x_.f0.size ≤ 4294967296 ∧ (x_.f1.length ≤ 4294967296))) := by
  refine down ?_ ?_
  · intro n h0 h1
    exact ⟨n, Ev.step (fun k => by rw [laws_szRowS.l0]) (Ev.neg (by omega) (Ev.is rfl)), Int.le_refl _, fun _ x hx => by rw [List.drop_length] at hx; cases hx⟩
  · intro i hi ih n h0 h1
    obtain ⟨q, hq, hq1, hq2⟩ := laws_szRow_ev xs[i].f0 xs[i].f1 n (hM _ (List.getElem_mem hi)).1 (hM _ (List.getElem_mem hi)).2 h0 h1
    by_cases h : q < 0
    · exact ⟨-1, Ev.step (fun k => by rw [laws_szRowS.l0, rdT84 _ _ hi]) (Ev.pos (by omega) (Ev.pos (by omega) (Ev.bind hq (Ev.pos h (Ev.is rfl))))), by omega, fun h => by omega⟩
    · obtain ⟨r, hr, h2, h3⟩ := ih q (by omega) (by omega)
      refine ⟨r, Ev.step (fun k => by rw [laws_szRowS.l0, rdT84 _ _ hi, wrap_nat (by omega)]) (Ev.pos (by omega) (Ev.pos (by omega) (Ev.bind hq (Ev.neg h hr)))), by omega, fun h4 x hx => ?_⟩
      rw [drop_cons _ _ hi] at hx
      rcases List.mem_cons.1 hx with rfl | hx
      · exact hq2 (by omega)
      · exact h3 h4 x hx
theorem laws_szRowS_ev (xs : List (S84)) (n : Int) (hm : (xs.length ≤ maxLen ∧ ∀ x_ ∈ xs, (x_.f0.size ≤ maxLen ∧ x_.f1.length ≤ maxLen))) (h0 : 0 ≤ n) (h1 : n ≤ 1048576) : ∃ r, Ev (fun k => laws_szRowS.f k xs n) r ∧ r ≤ n ∧ (0 ≤ r → (xs.length ≤ 4294967296 ∧ ∀ x_ ∈ xs, (x_.f0.size ≤ 4294967296 ∧ (x_.f1.length ≤ 4294967296)))) := by
  obtain ⟨hm, hM⟩ := hm
  unfold maxLen at hm
  unfold laws_szRowS.f
  rw [wrap_id (by omega) (by omega)]
  by_cases h : n - (xs.length : Int) < 0
  · exact ⟨-1, Ev.pos h (Ev.is rfl), by omega, fun h => by omega⟩
  · obtain ⟨r, hr, h2, h3⟩ := laws_szRowS_l0 xs (by omega) hM 0 (by omega) (n - xs.length) (by omega) (by omega)
    exact ⟨r, Ev.neg h hr, by omega, fun h4 => ⟨by omega, h3 h4⟩⟩

def totL (xs : List S84) : Nat := (xs.map fun x => x.f1.length).sum
def totR (xs : List S58) : Nat := (xs.map fun x => x.f1.length).sum
theorem szRow_q (s : ByteArray) (l : List Int) (n : Int) (hs : s.size ≤ maxLen) (hl : l.length ≤ maxLen) (h0 : 0 ≤ n) (h1 : n ≤ 1048576) : ∃ q, laws_szRow.f s l n = some q ∧ q ≤ n ∧ (0 ≤ q → (l.length : Int) + q ≤ n) := by
  unfold maxLen at hs hl
  unfold laws_szRow.f laws_szIntS.f
  rw [wrap_id (by omega) (by omega)]
  by_cases h : n - (s.size : Int) < 0
  · exact ⟨-1, by rw [if_pos h], by omega, fun h => by omega⟩
  · rw [if_neg h, wrap_id (by omega) (by omega)]
    by_cases h2 : n - (s.size : Int) - (l.length : Int) < 0
    · exact ⟨-1, by rw [if_pos h2]; rfl, by omega, fun h => by omega⟩
    · exact ⟨n - (s.size : Int) - (l.length : Int), by rw [if_neg h2, Option.bind_some, if_neg h2], by omega, fun h => by omega⟩
theorem laws_szRowS_t0 (xs : List S84) (hx : xs.length ≤ 4294967296) (hM : ∀ x_ ∈ xs, (x_.f0.size ≤ maxLen ∧ x_.f1.length ≤ maxLen)) : ∀ i, i ≤ xs.length → ∀ n : Int, 0 ≤ n → n ≤ 1048576 → ∃ r, Ev (fun k => laws_szRowS.l0 k xs n i) r ∧ (0 ≤ r → (totL (xs.drop i) : Int) ≤ n) := by
  refine down ?_ ?_
  · intro n h0 h1
    exact ⟨n, Ev.step (fun k => by rw [laws_szRowS.l0]) (Ev.neg (by omega) (Ev.is rfl)), fun _ => by rw [List.drop_length]; simpa [totL] using h0⟩
  · intro i hi ih n h0 h1
    have hm := hM _ (List.getElem_mem hi)
    obtain ⟨q, hq, q1, q2⟩ := szRow_q xs[i].f0 xs[i].f1 n hm.1 hm.2 h0 h1
    by_cases h : q < 0
    · refine ⟨-1, ?_, fun h => by omega⟩
      refine Ev.step (fun k => by rw [laws_szRowS.l0, rdT84 _ _ hi]) ?_
      exact Ev.pos (by omega) (Ev.pos (by omega) (Ev.bind (Ev.const hq) (Ev.pos h (Ev.is rfl))))
    · obtain ⟨r, hr, h3⟩ := ih q (by omega) (by omega)
      refine ⟨r, ?_, fun h4 => ?_⟩
      · refine Ev.step (fun k => by rw [laws_szRowS.l0, rdT84 _ _ hi, wrap_nat (by omega)]) ?_
        exact Ev.pos (by omega) (Ev.pos (by omega) (Ev.bind (Ev.const hq) (Ev.neg h hr)))
      · have := h3 h4
        have := q2 (by omega)
        rw [drop_cons _ _ hi]
        simp only [totL, List.map_cons, List.sum_cons] at *
        omega
theorem laws_szRowS_tot (xs : List S84) (n r : Int) (hm : xs.length ≤ maxLen ∧ ∀ x_ ∈ xs, (x_.f0.size ≤ maxLen ∧ x_.f1.length ≤ maxLen)) (h0 : 0 ≤ n) (h1 : n ≤ 1048576) (he : Ev (fun k => laws_szRowS.f k xs n) r) (hr : 0 ≤ r) : (totL xs : Int) ≤ 1048576 := by
  obtain ⟨hm, hM⟩ := hm
  unfold maxLen at hm
  unfold laws_szRowS.f at he
  rw [wrap_id (by omega) (by omega)] at he
  by_cases h : n - (xs.length : Int) < 0
  · have := Ev.uniq he (Ev.pos h (Ev.is rfl))
    omega
  · obtain ⟨q, hq, h3⟩ := laws_szRowS_t0 xs (by omega) hM 0 (by omega) (n - (xs.length : Int)) (by omega) (by omega)
    have := Ev.uniq he (Ev.neg h hq)
    subst this
    have := h3 hr
    rw [List.drop_zero] at this
    omega
/-! laws_szReport -/
theorem laws_szReport_ev (a0_0 : ByteArray) (a0_1 : Int) (l0_2 : List (S84)) (n : Int) (hm0 : a0_0.size ≤ maxLen) (hm2 : (l0_2.length ≤ maxLen ∧ ∀ x_ ∈ l0_2, (x_.f0.size ≤ maxLen ∧ x_.f1.length ≤ maxLen))) (h0 : 0 ≤ n) (h1 : n ≤ 1048576) : ∃ r, Ev (fun k => laws_szReport.f k a0_0 a0_1 l0_2 n) r ∧ r ≤ n ∧ (0 ≤ r → (a0_0.size ≤ 4294967296 ∧ (l0_2.length ≤ 4294967296 ∧ ∀ x_ ∈ l0_2, (x_.f0.size ≤ 4294967296 ∧ (x_.f1.length ≤ 4294967296))))) := by
  unfold laws_szReport.f
  have hz0 := hm0
  unfold maxLen at hz0
  rw [wrap_id (x := n - (a0_0.size : Int)) (by omega) (by omega)]
  by_cases c0 : n - (a0_0.size : Int) < 0
  · exact ⟨-1, (Ev.pos c0 (Ev.is rfl)), by omega, fun h => by omega⟩
  · skip
    obtain ⟨r2, e2, g2, b2⟩ := laws_szRowS_ev l0_2 (n - (a0_0.size : Int)) hm2 (by omega) (by omega)
    by_cases c2 : r2 < 0
    · exact ⟨-1, (Ev.neg c0 (Ev.bind e2 (Ev.pos c2 (Ev.is rfl)))), by omega, fun h => by omega⟩
    · exact ⟨_, (Ev.neg c0 (Ev.bind e2 (Ev.neg c2 (Ev.is rfl)))), by omega, fun h => ⟨by omega, b2 (by omega)⟩⟩

theorem laws_szReport_tot0 (t : ByteArray) (w : Int) (xs : List S84) (n r : Int) (ht : t.size ≤ maxLen) (hm : xs.length ≤ maxLen ∧ ∀ x_ ∈ xs, (x_.f0.size ≤ maxLen ∧ x_.f1.length ≤ maxLen)) (h0 : 0 ≤ n) (h1 : n ≤ 1048576)
    (he : Ev (fun k => laws_szReport.f k t w xs n) r) (hr : 0 ≤ r) : (totL xs : Int) ≤ 1048576 := by
  unfold maxLen at ht
  unfold laws_szReport.f at he
  rw [wrap_id (by omega) (by omega)] at he
  by_cases h : n - (t.size : Int) < 0
  · have := Ev.uniq he (Ev.pos h (Ev.is rfl))
    omega
  · obtain ⟨r0, e0, g0, b0⟩ := laws_szRowS_ev xs (n - (t.size : Int)) hm (by omega) (by omega)
    by_cases h2 : r0 < 0
    · have := Ev.uniq he (Ev.neg h (Ev.bind e0 (Ev.pos h2 (Ev.is rfl))))
      omega
    · exact laws_szRowS_tot xs _ r0 hm (by omega) (by omega) e0 (by omega)
/-! laws_toIntS -/
theorem laws_toIntS_l0 (xs ys : List Int) (hx : xs.length ≤ 4294967296) (hy : ys.length = xs.length) : ∀ i, i ≤ xs.length → Ev (fun k => laws_toIntS.l0 k xs (xs.take i ++ ys.drop i) i) xs := by
  refine down ?_ ?_
  · refine Ev.step (fun k => by rw [laws_toIntS.l0]) ?_
    refine Ev.neg (by omega) (Ev.is (by rw [List.take_length, ← hy, List.drop_length, List.append_nil]))
  · intro i hi ih
    have hl := take_len xs ys i (by omega) hy
    refine Ev.step (fun k => by rw [laws_toIntS.l0]) ?_
    rw [rd_nat _ _ hi, wrap_nat (by omega), Int.toNat_natCast, take_set xs ys i hi hy]
    exact Ev.pos (by omega) (Ev.pos (by omega) (Ev.pos (by omega) ih))
theorem laws_toIntS_ev (xs : List Int) (hx : xs.length ≤ 4294967296) : Ev (fun k => laws_toIntS.f k xs) xs := by
  unfold laws_toIntS.f
  refine Ev.pos (by omega) (Ev.pos (by omega) ?_)
  exact laws_toIntS_l0 xs _ hx (by simp) 0 (by omega)

/-! laws_toRow -/
theorem laws_toRow_ev (a0_0 : ByteArray) (l0_1 : List Int) (hb0 : a0_0.size ≤ 4294967296) (hb1 : (l0_1.length ≤ 4294967296)) : Ev (fun k => laws_toRow.f k a0_0 l0_1) (a0_0, l0_1) := by
  unfold laws_toRow.f
  repeat' (first | (with_reducible refine Ev.bind (laws_toIntS_ev _ (by assumption)) ?_) | (with_reducible exact Ev.is rfl) | exact Ev.is rfl)

/-! laws_toRowS -/
def cv84 (x : S84) : S58 := ⟨x.f0, x.f1⟩
theorem cvb84 (xs : List (S84)) (hb : (xs.length ≤ 4294967296 ∧ ∀ x_ ∈ xs, (x_.f0.size ≤ 4294967296 ∧ (x_.f1.length ≤ 4294967296)))) : ((xs.map cv84).length ≤ 4294967296 ∧ ∀ x_ ∈ xs.map cv84, (x_.f0.size ≤ 4294967296 ∧ (x_.f1.length ≤ 4294967296))) := by
  refine ⟨by simpa using hb.1, fun x hx => ?_⟩
  obtain ⟨y, hy, rfl⟩ := List.mem_map.1 hx
  exact hb.2 y hy
theorem laws_toRowS_l0 (xs : List (S84)) (ys : List (S58)) (hx : xs.length ≤ 4294967296) (hb : ∀ x_ ∈ xs, (x_.f0.size ≤ 4294967296 ∧ (x_.f1.length ≤ 4294967296))) (hy : ys.length = xs.length) : ∀ i, i ≤ xs.length → Ev (fun k => laws_toRowS.l0 k xs ((xs.map cv84).take i ++ ys.drop i) i) (xs.map cv84) := by
  have hm : (xs.map cv84).length = xs.length := by simp
  refine down ?_ ?_
  · refine Ev.step (fun k => by rw [laws_toRowS.l0]) ?_
    refine Ev.neg (by omega) (Ev.is (by rw [← hm, List.take_length, hm, ← hy, List.drop_length, List.append_nil]))
  · intro i hi ih
    have hl := take_len (xs.map cv84) ys i (by omega) (by omega)
    have hs := take_set (xs.map cv84) ys i (by omega) (by omega)
    rw [List.getElem_map] at hs
    refine Ev.step (fun k => by rw [laws_toRowS.l0]) ?_
    rw [rdT84 _ _ hi, wrap_nat (by omega), Int.toNat_natCast]
    refine Ev.pos (by omega) (Ev.pos (by omega) (Ev.bind (laws_toRow_ev _ _ ((hb _ (List.getElem_mem hi)).1) ((hb _ (List.getElem_mem hi)).2)) (Ev.pos (by omega) ?_)))
    show Ev (fun k => laws_toRowS.l0 k xs (((xs.map cv84).take i ++ ys.drop i).set i (cv84 xs[i])) _) _
    rw [hs]
    exact ih
theorem laws_toRowS_ev (xs : List (S84)) (hb : (xs.length ≤ 4294967296 ∧ ∀ x_ ∈ xs, (x_.f0.size ≤ 4294967296 ∧ (x_.f1.length ≤ 4294967296)))) : Ev (fun k => laws_toRowS.f k xs) (xs.map cv84) := by
  have hx : xs.length ≤ 4294967296 := hb.1
  unfold laws_toRowS.f
  refine Ev.pos (by omega) (Ev.pos (by omega) ?_)
  exact laws_toRowS_l0 xs _ hx hb.2 (by simp) 0 (by omega)

theorem laws_szReport_tot (t : ByteArray) (w : Int) (xs : List S84) (n r : Int) (ht : t.size ≤ maxLen) (hm : xs.length ≤ maxLen ∧ ∀ x_ ∈ xs, (x_.f0.size ≤ maxLen ∧ x_.f1.length ≤ maxLen)) (h0 : 0 ≤ n) (h1 : n ≤ 1048576)
    (he : Ev (fun k => laws_szReport.f k t w xs n) r) (hr : 0 ≤ r) : (totR (xs.map cv84) : Int) ≤ 1048576 := by
  have e : totR (xs.map cv84) = totL xs := by
    unfold totR totL
    rw [List.map_map]
    rfl
  rw [e]
  exact laws_szReport_tot0 t w xs n r ht hm h0 h1 he hr
/-! laws_toReport -/
theorem laws_toReport_ev (a0_0 : ByteArray) (a0_1 : Int) (l0_2 : List (S84)) (hb0 : a0_0.size ≤ 4294967296) (hb2 : (l0_2.length ≤ 4294967296 ∧ ∀ x_ ∈ l0_2, (x_.f0.size ≤ 4294967296 ∧ (x_.f1.length ≤ 4294967296)))) : Ev (fun k => laws_toReport.f k a0_0 a0_1 l0_2) (a0_0, a0_1, (l0_2.map cv84)) := by
  unfold laws_toReport.f
  repeat' (first | (with_reducible refine Ev.bind (laws_toRowS_ev _ (by assumption)) ?_) | (with_reducible exact Ev.is rfl) | exact Ev.is rfl)

/-! laws_eqIntS -/
theorem laws_eqIntS_l0 (xs : List (Int)) (hx : xs.length ≤ 4294967296) : ∀ i, i ≤ xs.length → Ev (fun k => laws_eqIntS.l0 k xs xs i) true := by
  refine down ?_ ?_
  · refine Ev.step (fun k => by rw [laws_eqIntS.l0]) ?_
    exact Ev.neg (by omega) (Ev.is rfl)
  · intro i hi ih
    refine Ev.step (fun k => by rw [laws_eqIntS.l0]) ?_
    rw [rd_nat _ _ hi, wrap_nat (by omega)]
    refine Ev.pos (by omega) (Ev.pos (by omega) (Ev.pos (by omega) (Ev.pos rfl ih)))
theorem laws_eqIntS_ev (xs : List (Int)) (hb : (xs.length ≤ 4294967296)) : Ev (fun k => laws_eqIntS.f k xs xs) true := by
  unfold laws_eqIntS.f
  exact Ev.pos rfl (laws_eqIntS_l0 xs hb 0 (by omega))

/-! laws_eqRow -/
theorem laws_eqRow_ev (a0_0 : ByteArray) (l0_1 : List Int) (hb0 : a0_0.size ≤ 4294967296) (hb1 : (l0_1.length ≤ 4294967296)) : Ev (fun k => laws_eqRow.f k a0_0 l0_1 a0_0 l0_1) true := by
  unfold laws_eqRow.f
  repeat' (first | (with_reducible refine Ev.bind (laws_eqIntS_ev _ (by assumption)) ?_) | (with_reducible refine Ev.pos rfl ?_) | (with_reducible exact Ev.is rfl))

/-! laws_eqRowS -/
theorem laws_eqRowS_l0 (xs : List (S58)) (hx : xs.length ≤ 4294967296) (hb : ∀ x_ ∈ xs, (x_.f0.size ≤ 4294967296 ∧ (x_.f1.length ≤ 4294967296))) : ∀ i, i ≤ xs.length → Ev (fun k => laws_eqRowS.l0 k xs xs i) true := by
  refine down ?_ ?_
  · refine Ev.step (fun k => by rw [laws_eqRowS.l0]) ?_
    exact Ev.neg (by omega) (Ev.is rfl)
  · intro i hi ih
    refine Ev.step (fun k => by rw [laws_eqRowS.l0]) ?_
    rw [rdT58 _ _ hi, wrap_nat (by omega)]
    refine Ev.pos (by omega) (Ev.pos (by omega) (Ev.pos (by omega) (Ev.bind (laws_eqRow_ev _ _ ((hb _ (List.getElem_mem hi)).1) ((hb _ (List.getElem_mem hi)).2)) (Ev.pos rfl ih))))
theorem laws_eqRowS_ev (xs : List (S58)) (hb : (xs.length ≤ 4294967296 ∧ ∀ x_ ∈ xs, (x_.f0.size ≤ 4294967296 ∧ (x_.f1.length ≤ 4294967296)))) : Ev (fun k => laws_eqRowS.f k xs xs) true := by
  unfold laws_eqRowS.f
  exact Ev.pos rfl (laws_eqRowS_l0 xs hb.1 hb.2 0 (by omega))

/-! laws_eqReport -/
theorem laws_eqReport_ev (a0_0 : ByteArray) (a0_1 : Int) (l0_2 : List (S58)) (hb0 : a0_0.size ≤ 4294967296) (hb2 : (l0_2.length ≤ 4294967296 ∧ ∀ x_ ∈ l0_2, (x_.f0.size ≤ 4294967296 ∧ (x_.f1.length ≤ 4294967296)))) : Ev (fun k => laws_eqReport.f k a0_0 a0_1 l0_2 a0_0 a0_1 l0_2) true := by
  unfold laws_eqReport.f
  repeat' (first | (with_reducible refine Ev.bind (laws_eqRowS_ev _ (by assumption)) ?_) | (with_reducible refine Ev.pos rfl ?_) | (with_reducible exact Ev.is rfl))

/-! laws_markIntS -/
theorem markIntS_l0 (xs : List Int) (a : Int) (h0 : 0 ≤ a) (h1 : a + xs.length ≤ 1099511627776) : ∀ i, i ≤ xs.length → Ev (fun k => laws_markIntS.l0 k (marks a i ++ xs.drop i) (a + (i : Int)) i) (a + (xs.length : Int), marks a xs.length) := by
  refine down ?_ ?_
  · refine Ev.step (fun k => by rw [laws_markIntS.l0]) ?_
    refine Ev.neg (by rw [len_mid _ _ _ (marks_len _ _) (Nat.le_refl _)]; omega) (Ev.is (by rw [List.drop_length, List.append_nil]))
  · intro i hi ih
    have hl := len_mid (marks a i) xs i (marks_len _ _) (by omega)
    refine Ev.step (fun k => by rw [laws_markIntS.l0]) ?_
    rw [Int.toNat_natCast, set_mid _ _ _ _ (marks_len _ _) hi, ← marks_succ, wrap_nat (by omega), wrap_id (x := a + (i : Int) + 1) (by omega) (by omega), show a + (i : Int) + 1 = a + ((i + 1 : Nat) : Int) from by omega]
    exact Ev.pos (by omega) (Ev.pos (by omega) ih)
theorem laws_markIntS_ev (xs : List Int) (a : Int) (h0 : 0 ≤ a) (h1 : a + xs.length ≤ 1099511627776) : Ev (fun k => laws_markIntS.f k xs a) (a + (xs.length : Int), marks a xs.length) := by
  have := markIntS_l0 xs a h0 h1 0 (by omega)
  unfold laws_markIntS.f
  simpa [marks] using this
/-! laws_markText -/
theorem markText_l0 : ∀ (n : Nat) (a : Int) (s : ByteArray), 0 ≤ a → a ≤ n → s.size + n ≤ 4398046511104 → ∃ t, Ev (fun k => laws_markText.l0 k a s) t
  | 0, a, s, h0, h1, h2 => by
    refine ⟨(⟨#[109]⟩ : ByteArray) ++ s, ?_⟩
    refine Ev.step (fun k => by rw [laws_markText.l0]) ?_
    exact Ev.neg (by omega) (Ev.pos (by omega) (Ev.is rfl))
  | n + 1, a, s, h0, h1, h2 => by
    by_cases h : a > 0
    · have e : Int.tdiv a 10 = a / 10 := Int.tdiv_eq_ediv_of_nonneg h0
      have hz : (strOfNums [wrap64 (48 + Int.tmod a 10) % 256]).size = 1 := strOfNums_size _
      obtain ⟨t, ht⟩ := markText_l0 n (a / 10) (strOfNums [wrap64 (48 + Int.tmod a 10) % 256] ++ s) (by omega) (by omega) (by rw [ByteArray.size_append, hz]; omega)
      refine ⟨t, Ev.step (fun k => by rw [laws_markText.l0]) ?_⟩
      refine Ev.pos h (Ev.sb (Ev.pos (by rw [hz]; omega) ?_))
      rw [e, wrap_id (by omega) (by omega)]
      exact ht
    · refine ⟨(⟨#[109]⟩ : ByteArray) ++ s, ?_⟩
      refine Ev.step (fun k => by rw [laws_markText.l0]) ?_
      exact Ev.neg h (Ev.pos (by omega) (Ev.is rfl))
noncomputable def mtx (a : Int) : ByteArray := open Classical in if h : ∃ t, Ev (fun k => laws_markText.f k a) t then h.choose else ByteArray.empty
theorem laws_markText_ev (a : Int) (h0 : 0 ≤ a) (h1 : a ≤ 2199023255552) : Ev (fun k => laws_markText.f k a) (mtx a) := by
  have h : ∃ t, Ev (fun k => laws_markText.f k a) t := by
    unfold laws_markText.f
    by_cases c : a ≤ 0
    · exact ⟨_, Ev.pos c (Ev.is rfl)⟩
    · obtain ⟨t, ht⟩ := markText_l0 a.toNat a ⟨#[]⟩ h0 (by omega) (by show 0 + a.toNat ≤ _; omega)
      exact ⟨t, Ev.neg c ht⟩
  unfold mtx
  rw [dif_pos h]
  exact h.choose_spec
/-! laws_markRowS -/
theorem markRowS_l0 (xs : List S58) (hx : xs.length ≤ 4294967296) : ∀ i, i ≤ xs.length → ∀ (done : List S58) (a : Int), done.length = i → 0 ≤ a → a + ((xs.length - i : Nat) : Int) + totR (xs.drop i) ≤ 1099511627776 → ∃ ys, Ev (fun k => laws_markRowS.l0 k (done ++ xs.drop i) a i) (a + ((xs.length - i : Nat) : Int) + (totR (xs.drop i) : Int), ys) := by
  refine down ?_ ?_
  · intro done a hd h0 h1
    refine ⟨done, Ev.step (fun k => by rw [laws_markRowS.l0]) (Ev.neg (by rw [len_mid _ _ _ hd (Nat.le_refl _)]; omega) (Ev.is ?_))⟩
    rw [List.drop_length, List.append_nil, Nat.sub_self]
    simp [totR]
  · intro i hi ih done a hd h0 h1
    have hl := len_mid done xs i hd (by omega)
    have e1 : totR (xs.drop i) = xs[i].f1.length + totR (xs.drop (i + 1)) := by rw [drop_cons _ _ hi]; simp only [totR, List.map_cons, List.sum_cons]
    have e2 : xs.length - i = 1 + (xs.length - (i + 1)) := by omega
    rw [e1, e2] at h1
    have hm := laws_markIntS_ev xs[i].f1 (a + 1) (by omega) (by omega)
    obtain ⟨ys, hy⟩ := ih (done ++ [⟨mtx a, marks (a + 1) xs[i].f1.length⟩]) (a + 1 + (xs[i].f1.length : Int)) (by simp; omega) (by omega) (by omega)
    refine ⟨ys, Ev.step (fun k => by rw [laws_markRowS.l0]) ?_⟩
    have eg : (done ++ xs.drop i)[i]'(by omega) = xs[i] := by
      rw [List.getElem_append_right (by omega)]
      simp [hd]
    rw [rdT58 _ _ (by omega), eg, Int.toNat_natCast, wrap_nat (by omega), wrap_id (x := a + 1) (by omega) (by omega)]
    refine Ev.pos (by omega) (Ev.pos (by omega) (Ev.bind (laws_markText_ev a h0 (by omega)) (Ev.bind hm ?_)))
    show Ev (fun k => laws_markRowS.l0 k ((done ++ xs.drop i).set i ⟨mtx a, marks (a + 1) xs[i].f1.length⟩) (a + 1 + (xs[i].f1.length : Int)) ((i + 1 : Nat) : Int)) _
    rw [set_mid _ _ _ _ hd hi]
    exact Ev.eqr hy (by rw [e1, e2]; congr 1; omega)
theorem laws_markRowS_ev (xs : List S58) (a : Int) (h0 : 0 ≤ a) (h1 : a + xs.length + totR xs ≤ 1099511627776) (hb : xs.length ≤ 4294967296) : ∃ ys, Ev (fun k => laws_markRowS.f k xs a) (a + (xs.length : Int) + (totR xs : Int), ys) := by
  have := markRowS_l0 xs hb 0 (by omega) [] a rfl h0 (by rw [List.drop_zero]; exact h1)
  unfold laws_markRowS.f
  simpa using this
/-! laws_markReport -/
theorem laws_markReport_ev (t : ByteArray) (w : Int) (l : List S58) (a : Int) (h0 : 0 ≤ a) (h1 : a + l.length + totR l ≤ 1099511627776) (hb : l.length ≤ 4294967296 ∧ ∀ x_ ∈ l, (x_.f0.size ≤ 4294967296 ∧ (x_.f1.length ≤ 4294967296))) :
    Ev (fun k => laws_markReport.f k t w l a) (a + (l.length : Int) + (totR l : Int)) := by
  obtain ⟨ys, hy⟩ := laws_markRowS_ev l a h0 h1 hb.1
  unfold laws_markReport.f
  exact Ev.bind hy (Ev.is rfl)
/-! laws_markRow -/
theorem laws_markRow_ev (s : ByteArray) (l : List Int) (a : Int) (h0 : 0 ≤ a) (h1 : a + l.length ≤ 1099511627776) : Ev (fun k => laws_markRow.f k s l a) (a + (l.length : Int), marks a l.length) := by
  unfold laws_markRow.f
  exact Ev.bind (laws_markIntS_ev l a h0 h1) (Ev.is rfl)
/-! laws_heldIntS -/
theorem heldIntS_l0 (n : Nat) (a : Int) (h0 : 0 ≤ a) (h1 : a + n ≤ 1099511627776) : ∀ i, i ≤ n → Ev (fun k => laws_heldIntS.l0 k (marks a n) (a + (i : Int)) i) (a + (n : Int)) := by
  have hl := marks_len a n
  refine down ?_ ?_
  · refine Ev.step (fun k => by rw [laws_heldIntS.l0]) ?_
    exact Ev.neg (by omega) (Ev.is rfl)
  · intro i hi ih
    refine Ev.step (fun k => by rw [laws_heldIntS.l0]) ?_
    rw [rd_nat _ _ (by omega), marks_get, wrap_nat (by omega), wrap_id (x := a + (i : Int) + 1) (by omega) (by omega), show a + (i : Int) + 1 = a + ((i + 1 : Nat) : Int) from by omega]
    exact Ev.pos (by omega) (Ev.pos (by omega) (Ev.pos rfl ih))
theorem laws_heldIntS_ev (n : Nat) (a : Int) (h0 : 0 ≤ a) (h1 : a + n ≤ 1099511627776) : Ev (fun k => laws_heldIntS.f k (marks a n) a) (a + (n : Int)) := by
  have := heldIntS_l0 n a h0 h1 0 (by omega)
  unfold laws_heldIntS.f
  simpa using this
/-! laws_heldRow -/
theorem laws_heldRow_ev (s : ByteArray) (n : Nat) (a : Int) (h0 : 0 ≤ a) (h1 : a + n ≤ 1099511627776) : Ev (fun k => laws_heldRow.f k s (marks a n) a) (a + (n : Int)) := by
  unfold laws_heldRow.f
  exact Ev.bind (laws_heldIntS_ev n a h0 h1) (Ev.neg (by omega) (Ev.is rfl))
/-! spec_l1In -/
theorem l1In_f (a lo up : Int) : spec_l1In.f a lo up = some (decide (lo ≤ a ∧ a ≤ up)) := by
  unfold spec_l1In.f
  by_cases h : a ≥ lo
  · rw [if_pos h]; congr 1; simp; omega
  · rw [if_neg h]; congr 1; simp; omega
/-! spec_rpName -/
theorem rpName_l0 (s : ByteArray) (hs : s.size ≤ 4294967296) : ∀ i, i ≤ (bytesOf s).length → Ev (fun k => spec_rpName.l0 k s i) (((bytesOf s).drop i).all chOk && decide (1 ≤ s.size ∧ s.size ≤ 12)) := by
  have hl := bytes_len s
  refine down ?_ ?_
  · refine Ev.step (fun k => by rw [spec_rpName.l0]) (Ev.neg (by omega) ?_)
    rw [List.drop_length, List.all_nil, Bool.true_and]
    rw [l1In_f]
    exact Ev.is (by congr 1; simp; omega)
  · intro i hi ih
    refine Ev.step (fun k => by rw [spec_rpName.l0]) ?_
    rw [bt_nat _ _ hi, wrap_nat (by omega), drop_cons _ _ hi, List.all_cons]
    generalize ((bytesOf s).drop (i + 1)).all chOk = v at *
    refine Ev.pos (by omega) (Ev.pos (by omega) ?_)
    repeat' (first | (with_reducible refine Ev.cases (fun _ => ?_) (fun _ => ?_)))
    all_goals first
      | (refine Ev.eqr ih ?_; have : chOk (bytesOf s)[i] = true := by (simp [chOk]; omega)
         rw [this, Bool.true_and])
      | (refine Ev.is ?_; have : chOk (bytesOf s)[i] = false := by (simp [chOk]; omega)
         rw [this, Bool.false_and, Bool.false_and])
theorem rpName_f (s : ByteArray) (hs : s.size ≤ 4294967296) : Ev (fun k => spec_rpName.f k s) (nameOk s) := by
  unfold spec_rpName.f
  exact rpName_l0 s hs 0 (by omega)
/-! spec_rpRow -/
/-- The place of the row with a name, -1 for none. -/
def rowIx (nm : ByteArray) : List S58 → Nat → Int
  | [], _ => -1
  | x :: l, i => if x.f0.toList = nm.toList then (i : Int) else rowIx nm l (i + 1)
theorem rowIx_none {nm : ByteArray} : ∀ {l : List S58} {i : Nat}, (∀ x ∈ l, x.f0.toList ≠ nm.toList) → rowIx nm l i = -1
  | [], _, _ => rfl
  | x :: l, i, h => by rw [rowIx, if_neg (h x List.mem_cons_self)]; exact rowIx_none (fun y hy => h y (List.mem_cons_of_mem _ hy))
theorem rowIx_some {nm : ByteArray} : ∀ {l : List S58} {i : Nat}, ¬ (∀ x ∈ l, x.f0.toList ≠ nm.toList) → ∃ j, j < l.length ∧ rowIx nm l i = ((i + j : Nat) : Int) ∧ ∀ h : j < l.length, l[j].f0.toList = nm.toList
  | [], _, h => absurd (fun x hx => by cases hx) h
  | x :: l, i, h => by
    by_cases e : x.f0.toList = nm.toList
    · exact ⟨0, by simp, by rw [rowIx, if_pos e, Nat.add_zero], fun _ => e⟩
    · obtain ⟨j, h1, h2, h3⟩ := rowIx_some (l := l) (i := i + 1) (fun h4 => h (fun y hy => by
        rcases List.mem_cons.1 hy with rfl | hy
        · exact e
        · exact h4 y hy))
      refine ⟨j + 1, by simp; omega, ?_, fun h => ?_⟩
      · rw [rowIx, if_neg e, h2]; congr 1; omega
      · simpa using h3 h1
theorem rowIx_app {nm : ByteArray} : ∀ (a b : List S58) (i : Nat), (∀ x ∈ a, x.f0.toList ≠ nm.toList) → rowIx nm (a ++ b) i = rowIx nm b (i + a.length)
  | [], b, i, _ => rfl
  | x :: a, b, i, h => by
    rw [List.cons_append, rowIx, if_neg (h x List.mem_cons_self), rowIx_app a b (i + 1) (fun y hy => h y (List.mem_cons_of_mem _ hy))]
    congr 1; simp; omega
theorem rowIx_ge {nm : ByteArray} : ∀ (l : List S58) (i : Nat), rowIx nm l i = -1 ∨ (i : Int) ≤ rowIx nm l i ∧ rowIx nm l i < i + l.length
  | [], _ => .inl rfl
  | x :: l, i => by
    by_cases e : x.f0.toList = nm.toList
    · right; rw [rowIx, if_pos e]; simp; omega
    · rw [rowIx, if_neg e]
      rcases rowIx_ge l (i + 1) with h | h
      · exact .inl h
      · right; simp; omega
/-- Both ways to ask whether a name is a row's first. -/
theorem rowIx_at (rows : List S58) (i : Nat) (hi : i < rows.length) : (rowIx rows[i].f0 rows 0 = (i : Int)) ↔ ¬ rowIx rows[i].f0 (rows.take i) 0 ≥ 0 := by
  have hs : rows = rows.take i ++ rows.drop i := (List.take_append_drop i rows).symm
  by_cases h : ∀ x ∈ rows.take i, x.f0.toList ≠ (rows[i].f0).toList
  · rw [rowIx_none h]
    constructor
    · intro _; omega
    · intro _
      have e := rowIx_app (rows.take i) (rows.drop i) 0 h
      rw [← hs] at e
      rw [e, drop_cons _ _ hi, rowIx, if_pos rfl]
      simp; omega
  · obtain ⟨j, h1, h2, h3⟩ := rowIx_some (i := 0) h
    have hj : j < i := by simp at h1; omega
    constructor
    · intro e
      exfalso
      obtain ⟨j', g1, g2, g3⟩ : ∃ j', j' < i ∧ j' < rows.length ∧ rowIx rows[i].f0 rows 0 ≤ (j' : Int) := by
        refine ⟨j, hj, by omega, ?_⟩
        have h4 : (rows.take i)[j] = rows[j] := by simp
        have h5 := h3 h1
        rw [h4] at h5
        suffices ∀ (l : List S58) (j k : Nat) (hj : j < l.length) (nm : ByteArray), l[j].f0.toList = nm.toList → rowIx nm l k ≤ ((k + j : Nat) : Int) by
          simpa using this rows j 0 (by omega) rows[i].f0 h5
        intro l
        induction l with
        | nil => intro j k hj; simp at hj
        | cons x l ih =>
          intro j k hj nm e
          rw [rowIx]
          split
          · omega
          · cases j with
            | zero => exact absurd e ‹_›
            | succ j =>
              have := ih j (k + 1) (by simpa using hj) nm (by simpa using e)
              omega
      omega
    · intro e
      rw [h2] at e
      omega
theorem rpRow_l0 (nm : ByteArray) (xs : List S58) (hx : xs.length ≤ 4294967296) : ∀ i, i ≤ xs.length → Ev (fun k => spec_rpRow.l0 k nm xs xs.length i) (rowIx nm (xs.drop i) i) := by
  refine down ?_ ?_
  · refine Ev.step (fun k => by rw [spec_rpRow.l0]) (Ev.neg (by omega) (Ev.is (by rw [List.drop_length]; rfl)))
  · intro i hi ih
    refine Ev.step (fun k => by rw [spec_rpRow.l0]) ?_
    rw [rdT58 _ _ hi, wrap_nat (by omega), drop_cons _ _ hi, rowIx]
    exact Ev.pos (by omega) (Ev.pos (by omega) (Ev.pos (by omega) (Ev.ite (fun _ => Ev.is rfl) (fun _ => ih))))
theorem rpRow_f (t : ByteArray) (w : Int) (nm : ByteArray) (xs : List S58) (hx : xs.length ≤ 4294967296) : Ev (fun k => spec_rpRow.f k t w xs nm) (rowIx nm xs 0) := by
  unfold spec_rpRow.f
  exact rpRow_l0 nm xs hx 0 (by omega)
/-! spec_l1All -/
theorem l1All_l0 (xs : List Int) (lo up : Int) (hx : xs.length ≤ 4294967296) : ∀ i, i ≤ xs.length → Ev (fun k => spec_l1All.l0 k lo up xs xs.length i) (inR lo up (xs.drop i)) := by
  refine down ?_ ?_
  · refine Ev.step (fun k => by rw [spec_l1All.l0]) ?_
    repeat' (first
      | (with_reducible refine Ev.sb ?_)
      | (with_reducible refine Ev.pos ?hc ?_; case hc => (first | assumption | omega))
      | (with_reducible refine Ev.neg ?hc ?_; case hc => (first | assumption | omega))
      | (with_reducible refine Ev.cases (fun _ => ?_) (fun _ => ?_)))
    all_goals first
      | (refine Ev.is ?_; (first | done | rfl | (simp only [inR]; done) | (simp_all [inR, -List.getElem_cons_drop]; done) | (simp_all [inR, -List.getElem_cons_drop]; omega) | omega))
      | (exfalso; first | omega | (simp_all; done) | (simp_all; omega))
  · intro i hi ih
    refine Ev.step (fun k => by rw [spec_l1All.l0]) ?_
    rw [rd_nat _ _ hi, l1In_f, wrap_nat (by omega), drop_cons _ _ hi]
    repeat' (first
      | (with_reducible refine Ev.sb ?_)
      | (with_reducible refine Ev.pos ?hc ?_; case hc => (first | assumption | omega))
      | (with_reducible refine Ev.neg ?hc ?_; case hc => (first | assumption | omega))
      | (with_reducible refine Ev.cases (fun _ => ?_) (fun _ => ?_)))
    all_goals first
      | (refine Ev.eqr (ih) ?_; (first | done | rfl | (simp only [inR]; done) | (simp_all [inR, -List.getElem_cons_drop]; done) | (simp_all [inR, -List.getElem_cons_drop]; omega) | omega))
      | (refine Ev.is ?_; (first | done | rfl | (simp only [inR]; done) | (simp_all [inR, -List.getElem_cons_drop]; done) | (simp_all [inR, -List.getElem_cons_drop]; omega) | omega))
      | (exfalso; first | omega | (simp_all; done) | (simp_all; omega))
theorem l1All_f (xs : List Int) (lo up : Int) (hx : xs.length ≤ 4294967296) : Ev (fun k => spec_l1All.f k xs lo up) (inR lo up xs) := by
  unfold spec_l1All.f
  exact l1All_l0 xs lo up hx 0 (by omega)
/-! spec_rpGood -/
/-- One row of a report that is valid. -/
def rowOk (rows : List S58) (w : Int) (i : Nat) : Bool :=
  nameOk (rd_T58 rows i).f0 && (decide (rowIx (rd_T58 rows i).f0 rows 0 = (i : Int)) && (decide (((rd_T58 rows i).f1.length : Int) = w) && inR (-1000000000) 1000000000 (rd_T58 rows i).f1))
def rowsFrom (rows : List S58) (w : Int) : Nat → Nat → Bool
  | _, 0 => true
  | i, n + 1 => rowOk rows w i && rowsFrom rows w (i + 1) n
def headOk (t : ByteArray) (w : Int) (rows : List S58) : Bool := nameOk t && (decide (1 ≤ w ∧ w ≤ 8) && decide ((rows.length : Int) ≤ 40))
def repOk (t : ByteArray) (w : Int) (rows : List S58) : Bool := rowsFrom rows w 0 rows.length && headOk t w rows
/-- What is asked of a report's sizes. -/
def RepB (t : ByteArray) (rows : List S58) : Prop := t.size ≤ 4294967296 ∧ (rows.length ≤ 4294967296 ∧ ∀ x_ ∈ rows, (x_.f0.size ≤ 4294967296 ∧ (x_.f1.length ≤ 4294967296)))
theorem rpGood_l0 (t : ByteArray) (w : Int) (rows : List S58) (hb : RepB t rows) : ∀ i, i ≤ rows.length → Ev (fun k => spec_rpGood.l0 k rows rows.length i t w rows) (rowsFrom rows w i (rows.length - i) && headOk t w rows) := by
  obtain ⟨ht, hx, hr⟩ := hb
  refine down ?_ ?_
  · refine Ev.step (fun k => by rw [spec_rpGood.l0]) (Ev.neg (by omega) ?_)
    rw [Nat.sub_self, rowsFrom, Bool.true_and, l1In_f]
    unfold headOk
    refine Ev.bind (rpName_f t ht) (Ev.cases (fun h => Ev.sb (Ev.cases (fun h2 => Ev.is ?_) (fun h2 => Ev.is ?_))) (fun h => Ev.is ?_))
    · rw [h, h2]; simp
    · simp at h2; symm; simp; intros; omega
    · simp [h]
  · intro i hi ih
    have hm := hr _ (List.getElem_mem hi)
    have hv : rowsFrom rows w i (rows.length - i) = (rowOk rows w i && rowsFrom rows w (i + 1) (rows.length - (i + 1))) := by
      rw [show rows.length - i = (rows.length - (i + 1)) + 1 from by omega, rowsFrom]
    rw [hv]
    refine Ev.step (fun k => by rw [spec_rpGood.l0]) ?_
    unfold rowOk
    rw [rdT58 _ _ hi, wrap_nat (by omega)]
    generalize rowsFrom rows w (i + 1) (rows.length - (i + 1)) = v at *
    refine Ev.pos (by omega) (Ev.pos (by omega) (Ev.pos (by omega) (Ev.bind (rpName_f _ hm.1) (Ev.cases (fun h => ?_) (fun h => Ev.is (by simp [h]))))))
    refine Ev.bind (rpRow_f _ _ _ _ hx) (Ev.cases (fun h2 => Ev.cases (fun h3 => ?_) (fun h3 => Ev.is (by simp [h3]))) (fun h2 => Ev.is (by simp [h2])))
    exact Ev.bind (l1All_f _ _ _ hm.2) (Ev.cases (fun h4 => Ev.eqr ih (by simp [h, h2, h3, h4])) (fun h4 => Ev.is (by simp [h4])))
theorem rpGood_f (t : ByteArray) (w : Int) (rows : List S58) (hb : RepB t rows) : Ev (fun k => spec_rpGood.f k t w rows) (repOk t w rows) := by
  unfold spec_rpGood.f
  exact rpGood_l0 t w rows hb 0 (by omega)
theorem rowsFrom_at (rows : List S58) (w : Int) : ∀ (n i : Nat), rowsFrom rows w i n = true → ∀ j, i ≤ j → j < i + n → rowOk rows w j = true
  | 0, i, _, j, h1, h2 => by omega
  | n + 1, i, h, j, h1, h2 => by
    rw [rowsFrom, Bool.and_eq_true] at h
    by_cases e : j = i
    · subst e; exact h.1
    · exact rowsFrom_at rows w n (i + 1) h.2 j (by omega) (by omega)
theorem repOk_parts {t : ByteArray} {w : Int} {rows : List S58} (h : repOk t w rows = true) : nameOk t = true ∧ (1 ≤ w ∧ w ≤ 8) ∧ rows.length ≤ 40 ∧ ∀ x ∈ rows, nameOk x.f0 = true ∧ (x.f1.length : Int) = w ∧ ∀ y ∈ x.f1, -1000000000 ≤ y ∧ y ≤ 1000000000 := by
  unfold repOk headOk at h
  simp only [Bool.and_eq_true, decide_eq_true_eq] at h
  obtain ⟨h1, h2, h3, h4⟩ := h
  refine ⟨h2, h3, by omega, fun x hx => ?_⟩
  obtain ⟨i, hi, rfl⟩ := List.getElem_of_mem hx
  have h5 := rowsFrom_at rows w _ 0 h1 i (by omega) (by omega)
  unfold rowOk at h5
  rw [rdT58 _ _ hi] at h5
  simp only [Bool.and_eq_true, decide_eq_true_eq] at h5
  exact ⟨h5.1, h5.2.2.1, inR_mem h5.2.2.2⟩
/-! spec_SumRow -/
/-- Added, place by place, wrapped. -/
def addR : List Int → List Int → List Int
  | s :: ss, x :: xs => wrap64 (s + x) :: addR ss xs
  | ss, _ => ss
theorem addR_len : ∀ (ss xs : List Int), (addR ss xs).length = ss.length
  | [], [] => rfl
  | [], _ :: _ => rfl
  | _ :: _, [] => rfl
  | s :: ss, x :: xs => by rw [addR, List.length_cons, addR_len ss xs, List.length_cons]
def sumR (rows : List S58) (acc : List Int) : List Int := rows.foldl (fun s x => addR s x.f1) acc
def sumText : ByteArray := ⟨#[115, 117, 109]⟩
def sumOut (t : ByteArray) (w : Int) (rows : List S58) : ByteArray × List Int × Bool :=
  if repOk t w rows = true ∧ inR (-1000000000) 1000000000 (sumR rows (List.replicate w.toNat 0)) = true then (sumText, sumR rows (List.replicate w.toNat 0), true) else (⟨#[]⟩, [], false)
theorem sumR_len (w : Nat) : ∀ (rows : List S58) (acc : List Int), acc.length = w → (sumR rows acc).length = w
  | [], acc, h => h
  | x :: rows, acc, h => sumR_len w rows _ (by show (addR acc x.f1).length = w; rw [addR_len]; exact h)
theorem addR_app : ∀ (s1 s2 x1 x2 : List Int), s1.length = x1.length → addR (s1 ++ s2) (x1 ++ x2) = addR s1 x1 ++ addR s2 x2
  | [], s2, [], x2, _ => rfl
  | s :: s1, s2, x :: x1, x2, h => by
    rw [List.cons_append, List.cons_append, addR, addR, List.cons_append, addR_app s1 s2 x1 x2 (by simpa using h)]
  | [], _, _ :: _, _, h => by simp at h
  | _ :: _, _, [], _, h => by simp at h
theorem addR_take (s x : List Int) (i : Nat) (h : i < s.length) (hx : i < x.length) : addR (s.take (i + 1)) (x.take (i + 1)) = addR (s.take i) (x.take i) ++ [wrap64 (s[i] + x[i])] := by
  rw [List.take_succ_eq_append_getElem h, List.take_succ_eq_append_getElem hx, addR_app _ _ _ _ (by simp; omega)]
  rfl
theorem spec_SumRow_l1 (rows : List S58) (s x : List Int) (hl : s.length = x.length) (hn : x.length ≤ 1000) (i : Int) (nm : ByteArray) (v : ByteArray × List Int × Bool)
    (hv : Ev (fun k => spec_SumRow.l0 k rows rows.length (wrap64 (i + 1)) nm (addR s x)) v) :
    ∀ q, q ≤ x.length → Ev (fun k => spec_SumRow.l1 k rows rows.length i x x.length q nm (addR (s.take q) (x.take q) ++ s.drop q)) v := by
  refine down ?_ ?_
  · refine Ev.step (fun k => by rw [spec_SumRow.l1]) ?_
    refine Ev.neg (by omega) ?_
    rw [← hl, List.take_length, List.drop_length, List.append_nil, hl, List.take_length]
    exact hv
  · intro q hq ih
    have hq2 : q < s.length := by omega
    have hz : (addR (s.take q) (x.take q)).length = q := by rw [addR_len]; simp; omega
    have hy := len_mid (addR (s.take q) (x.take q)) s q hz (by omega)
    refine Ev.step (fun k => by rw [spec_SumRow.l1]) ?_
    have er : rd (addR (s.take q) (x.take q) ++ s.drop q) (q : Int) = s[q] := by
      rw [rd_nat _ _ (by omega), List.getElem_append_right (by omega)]
      simp [hz]
    rw [er, rd_nat _ _ hq, Int.toNat_natCast, set_mid _ _ _ _ hz hq2, wrap_nat (by omega)]
    rw [addR_take s x q hq2 hq] at ih
    exact Ev.pos (by omega) (Ev.pos (by omega) (Ev.pos (by omega) (Ev.pos (by omega) ih)))
theorem spec_SumRow_l0 (rows : List S58) (w : Nat) (hw : w ≤ 8) (hr : rows.length ≤ 1000) (hx : ∀ x ∈ rows, x.f1.length = w) (nm : ByteArray) (g : List Int → ByteArray × List Int × Bool)
    (hg : ∀ s : List Int, s.length = w → Ev (fun k => spec_SumRow.l0 k rows rows.length (rows.length : Int) nm s) (g s)) :
    ∀ i, i ≤ rows.length → ∀ s : List Int, s.length = w → Ev (fun k => spec_SumRow.l0 k rows rows.length i nm s) (g (sumR (rows.drop i) s)) := by
  refine down ?_ ?_
  · intro s hs
    rw [List.drop_length]
    exact hg s hs
  · intro i hi ih s hs
    have hm := hx _ (List.getElem_mem hi)
    refine Ev.step (fun k => by rw [spec_SumRow.l0]) ?_
    rw [rdT58 _ _ hi, drop_cons _ _ hi]
    refine Ev.pos (by omega) (Ev.pos (by omega) (Ev.pos (by omega) ?_))
    have h2 := ih (addR s rows[i].f1) (by rw [addR_len]; exact hs)
    have h3 := spec_SumRow_l1 rows s rows[i].f1 (by omega) (by omega) i nm _ (by rw [wrap_nat (by omega)]; exact h2) 0 (by omega)
    show Ev _ (g (sumR (rows.drop (i + 1)) (addR s rows[i].f1)))
    simpa [addR] using h3
theorem specSum_f (t : ByteArray) (w : Int) (rows : List S58) (hb : RepB t rows) : Ev (fun k => spec_SumRow.f k t w rows) (sumOut t w rows) := by
  unfold spec_SumRow.f sumOut
  refine Ev.bind (rpGood_f t w rows hb) (Ev.cases (fun c => ?_) (fun c => Ev.is ?_))
  · obtain ⟨_, hw, hr, hx⟩ := repOk_parts c
    refine Ev.pos (by omega) (Ev.pos (by omega) ?_)
    have h := spec_SumRow_l0 rows w.toNat (by omega) (by omega) (fun x h => by have := (hx x h).2.1; omega) sumText
      (fun s => if inR (-1000000000) 1000000000 s = true then (sumText, s, true) else (⟨#[]⟩, [], false)) (fun s hs => by
        refine Ev.step (fun k => by rw [spec_SumRow.l0]) ?_
        exact Ev.neg (by omega) (Ev.bind (l1All_f _ _ _ (by omega)) (Ev.ite (fun _ => Ev.is rfl) (fun _ => Ev.is rfl)))) 0 (by omega) (List.replicate w.toNat 0) (by simp)
    refine Ev.eqr h ?_
    rw [List.drop_zero]
    by_cases d : inR (-1000000000) 1000000000 (sumR rows (List.replicate w.toNat 0)) = true
    · rw [if_pos d, if_pos ⟨c, d⟩]
    · rw [if_neg d, if_neg (fun h => d h.2)]
  · rw [if_neg (fun h => c h.1)]
/-! impl_isName -/
theorem isName_l0 (s : ByteArray) (hs : s.size ≤ 4294967296) : ∀ i, i ≤ (bytesOf s).length → Ev (fun k => impl_isName.l0 k s i) (((bytesOf s).drop i).all chOk && decide (1 ≤ s.size ∧ s.size ≤ 12)) := by
  have hl := bytes_len s
  refine down ?_ ?_
  · refine Ev.step (fun k => by rw [impl_isName.l0]) (Ev.neg (by omega) ?_)
    rw [List.drop_length, List.all_nil, Bool.true_and]
    refine Ev.cases (fun h => Ev.is ?_) (fun h => Ev.is ?_)
    · congr 1; simp; omega
    · symm; simp; omega
  · intro i hi ih
    refine Ev.step (fun k => by rw [impl_isName.l0]) ?_
    rw [bt_nat _ _ hi, wrap_nat (by omega), drop_cons _ _ hi, List.all_cons]
    generalize ((bytesOf s).drop (i + 1)).all chOk = v at *
    refine Ev.pos (by omega) (Ev.pos (by omega) ?_)
    repeat' (first | (with_reducible refine Ev.cases (fun _ => ?_) (fun _ => ?_)))
    all_goals first
      | (refine Ev.eqr ih ?_; have : chOk (bytesOf s)[i] = true := by (simp [chOk]; omega)
         rw [this, Bool.true_and])
      | (refine Ev.is ?_; have : chOk (bytesOf s)[i] = false := by (simp [chOk]; omega)
         rw [this, Bool.false_and, Bool.false_and])
theorem isName_f (s : ByteArray) (hs : s.size ≤ 4294967296) : Ev (fun k => impl_isName.f k s) (nameOk s) := by
  unfold impl_isName.f
  exact isName_l0 s hs 0 (by omega)
/-! impl_rowNamed -/
theorem rowNamed_l0 (nm : ByteArray) (xs : List S58) (hx : xs.length ≤ 4294967296) : ∀ i, i ≤ xs.length → Ev (fun k => impl_rowNamed.l0 k nm xs xs.length i) (rowIx nm (xs.drop i) i) := by
  refine down ?_ ?_
  · refine Ev.step (fun k => by rw [impl_rowNamed.l0]) (Ev.neg (by omega) (Ev.is (by rw [List.drop_length]; rfl)))
  · intro i hi ih
    refine Ev.step (fun k => by rw [impl_rowNamed.l0]) ?_
    rw [rdT58 _ _ hi, wrap_nat (by omega), drop_cons _ _ hi, rowIx]
    exact Ev.pos (by omega) (Ev.pos (by omega) (Ev.pos (by omega) (Ev.ite (fun _ => Ev.is rfl) (fun _ => ih))))
theorem rowNamed_f (nm : ByteArray) (xs : List S58) (hx : xs.length ≤ 4294967296) : Ev (fun k => impl_rowNamed.f k xs nm) (rowIx nm xs 0) := by
  unfold impl_rowNamed.f
  exact rowNamed_l0 nm xs hx 0 (by omega)
/-! impl_isReported -/
theorem isReported_f (a : Int) : impl_isReported.f a = some (decide (-1000000000 ≤ a ∧ a ≤ 1000000000)) := by
  unfold impl_isReported.f
  by_cases h : a ≥ -1000000000
  · rw [if_pos h]; congr 1; simp; omega
  · rw [if_neg h]; congr 1; simp; omega
/-! impl_IsReport -/
theorem IsReport_l1 (t : ByteArray) (w : Int) (rows : List S58) (xs : List Int) (hx : xs.length ≤ 4294967296) (i : Int) (v : Bool) (hv : Ev (fun k => impl_IsReport.l0 k rows rows.length (wrap64 (i + 1)) t w rows) v) :
    ∀ j, j ≤ xs.length → Ev (fun k => impl_IsReport.l1 k rows rows.length i xs xs.length j t w rows) (inR (-1000000000) 1000000000 (xs.drop j) && v) := by
  refine down ?_ ?_
  · refine Ev.step (fun k => by rw [impl_IsReport.l1]) (Ev.neg (by omega) ?_)
    rw [List.drop_length, inR, Bool.true_and]
    exact hv
  · intro j hj ih
    refine Ev.step (fun k => by rw [impl_IsReport.l1]) ?_
    rw [rd_nat _ _ hj, isReported_f, drop_cons _ _ hj, wrap_nat (i := j) (by omega), inR]
    exact Ev.pos (by omega) (Ev.pos (by omega) (Ev.pos (by omega) (Ev.sb (Ev.cases (fun h => Ev.eqr ih (by simp [h])) (fun h => Ev.is (by simp [h]))))))
theorem IsReport_l0 (t : ByteArray) (w : Int) (rows : List S58) (hb : RepB t rows) : ∀ i, i ≤ rows.length → Ev (fun k => impl_IsReport.l0 k rows rows.length i t w rows) (rowsFrom rows w i (rows.length - i)) := by
  obtain ⟨ht, hx, hr⟩ := hb
  refine down ?_ ?_
  · refine Ev.step (fun k => by rw [impl_IsReport.l0]) (Ev.neg (by omega) (Ev.is ?_))
    rw [Nat.sub_self, rowsFrom]
  · intro i hi ih
    have hm := hr _ (List.getElem_mem hi)
    have hv : rowsFrom rows w i (rows.length - i) = (rowOk rows w i && rowsFrom rows w (i + 1) (rows.length - (i + 1))) := by
      rw [show rows.length - i = (rows.length - (i + 1)) + 1 from by omega, rowsFrom]
    rw [hv]
    refine Ev.step (fun k => by rw [impl_IsReport.l0]) ?_
    unfold rowOk
    rw [rdT58 _ _ hi, Int.toNat_natCast]
    rw [← wrap_nat (by omega)] at ih
    have hl := IsReport_l1 t w rows rows[i].f1 hm.2 i _ ih 0 (by omega)
    rw [List.drop_zero] at hl
    have no : Ev (fun k => impl_IsReport.j2 k rows rows.length i true t w rows rows[i].f0 rows[i].f1) false := Ev.step (fun k => by rw [impl_IsReport.j2]) (Ev.pos rfl (Ev.is rfl))
    have yes : Ev (fun k => impl_IsReport.j2 k rows rows.length i false t w rows rows[i].f0 rows[i].f1) (inR (-1000000000) 1000000000 rows[i].f1 && rowsFrom rows w (i + 1) (rows.length - (i + 1))) := by
      refine Ev.step (fun k => by rw [impl_IsReport.j2]) (Ev.neg (by simp) ?_)
      exact hl
    generalize rowsFrom rows w (i + 1) (rows.length - (i + 1)) = v at *
    refine Ev.pos (by omega) (Ev.pos (by omega) (Ev.pos (by omega) (Ev.bind (isName_f _ hm.1) (Ev.cases (fun h => ?_) (fun h => Ev.eqr no (by simp [h]))))))
    refine Ev.cases (fun h3 => Ev.pos (by omega) (Ev.bind (rowNamed_f _ _ (by simp; omega)) ?_)) (fun h3 => Ev.eqr no (by simp [h3]))
    have at_ := rowIx_at rows i hi
    by_cases h2 : rowIx rows[i].f0 (rows.take i) 0 ≥ 0
    · rw [decide_eq_true h2]
      have : ¬ rowIx rows[i].f0 rows 0 = (i : Int) := fun e => (at_.1 e) h2
      exact Ev.eqr no (by simp [this])
    · rw [decide_eq_false h2]
      have := at_.2 h2
      exact Ev.eqr yes (by simp [this, h, h3])
theorem implIsReport_f (t : ByteArray) (w : Int) (rows : List S58) (hb : RepB t rows) : Ev (fun k => impl_IsReport.f k t w rows) (repOk t w rows) := by
  have no : Ev (fun k => impl_IsReport.j0 k true t w rows) false := Ev.step (fun k => by rw [impl_IsReport.j0]) (Ev.pos rfl (Ev.is rfl))
  have l0 := IsReport_l0 t w rows hb 0 (by omega)
  have yes : Ev (fun k => impl_IsReport.j0 k false t w rows) (rowsFrom rows w 0 (rows.length - 0)) := by
    refine Ev.step (fun k => by rw [impl_IsReport.j0]) (Ev.neg (by simp) ?_)
    exact l0
  unfold impl_IsReport.f repOk headOk
  rw [Nat.sub_zero] at yes
  generalize rowsFrom rows w 0 rows.length = v at *
  refine Ev.bind (isName_f t hb.1) (Ev.cases (fun h => ?_) (fun h => Ev.eqr no (by simp [h])))
  refine Ev.cases (fun h2 => Ev.eqr no ?_) (fun h2 => Ev.cases (fun h3 => Ev.eqr no ?_) (fun h3 => ?_))
  · symm; simp; intros; omega
  · symm; simp; intros; omega
  · have e : 1 ≤ w ∧ w ≤ 8 := by omega
    by_cases h4 : (rows.length : Int) > 40
    · rw [decide_eq_true h4]
      exact Ev.eqr no (by symm; simp; intros; omega)
    · rw [decide_eq_false h4]
      have : (rows.length : Int) ≤ 40 := by omega
      exact Ev.eqr yes (by simp [h, e, this])
/-! impl_SumRow -/
theorem impl_SumRow_l1 (rows : List S58) (s x : List Int) (hl : s.length = x.length) (hn : x.length ≤ 1000) (i : Int) (nm : ByteArray) (v : ByteArray × List Int × Bool)
    (hv : Ev (fun k => impl_SumRow.l0 k rows rows.length (wrap64 (i + 1)) nm (addR s x)) v) :
    ∀ q, q ≤ x.length → Ev (fun k => impl_SumRow.l1 k rows rows.length i x x.length q nm (addR (s.take q) (x.take q) ++ s.drop q)) v := by
  refine down ?_ ?_
  · refine Ev.step (fun k => by rw [impl_SumRow.l1]) ?_
    refine Ev.neg (by omega) ?_
    rw [← hl, List.take_length, List.drop_length, List.append_nil, hl, List.take_length]
    exact hv
  · intro q hq ih
    have hq2 : q < s.length := by omega
    have hz : (addR (s.take q) (x.take q)).length = q := by rw [addR_len]; simp; omega
    have hy := len_mid (addR (s.take q) (x.take q)) s q hz (by omega)
    refine Ev.step (fun k => by rw [impl_SumRow.l1]) ?_
    have er : rd (addR (s.take q) (x.take q) ++ s.drop q) (q : Int) = s[q] := by
      rw [rd_nat _ _ (by omega), List.getElem_append_right (by omega)]
      simp [hz]
    rw [er, rd_nat _ _ hq, Int.toNat_natCast, set_mid _ _ _ _ hz hq2, wrap_nat (by omega)]
    rw [addR_take s x q hq2 hq] at ih
    exact Ev.pos (by omega) (Ev.pos (by omega) (Ev.pos (by omega) (Ev.pos (by omega) ih)))
theorem impl_SumRow_l0 (rows : List S58) (w : Nat) (hw : w ≤ 8) (hr : rows.length ≤ 1000) (hx : ∀ x ∈ rows, x.f1.length = w) (nm : ByteArray) (g : List Int → ByteArray × List Int × Bool)
    (hg : ∀ s : List Int, s.length = w → Ev (fun k => impl_SumRow.l0 k rows rows.length (rows.length : Int) nm s) (g s)) :
    ∀ i, i ≤ rows.length → ∀ s : List Int, s.length = w → Ev (fun k => impl_SumRow.l0 k rows rows.length i nm s) (g (sumR (rows.drop i) s)) := by
  refine down ?_ ?_
  · intro s hs
    rw [List.drop_length]
    exact hg s hs
  · intro i hi ih s hs
    have hm := hx _ (List.getElem_mem hi)
    refine Ev.step (fun k => by rw [impl_SumRow.l0]) ?_
    rw [rdT58 _ _ hi, drop_cons _ _ hi]
    refine Ev.pos (by omega) (Ev.pos (by omega) (Ev.pos (by omega) ?_))
    have h2 := ih (addR s rows[i].f1) (by rw [addR_len]; exact hs)
    have h3 := impl_SumRow_l1 rows s rows[i].f1 (by omega) (by omega) i nm _ (by rw [wrap_nat (by omega)]; exact h2) 0 (by omega)
    show Ev _ (g (sumR (rows.drop (i + 1)) (addR s rows[i].f1)))
    simpa [addR] using h3
theorem impl_SumRow_l2 (nm : ByteArray) (xs : List Int) (hn : xs.length ≤ 1000) : ∀ i, i ≤ xs.length → Ev (fun k => impl_SumRow.l2 k xs xs.length i nm xs) (if inR (-1000000000) 1000000000 (xs.drop i) = true then (nm, xs, true) else (⟨#[]⟩, [], false)) := by
  refine down ?_ ?_
  · refine Ev.step (fun k => by rw [impl_SumRow.l2]) (Ev.neg (by omega) (Ev.is ?_))
    rw [List.drop_length]
    rfl
  · intro i hi ih
    refine Ev.step (fun k => by rw [impl_SumRow.l2]) ?_
    rw [rd_nat _ _ hi, wrap_nat (by omega), drop_cons _ _ hi, isReported_f]
    refine Ev.pos (by omega) (Ev.pos (by omega) (Ev.pos (by omega) (Ev.sb (Ev.cases (fun c => Ev.eqr ih ?_) (fun c => Ev.is ?_)))))
    · rw [inR, c, Bool.true_and]
    · simp only [Bool.not_eq_true] at c
      rw [inR, c, Bool.false_and]
      rfl
theorem implSum_f (t : ByteArray) (w : Int) (rows : List S58) (hb : RepB t rows) : Ev (fun k => impl_SumRow.f k t w rows) (sumOut t w rows) := by
  unfold impl_SumRow.f sumOut
  refine Ev.bind (implIsReport_f t w rows hb) (Ev.cases (fun c => ?_) (fun c => Ev.is ?_))
  · obtain ⟨_, hw, hr, hx⟩ := repOk_parts c
    refine Ev.pos (by omega) (Ev.pos (by omega) ?_)
    have h := impl_SumRow_l0 rows w.toNat (by omega) (by omega) (fun x h => by have := (hx x h).2.1; omega) sumText
      (fun s => if inR (-1000000000) 1000000000 s = true then (sumText, s, true) else (⟨#[]⟩, [], false)) (fun s hs => by
        refine Ev.step (fun k => by rw [impl_SumRow.l0]) ?_
        exact Ev.neg (by omega) (by have := impl_SumRow_l2 sumText s (by omega) 0 (by omega); simpa using this)) 0 (by omega) (List.replicate w.toNat 0) (by simp)
    refine Ev.eqr h ?_
    rw [List.drop_zero]
    by_cases d : inR (-1000000000) 1000000000 (sumR rows (List.replicate w.toNat 0)) = true
    · rw [if_pos d, if_pos ⟨c, d⟩]
    · rw [if_neg d, if_neg (fun h => d h.2)]
  · rw [if_neg (fun h => c h.1)]
/-! the two answers are one -/
-- lists: 2
theorem SumRow_core (t : ByteArray) (w : Int) (rows : List S84) (b0 : t.size ≤ 4294967296) (b1 : rows.length ≤ 4294967296 ∧ ∀ x_ ∈ rows, (x_.f0.size ≤ 4294967296 ∧ (x_.f1.length ≤ 4294967296))) :
    ∃ r : ByteArray × List Int × Bool, Ev (fun k => spec_SumRow.f k t w (rows.map cv84)) r ∧ Ev (fun k => impl_SumRow.f k t w (rows.map cv84)) r ∧ r.1.size ≤ 4294967296 ∧ r.2.1.length ≤ 4294967296 := by
  have hb : RepB t (rows.map cv84) := ⟨b0, cvb84 rows b1⟩
  refine ⟨_, specSum_f _ _ _ hb, implSum_f _ _ _ hb, ?_⟩
  unfold sumOut
  split
  · rename_i c
    obtain ⟨_, hw, hr, hx⟩ := repOk_parts c.1
    have := sumR_len w.toNat (rows.map cv84) (List.replicate w.toNat 0) (by simp)
    refine ⟨show sumText.size ≤ 4294967296 by decide, ?_⟩
    show (sumR _ _).length ≤ _
    omega
  · exact ⟨by decide, by simp⟩
theorem FnExactSumRow : SFnExactSumRow.Pure := by
  intro a0_0 a0_1 l0_2 ha0_0 ha0_1 hl0_2
  suffices h : Ev (fun k => laws_FnExactSumRow.f k a0_0 a0_1 l0_2) true from Ev.rounds h
  unfold laws_FnExactSumRow.f
  obtain ⟨r0, e0, u0, w0⟩ := laws_szReport_ev a0_0 a0_1 l0_2 1048576 ha0_0 ⟨hl0_2.1, fun x hx => ⟨(hl0_2.2 x hx).1, (hl0_2.2 x hx).2.1⟩⟩ (by omega) (by omega)
  refine Ev.bind e0 (Ev.cases (fun _ => Ev.is rfl) (fun g0 => ?_))
  obtain ⟨b_a0_0, b_l0_2⟩ := w0 (by omega)
  have t_l0_2 := laws_szReport_tot a0_0 a0_1 l0_2 1048576 r0 ha0_0 ⟨hl0_2.1, fun x hx => ⟨(hl0_2.2 x hx).1, (hl0_2.2 x hx).2.1⟩⟩ (by omega) (by omega) e0 (by omega)
  obtain ⟨res, s, m, bd⟩ := SumRow_core a0_0 a0_1 l0_2 b_a0_0 b_l0_2
  have c_l0_2 := cvb84 l0_2 b_l0_2
  obtain ⟨bd0, bd1⟩ := bd
  repeat' (first
    | (with_reducible exact Ev.is rfl)
    | (with_reducible refine Ev.bind (s) ?_)
    | (with_reducible refine Ev.bind (m) ?_)
    | (with_reducible refine Ev.bind (laws_toReport_ev _ _ _ (by assumption) (by assumption)) ?_)
    | (with_reducible refine Ev.bind (laws_eqReport_ev _ _ _ (by assumption) (by assumption)) ?_)
    | (with_reducible refine Ev.bind (laws_markReport_ev _ _ _ _ (by (try dsimp only); omega) (by (try dsimp only); omega) (by assumption)) ?_)
    | (with_reducible refine Ev.bind (laws_eqRow_ev _ _ (by assumption) (by assumption)) ?_)
    | (with_reducible refine Ev.bind (laws_markRow_ev _ _ _ (by (try dsimp only); omega) (by (try dsimp only); omega)) ?_)
    | (with_reducible refine Ev.bind (laws_heldRow_ev _ _ _ (by (try dsimp only); omega) (by (try dsimp only); omega)) ?_)
    | (with_reducible refine Ev.sb ?_)
    | (with_reducible refine Ev.pos rfl ?_)
    | (with_reducible refine Ev.neg ?hc ?_; case hc => (first | omega | (simp; done)))
    | (with_reducible refine Ev.pos ?hc ?_; case hc => (first | omega | (simp; done)))
    | (refine Ev.step (fun k => by rw [laws_FnExactSumRow.j0]) ?_)
    | (refine Ev.step (fun k => by rw [laws_FnExactSumRow.j1]) ?_)
    | (refine Ev.step (fun k => by rw [laws_FnExactSumRow.j2]) ?_))

end Go.Proofs.Ytoaefflonebgkaa.Pure
