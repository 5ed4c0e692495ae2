/- FnExactEditValues: the pure statement, a law of numbers and lists alone, is proved. -/
import Derived.Test.YtoaefflonebgkaaSFnExactEditValues
import Derived.Test.YtoaefflonebgkaaMa
namespace Go.Proofs.Ytoaefflonebgkaa.Pure
open Go.RowKit Go.Proofs.Ytoaefflonebgkaa.PFnExactEditValues Go.Proofs.YtoaefflonebgkaaW.PrintWords Go.Proofs.YtoaefflonebgkaaW.PrintLast Go.Proofs.Ytoaefflonebgkaa.Ma Go.Proofs.Ytoaefflonebgkaa.SFnExactEditValues
set_option linter.unusedVariables false
set_option linter.unusedSimpArgs false
theorem rdT96 (xs : List S96) (i : Nat) (h : i < xs.length) : rd_T96 xs (i : Int) = xs[i] := getT_nat _ _ _ h
theorem rdT94 (xs : List S94) (i : Nat) (h : i < xs.length) : rd_T94 xs (i : Int) = xs[i] := getT_nat _ _ _ h
/-! laws_szEditS -/
theorem laws_szEditS_ev (xs : List (S96)) (n : Int) (hm : xs.length ≤ maxLen) (h0 : 0 ≤ n) (h1 : n ≤ 1048576) : ∃ r, Ev (fun _ => laws_szEditS.f xs n) r ∧ r ≤ n ∧ (0 ≤ r → xs.length ≤ 4294967296) := by
  unfold maxLen at hm
  unfold laws_szEditS.f
  rw [wrap_id (by omega) (by omega)]
  by_cases h : n - (xs.length : Int) < 0
  · exact ⟨-1, Ev.pos h (Ev.is rfl), by omega, fun h => by omega⟩
  · exact ⟨_, Ev.neg h (Ev.is rfl), by omega, fun h => by omega⟩

/-! laws_toIntS -/
theorem laws_toIntS_l0 (xs ys : List Int) (hx : xs.length ≤ 4294967296) (hy : ys.length = xs.length) : ∀ i, i ≤ xs.length → Ev (fun k => laws_toIntS.l0 k xs (xs.take i ++ ys.drop i) i) xs := by
  refine down ?_ ?_
  · refine Ev.step (fun k => by rw [laws_toIntS.l0]) ?_
    refine Ev.neg (by omega) (Ev.is (by rw [List.take_length, ← hy, List.drop_length, List.append_nil]))
  · intro i hi ih
    have hl := take_len xs ys i (by omega) hy
    refine Ev.step (fun k => by rw [laws_toIntS.l0]) ?_
    rw [rd_nat _ _ hi, wrap_nat (by omega), Int.toNat_natCast, take_set xs ys i hi hy]
    exact Ev.pos (by omega) (Ev.pos (by omega) (Ev.pos (by omega) ih))
theorem laws_toIntS_ev (xs : List Int) (hx : xs.length ≤ 4294967296) : Ev (fun k => laws_toIntS.f k xs) xs := by
  unfold laws_toIntS.f
  refine Ev.pos (by omega) (Ev.pos (by omega) ?_)
  exact laws_toIntS_l0 xs _ hx (by simp) 0 (by omega)

/-! laws_toEdit -/
theorem laws_toEdit_ev (a0_0 : Int) (a0_1 : Int)  : Ev (fun _ => laws_toEdit.f a0_0 a0_1) (a0_0, a0_1) := by
  unfold laws_toEdit.f
  repeat' (first | (with_reducible exact Ev.is rfl) | exact Ev.is rfl)

/-! laws_toEditS -/
def cv96 (x : S96) : S94 := ⟨x.f0, x.f1⟩
theorem cvb96 (xs : List (S96)) (hb : (xs.length ≤ 4294967296)) : ((xs.map cv96).length ≤ 4294967296) := by
  simpa using hb
theorem laws_toEditS_l0 (xs : List (S96)) (ys : List (S94)) (hx : xs.length ≤ 4294967296) (hy : ys.length = xs.length) : ∀ i, i ≤ xs.length → Ev (fun k => laws_toEditS.l0 k xs ((xs.map cv96).take i ++ ys.drop i) i) (xs.map cv96) := by
  have hm : (xs.map cv96).length = xs.length := by simp
  refine down ?_ ?_
  · refine Ev.step (fun k => by rw [laws_toEditS.l0]) ?_
    refine Ev.neg (by omega) (Ev.is (by rw [← hm, List.take_length, hm, ← hy, List.drop_length, List.append_nil]))
  · intro i hi ih
    have hl := take_len (xs.map cv96) ys i (by omega) (by omega)
    have hs := take_set (xs.map cv96) ys i (by omega) (by omega)
    rw [List.getElem_map] at hs
    refine Ev.step (fun k => by rw [laws_toEditS.l0]) ?_
    rw [rdT96 _ _ hi, wrap_nat (by omega), Int.toNat_natCast]
    refine Ev.pos (by omega) (Ev.pos (by omega) (Ev.bind (laws_toEdit_ev _ _ ) (Ev.pos (by omega) ?_)))
    show Ev (fun k => laws_toEditS.l0 k xs (((xs.map cv96).take i ++ ys.drop i).set i (cv96 xs[i])) _) _
    rw [hs]
    exact ih
theorem laws_toEditS_ev (xs : List (S96)) (hb : (xs.length ≤ 4294967296)) : Ev (fun k => laws_toEditS.f k xs) (xs.map cv96) := by
  have hx : xs.length ≤ 4294967296 := hb
  unfold laws_toEditS.f
  refine Ev.pos (by omega) (Ev.pos (by omega) ?_)
  exact laws_toEditS_l0 xs _ hx (by simp) 0 (by omega)

/-! laws_eqIntS -/
theorem laws_eqIntS_l0 (xs : List (Int)) (hx : xs.length ≤ 4294967296) : ∀ i, i ≤ xs.length → Ev (fun k => laws_eqIntS.l0 k xs xs i) true := by
  refine down ?_ ?_
  · refine Ev.step (fun k => by rw [laws_eqIntS.l0]) ?_
    exact Ev.neg (by omega) (Ev.is rfl)
  · intro i hi ih
    refine Ev.step (fun k => by rw [laws_eqIntS.l0]) ?_
    rw [rd_nat _ _ hi, wrap_nat (by omega)]
    refine Ev.pos (by omega) (Ev.pos (by omega) (Ev.pos (by omega) (Ev.pos rfl ih)))
theorem laws_eqIntS_ev (xs : List (Int)) (hb : (xs.length ≤ 4294967296)) : Ev (fun k => laws_eqIntS.f k xs xs) true := by
  unfold laws_eqIntS.f
  exact Ev.pos rfl (laws_eqIntS_l0 xs hb 0 (by omega))

/-! laws_eqEdit -/
theorem laws_eqEdit_ev (a0_0 : Int) (a0_1 : Int)  : Ev (fun _ => laws_eqEdit.f a0_0 a0_1 a0_0 a0_1) true := by
  unfold laws_eqEdit.f
  repeat' (first | (with_reducible refine Ev.pos rfl ?_) | (with_reducible exact Ev.is rfl))

/-! laws_eqEditS -/
theorem laws_eqEditS_l0 (xs : List (S94)) (hx : xs.length ≤ 4294967296) : ∀ i, i ≤ xs.length → Ev (fun k => laws_eqEditS.l0 k xs xs i) true := by
  refine down ?_ ?_
  · refine Ev.step (fun k => by rw [laws_eqEditS.l0]) ?_
    exact Ev.neg (by omega) (Ev.is rfl)
  · intro i hi ih
    refine Ev.step (fun k => by rw [laws_eqEditS.l0]) ?_
    rw [rdT94 _ _ hi, wrap_nat (by omega)]
    refine Ev.pos (by omega) (Ev.pos (by omega) (Ev.pos (by omega) (Ev.bind (laws_eqEdit_ev _ _ ) (Ev.pos rfl ih))))
theorem laws_eqEditS_ev (xs : List (S94)) (hb : (xs.length ≤ 4294967296)) : Ev (fun k => laws_eqEditS.f k xs xs) true := by
  unfold laws_eqEditS.f
  exact Ev.pos rfl (laws_eqEditS_l0 xs hb 0 (by omega))

/-! laws_markIntS -/
theorem markIntS_l0 (xs : List Int) (a : Int) (h0 : 0 ≤ a) (h1 : a + xs.length ≤ 1099511627776) : ∀ i, i ≤ xs.length → Ev (fun k => laws_markIntS.l0 k (marks a i ++ xs.drop i) (a + (i : Int)) i) (a + (xs.length : Int), marks a xs.length) := by
  refine down ?_ ?_
  · refine Ev.step (fun k => by rw [laws_markIntS.l0]) ?_
    refine Ev.neg (by rw [len_mid _ _ _ (marks_len _ _) (Nat.le_refl _)]; omega) (Ev.is (by rw [List.drop_length, List.append_nil]))
  · intro i hi ih
    have hl := len_mid (marks a i) xs i (marks_len _ _) (by omega)
    refine Ev.step (fun k => by rw [laws_markIntS.l0]) ?_
    rw [Int.toNat_natCast, set_mid _ _ _ _ (marks_len _ _) hi, ← marks_succ, wrap_nat (by omega), wrap_id (x := a + (i : Int) + 1) (by omega) (by omega), show a + (i : Int) + 1 = a + ((i + 1 : Nat) : Int) from by omega]
    exact Ev.pos (by omega) (Ev.pos (by omega) ih)
theorem laws_markIntS_ev (xs : List Int) (a : Int) (h0 : 0 ≤ a) (h1 : a + xs.length ≤ 1099511627776) : Ev (fun k => laws_markIntS.f k xs a) (a + (xs.length : Int), marks a xs.length) := by
  have := markIntS_l0 xs a h0 h1 0 (by omega)
  unfold laws_markIntS.f
  simpa [marks] using this
/-! laws_markEditS -/
def ruleE (a : Int) : Nat → S94 := fun j => ⟨a + 2 * (j : Int), a + 2 * (j : Int) + 1⟩
theorem markEditS_l0 (xs : List S94) (a : Int) (h0 : 0 ≤ a) (h1 : a + 2 * xs.length ≤ 1099511627776) : ∀ i, i ≤ xs.length → Ev (fun k => laws_markEditS.l0 k (rule (ruleE a) i ++ xs.drop i) (a + 2 * (i : Int)) i) (a + 2 * (xs.length : Int), rule (ruleE a) xs.length) := by
  refine down ?_ ?_
  · refine Ev.step (fun k => by rw [laws_markEditS.l0]) ?_
    refine Ev.neg (by rw [len_mid _ _ _ (rule_len _ _) (Nat.le_refl _)]; omega) (Ev.is (by rw [List.drop_length, List.append_nil]))
  · intro i hi ih
    have hl := len_mid (rule (ruleE a) i) xs i (rule_len _ _) (by omega)
    refine Ev.step (fun k => by rw [laws_markEditS.l0]) ?_
    refine Ev.pos (by omega) (Ev.pos (by omega) (Ev.sb ?_))
    rw [Int.toNat_natCast, rdT94 (List.set _ _ _) i (by rw [List.length_set]; omega), List.getElem_set_self, List.set_set, set_mid _ _ _ _ (rule_len _ _) hi, wrap_nat (by omega), wrap_id (x := a + 2 * (i : Int) + 1) (by omega) (by omega), wrap_id (x := a + 2 * (i : Int) + 1 + 1) (by omega) (by omega)]
    rw [rule_succ, show a + 2 * ((i + 1 : Nat) : Int) = a + 2 * (i : Int) + 1 + 1 from by omega] at ih
    exact ih
theorem laws_markEditS_ev (xs : List S94) (a : Int) (h0 : 0 ≤ a) (h1 : a + 2 * xs.length ≤ 1099511627776) : Ev (fun k => laws_markEditS.f k xs a) (a + 2 * (xs.length : Int), rule (ruleE a) xs.length) := by
  have := markEditS_l0 xs a h0 h1 0 (by omega)
  unfold laws_markEditS.f
  simpa [rule] using this
/-! spec_l1In -/
theorem l1In_f (a lo up : Int) : spec_l1In.f a lo up = some (decide (lo ≤ a ∧ a ≤ up)) := by
  unfold spec_l1In.f
  by_cases h : a ≥ lo
  · rw [if_pos h]; congr 1; simp; omega
  · rw [if_neg h]; congr 1; simp; omega
/-! spec_l1All -/
theorem l1All_l0 (xs : List Int) (lo up : Int) (hx : xs.length ≤ 4294967296) : ∀ i, i ≤ xs.length → Ev (fun k => spec_l1All.l0 k lo up xs xs.length i) (inR lo up (xs.drop i)) := by
  refine down ?_ ?_
  · refine Ev.step (fun k => by rw [spec_l1All.l0]) ?_
    repeat' (first
      | (with_reducible refine Ev.sb ?_)
      | (with_reducible refine Ev.pos ?hc ?_; case hc => (first | assumption | omega))
      | (with_reducible refine Ev.neg ?hc ?_; case hc => (first | assumption | omega))
      | (with_reducible refine Ev.cases (fun _ => ?_) (fun _ => ?_)))
    all_goals first
      | (refine Ev.is ?_; (first | done | rfl | (simp only [inR]; done) | (simp_all [inR, -List.getElem_cons_drop]; done) | (simp_all [inR, -List.getElem_cons_drop]; omega) | omega))
      | (exfalso; first | omega | (simp_all; done) | (simp_all; omega))
  · intro i hi ih
    refine Ev.step (fun k => by rw [spec_l1All.l0]) ?_
    rw [rd_nat _ _ hi, l1In_f, wrap_nat (by omega), drop_cons _ _ hi]
    repeat' (first
      | (with_reducible refine Ev.sb ?_)
      | (with_reducible refine Ev.pos ?hc ?_; case hc => (first | assumption | omega))
      | (with_reducible refine Ev.neg ?hc ?_; case hc => (first | assumption | omega))
      | (with_reducible refine Ev.cases (fun _ => ?_) (fun _ => ?_)))
    all_goals first
      | (refine Ev.eqr (ih) ?_; (first | done | rfl | (simp only [inR]; done) | (simp_all [inR, -List.getElem_cons_drop]; done) | (simp_all [inR, -List.getElem_cons_drop]; omega) | omega))
      | (refine Ev.is ?_; (first | done | rfl | (simp only [inR]; done) | (simp_all [inR, -List.getElem_cons_drop]; done) | (simp_all [inR, -List.getElem_cons_drop]; omega) | omega))
      | (exfalso; first | omega | (simp_all; done) | (simp_all; omega))
theorem l1All_f (xs : List Int) (lo up : Int) (hx : xs.length ≤ 4294967296) : Ev (fun k => spec_l1All.f k xs lo up) (inR lo up xs) := by
  unfold spec_l1All.f
  exact l1All_l0 xs lo up hx 0 (by omega)
/-! spec_edValues -/
theorem edValues_f (xs : List Int) (hx : xs.length ≤ 4294967296) : Ev (fun k => spec_edValues.f k xs) (goodV xs) := by
  unfold spec_edValues.f
  rw [l1In_f]
  repeat' (first
    | (with_reducible refine Ev.bind (l1All_f xs _ _ hx) ?_)
    | (with_reducible refine Ev.sb ?_)
    | (with_reducible refine Ev.pos ?hc ?_; case hc => (first | assumption | omega))
    | (with_reducible refine Ev.neg ?hc ?_; case hc => (first | assumption | omega))
    | (with_reducible refine Ev.cases (fun _ => ?_) (fun _ => ?_)))
  all_goals first
    | (refine Ev.is ?_; (first | done | rfl | (simp only [goodV]; done) | (simp_all [goodV, -List.getElem_cons_drop]; done) | (simp_all [goodV, -List.getElem_cons_drop]; omega) | omega))
    | (exfalso; first | omega | (simp_all; done) | (simp_all; omega))
/-! spec_edList -/
/-- Edits that are in order, behind a block. -/
def edOk (n : Nat) : Int → List S94 → Bool
  | _, [] => true
  | last, e :: l => decide (last + 1 ≤ e.f0 ∧ e.f0 ≤ (n : Int) - 1) && (decide (-1000000 ≤ e.f1 ∧ e.f1 ≤ 1000000) && edOk n e.f0 l)
theorem edList_l0 (v : List Int) (xs : List S94) (hv : v.length ≤ 4294967296) (hx : xs.length ≤ 4294967296) : ∀ i, i ≤ xs.length → ∀ last : Int, -1 ≤ last → last ≤ 4294967296 → Ev (fun k => spec_edList.l0 k v xs last xs xs.length i) (edOk v.length last (xs.drop i) && decide (xs.length ≤ 20)) := by
  refine down ?_ ?_
  · intro last h0 h1
    refine Ev.step (fun k => by rw [spec_edList.l0]) ?_
    repeat' (first
      | (with_reducible refine Ev.sb ?_)
      | (with_reducible refine Ev.pos ?hc ?_; case hc => (first | assumption | omega))
      | (with_reducible refine Ev.neg ?hc ?_; case hc => (first | assumption | omega))
      | (with_reducible refine Ev.cases (fun _ => ?_) (fun _ => ?_)))
    all_goals first
      | (refine Ev.is ?_; (first | done | rfl | (simp only [edOk]; done) | (simp_all [edOk, -List.getElem_cons_drop]; done) | (simp_all [edOk, -List.getElem_cons_drop]; omega) | omega))
      | (exfalso; first | omega | (simp_all; done) | (simp_all; omega))
  · intro i hi ih last h0 h1
    refine Ev.step (fun k => by rw [spec_edList.l0]) ?_
    rw [rdT94 _ _ hi, l1In_f, l1In_f, wrap_nat (by omega), drop_cons _ _ hi, wrap_id (x := last + 1) (by omega) (by omega), wrap_id (x := (v.length : Int) - 1) (by omega) (by omega)]
    refine Ev.pos (by omega) (Ev.pos (by omega) (Ev.pos (by omega) (Ev.sb ?_)))
    by_cases h : last + 1 ≤ xs[i].f0 ∧ xs[i].f0 ≤ (v.length : Int) - 1
    · refine Ev.pos (by simpa using h) (Ev.sb ?_)
      by_cases h2 : -1000000 ≤ xs[i].f1 ∧ xs[i].f1 ≤ 1000000
      · exact Ev.pos (by simpa using h2) (Ev.eqr (ih _ (by omega) (by omega)) (by simp only [edOk, h, h2]; rfl))
      · exact Ev.neg (by simpa using h2) (Ev.is (by simp only [edOk, h2]; simp))
    · exact Ev.neg (by simpa using h) (Ev.is (by simp only [edOk, h]; simp))
def edGoodL (n : Nat) (l : List S94) : Bool := edOk n (-1) l && decide (l.length ≤ 20)
theorem edList_f (v : List Int) (xs : List S94) (hv : v.length ≤ 4294967296) (hx : xs.length ≤ 4294967296) : Ev (fun k => spec_edList.f k v xs) (edGoodL v.length xs) := by
  unfold spec_edList.f
  exact edList_l0 v xs hv hx 0 (by omega) (-1) (by omega) (by omega)
/-! spec_edGood -/
theorem edGood_f (v : List Int) (xs : List S94) (hv : v.length ≤ 4294967296) (hx : xs.length ≤ 4294967296) : Ev (fun k => spec_edGood.f k v xs) (goodV v && edGoodL v.length xs) := by
  unfold spec_edGood.f
  repeat' (first
    | (with_reducible refine Ev.bind (edValues_f v hv) ?_)
    | (with_reducible refine Ev.bind (edList_f v xs hv hx) ?_)
    | (with_reducible refine Ev.sb ?_)
    | (with_reducible refine Ev.pos ?hc ?_; case hc => (first | assumption | omega))
    | (with_reducible refine Ev.neg ?hc ?_; case hc => (first | assumption | omega))
    | (with_reducible refine Ev.cases (fun _ => ?_) (fun _ => ?_)))
  all_goals first
    | (refine Ev.is ?_; (first | done | rfl | (simp only []; done) | (simp_all [-List.getElem_cons_drop]; done) | (simp_all [-List.getElem_cons_drop]; omega) | omega))
    | (exfalso; first | omega | (simp_all; done) | (simp_all; omega))
theorem edOk_mem {n : Nat} : ∀ {l : List S94} {last : Int}, -1 ≤ last → edOk n last l = true → ∀ e ∈ l, 0 ≤ e.f0 ∧ e.f0 < n
  | [], _, _, _, e, he => by cases he
  | x :: l, last, hm, h, e, he => by
    simp [edOk] at h
    rcases List.mem_cons.1 he with rfl | he
    · omega
    · exact edOk_mem (by omega) h.2.2 e he
theorem edGoodL_mem {n : Nat} {l : List S94} (h : edGoodL n l = true) : ∀ e ∈ l, 0 ≤ e.f0 ∧ e.f0 < n := by
  simp [edGoodL] at h
  exact edOk_mem (by omega) h.1
/-! spec_l1Own -/
theorem l1Own_f (xs : List Int) (hx : xs.length ≤ 4294967296) : spec_l1Own.f xs = some xs := by
  unfold spec_l1Own.f
  rw [Option.bind_some, if_pos (by simp; omega)]
  rfl
/-! spec_edAfter -/
def edPut (v : List Int) : List S94 → List Int
  | [] => v
  | e :: l => edPut (v.set e.f0.toNat e.f1) l
theorem edPut_len : ∀ (l : List S94) (v : List Int), (edPut v l).length = v.length
  | [], v => rfl
  | e :: l, v => by rw [edPut, edPut_len l]; simp
theorem edAfter_l0 (xs : List S94) (hx : xs.length ≤ 4294967296) (n : Nat) (hb : ∀ e ∈ xs, 0 ≤ e.f0 ∧ e.f0 < n) : ∀ i, i ≤ xs.length → ∀ v : List Int, v.length = n → Ev (fun k => spec_edAfter.l0 k v xs xs.length i) (edPut v (xs.drop i)) := by
  refine down ?_ ?_
  · intro v hv
    refine Ev.step (fun k => by rw [spec_edAfter.l0]) ?_
    exact Ev.neg (by omega) (Ev.is (by rw [List.drop_length]; rfl))
  · intro i hi ih v hv
    have hm := hb _ (List.getElem_mem hi)
    refine Ev.step (fun k => by rw [spec_edAfter.l0]) ?_
    rw [rdT94 _ _ hi, wrap_nat (by omega), drop_cons _ _ hi]
    exact Ev.pos (by omega) (Ev.pos (by omega) (Ev.pos (by omega) (Ev.pos (by omega) (Ev.pos (by omega) (ih _ (by simpa using hv))))))
theorem edAfter_f (v : List Int) (xs : List S94) (hv : v.length ≤ 4294967296) (hx : xs.length ≤ 4294967296) (hb : ∀ e ∈ xs, 0 ≤ e.f0 ∧ e.f0 < v.length) : Ev (fun k => spec_edAfter.f k v xs) (edPut v xs) := by
  unfold spec_edAfter.f
  rw [l1Own_f v hv]
  exact Ev.sb (edAfter_l0 xs hx v.length hb 0 (by omega) v rfl)
/-! spec_EditValues -/
def edValsOf (v : List Int) (xs : List S94) : List Int × Bool := if (goodV v && edGoodL v.length xs) = true then (edPut v xs, true) else ([], false)
theorem specEditValues_f (v : List Int) (xs : List S94) (hv : v.length ≤ 4294967296) (hx : xs.length ≤ 4294967296) : Ev (fun k => spec_EditValues.f k v xs) (edValsOf v xs) := by
  unfold spec_EditValues.f edValsOf
  refine Ev.bind (edGood_f v xs hv hx) (Ev.ite (fun h => ?_) (fun h => Ev.is rfl))
  have hb : ∀ e ∈ xs, 0 ≤ e.f0 ∧ e.f0 < v.length := edGoodL_mem (by simp at h; exact h.2)
  exact Ev.bind (edAfter_f v xs hv hx hb) (Ev.is rfl)
/-! impl_goodValues -/
theorem goodValues_l0 (xs : List Int) (hx : xs.length ≤ 4294967296) : ∀ i, i ≤ xs.length → Ev (fun k => impl_goodValues.l0 k xs xs.length i) (inR (-1000000) 1000000 (xs.drop i)) := by
  refine down ?_ ?_
  · refine Ev.step (fun k => by rw [impl_goodValues.l0]) ?_
    repeat' (first
      | (with_reducible refine Ev.sb ?_)
      | (with_reducible refine Ev.pos ?hc ?_; case hc => (first | assumption | omega))
      | (with_reducible refine Ev.neg ?hc ?_; case hc => (first | assumption | omega))
      | (with_reducible refine Ev.cases (fun _ => ?_) (fun _ => ?_)))
    all_goals first
      | (refine Ev.is ?_; (first | done | rfl | (simp only [inR]; done) | (simp_all [inR, -List.getElem_cons_drop]; done) | (simp_all [inR, -List.getElem_cons_drop]; omega) | omega))
      | (exfalso; first | omega | (simp_all; done) | (simp_all; omega))
  · intro i hi ih
    refine Ev.step (fun k => by rw [impl_goodValues.l0]) ?_
    rw [rd_nat _ _ hi, wrap_nat (by omega), drop_cons _ _ hi]
    repeat' (first
      | (with_reducible refine Ev.sb ?_)
      | (with_reducible refine Ev.pos ?hc ?_; case hc => (first | assumption | omega))
      | (with_reducible refine Ev.neg ?hc ?_; case hc => (first | assumption | omega))
      | (with_reducible refine Ev.cases (fun _ => ?_) (fun _ => ?_)))
    all_goals first
      | (refine Ev.eqr (ih) ?_; (first | done | rfl | (simp only [inR]; done) | (simp_all [inR, -List.getElem_cons_drop]; done) | (simp_all [inR, -List.getElem_cons_drop]; omega) | omega))
      | (refine Ev.is ?_; (first | done | rfl | (simp only [inR]; done) | (simp_all [inR, -List.getElem_cons_drop]; done) | (simp_all [inR, -List.getElem_cons_drop]; omega) | omega))
      | (exfalso; first | omega | (simp_all; done) | (simp_all; omega))
theorem goodValues_f (xs : List Int) (hx : xs.length ≤ 4294967296) : Ev (fun k => impl_goodValues.f k xs) (goodV xs) := by
  have h0 := goodValues_l0 xs hx 0 (by omega)
  rw [List.drop_zero] at h0
  unfold impl_goodValues.f
  refine Ev.cases (fun h => ?_) (fun h => ?_)
  · refine Ev.step (fun k => by rw [impl_goodValues.j0]) ?_
    refine Ev.pos rfl (Ev.is ?_)
    simp [goodV]; omega
  · refine Ev.step (fun k => by rw [impl_goodValues.j0]) ?_
    refine Ev.cases (fun h => ?_) (fun h => ?_)
    · refine Ev.is ?_
      simp at h
      simp [goodV]; omega
    · refine Ev.eqr h0 ?_
      simp at h
      have e : (1 ≤ xs.length ∧ xs.length ≤ 120) := by omega
      simp [goodV, e]
/-! impl_areEdits -/
theorem areEdits_l0 (v : List Int) (xs : List S94) (hv : v.length ≤ 4294967296) (hx : xs.length ≤ 4294967296) : ∀ i, i ≤ xs.length → ∀ last : Int, -1 ≤ last → (i = 0 → last = -1) → (∀ h : 0 < i ∧ i - 1 < xs.length, last = (xs[i - 1]'h.2).f0) → Ev (fun k => impl_areEdits.l0 k v xs xs xs.length i) (edOk v.length last (xs.drop i)) := by
  refine down ?_ ?_
  · intro last hm h0 h1
    refine Ev.step (fun k => by rw [impl_areEdits.l0]) ?_
    repeat' (first
      | (with_reducible refine Ev.sb ?_)
      | (with_reducible refine Ev.pos ?hc ?_; case hc => (first | assumption | omega))
      | (with_reducible refine Ev.neg ?hc ?_; case hc => (first | assumption | omega))
      | (with_reducible refine Ev.cases (fun _ => ?_) (fun _ => ?_)))
    all_goals first
      | (refine Ev.is ?_; (first | done | rfl | (simp only [edOk]; done) | (simp_all [edOk, -List.getElem_cons_drop]; done) | (simp_all [edOk, -List.getElem_cons_drop]; omega) | omega))
      | (exfalso; first | omega | (simp_all; done) | (simp_all; omega))
  · intro i hi ih last hm h0 h1
    have ih := fun (hh : -1 ≤ (xs[i]'hi).f0) => ih xs[i].f0 hh (by omega) (fun h => rfl)
    refine Ev.step (fun k => by rw [impl_areEdits.l0]) ?_
    rw [rdT94 _ _ hi, wrap_nat (by omega), drop_cons _ _ hi]
    refine Ev.pos (by omega) (Ev.pos (by omega) (Ev.pos (by omega) ?_))
    have fin : (last + 1 ≤ xs[i].f0 ∧ xs[i].f0 ≤ (v.length : Int) - 1) → Ev (fun n => if xs[i].f1 < -1000000 then some false else if xs[i].f1 > 1000000 then some false else impl_areEdits.l0 n v xs xs xs.length ((i + 1 : Nat) : Int)) (edOk v.length last (xs[i] :: xs.drop (i + 1))) := by
      intro h
      refine Ev.cases (fun h2 => Ev.is ?_) (fun h2 => Ev.cases (fun h3 => Ev.is ?_) (fun h3 => Ev.eqr (ih (by omega)) ?_))
      · have : ¬ (-1000000 ≤ xs[i].f1 ∧ xs[i].f1 ≤ 1000000) := by omega
        simp only [edOk, this]; simp
      · have : ¬ (-1000000 ≤ xs[i].f1 ∧ xs[i].f1 ≤ 1000000) := by omega
        simp only [edOk, this]; simp
      · have : (-1000000 ≤ xs[i].f1 ∧ xs[i].f1 ≤ 1000000) := by omega
        simp only [edOk, this, h]; rfl
    have bad : ¬ (last + 1 ≤ xs[i].f0 ∧ xs[i].f0 ≤ (v.length : Int) - 1) → false = edOk v.length last (xs[i] :: xs.drop (i + 1)) := by
      intro h
      simp only [edOk, h]; simp
    by_cases hz : i = 0
    · have := h0 hz
      refine Ev.cases (fun h => Ev.is (bad (by omega))) (fun h => Ev.cases (fun h2 => Ev.is (bad (by omega))) (fun h2 => Ev.neg (by omega) (fin (by omega))))
    · have hp := h1 ⟨by omega, by omega⟩
      have e : wrap64 ((i : Int) - 1) = ((i - 1 : Nat) : Int) := by unfold wrap64; omega
      rw [e, rdT94 _ _ (by omega : i - 1 < xs.length), ← hp]
      exact Ev.cases (fun h => Ev.is (bad (by omega))) (fun h => Ev.cases (fun h2 => Ev.is (bad (by omega))) (fun h2 => Ev.pos (by omega) (Ev.pos (by omega) (Ev.pos (by omega) (Ev.cases (fun h3 => Ev.is (bad (by omega))) (fun h3 => fin (by omega)))))))
theorem areEdits_f (v : List Int) (xs : List S94) (hv : v.length ≤ 4294967296) (hx : xs.length ≤ 4294967296) : Ev (fun k => impl_areEdits.f k v xs) (edGoodL v.length xs) := by
  unfold impl_areEdits.f
  refine Ev.cases (fun h => Ev.is ?_) (fun h => Ev.eqr (areEdits_l0 v xs hv hx 0 (by omega) (-1) (by omega) (fun _ => rfl) (fun h => by omega)) ?_)
  · have : ¬ xs.length ≤ 20 := by omega
    simp [edGoodL, this]
  · have : xs.length ≤ 20 := by omega
    simp [edGoodL, this]
/-! impl_editValues -/
theorem editValues_l0 (xs : List S94) (hx : xs.length ≤ 4294967296) (n : Nat) (hb : ∀ e ∈ xs, 0 ≤ e.f0 ∧ e.f0 < n) : ∀ i, i ≤ xs.length → ∀ v : List Int, v.length = n → Ev (fun k => impl_editValues.l0 k v xs xs.length i) (edPut v (xs.drop i)) := by
  refine down ?_ ?_
  · intro v hv
    refine Ev.step (fun k => by rw [impl_editValues.l0]) ?_
    exact Ev.neg (by omega) (Ev.is (by rw [List.drop_length]; rfl))
  · intro i hi ih v hv
    have hm := hb _ (List.getElem_mem hi)
    refine Ev.step (fun k => by rw [impl_editValues.l0]) ?_
    rw [rdT94 _ _ hi, wrap_nat (by omega), drop_cons _ _ hi]
    exact Ev.pos (by omega) (Ev.pos (by omega) (Ev.pos (by omega) (Ev.pos (by omega) (Ev.pos (by omega) (ih _ (by simpa using hv))))))
theorem editValues_f (v : List Int) (xs : List S94) (hv : v.length ≤ 4294967296) (hx : xs.length ≤ 4294967296) (hb : ∀ e ∈ xs, 0 ≤ e.f0 ∧ e.f0 < v.length) : Ev (fun k => impl_editValues.f k v xs) (edPut v xs) := by
  unfold impl_editValues.f
  refine Ev.sb (Ev.pos (by simp; omega) ?_)
  exact editValues_l0 xs hx v.length hb 0 (by omega) v rfl
/-! impl_EditValues -/
theorem implEditValues_f (v : List Int) (xs : List S94) (hv : v.length ≤ 4294967296) (hx : xs.length ≤ 4294967296) : Ev (fun k => impl_EditValues.f k v xs) (edValsOf v xs) := by
  unfold impl_EditValues.f edValsOf
  refine Ev.bind (goodValues_f v hv) (Ev.cases (fun h => ?_) (fun h => Ev.is (by simp [h])))
  refine Ev.bind (areEdits_f v xs hv hx) (Ev.cases (fun h2 => ?_) (fun h2 => Ev.is (by simp [h2])))
  exact Ev.bind (editValues_f v xs hv hx (edGoodL_mem h2)) (Ev.is (by simp [h, h2]))
/-! laws_heldIntS -/
theorem heldIntS_l0 (n : Nat) (a : Int) (h0 : 0 ≤ a) (h1 : a + n ≤ 1099511627776) : ∀ i, i ≤ n → Ev (fun k => laws_heldIntS.l0 k (marks a n) (a + (i : Int)) i) (a + (n : Int)) := by
  have hl := marks_len a n
  refine down ?_ ?_
  · refine Ev.step (fun k => by rw [laws_heldIntS.l0]) ?_
    exact Ev.neg (by omega) (Ev.is rfl)
  · intro i hi ih
    refine Ev.step (fun k => by rw [laws_heldIntS.l0]) ?_
    rw [rd_nat _ _ (by omega), marks_get, wrap_nat (by omega), wrap_id (x := a + (i : Int) + 1) (by omega) (by omega), show a + (i : Int) + 1 = a + ((i + 1 : Nat) : Int) from by omega]
    exact Ev.pos (by omega) (Ev.pos (by omega) (Ev.pos rfl ih))
theorem laws_heldIntS_ev (n : Nat) (a : Int) (h0 : 0 ≤ a) (h1 : a + n ≤ 1099511627776) : Ev (fun k => laws_heldIntS.f k (marks a n) a) (a + (n : Int)) := by
  have := heldIntS_l0 n a h0 h1 0 (by omega)
  unfold laws_heldIntS.f
  simpa using this
/-! the two answers are one -/
theorem EditValues_core (l0 : List Int) (l1 : List S96) (b0 : l0.length ≤ 4294967296) (b1 : l1.length ≤ 4294967296) (_ : l0.length ≤ maxLen ∧ ∀ y ∈ l0, Op.I64 y) (_ : l1.length ≤ maxLen ∧ ∀ y ∈ l1, Q96 y) :
    ∃ r : List Int × Bool, Ev (fun k => spec_EditValues.f k l0 (l1.map cv96)) r ∧ Ev (fun k => impl_EditValues.f k l0 (l1.map cv96)) r ∧ r.1.length ≤ 4294967296 := by
  have b1' : (l1.map cv96).length ≤ 4294967296 := by simpa using b1
  refine ⟨_, specEditValues_f _ _ b0 b1', implEditValues_f _ _ b0 b1', ?_⟩
  unfold edValsOf
  split
  · rw [edPut_len]; exact b0
  · simp
theorem FnExactEditValues : SFnExactEditValues.Pure := by
  intro l0 l1 hl0 hl1
  suffices h : Ev (fun k => laws_FnExactEditValues.f k l0 l1) true from Ev.rounds h
  unfold laws_FnExactEditValues.f
  refine Ev.cases (fun _ => Ev.is rfl) (fun g0 => ?_)
  have b_l0 : l0.length ≤ 4294967296 := by omega
  obtain ⟨r1, e1, u1, w1⟩ := laws_szEditS_ev l1 1048576 hl1.1 (by omega) (by omega)
  refine Ev.bind e1 (Ev.cases (fun _ => Ev.is rfl) (fun g1 => ?_))
  obtain b_l1 := w1 (by omega)
  obtain ⟨res, s, m, bd⟩ := EditValues_core l0 l1 b_l0 b_l1 hl0 hl1
  have c_l1 := cvb96 l1 b_l1
  repeat' (first
    | (with_reducible exact Ev.is rfl)
    | (with_reducible refine Ev.bind (s) ?_)
    | (with_reducible refine Ev.bind (m) ?_)
    | (with_reducible refine Ev.bind (laws_toIntS_ev _ (by assumption)) ?_)
    | (with_reducible refine Ev.bind (laws_eqIntS_ev _ (by assumption)) ?_)
    | (with_reducible refine Ev.bind (laws_toEditS_ev _ (by assumption)) ?_)
    | (with_reducible refine Ev.bind (laws_eqEditS_ev _ (by assumption)) ?_)
    | (with_reducible refine Ev.bind (laws_markIntS_ev _ _ (by omega) (by omega)) ?_)
    | (with_reducible refine Ev.bind (laws_markEditS_ev _ _ (by omega) (by omega)) ?_)
    | (with_reducible refine Ev.bind (laws_heldIntS_ev _ _ (by omega) (by omega)) ?_)
    | (with_reducible refine Ev.sb ?_)
    | (with_reducible refine Ev.pos rfl ?_)
    | (with_reducible refine Ev.neg ?hc ?_; case hc => (first | omega | (simp; done)))
    | (with_reducible refine Ev.pos ?hc ?_; case hc => (first | omega | (simp; done)))
    | (refine Ev.step (fun k => by rw [laws_FnExactEditValues.j0]) ?_)
    | (refine Ev.step (fun k => by rw [laws_FnExactEditValues.j1]) ?_)
    | (refine Ev.step (fun k => by rw [laws_FnExactEditValues.j2]) ?_))

end Go.Proofs.Ytoaefflonebgkaa.Pure
