/- FnExactEditsBetween: the pure statement, a law of numbers and lists alone, is proved. -/
import Derived.Test.YtoaefflonebgkaaSFnExactEditsBetween
import Derived.Test.YtoaefflonebgkaaMa
namespace Go.Proofs.Ytoaefflonebgkaa.Pure
open Go.RowKit Go.Proofs.Ytoaefflonebgkaa.PFnExactEditsBetween Go.Proofs.YtoaefflonebgkaaW.PrintWords Go.Proofs.YtoaefflonebgkaaW.PrintLast Go.Proofs.Ytoaefflonebgkaa.Ma Go.Proofs.Ytoaefflonebgkaa.SFnExactEditsBetween
set_option linter.unusedVariables false
set_option linter.unusedSimpArgs false
theorem rdT94 (xs : List S94) (i : Nat) (h : i < xs.length) : rd_T94 xs (i : Int) = xs[i] := getT_nat _ _ _ h
/-! laws_toIntS -/
theorem laws_toIntS_l0 (xs ys : List Int) (hx : xs.length ≤ 4294967296) (hy : ys.length = xs.length) : ∀ i, i ≤ xs.length → Ev (fun k => laws_toIntS.l0 k xs (xs.take i ++ ys.drop i) i) xs := by
  refine down ?_ ?_
  · refine Ev.step (fun k => by rw [laws_toIntS.l0]) ?_
    refine Ev.neg (by omega) (Ev.is (by rw [List.take_length, ← hy, List.drop_length, List.append_nil]))
  · intro i hi ih
    have hl := take_len xs ys i (by omega) hy
    refine Ev.step (fun k => by rw [laws_toIntS.l0]) ?_
    rw [rd_nat _ _ hi, wrap_nat (by omega), Int.toNat_natCast, take_set xs ys i hi hy]
    exact Ev.pos (by omega) (Ev.pos (by omega) (Ev.pos (by omega) ih))
theorem laws_toIntS_ev (xs : List Int) (hx : xs.length ≤ 4294967296) : Ev (fun k => laws_toIntS.f k xs) xs := by
  unfold laws_toIntS.f
  refine Ev.pos (by omega) (Ev.pos (by omega) ?_)
  exact laws_toIntS_l0 xs _ hx (by simp) 0 (by omega)

/-! laws_eqIntS -/
theorem laws_eqIntS_l0 (xs : List (Int)) (hx : xs.length ≤ 4294967296) : ∀ i, i ≤ xs.length → Ev (fun k => laws_eqIntS.l0 k xs xs i) true := by
  refine down ?_ ?_
  · refine Ev.step (fun k => by rw [laws_eqIntS.l0]) ?_
    exact Ev.neg (by omega) (Ev.is rfl)
  · intro i hi ih
    refine Ev.step (fun k => by rw [laws_eqIntS.l0]) ?_
    rw [rd_nat _ _ hi, wrap_nat (by omega)]
    refine Ev.pos (by omega) (Ev.pos (by omega) (Ev.pos (by omega) (Ev.pos rfl ih)))
theorem laws_eqIntS_ev (xs : List (Int)) (hb : (xs.length ≤ 4294967296)) : Ev (fun k => laws_eqIntS.f k xs xs) true := by
  unfold laws_eqIntS.f
  exact Ev.pos rfl (laws_eqIntS_l0 xs hb 0 (by omega))

/-! laws_eqEdit -/
theorem laws_eqEdit_ev (a0_0 : Int) (a0_1 : Int)  : Ev (fun _ => laws_eqEdit.f a0_0 a0_1 a0_0 a0_1) true := by
  unfold laws_eqEdit.f
  repeat' (first | (with_reducible refine Ev.pos rfl ?_) | (with_reducible exact Ev.is rfl))

/-! laws_eqEditS -/
theorem laws_eqEditS_l0 (xs : List (S94)) (hx : xs.length ≤ 4294967296) : ∀ i, i ≤ xs.length → Ev (fun k => laws_eqEditS.l0 k xs xs i) true := by
  refine down ?_ ?_
  · refine Ev.step (fun k => by rw [laws_eqEditS.l0]) ?_
    exact Ev.neg (by omega) (Ev.is rfl)
  · intro i hi ih
    refine Ev.step (fun k => by rw [laws_eqEditS.l0]) ?_
    rw [rdT94 _ _ hi, wrap_nat (by omega)]
    refine Ev.pos (by omega) (Ev.pos (by omega) (Ev.pos (by omega) (Ev.bind (laws_eqEdit_ev _ _ ) (Ev.pos rfl ih))))
theorem laws_eqEditS_ev (xs : List (S94)) (hb : (xs.length ≤ 4294967296)) : Ev (fun k => laws_eqEditS.f k xs xs) true := by
  unfold laws_eqEditS.f
  exact Ev.pos rfl (laws_eqEditS_l0 xs hb 0 (by omega))

/-! spec_l1In -/
theorem l1In_f (a lo up : Int) : spec_l1In.f a lo up = some (decide (lo ≤ a ∧ a ≤ up)) := by
  unfold spec_l1In.f
  by_cases h : a ≥ lo
  · rw [if_pos h]; congr 1; simp; omega
  · rw [if_neg h]; congr 1; simp; omega
/-! spec_l1All -/
theorem l1All_l0 (xs : List Int) (lo up : Int) (hx : xs.length ≤ 4294967296) : ∀ i, i ≤ xs.length → Ev (fun k => spec_l1All.l0 k lo up xs xs.length i) (inR lo up (xs.drop i)) := by
  refine down ?_ ?_
  · refine Ev.step (fun k => by rw [spec_l1All.l0]) ?_
    repeat' (first
      | (with_reducible refine Ev.sb ?_)
      | (with_reducible refine Ev.pos ?hc ?_; case hc => (first | assumption | omega))
      | (with_reducible refine Ev.neg ?hc ?_; case hc => (first | assumption | omega))
      | (with_reducible refine Ev.cases (fun _ => ?_) (fun _ => ?_)))
    all_goals first
      | (refine Ev.is ?_; (first | done | rfl | (simp only [inR]; done) | (simp_all [inR, -List.getElem_cons_drop]; done) | (simp_all [inR, -List.getElem_cons_drop]; omega) | omega))
      | (exfalso; first | omega | (simp_all; done) | (simp_all; omega))
  · intro i hi ih
    refine Ev.step (fun k => by rw [spec_l1All.l0]) ?_
    rw [rd_nat _ _ hi, l1In_f, wrap_nat (by omega), drop_cons _ _ hi]
    repeat' (first
      | (with_reducible refine Ev.sb ?_)
      | (with_reducible refine Ev.pos ?hc ?_; case hc => (first | assumption | omega))
      | (with_reducible refine Ev.neg ?hc ?_; case hc => (first | assumption | omega))
      | (with_reducible refine Ev.cases (fun _ => ?_) (fun _ => ?_)))
    all_goals first
      | (refine Ev.eqr (ih) ?_; (first | done | rfl | (simp only [inR]; done) | (simp_all [inR, -List.getElem_cons_drop]; done) | (simp_all [inR, -List.getElem_cons_drop]; omega) | omega))
      | (refine Ev.is ?_; (first | done | rfl | (simp only [inR]; done) | (simp_all [inR, -List.getElem_cons_drop]; done) | (simp_all [inR, -List.getElem_cons_drop]; omega) | omega))
      | (exfalso; first | omega | (simp_all; done) | (simp_all; omega))
theorem l1All_f (xs : List Int) (lo up : Int) (hx : xs.length ≤ 4294967296) : Ev (fun k => spec_l1All.f k xs lo up) (inR lo up xs) := by
  unfold spec_l1All.f
  exact l1All_l0 xs lo up hx 0 (by omega)
/-! spec_edValues -/
theorem edValues_f (xs : List Int) (hx : xs.length ≤ 4294967296) : Ev (fun k => spec_edValues.f k xs) (goodV xs) := by
  unfold spec_edValues.f
  rw [l1In_f]
  repeat' (first
    | (with_reducible refine Ev.bind (l1All_f xs _ _ hx) ?_)
    | (with_reducible refine Ev.sb ?_)
    | (with_reducible refine Ev.pos ?hc ?_; case hc => (first | assumption | omega))
    | (with_reducible refine Ev.neg ?hc ?_; case hc => (first | assumption | omega))
    | (with_reducible refine Ev.cases (fun _ => ?_) (fun _ => ?_)))
  all_goals first
    | (refine Ev.is ?_; (first | done | rfl | (simp only [goodV]; done) | (simp_all [goodV, -List.getElem_cons_drop]; done) | (simp_all [goodV, -List.getElem_cons_drop]; omega) | omega))
    | (exfalso; first | omega | (simp_all; done) | (simp_all; omega))
/-! spec_EditsBetween -/
/-- The edits from i on, of so many blocks. -/
def btwFrom (v u : List Int) : Nat → Nat → List S94
  | _, 0 => []
  | i, n + 1 => if rd u (i : Int) = rd v (i : Int) then btwFrom v u (i + 1) n else ⟨(i : Int), rd u (i : Int)⟩ :: btwFrom v u (i + 1) n
def btwEnd (l : List S94) : List S94 × Bool := if (l.length : Int) > 20 then ([], false) else (l, true)
def btwOf (v u : List Int) : List S94 × Bool := if (goodV v && (goodV u && decide (v.length = u.length))) = true then btwEnd (btwFrom v u 0 u.length) else ([], false)
theorem specBtw_l0 (v u : List Int) (hv : v.length = u.length) (hu : u.length ≤ 4294967296) : ∀ i, i ≤ u.length → ∀ out : List S94, out.length ≤ i → Ev (fun k => spec_EditsBetween.l0 k v out u u.length i) (btwEnd (out ++ btwFrom v u i (u.length - i))) := by
  refine down ?_ ?_
  · intro out ho
    refine Ev.step (fun k => by rw [spec_EditsBetween.l0]) ?_
    refine Ev.neg (by omega) ?_
    rw [Nat.sub_self]
    unfold btwEnd btwFrom
    rw [List.append_nil]
    exact Ev.ite (fun _ => Ev.is rfl) (fun _ => Ev.is rfl)
  · intro i hi ih out ho
    refine Ev.step (fun k => by rw [spec_EditsBetween.l0]) ?_
    rw [rd_nat _ _ hi, rd_nat _ _ (by omega : i < v.length), wrap_nat (by omega), show u.length - i = (u.length - (i + 1)) + 1 from by omega]
    refine Ev.pos (by omega) (Ev.pos (by omega) (Ev.pos (by omega) (Ev.pos (by omega) (Ev.cases (fun h => ?_) (fun h => Ev.pos (by omega) ?_)))))
    · refine Ev.eqr (ih out (by omega)) ?_
      rw [btwFrom, rd_nat _ _ hi, rd_nat _ _ (by omega : i < v.length), if_pos h]
    · refine Ev.eqr (ih _ (by simp; omega)) ?_
      rw [btwFrom, rd_nat _ _ hi, rd_nat _ _ (by omega : i < v.length), if_neg h, List.append_assoc, List.singleton_append]
theorem specBtw_j0 (v u : List Int) (hv : v.length = u.length) (hu : u.length ≤ 4294967296) : Ev (fun k => spec_EditsBetween.j0 k v u false) (btwEnd (btwFrom v u 0 u.length)) := by
  refine Ev.step (fun k => by rw [spec_EditsBetween.j0]) (Ev.neg (by simp) ?_)
  exact specBtw_l0 v u hv hu 0 (by omega) [] (by simp)
theorem specBtw_no (v u : List Int) : Ev (fun k => spec_EditsBetween.j0 k v u true) ([], false) := Ev.step (fun k => by rw [spec_EditsBetween.j0]) (Ev.pos rfl (Ev.is rfl))
theorem specBtw_f (v u : List Int) (hv : v.length ≤ 4294967296) (hu : u.length ≤ 4294967296) : Ev (fun k => spec_EditsBetween.f k v u) (btwOf v u) := by
  unfold spec_EditsBetween.f btwOf
  refine Ev.bind (edValues_f v hv) (Ev.cases (fun h => ?_) (fun h => Ev.eqr (specBtw_no v u) (by simp [h])))
  refine Ev.bind (edValues_f u hu) (Ev.cases (fun h2 => ?_) (fun h2 => Ev.eqr (specBtw_no v u) (by simp [h2])))
  by_cases e : v.length = u.length
  · have : ((u.length : Int) != (v.length : Int)) = false := by simp [e]
    rw [this]
    exact Ev.eqr (specBtw_j0 v u e hu) (by simp [h, h2, e])
  · have : ((u.length : Int) != (v.length : Int)) = true := by simp; omega
    rw [this]
    exact Ev.eqr (specBtw_no v u) (by simp [e])
/-! impl_goodValues -/
theorem goodValues_l0 (xs : List Int) (hx : xs.length ≤ 4294967296) : ∀ i, i ≤ xs.length → Ev (fun k => impl_goodValues.l0 k xs xs.length i) (inR (-1000000) 1000000 (xs.drop i)) := by
  refine down ?_ ?_
  · refine Ev.step (fun k => by rw [impl_goodValues.l0]) ?_
    repeat' (first
      | (with_reducible refine Ev.sb ?_)
      | (with_reducible refine Ev.pos ?hc ?_; case hc => (first | assumption | omega))
      | (with_reducible refine Ev.neg ?hc ?_; case hc => (first | assumption | omega))
      | (with_reducible refine Ev.cases (fun _ => ?_) (fun _ => ?_)))
    all_goals first
      | (refine Ev.is ?_; (first | done | rfl | (simp only [inR]; done) | (simp_all [inR, -List.getElem_cons_drop]; done) | (simp_all [inR, -List.getElem_cons_drop]; omega) | omega))
      | (exfalso; first | omega | (simp_all; done) | (simp_all; omega))
  · intro i hi ih
    refine Ev.step (fun k => by rw [impl_goodValues.l0]) ?_
    rw [rd_nat _ _ hi, wrap_nat (by omega), drop_cons _ _ hi]
    repeat' (first
      | (with_reducible refine Ev.sb ?_)
      | (with_reducible refine Ev.pos ?hc ?_; case hc => (first | assumption | omega))
      | (with_reducible refine Ev.neg ?hc ?_; case hc => (first | assumption | omega))
      | (with_reducible refine Ev.cases (fun _ => ?_) (fun _ => ?_)))
    all_goals first
      | (refine Ev.eqr (ih) ?_; (first | done | rfl | (simp only [inR]; done) | (simp_all [inR, -List.getElem_cons_drop]; done) | (simp_all [inR, -List.getElem_cons_drop]; omega) | omega))
      | (refine Ev.is ?_; (first | done | rfl | (simp only [inR]; done) | (simp_all [inR, -List.getElem_cons_drop]; done) | (simp_all [inR, -List.getElem_cons_drop]; omega) | omega))
      | (exfalso; first | omega | (simp_all; done) | (simp_all; omega))
theorem goodValues_f (xs : List Int) (hx : xs.length ≤ 4294967296) : Ev (fun k => impl_goodValues.f k xs) (goodV xs) := by
  have h0 := goodValues_l0 xs hx 0 (by omega)
  rw [List.drop_zero] at h0
  unfold impl_goodValues.f
  refine Ev.cases (fun h => ?_) (fun h => ?_)
  · refine Ev.step (fun k => by rw [impl_goodValues.j0]) ?_
    refine Ev.pos rfl (Ev.is ?_)
    simp [goodV]; omega
  · refine Ev.step (fun k => by rw [impl_goodValues.j0]) ?_
    refine Ev.cases (fun h => ?_) (fun h => ?_)
    · refine Ev.is ?_
      simp at h
      simp [goodV]; omega
    · refine Ev.eqr h0 ?_
      simp at h
      have e : (1 ≤ xs.length ∧ xs.length ≤ 120) := by omega
      simp [goodV, e]
/-! impl_EditsBetween -/
theorem implBtw_l0 (v u : List Int) (hv : v.length = u.length) (hu : u.length ≤ 4294967296) : ∀ i, i ≤ u.length → ∀ out : List S94, out.length ≤ i → Ev (fun k => impl_EditsBetween.l0 k v out u u.length i) (btwEnd (out ++ btwFrom v u i (u.length - i))) := by
  refine down ?_ ?_
  · intro out ho
    refine Ev.step (fun k => by rw [impl_EditsBetween.l0]) ?_
    refine Ev.neg (by omega) ?_
    rw [Nat.sub_self]
    unfold btwEnd btwFrom
    rw [List.append_nil]
    exact Ev.ite (fun _ => Ev.is rfl) (fun _ => Ev.is rfl)
  · intro i hi ih out ho
    refine Ev.step (fun k => by rw [impl_EditsBetween.l0]) ?_
    rw [rd_nat _ _ hi, rd_nat _ _ (by omega : i < v.length), wrap_nat (by omega), show u.length - i = (u.length - (i + 1)) + 1 from by omega]
    refine Ev.pos (by omega) (Ev.pos (by omega) (Ev.pos (by omega) (Ev.pos (by omega) (Ev.cases (fun h => ?_) (fun h => Ev.pos (by omega) ?_)))))
    · refine Ev.eqr (ih out (by omega)) ?_
      rw [btwFrom, rd_nat _ _ hi, rd_nat _ _ (by omega : i < v.length), if_pos h]
    · refine Ev.eqr (ih _ (by simp; omega)) ?_
      rw [btwFrom, rd_nat _ _ hi, rd_nat _ _ (by omega : i < v.length), if_neg h, List.append_assoc, List.singleton_append]
theorem implBtw_j0 (v u : List Int) (hv : v.length = u.length) (hu : u.length ≤ 4294967296) : Ev (fun k => impl_EditsBetween.j0 k v u false) (btwEnd (btwFrom v u 0 u.length)) := by
  refine Ev.step (fun k => by rw [impl_EditsBetween.j0]) (Ev.neg (by simp) ?_)
  exact implBtw_l0 v u hv hu 0 (by omega) [] (by simp)
theorem implBtw_no (v u : List Int) : Ev (fun k => impl_EditsBetween.j0 k v u true) ([], false) := Ev.step (fun k => by rw [impl_EditsBetween.j0]) (Ev.pos rfl (Ev.is rfl))
theorem implBtw_f (v u : List Int) (hv : v.length ≤ 4294967296) (hu : u.length ≤ 4294967296) : Ev (fun k => impl_EditsBetween.f k v u) (btwOf v u) := by
  unfold impl_EditsBetween.f btwOf
  refine Ev.bind (goodValues_f v hv) (Ev.cases (fun h => ?_) (fun h => Ev.eqr (implBtw_no v u) (by simp [h])))
  refine Ev.bind (goodValues_f u hu) (Ev.cases (fun h2 => ?_) (fun h2 => Ev.eqr (implBtw_no v u) (by simp [h2])))
  by_cases e : v.length = u.length
  · have : ((u.length : Int) != (v.length : Int)) = false := by simp [e]
    rw [this]
    exact Ev.eqr (implBtw_j0 v u e hu) (by simp [h, h2, e])
  · have : ((u.length : Int) != (v.length : Int)) = true := by simp; omega
    rw [this]
    exact Ev.eqr (implBtw_no v u) (by simp [e])
/-! laws_markIntS -/
theorem markIntS_l0 (xs : List Int) (a : Int) (h0 : 0 ≤ a) (h1 : a + xs.length ≤ 1099511627776) : ∀ i, i ≤ xs.length → Ev (fun k => laws_markIntS.l0 k (marks a i ++ xs.drop i) (a + (i : Int)) i) (a + (xs.length : Int), marks a xs.length) := by
  refine down ?_ ?_
  · refine Ev.step (fun k => by rw [laws_markIntS.l0]) ?_
    refine Ev.neg (by rw [len_mid _ _ _ (marks_len _ _) (Nat.le_refl _)]; omega) (Ev.is (by rw [List.drop_length, List.append_nil]))
  · intro i hi ih
    have hl := len_mid (marks a i) xs i (marks_len _ _) (by omega)
    refine Ev.step (fun k => by rw [laws_markIntS.l0]) ?_
    rw [Int.toNat_natCast, set_mid _ _ _ _ (marks_len _ _) hi, ← marks_succ, wrap_nat (by omega), wrap_id (x := a + (i : Int) + 1) (by omega) (by omega), show a + (i : Int) + 1 = a + ((i + 1 : Nat) : Int) from by omega]
    exact Ev.pos (by omega) (Ev.pos (by omega) ih)
theorem laws_markIntS_ev (xs : List Int) (a : Int) (h0 : 0 ≤ a) (h1 : a + xs.length ≤ 1099511627776) : Ev (fun k => laws_markIntS.f k xs a) (a + (xs.length : Int), marks a xs.length) := by
  have := markIntS_l0 xs a h0 h1 0 (by omega)
  unfold laws_markIntS.f
  simpa [marks] using this
/-! laws_markEditS -/
def ruleE (a : Int) : Nat → S94 := fun j => ⟨a + 2 * (j : Int), a + 2 * (j : Int) + 1⟩
theorem markEditS_l0 (xs : List S94) (a : Int) (h0 : 0 ≤ a) (h1 : a + 2 * xs.length ≤ 1099511627776) : ∀ i, i ≤ xs.length → Ev (fun k => laws_markEditS.l0 k (rule (ruleE a) i ++ xs.drop i) (a + 2 * (i : Int)) i) (a + 2 * (xs.length : Int), rule (ruleE a) xs.length) := by
  refine down ?_ ?_
  · refine Ev.step (fun k => by rw [laws_markEditS.l0]) ?_
    refine Ev.neg (by rw [len_mid _ _ _ (rule_len _ _) (Nat.le_refl _)]; omega) (Ev.is (by rw [List.drop_length, List.append_nil]))
  · intro i hi ih
    have hl := len_mid (rule (ruleE a) i) xs i (rule_len _ _) (by omega)
    refine Ev.step (fun k => by rw [laws_markEditS.l0]) ?_
    refine Ev.pos (by omega) (Ev.pos (by omega) (Ev.sb ?_))
    rw [Int.toNat_natCast, rdT94 (List.set _ _ _) i (by rw [List.length_set]; omega), List.getElem_set_self, List.set_set, set_mid _ _ _ _ (rule_len _ _) hi, wrap_nat (by omega), wrap_id (x := a + 2 * (i : Int) + 1) (by omega) (by omega), wrap_id (x := a + 2 * (i : Int) + 1 + 1) (by omega) (by omega)]
    rw [rule_succ, show a + 2 * ((i + 1 : Nat) : Int) = a + 2 * (i : Int) + 1 + 1 from by omega] at ih
    exact ih
theorem laws_markEditS_ev (xs : List S94) (a : Int) (h0 : 0 ≤ a) (h1 : a + 2 * xs.length ≤ 1099511627776) : Ev (fun k => laws_markEditS.f k xs a) (a + 2 * (xs.length : Int), rule (ruleE a) xs.length) := by
  have := markEditS_l0 xs a h0 h1 0 (by omega)
  unfold laws_markEditS.f
  simpa [rule] using this
/-! laws_heldEditS -/
theorem heldEditS_l0 (n : Nat) (a : Int) (h0 : 0 ≤ a) (h1 : a + 2 * n ≤ 1099511627776) : ∀ i, i ≤ n → Ev (fun k => laws_heldEditS.l0 k (rule (ruleE a) n) (a + 2 * (i : Int)) i) (a + 2 * (n : Int)) := by
  have hl := rule_len (ruleE a) n
  refine down ?_ ?_
  · refine Ev.step (fun k => by rw [laws_heldEditS.l0]) ?_
    exact Ev.neg (by omega) (Ev.is rfl)
  · intro i hi ih
    refine Ev.step (fun k => by rw [laws_heldEditS.l0]) ?_
    rw [rdT94 _ i (by omega), rule_get, wrap_nat (by omega), wrap_id (x := a + 2 * (i : Int) + 1) (by omega) (by omega), wrap_id (x := a + 2 * (i : Int) + 1 + 1) (by omega) (by omega)]
    rw [show a + 2 * ((i + 1 : Nat) : Int) = a + 2 * (i : Int) + 1 + 1 from by omega] at ih
    exact Ev.pos (by omega) (Ev.pos (by omega) (Ev.pos rfl (Ev.pos rfl ih)))
theorem laws_heldEditS_ev (n : Nat) (a : Int) (h0 : 0 ≤ a) (h1 : a + 2 * n ≤ 1099511627776) : Ev (fun k => laws_heldEditS.f k (rule (ruleE a) n) a) (a + 2 * (n : Int)) := by
  have := heldEditS_l0 n a h0 h1 0 (by omega)
  unfold laws_heldEditS.f
  simpa using this
/-! the two answers are one -/
theorem EditsBetween_core (l0 l1 : List Int) (b0 : l0.length ≤ 4294967296) (b1 : l1.length ≤ 4294967296) (_ : l0.length ≤ maxLen ∧ ∀ y ∈ l0, Op.I64 y) (_ : l1.length ≤ maxLen ∧ ∀ y ∈ l1, Op.I64 y) :
    ∃ r : List S94 × Bool, Ev (fun k => spec_EditsBetween.f k l0 l1) r ∧ Ev (fun k => impl_EditsBetween.f k l0 l1) r ∧ r.1.length ≤ 4294967296 := by
  refine ⟨_, specBtw_f _ _ b0 b1, implBtw_f _ _ b0 b1, ?_⟩
  unfold btwOf
  split
  · unfold btwEnd
    split
    · simp
    · simp only []; omega
  · simp
theorem FnExactEditsBetween : SFnExactEditsBetween.Pure := by
  intro l0 l1 hl0 hl1
  suffices h : Ev (fun k => laws_FnExactEditsBetween.f k l0 l1) true from Ev.rounds h
  unfold laws_FnExactEditsBetween.f
  refine Ev.cases (fun _ => Ev.is rfl) (fun g0 => ?_)
  have b_l0 : l0.length ≤ 4294967296 := by omega
  refine Ev.cases (fun _ => Ev.is rfl) (fun g1 => ?_)
  have b_l1 : l1.length ≤ 4294967296 := by omega
  obtain ⟨res, s, m, bd⟩ := EditsBetween_core l0 l1 b_l0 b_l1 hl0 hl1
  repeat' (first
    | (with_reducible exact Ev.is rfl)
    | (with_reducible refine Ev.bind (s) ?_)
    | (with_reducible refine Ev.bind (m) ?_)
    | (with_reducible refine Ev.bind (laws_toIntS_ev _ (by assumption)) ?_)
    | (with_reducible refine Ev.bind (laws_eqIntS_ev _ (by assumption)) ?_)
    | (with_reducible refine Ev.bind (laws_markIntS_ev _ _ (by omega) (by omega)) ?_)
    | (with_reducible refine Ev.bind (laws_eqEditS_ev _ (by assumption)) ?_)
    | (with_reducible refine Ev.bind (laws_markEditS_ev _ _ (by omega) (by omega)) ?_)
    | (with_reducible refine Ev.bind (laws_heldEditS_ev _ _ (by omega) (by omega)) ?_)
    | (with_reducible refine Ev.sb ?_)
    | (with_reducible refine Ev.pos rfl ?_)
    | (with_reducible refine Ev.neg ?hc ?_; case hc => (first | omega | (simp; done)))
    | (with_reducible refine Ev.pos ?hc ?_; case hc => (first | omega | (simp; done)))
    | (refine Ev.step (fun k => by rw [laws_FnExactEditsBetween.j0]) ?_)
    | (refine Ev.step (fun k => by rw [laws_FnExactEditsBetween.j1]) ?_)
    | (refine Ev.step (fun k => by rw [laws_FnExactEditsBetween.j2]) ?_))

end Go.Proofs.Ytoaefflonebgkaa.Pure
