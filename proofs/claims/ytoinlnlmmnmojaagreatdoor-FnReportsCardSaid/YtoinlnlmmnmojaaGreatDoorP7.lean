/- Both parsers of reports are one (plain). -/
import Derived.Test.YtoinlnlmmnmojaaGreatDoorP5
import Derived.Test.YtoinlnlmmnmojaaGreatDoorP6
namespace Go.Proofs.YtoinlnlmmnmojaaGreatDoor.E
open Go Go.Proofs Go.RowKit
set_option maxHeartbeats 2000000
set_option linter.unusedSimpArgs false
set_option linter.unusedVariables false
/-! pieces -/
theorem ext_data (s : ByteArray) (a b : Nat) : (s.extract a b).data.toList = (s.data.toList.take b).drop a := by
  rw [ByteArray.data_extract, Array.toList_extract]
  show (s.data.toList.drop a).take (b - a) = _
  rw [List.drop_take]
theorem data_ext {s t : ByteArray} (h : s.data.toList = t.data.toList) : s = t := by
  rw [← mk_data s, ← mk_data t, h]
theorem map_data_inj : ∀ {A B : List ByteArray}, A.map (·.data.toList) = B.map (·.data.toList) → A = B
  | [], [], _ => rfl
  | [], b :: B, h => by cases h
  | a :: A, [], h => by cases h
  | a :: A, b :: B, h => by
    rw [List.map_cons, List.map_cons] at h
    injection h with h1 h2
    rw [data_ext h1, map_data_inj h2]
theorem spS_spl (s : ByteArray) (b : UInt8) : ∀ i, i ≤ s.size → (spS s (b.toNat : Int) i).1.map (·.data.toList) ++ [(s.data.toList.take i).drop (spS s (b.toNat : Int) i).2] = spl b (s.data.toList.take i)
  | 0, _ => by simp [spS, spl]
  | i + 1, h => by
    have ih := spS_spl s b i (by omega)
    have hf := spS_from s (b.toNat : Int) i
    have hl := len_data s
    have htk := take_getD s.data.toList i 0 (by omega)
    have hb := sAt_byte s i (by omega)
    rw [spS]
    by_cases e : s.data.toList.getD i 0 = b
    · rw [if_pos (by rw [hb, e]), htk, (spl_snoc b _ _).1 e, ← ih]
      have hd : (s.data.toList.take i ++ [s.data.toList.getD i 0]).drop (i + 1) = [] := List.drop_eq_nil_of_le (by rw [List.length_append, List.length_take, List.length_singleton]; omega)
      dsimp only
      rw [List.map_append, List.map_cons, List.map_nil, ext_data, hd]
    · rw [if_neg (by rw [hb]; intro e2; exact e (UInt8.toNat_inj.1 (by omega))), htk, (spl_snoc b _ _).2 e _ _ ih.symm]
      rw [List.drop_append_of_le_length (by rw [List.length_take]; omega)]
theorem splitS_spl (s : ByteArray) (b : UInt8) : (splitS s (b.toNat : Int)).map (·.data.toList) = spl b s.data.toList := by
  have h := spS_spl s b s.size (Nat.le_refl _)
  have hl := len_data s
  unfold splitS
  rw [List.map_append, List.map_cons, List.map_nil, ext_data, h, ← hl, List.take_length]
theorem split10 (s : ByteArray) : (splitS s 10).map (·.data.toList) = spl 10 s.data.toList := splitS_spl s 10
theorem split32 (s : ByteArray) : (splitS s 32).map (·.data.toList) = spl 32 s.data.toList := splitS_spl s 32
/-! joined -/
theorem join_jn1 : ∀ L : List (List UInt8), Lib.join L [32] = jn1 32 L
  | [] => rfl
  | [x] => Lib.join_one x _
  | x :: y :: r => by
    have ih := join_jn1 (y :: r)
    rw [jn1, ← ih, Lib.join_cons, Lib.join_cons]
    simp [Lib.joinTail]
theorem jn1_end (b : UInt8) : ∀ L : List (List UInt8), jn1 b (L ++ [[]]) = L.flatMap (fun x => x ++ [b])
  | [] => rfl
  | x :: r => by
    rw [List.cons_append, jn1_cons b x (by simp), jn1_end b r, List.flatMap_cons]
    simp
/-- The line of a row, the head, the text. -/
def lnB (x : Rw) : List UInt8 := jn1 32 (x.1.data.toList :: x.2.map Lib.itoa)
def hdB (t : ByteArray) (w : Int) : List UInt8 := jn1 32 [[114, 101, 112, 111, 114, 116], t.data.toList, Lib.itoa w]
def txB (t : ByteArray) (w : Int) (R : List Rw) : List UInt8 := (hdB t w :: R.map lnB).flatMap (fun x => x ++ [10])
theorem app_data (a b : ByteArray) : (a ++ b).data.toList = a.data.toList ++ b.data.toList := by simp
theorem head_data (t : ByteArray) (w : Int) : (headT t w).data.toList = hdB t w ++ [10] := by
  unfold headT hdB
  rw [app_data, app_data, app_data, app_data, intS_data]
  simp [jn1]
theorem lnB_data {x : Rw} (h : x.2 ≠ []) : ((((x.1 ++ ⟨#[32]⟩) ++ numT x.2) ++ ⟨#[10]⟩ : ByteArray)).data.toList = lnB x ++ [10] := by
  obtain ⟨a, n⟩ := x
  cases n with
  | nil => exact absurd rfl h
  | cons n l =>
    unfold lnB numT
    rw [app_data, app_data, app_data]
    dsimp only
    rw [join_jn1, List.map_cons, jn1_cons 32 a.data.toList (by simp)]
    simp
theorem repI_data {h : ByteArray} {R : List Rw} (hx : ∀ x ∈ R, x.2 ≠ []) : ∀ i, i ≤ R.length → (repI h R i).data.toList = h.data.toList ++ ((R.take i).map lnB).flatMap (fun x => x ++ [10])
  | 0, _ => by simp [repI]
  | i + 1, hi => by
    rw [repI, app_data, repI_data hx i (by omega), lnB_data (hx _ (mem_getD R i noR (by omega))), take_getD R i noR (by omega)]
    simp
theorem rep_data {t : ByteArray} {w : Int} {R : List Rw} (hx : ∀ x ∈ R, x.2 ≠ []) : (repT (headT t w) R R.length).data.toList = txB t w R := by
  rw [rep_same hx _ (Nat.le_refl _), repI_data hx _ (Nat.le_refl _), List.take_length, head_data]
  unfold txB
  rw [List.flatMap_cons]
/-! bytes that are not there -/
theorem nmAll_at {s : ByteArray} : ∀ {n : Nat}, nmAll s n = true → ∀ i, i < n → chOk (sAt s (i : Int)) = true
  | n + 1, h, i, hi => by
    rw [nmAll, Bool.and_eq_true] at h
    by_cases e : i = n
    · rw [e]; exact h.2
    · exact nmAll_at h.1 i (by omega)
theorem name_free {s : ByteArray} (h : nameOk s = true) {b : UInt8} (hb : b.toNat < 45) : b ∉ s.data.toList := by
  intro hm
  obtain ⟨i, hi, e⟩ := List.getElem_of_mem hm
  unfold nameOk at h
  rw [Bool.and_eq_true] at h
  have hi2 : i < s.size := by rw [← len_data]; exact hi
  have h1 := nmAll_at h.1 i hi2
  rw [sAt_byte s i hi2, List.getD_eq_getElem?_getD, List.getElem?_eq_getElem hi, e] at h1
  unfold chOk at h1
  simp at h1
  omega
theorem dg_free {l : List UInt8} (h : l.all isDg = true) {b : UInt8} (hb : b.toNat < 48) : b ∉ l := by
  intro hm
  have := isDg_iff.1 (List.all_eq_true.1 h b hm)
  omega
theorem itoa_free (n : Int) {b : UInt8} (hb : b.toNat < 45) : b ∉ Lib.itoa n := by
  unfold Lib.itoa
  split
  · intro hm
    rcases List.mem_cons.1 hm with e | e
    · rw [e] at hb
      exact absurd hb (by decide)
    · exact dg_free (dd_all _) (by omega) e
  · exact dg_free (dd_all _) (by omega)
theorem jn1_free {b c : UInt8} (hbc : c ≠ b) : ∀ {L : List (List UInt8)}, (∀ x ∈ L, c ∉ x) → c ∉ jn1 b L
  | [], _ => by simp [jn1]
  | [x], h => h x List.mem_cons_self
  | x :: y :: r, h => by
    rw [jn1]
    intro hm
    rcases List.mem_append.1 hm with e | e
    · exact h x List.mem_cons_self e
    · rcases List.mem_cons.1 e with e | e
      · exact hbc e
      · exact jn1_free hbc (fun z hz => h z (List.mem_cons_of_mem _ hz)) e
/-! numerals -/
theorem dd_len : ∀ (k : Nat) {u : Nat}, u < 10 ^ (k + 1) → (Lib.decDigits u).length ≤ k + 1
  | 0, u, h => by rw [Lib.decDigits_one (by simpa using h)]; exact Nat.le_refl _
  | k + 1, u, h => by
    rw [Lib.decDigits]
    split
    · simp
    · have := dd_len k (u := u / 10) (by rw [Nat.pow_succ] at h; omega)
      rw [List.length_append, List.length_singleton]; omega
theorem intS_mk (n : Int) : (intS n).data.toList = Lib.itoa n := rfl
theorem read6 {w : Int} (h : 0 ≤ w ∧ w ≤ 8) : rd6 (intS w) = w := by
  obtain ⟨u, rfl⟩ : ∃ u : Nat, w = u := ⟨w.toNat, by omega⟩
  unfold rd6
  rw [intS_mk, Lib.itoa_nonneg, dd_canon, dd_val]
  have h1 : (intS (u : Int)).size ≤ 6 := by
    rw [← len_data, intS_mk, Lib.itoa_nonneg]
    have := dd_len 5 (u := u) (by omega)
    exact this
  rw [decide_eq_true h1]; rfl
theorem read15 {w : Int} (h : 0 ≤ w ∧ w ≤ 1000000000) : cn15 (intS w) = true ∧ dval (intS w) = w := by
  obtain ⟨u, rfl⟩ : ∃ u : Nat, w = u := ⟨w.toNat, by omega⟩
  have h0 : cn15 (intS (u : Int)) = true := by
    unfold cn15
    rw [intS_mk, Lib.itoa_nonneg, dd_canon]
    have h1 : (intS (u : Int)).size ≤ 15 := by
      rw [← len_data, intS_mk, Lib.itoa_nonneg]
      have := dd_len 14 (u := u) (by omega)
      exact this
    rw [decide_eq_true h1]; rfl
  refine ⟨h0, ?_⟩
  unfold dval
  rw [if_pos h0, intS_mk, Lib.itoa_nonneg, dd_val]
theorem dd_cons (u : Nat) : ∃ d r, Lib.decDigits u = d :: r ∧ isDg d = true := by
  have h := dd_all u
  cases hd : Lib.decDigits u with
  | nil => exact absurd hd (dd_ne u)
  | cons a t =>
    rw [hd, List.all_cons, Bool.and_eq_true] at h
    exact ⟨a, t, rfl, h.1⟩
theorem dg_ne45 {d : UInt8} (h : isDg d = true) : d ≠ 45 := fun e => by
  have := isDg_iff.1 h
  rw [e] at this
  exact absurd this.1 (by decide)
theorem neg1_dd {s : ByteArray} {u : Nat} (h : s.data.toList = Lib.decDigits u) : neg1 s = false ∧ tail1 s = s := by
  obtain ⟨d, r, e, hd⟩ := dd_cons u
  have hp : Lib.hasPrefix s.data.toList [45] = false := by
    rw [h, e]
    unfold Lib.hasPrefix
    simp [List.isPrefixOf]
    exact fun e => dg_ne45 hd e.symm
  refine ⟨hp, ?_⟩
  unfold tail1 Lib.trimPrefix
  rw [hp]
  simp only [Bool.false_eq_true, if_false]
theorem neg1_neg {s : ByteArray} {r : List UInt8} (h : s.data.toList = 45 :: r) : neg1 s = true ∧ (tail1 s).data.toList = r := by
  have hp : Lib.hasPrefix s.data.toList [45] = true := by
    rw [h]
    unfold Lib.hasPrefix
    simp [List.isPrefixOf]
  refine ⟨hp, ?_⟩
  unfold tail1 Lib.trimPrefix
  rw [hp, if_pos rfl, h]
  rfl
theorem word_back {n : Int} (h : -1000000000 ≤ n ∧ n ≤ 1000000000) : okW (intS n) = true ∧ vW (intS n) = n := by
  by_cases hn : n < 0
  · obtain ⟨u, rfl⟩ : ∃ u : Nat, n = -(u : Int) := ⟨(-n).toNat, by omega⟩
    have hd := neg1_neg (s := intS (-(u : Int))) (intS_mk _ |>.trans (Lib.itoa_neg u (by omega)))
    have ht : tail1 (intS (-(u : Int))) = intS (u : Int) := data_ext (by rw [hd.2, intS_mk, Lib.itoa_nonneg])
    have hr := read15 (w := (u : Int)) (by omega)
    unfold okW vW
    rw [hd.1, ht, hr.1, hr.2, if_pos rfl, if_pos rfl, decide_eq_true (by omega)]
    exact ⟨rfl, rfl⟩
  · obtain ⟨u, rfl⟩ : ∃ u : Nat, n = u := ⟨n.toNat, by omega⟩
    have hd := neg1_dd (s := intS (u : Int)) (by rw [intS_mk, Lib.itoa_nonneg])
    have hr := read15 (w := (u : Int)) (by omega)
    unfold okW vW
    rw [hd.1, hd.2, hr.1, hr.2]
    exact ⟨rfl, rfl⟩
theorem word_text {s : ByteArray} (h : okW s = true) : s.data.toList = Lib.itoa (vW s) := by
  have key : ∀ t : ByteArray, cn15 t = true → dval t = (valD t.data.toList : Int) ∧ Lib.decDigits (valD t.data.toList) = t.data.toList := fun t ht => by
    refine ⟨if_pos ht, ?_⟩
    unfold cn15 at ht
    rw [Bool.and_eq_true] at ht
    exact canon_dd ht.1
  unfold okW at h
  unfold vW
  by_cases hn : neg1 s = true
  · rw [if_pos hn, Bool.and_eq_true, decide_eq_true_eq] at h
    obtain ⟨h1, h2⟩ := h
    obtain ⟨k1, k2⟩ := key _ h1
    rw [if_pos hn, k1]
    rw [k1] at h2
    rw [Lib.itoa_neg _ (by omega), k2]
    have hn2 : Lib.hasPrefix s.data.toList [45] = true := hn
    cases hs : s.data.toList with
    | nil => rw [hs] at hn2; cases hn2
    | cons a r =>
      rw [hs] at hn2
      unfold Lib.hasPrefix at hn2
      simp [List.isPrefixOf] at hn2
      rw [← hn2] at hs ⊢
      rw [(neg1_neg hs).2]
  · have hn2 : Lib.hasPrefix s.data.toList [45] = false := Bool.eq_false_iff.2 hn
    have ht : tail1 s = s := by
      unfold tail1 Lib.trimPrefix
      rw [hn2]
      simp only [Bool.false_eq_true, if_false]
    rw [if_neg hn, ht] at h
    obtain ⟨k1, k2⟩ := key _ h
    rw [if_neg hn, ht, k1, Lib.itoa_nonneg, k2]
theorem sAt0 {s : ByteArray} {a : UInt8} {r : List UInt8} (h : s.data.toList = a :: r) : sAt s 0 = (a.toNat : Int) := by
  have hl := len_data s
  rw [h, List.length_cons] at hl
  have := sAt_byte s 0 (by omega)
  rw [h] at this
  exact this
theorem rpN_back {n : Int} (h : -1000000000 ≤ n ∧ n ≤ 1000000000) : rpN (intS n) = n := by
  have rd : ∀ (s : ByteArray) (u : Nat), s.data.toList = Lib.decDigits u → u ≤ 1000000000 → rd10 s = u := fun s u e hu => by
    unfold rd10
    have h1 : 1 ≤ s.size ∧ s.size ≤ 10 := by
      rw [← len_data, e]
      obtain ⟨d, r, e2, _⟩ := dd_cons u
      refine ⟨by rw [e2]; simp, dd_len 9 (by omega)⟩
    rw [e, dd_all, decide_eq_true h1, dd_val]; rfl
  by_cases hn : n < 0
  · obtain ⟨u, rfl⟩ : ∃ u : Nat, n = -(u : Int) := ⟨(-n).toNat, by omega⟩
    have hs : (intS (-(u : Int))).data.toList = 45 :: Lib.decDigits u := (intS_mk _).trans (Lib.itoa_neg u (by omega))
    have hl := len_data (intS (-(u : Int)))
    have hsg : sgnS (intS (-(u : Int))) = true := by
      unfold sgnS
      obtain ⟨d, r, e2, _⟩ := dd_cons u
      rw [sAt0 hs, decide_eq_true (p := ((45 : UInt8).toNat : Int) = 45) rfl, decide_eq_true (by rw [hs, e2] at hl; simp at hl; omega)]; rfl
    have h1 := rd ((intS (-(u : Int))).extract 1 (intS (-(u : Int))).size) u (by rw [ext_data, ← hl, List.take_length, hs]; rfl) (by omega)
    unfold rpN
    rw [hsg, if_pos rfl, h1, if_neg (by omega)]
  · obtain ⟨u, rfl⟩ : ∃ u : Nat, n = u := ⟨n.toNat, by omega⟩
    have hs : (intS (u : Int)).data.toList = Lib.decDigits u := (intS_mk _).trans (Lib.itoa_nonneg u)
    have hsg : sgnS (intS (u : Int)) = false := by
      unfold sgnS
      obtain ⟨d, r, e2, hd⟩ := dd_cons u
      rw [sAt0 (hs.trans e2), decide_eq_false (p := (d.toNat : Int) = 45), Bool.and_false]
      have := isDg_iff.1 hd
      omega
    unfold rpN
    rw [hsg, rd _ u hs (by omega)]
    simp only [Bool.false_eq_true, if_false]
    rw [if_neg (by omega)]
/-! a report's text, read -/
theorem goodRow {t : ByteArray} {wd : Int} {xs : List Rw} (h : repOk t wd xs = true) : nameOk t = true ∧ (1 ≤ wd ∧ wd ≤ 8) ∧ xs.length ≤ 40 ∧ ∀ x ∈ xs, nameOk x.1 = true ∧ x.2 ≠ [] ∧ ∀ n ∈ x.2, (-1000000000 : Int) ≤ n ∧ n ≤ 1000000000 := by
  have hl := repOk_len h
  have hne := (repOk_text h).2.2
  unfold repOk at h
  simp only [Bool.and_eq_true, decide_eq_true_eq] at h
  obtain ⟨h1, h2, h3, h4⟩ := h
  have hw : 1 ≤ wd ∧ wd ≤ 8 := by unfold inB3 at h2; simpa using h2
  refine ⟨h1, hw, hl, fun x hx => ?_⟩
  obtain ⟨i, hi, e⟩ := List.getElem_of_mem hx
  have hr := rowsOk_at h4 i hi
  unfold rowOk at hr
  have e2 : xs.getD i noR = x := by rw [List.getD_eq_getElem?_getD, List.getElem?_eq_getElem hi, e]; rfl
  rw [e2] at hr
  simp only [Bool.and_eq_true, decide_eq_true_eq] at hr
  exact ⟨hr.1, hne x hx, fun n hn => inR_mem hr.2.2.2 n hn⟩
theorem words_free {x : Rw} (h : nameOk x.1 = true) {b : UInt8} (hb : b.toNat < 45) : ∀ y ∈ x.1.data.toList :: x.2.map Lib.itoa, b ∉ y := by
  intro y hy
  rcases List.mem_cons.1 hy with e | e
  · rw [e]; exact name_free h hb
  · obtain ⟨n, _, rfl⟩ := List.mem_map.1 e
    exact itoa_free n hb
theorem head_free {t : ByteArray} (h : nameOk t = true) (w : Int) {b : UInt8} (hb : b.toNat < 45) : ∀ y ∈ [[114, 101, 112, 111, 114, 116], t.data.toList, Lib.itoa w], b ∉ y := by
  intro y hy
  simp only [List.mem_cons, List.not_mem_nil, or_false] at hy
  rcases hy with e | e | e
  · rw [e]
    intro hm
    simp only [List.mem_cons, List.not_mem_nil, or_false] at hm
    rcases hm with e | e | e | e | e | e <;> rw [e] at hb <;> exact absurd hb (by decide)
  · rw [e]; exact name_free h hb
  · rw [e]; exact itoa_free w hb
theorem spl_line {x : Rw} (h : nameOk x.1 = true) : spl 32 (lnB x) = x.1.data.toList :: x.2.map Lib.itoa := spl_jn1 32 _ (by simp) (words_free h (by decide))
theorem spl_head {t : ByteArray} (h : nameOk t = true) (w : Int) : spl 32 (hdB t w) = [[114, 101, 112, 111, 114, 116], t.data.toList, Lib.itoa w] := spl_jn1 32 _ (by simp) (head_free h w (by decide))
theorem lines_free {t : ByteArray} {w : Int} {R : List Rw} (h : repOk t w R = true) : ∀ y ∈ hdB t w :: R.map lnB, (10 : UInt8) ∉ y := by
  obtain ⟨h1, h2, h3, h4⟩ := goodRow h
  intro y hy
  rcases List.mem_cons.1 hy with e | e
  · rw [e]; exact jn1_free (by decide) (head_free h1 w (by decide))
  · obtain ⟨x, hx, rfl⟩ := List.mem_map.1 e
    exact jn1_free (by decide) (words_free (h4 x hx).1 (by decide))
theorem txB_jn (t : ByteArray) (w : Int) (R : List Rw) : txB t w R = jn1 10 ((hdB t w :: R.map lnB) ++ [[]]) := (jn1_end 10 _).symm
theorem txB_snoc (t : ByteArray) (w : Int) (R : List Rw) : txB t w R = jn1 10 (hdB t w :: R.map lnB) ++ [10] := by
  rw [txB_jn]
  generalize hL : hdB t w :: R.map lnB = L
  have hne : L ≠ [] := by rw [← hL]; simp
  clear hL
  induction L with
  | nil => exact absurd rfl hne
  | cons x r ih =>
    cases r with
    | nil => rfl
    | cons y r => rw [List.cons_append, jn1_cons 10 x (by simp), ih (by simp), jn1_cons 10 x (by simp)]; simp
theorem spl_text {t : ByteArray} {w : Int} {R : List Rw} (h : repOk t w R = true) : spl 10 (txB t w R) = (hdB t w :: R.map lnB) ++ [[]] := by
  rw [txB_jn]
  refine spl_jn1 10 _ (by simp) (fun y hy => ?_)
  rcases List.mem_append.1 hy with e | e
  · exact lines_free h y e
  · rw [List.mem_singleton.1 e]; simp
/-- The reference reads a report's text. -/
theorem spec_reads {s t : ByteArray} {w : Int} {R : List Rw} (h : repOk t w R = true) (hs : s.data.toList = txB t w R) : 2 ≤ (splitS s 10).length ∧ prsOk s = true ∧ T3 s = t ∧ W3 s = w ∧ rwsS s = R := by
  obtain ⟨h1, h2, h3, h4⟩ := goodRow h
  have e1 : splitS s 10 = ((⟨(hdB t w).toArray⟩ : ByteArray) :: R.map (fun x => (⟨(lnB x).toArray⟩ : ByteArray))) ++ [⟨#[]⟩] := by
    apply map_data_inj
    rw [split10, hs, spl_text h]
    simp
  have len : (splitS s 10).length = R.length + 2 := by rw [e1]; simp
  have e2 : hdS s = [⟨#[114, 101, 112, 111, 114, 116]⟩, t, intS w] := by
    unfold hdS
    apply map_data_inj
    rw [split32, e1]
    show spl 32 (hdB t w) = _
    rw [spl_head h1]
    rfl
  have eT : T3 s = t := by unfold T3; rw [e2]; rfl
  have eW : W3 s = w := by unfold W3; rw [e2]; exact read6 (by omega)
  have eM : midS s = R.map (fun x => (⟨(lnB x).toArray⟩ : ByteArray)) := by
    unfold midS
    rw [len, e1, List.take_append_of_le_length (by simp), List.take_of_length_le (by simp)]
    rfl
  have eR : rwsS s = R := by
    unfold rwsS
    rw [eM, List.map_map]
    have : ∀ x ∈ R, (rowS ∘ fun x : Rw => (⟨(lnB x).toArray⟩ : ByteArray)) x = x := fun x hx => by
      obtain ⟨k1, k2, k3⟩ := h4 x hx
      have e3 : splitS (⟨(lnB x).toArray⟩ : ByteArray) 32 = x.1 :: x.2.map intS := by
        apply map_data_inj
        rw [split32]
        show spl 32 (lnB x) = _
        rw [spl_line k1, List.map_cons, map_data]
      show rowS (⟨(lnB x).toArray⟩ : ByteArray) = x
      unfold rowS
      rw [e3]
      show (x.1, (x.2.map intS).map rpN) = x
      rw [List.map_map, List.map_congr_left (f := rpN ∘ intS) (g := id) (fun n hn => rpN_back (k3 n hn)), List.map_id]
    rw [List.map_congr_left (g := id) this, List.map_id]
  refine ⟨by omega, ?_, eT, eW, eR⟩
  unfold prsOk
  rw [eT, eW, eR, e2, len, h, data_ext ((rep_data (fun x hx => (h4 x hx).2.1)).trans hs.symm), decide_eq_true (p := R.length + 2 ≤ 42) (by omega), decide_eq_true rfl]
  rfl
/-! the program's side -/
theorem cut_at {a r : List UInt8} (h : (32 : UInt8) ∉ a) : (Lib.cut (a ++ 32 :: r) [32]).1 = a := by
  have hi : Lib.index (a ++ 32 :: r) [32] = (a.length : Int) := by
    refine Lib.index_first (by simp) ?_ (fun j hj => ?_)
    · unfold Lib.occAt
      rw [List.drop_left]; rfl
    · unfold Lib.occAt
      rw [List.drop_append_of_le_length (by omega)]
      cases hd : a.drop j with
      | nil =>
        have := congrArg List.length hd
        rw [List.length_drop] at this
        simp at this; omega
      | cons y t =>
        have hy : y ∈ a := List.mem_of_mem_drop (i := j) (by rw [hd]; exact List.mem_cons_self)
        simp only [List.cons_append, List.isPrefixOf, Bool.and_eq_false_iff]
        left
        rw [beq_eq_false_iff_ne]
        exact fun e => h (e ▸ hy)
  unfold Lib.cut
  rw [hi, if_pos (by omega), Int.toNat_natCast]
  exact List.take_left
theorem lnB_app {x : Rw} (h : x.2 ≠ []) : lnB x = x.1.data.toList ++ 32 :: jn1 32 (x.2.map Lib.itoa) := by
  unfold lnB
  rw [jn1_cons 32 _ (by simpa using h)]
theorem pre_app (a r : List UInt8) : Lib.hasPrefix (a ++ r) a = true ∧ Lib.trimPrefix (a ++ r) a = r := by
  have h : Lib.hasPrefix (a ++ r) a = true := List.isPrefixOf_iff_prefix.2 (List.prefix_append a r)
  refine ⟨h, ?_⟩
  unfold Lib.trimPrefix
  rw [h, if_pos rfl, List.drop_left]
theorem line_read {l : ByteArray} {x : Rw} (hl : l.data.toList = lnB x) (k1 : nameOk x.1 = true) (k2 : x.2 ≠ []) (k3 : ∀ n ∈ x.2, (-1000000000 : Int) ≤ n ∧ n ≤ 1000000000) : okRow l = true ∧ rowOf l = x := by
  have hf := name_free k1 (b := 32) (by decide)
  have e1 := hl.trans (lnB_app k2)
  have en : nameOf l = x.1 := by
    unfold nameOf
    rw [e1, cut_at hf]
  have ed : (nameOf l ++ ⟨#[32]⟩ : ByteArray).data.toList = x.1.data.toList ++ [32] := by rw [app_data, en]
  have e2 : l.data.toList = (nameOf l ++ ⟨#[32]⟩ : ByteArray).data.toList ++ jn1 32 (x.2.map Lib.itoa) := by rw [ed, e1]; simp
  obtain ⟨p1, p2⟩ := pre_app (nameOf l ++ ⟨#[32]⟩ : ByteArray).data.toList (jn1 32 (x.2.map Lib.itoa))
  rw [← e2] at p1 p2
  have ew : words ⟨(Lib.trimPrefix l.data.toList (nameOf l ++ ⟨#[32]⟩ : ByteArray).data.toList).toArray⟩ = x.2.map intS := by
    apply map_data_inj
    rw [words_spl, p2, map_data]
    exact spl_jn1 32 _ (by simpa using k2) (fun y hy => by
      obtain ⟨n, _, rfl⟩ := List.mem_map.1 hy
      exact itoa_free n (by decide))
  refine ⟨?_, ?_⟩
  · unfold okRow okL
    rw [p1, ew, Bool.true_and, List.all_eq_true]
    intro y hy
    obtain ⟨n, hn, rfl⟩ := List.mem_map.1 hy
    exact (word_back (k3 n hn)).1
  · unfold rowOf valL
    rw [ew, en, List.map_map, List.map_congr_left (f := vW ∘ intS) (g := id) (fun n hn => (word_back (k3 n hn)).2), List.map_id]
theorem suffix_app (l : List UInt8) : Lib.hasSuffix (l ++ [10]) [10] = true := List.isSuffixOf_iff_suffix.2 (List.suffix_append l [10])
theorem cut_data {s : ByteArray} {l : List UInt8} (h : s.data.toList = l ++ [10]) : (cutS s).data.toList = l := by
  have hl := len_data s
  have h2 := congrArg List.length h
  rw [List.length_append, List.length_singleton] at h2
  unfold cutS
  rw [ext_data, List.drop_zero, h, List.take_left' (by omega)]
theorem linesT_spl (s : ByteArray) : (linesT s).map (·.data.toList) = spl 10 (cutS s).data.toList := splitB_spl (cutS s) 10
/-- The program reads a report's text. -/
theorem impl_reads {s t : ByteArray} {w : Int} {R : List Rw} (h : repOk t w R = true) (hs : s.data.toList = txB t w R) : parOk s = true ∧ hdT s = t ∧ hdW s = w ∧ parR s = R := by
  obtain ⟨h1, h2, h3, h4⟩ := goodRow h
  have e0 := hs.trans (txB_snoc t w R)
  have eL : linesT s = (⟨(hdB t w).toArray⟩ : ByteArray) :: R.map (fun x => (⟨(lnB x).toArray⟩ : ByteArray)) := by
    apply map_data_inj
    rw [linesT_spl, cut_data e0, spl_jn1 10 _ (by simp) (lines_free h)]
    simp
  have eW : words ((linesT s).getD 0 ByteArray.empty) = [⟨#[114, 101, 112, 111, 114, 116]⟩, t, intS w] := by
    apply map_data_inj
    rw [words_spl, eL]
    show spl 32 (hdB t w) = _
    rw [spl_head h1]
    rfl
  have hr := read15 (w := w) (by omega)
  have eT : hdT s = t := by unfold hdT; rw [eW]; rfl
  have eW2 : hdW s = w := by unfold hdW; rw [eW]; exact hr.2
  have hk : hdOk s = true := by
    unfold hdOk
    rw [eW]
    show (true && (decide ((⟨#[114, 101, 112, 111, 114, 116]⟩ : ByteArray) = ⟨#[114, 101, 112, 111, 114, 116]⟩) && cn15 (intS w))) = true
    rw [hr.1, decide_eq_true rfl]; rfl
  have hd : (linesT s).drop 1 = R.map (fun x => (⟨(lnB x).toArray⟩ : ByteArray)) := by rw [eL]; rfl
  have ln : ∀ x ∈ R, okRow (⟨(lnB x).toArray⟩ : ByteArray) = true ∧ rowOf (⟨(lnB x).toArray⟩ : ByteArray) = x := fun x hx => line_read rfl (h4 x hx).1 (h4 x hx).2.1 (h4 x hx).2.2
  refine ⟨?_, eT, eW2, ?_⟩
  · unfold parOk
    have hne : ¬ s = ⟨#[]⟩ := fun e => by
      rw [e] at e0
      exact absurd e0 (by simp)
    have hsf : Lib.hasSuffix s.data.toList [10] = true := by rw [e0]; exact suffix_app _
    rw [decide_eq_false hne, hsf, hk, hd, Bool.not_false, Bool.true_and, Bool.true_and, Bool.true_and, List.all_eq_true]
    intro y hy
    obtain ⟨x, hx, rfl⟩ := List.mem_map.1 hy
    exact (ln x hx).1
  · unfold parR
    rw [hd, List.map_map, List.map_congr_left (f := rowOf ∘ _) (g := id) (fun x hx => (ln x hx).2), List.map_id]
theorem line_text {l : ByteArray} (h : okRow l = true) : l.data.toList = lnB (rowOf l) := by
  unfold okRow okL at h
  rw [Bool.and_eq_true] at h
  obtain ⟨h1, h2⟩ := h
  obtain ⟨r, hr⟩ := List.isPrefixOf_iff_prefix.1 h1
  have hr' : (nameOf l ++ ⟨#[32]⟩ : ByteArray).data.toList ++ r = l.data.toList := hr
  have p := pre_app (nameOf l ++ ⟨#[32]⟩ : ByteArray).data.toList r
  rw [hr'] at p
  have hw := words_spl ⟨(Lib.trimPrefix l.data.toList (nameOf l ++ ⟨#[32]⟩ : ByteArray).data.toList).toArray⟩
  have hm : (words ⟨(Lib.trimPrefix l.data.toList (nameOf l ++ ⟨#[32]⟩ : ByteArray).data.toList).toArray⟩).map (·.data.toList) = (valL l (nameOf l ++ ⟨#[32]⟩)).map Lib.itoa := by
    unfold valL
    rw [List.map_map]
    exact List.map_congr_left (fun x hx => word_text (List.all_eq_true.1 h2 x hx))
  have hv : spl 32 r = (valL l (nameOf l ++ ⟨#[32]⟩)).map Lib.itoa := by
    rw [← hm, hw, p.2]
  have hj : r = jn1 32 ((valL l (nameOf l ++ ⟨#[32]⟩)).map Lib.itoa) := by rw [← hv, jn1_spl]
  have hne : (rowOf l).2 ≠ [] := fun e => by
    have e2 : valL l (nameOf l ++ ⟨#[32]⟩) = [] := e
    rw [e2] at hv
    exact spl_ne 32 r hv
  rw [lnB_app hne]
  show l.data.toList = (nameOf l).data.toList ++ 32 :: jn1 32 ((valL l (nameOf l ++ ⟨#[32]⟩)).map Lib.itoa)
  rw [← hj, ← hr', app_data]
  simp
/-- What the program reads is the text of what it has read. -/
theorem impl_text {s : ByteArray} (h : parOk s = true) : s.data.toList = txB (hdT s) (hdW s) (parR s) := by
  unfold parOk at h
  simp only [Bool.and_eq_true] at h
  obtain ⟨h0, h1, h2, h3⟩ := h
  obtain ⟨l, hl⟩ := List.isSuffixOf_iff_suffix.1 h1
  have hl' : s.data.toList = l ++ [10] := hl.symm
  have hc := cut_data hl'
  have hls := linesT_spl s
  rw [hc] at hls
  have hj : l = jn1 10 ((linesT s).map (·.data.toList)) := by rw [hls, jn1_spl]
  have hne : linesT s ≠ [] := fun e => by
    rw [e] at hls
    exact spl_ne 10 l hls.symm
  have hhd : ((linesT s).getD 0 ByteArray.empty).data.toList = hdB (hdT s) (hdW s) := by
    unfold hdOk at h2
    simp only [Bool.and_eq_true, decide_eq_true_eq] at h2
    obtain ⟨g1, g2, g3⟩ := h2
    have hsp := words_spl ((linesT s).getD 0 ByteArray.empty)
    have hdt : hdT s = (words ((linesT s).getD 0 ByteArray.empty)).getD 1 ByteArray.empty := rfl
    have hdw : hdW s = dval ((words ((linesT s).getD 0 ByteArray.empty)).getD 2 ByteArray.empty) := rfl
    rw [hdt, hdw]
    rw [← jn1_spl 32 ((linesT s).getD 0 ByteArray.empty).data.toList, ← hsp]
    generalize words ((linesT s).getD 0 ByteArray.empty) = W at g1 g2 g3
    match W, g1 with
    | [a, b, c], _ =>
      have g2' : a = ⟨#[114, 101, 112, 111, 114, 116]⟩ := g2
      have g3' : cn15 c = true := g3
      have e : c.data.toList = Lib.itoa (dval c) := by
        unfold dval
        rw [if_pos g3', Lib.itoa_nonneg]
        unfold cn15 at g3'
        rw [Bool.and_eq_true] at g3'
        exact (canon_dd g3'.1).symm
      show jn1 32 [a.data.toList, b.data.toList, c.data.toList] = hdB b (dval c)
      rw [e, g2']
      rfl
  have hrows : ((linesT s).drop 1).map (·.data.toList) = (parR s).map lnB := by
    unfold parR
    rw [List.map_map]
    exact List.map_congr_left (fun x hx => line_text (List.all_eq_true.1 h3 x hx))
  rw [hl', txB_snoc, hj]
  congr 2
  rw [← hhd, ← hrows]
  cases hL : linesT s with
  | nil => exact absurd hL hne
  | cons a r => rfl
/-- Both parsers answer one thing. -/
def specP (s : ByteArray) : Bool := decide (s.size ≤ 8000) && (decide (2 ≤ (splitS s 10).length) && prsOk s)
theorem prs_text {s : ByteArray} (h : prsOk s = true) : repOk (T3 s) (W3 s) (rwsS s) = true ∧ s.data.toList = txB (T3 s) (W3 s) (rwsS s) := by
  unfold prsOk at h
  simp only [Bool.and_eq_true, decide_eq_true_eq] at h
  obtain ⟨_, _, h3, h4⟩ := h
  refine ⟨h3, ?_⟩
  have := rep_data (t := T3 s) (w := W3 s) (R := rwsS s) (fun x hx => ((goodRow h3).2.2.2 x hx).2.1)
  rw [h4] at this
  exact this
theorem parse_same (s : ByteArray) : (if (decide (s.size ≤ 8000) && parOk s) = true then resP (hdT s) (hdW s) (parR s) else badRep [(false, [.b false])]) = (if specP s = true then resRep (T3 s) (W3 s) [(false, [.b true])] (rwsS s) else badRep [(false, [.b false])]) := by
  unfold specP
  by_cases h8 : s.size ≤ 8000
  · rw [decide_eq_true h8, Bool.true_and, Bool.true_and]
    by_cases hp : prsOk s = true
    · obtain ⟨g1, g2⟩ := prs_text hp
      obtain ⟨i1, i2, i3, i4⟩ := impl_reads g1 g2
      obtain ⟨j1, _⟩ := spec_reads g1 g2
      rw [i1, if_pos rfl, hp, decide_eq_true j1, i2, i3, i4]
      unfold resP
      rw [if_pos g1]
      simp only [Bool.and_self, if_true]
    · have hp' : prsOk s = false := Bool.eq_false_iff.2 hp
      rw [hp', Bool.and_false]
      by_cases ho : parOk s = true
      · rw [if_pos ho]
        unfold resP
        by_cases hg : repOk (hdT s) (hdW s) (parR s) = true
        · exact absurd (spec_reads hg (impl_text ho)).2.1 hp
        · rw [if_neg hg]
          simp only [Bool.false_eq_true, if_false]
      · rw [if_neg ho]
        simp only [Bool.false_eq_true, if_false]
  · rw [decide_eq_false h8, Bool.false_and, Bool.false_and]
    simp only [Bool.false_eq_true, if_false]
end Go.Proofs.YtoinlnlmmnmojaaGreatDoor.E
