/- Sealed reports opened (plain). -/
import Derived.Test.YtoinlnlmmnmojaaGreatDoorP7
import Derived.Test.YtoinlnlmmnmojaaGreatDoorN3
import Derived.Lib.LastIndexLaws
namespace Go.Proofs.YtoinlnlmmnmojaaGreatDoor.E
open Go Go.Proofs Go.RowKit
set_option maxHeartbeats 2000000
set_option linter.unusedSimpArgs false
set_option linter.unusedVariables false
theorem jn1_app (b : UInt8) : ∀ (A : List (List UInt8)) {B : List (List UInt8)}, B ≠ [] → jn1 b (A ++ B) = A.flatMap (fun x => x ++ [b]) ++ jn1 b B
  | [], B, _ => by simp
  | x :: A, B, h => by
    rw [List.cons_append, jn1_cons b x (by simp [h]), jn1_app b A h, List.flatMap_cons]
    simp
def dgW : List UInt8 := [100, 105, 103, 101, 115, 116, 32]
def atS (s : ByteArray) : Int := Lib.lastIndex s.data.toList dgW
theorem atS_le (s : ByteArray) : -1 ≤ atS s ∧ atS s ≤ s.size := by
  unfold atS Lib.lastIndex
  rw [len_data]
  split
  · rename_i h
    rcases Lib.lastOcc_spec s.data.toList dgW (s.size - dgW.length + 1) with ⟨e, _⟩ | ⟨i, hi, e, _⟩
    · rw [e]; omega
    · rw [e]
      have : dgW.length = 7 := rfl
      omega
  · omega
theorem occ_no {l : List UInt8} {j : Nat} (h : ∀ y ∈ l.drop j, y ≠ 100) : Lib.occAt l dgW j = false := by
  unfold Lib.occAt
  cases hd : l.drop j with
  | nil => rfl
  | cons y r =>
    rw [hd] at h
    have hy := h y List.mem_cons_self
    unfold dgW
    rw [List.isPrefixOf, Bool.and_eq_false_iff]
    left
    rw [beq_eq_false_iff_ne]
    exact fun e => hy e.symm
theorem seal_data (b : ByteArray) : (sealS b).data.toList = b.data.toList ++ (dgW ++ (Lib.itoa (digest b) ++ [10])) := by
  unfold sealS
  rw [app_data, app_data, app_data, intS_data]
  simp [dgW]
theorem itoa_no100 (n : Int) : ∀ y ∈ Lib.itoa n, y ≠ 100 := by
  intro y hy e
  have key : ∀ u, (100 : UInt8) ∉ Lib.decDigits u := fun u hm => by
    have := isDg_iff.1 (List.all_eq_true.1 (dd_all u) _ hm)
    exact absurd this.2 (by decide)
  rw [e] at hy
  unfold Lib.itoa at hy
  split at hy
  · rcases List.mem_cons.1 hy with e | e
    · exact absurd e (by decide)
    · exact key _ e
  · exact key _ hy
theorem at_seal (b : ByteArray) : atS (sealS b) = b.size := by
  have hl := len_data b
  have hsd := seal_data b
  generalize Lib.itoa (digest b) = N at hsd
  have hno : ∀ y ∈ ([105, 103, 101, 115, 116, 32] : List UInt8) ++ (Lib.itoa (digest b) ++ [10]), y ≠ 100 := by
    intro y hy
    rcases List.mem_append.1 hy with h | h
    · intro e
      rw [e] at h
      exact absurd h (by decide)
    · rcases List.mem_append.1 h with h | h
      · exact itoa_no100 _ y h
      · rw [List.mem_singleton.1 h]; decide
  have hsd := seal_data b
  generalize Lib.itoa (digest b) = N at hsd hno
  unfold atS Lib.lastIndex
  have hlen : (sealS b).data.toList.length = b.size + 8 + N.length := by rw [hsd]; simp [dgW]; omega
  have h7 : dgW.length = 7 := rfl
  rw [if_pos (by omega), hlen, h7]
  have hit : Lib.occAt (sealS b).data.toList dgW b.size = true := by
    unfold Lib.occAt
    rw [hsd, ← hl, List.drop_left]
    exact List.isPrefixOf_iff_prefix.2 (List.prefix_append _ _)
  have hmiss : ∀ j, b.size < j → Lib.occAt (sealS b).data.toList dgW j = false := fun j hj => by
    refine occ_no (fun y hy => ?_)
    obtain ⟨k, rfl⟩ : ∃ k, j = b.size + (k + 1) := ⟨j - b.size - 1, by omega⟩
    rw [hsd, ← hl, ← List.drop_drop, List.drop_left] at hy
    have e : dgW ++ (N ++ [10]) = 100 :: ([105, 103, 101, 115, 116, 32] ++ (N ++ [10])) := rfl
    rw [e, List.drop_succ_cons] at hy
    exact hno y (List.mem_of_mem_drop hy)
  rcases Lib.lastOcc_spec (sealS b).data.toList dgW (b.size + 8 + N.length - 7 + 1) with ⟨_, hn⟩ | ⟨i, hi, e, ho, hn⟩
  · rw [hn b.size (by omega)] at hit
    cases hit
  · rw [e]
    by_cases h1 : i < b.size
    · rw [hn b.size h1 (by omega)] at hit
      cases hit
    · by_cases h2 : b.size < i
      · rw [hmiss i h2] at ho
        cases ho
      · omega
def bodyI (s : ByteArray) : ByteArray := s.extract 0 (atS s).toNat
theorem body_seal (b : ByteArray) : bodyI (sealS b) = b := by
  apply data_ext
  unfold bodyI
  rw [at_seal, ext_data, List.drop_zero, seal_data, Int.toNat_natCast, List.take_left' (len_data b)]
def opnI (s : ByteArray) : Bool := decide (0 ≤ atS s) && (decide (sealS (bodyI s) = s) && parOk (bodyI s))
def lastS (s : ByteArray) : ByteArray := (splitS s 10).getD ((splitS s 10).length - 1) ByteArray.empty
def prevS (s : ByteArray) : ByteArray := (splitS s 10).getD ((splitS s 10).length - 2) ByteArray.empty
def bodyS (s : ByteArray) : ByteArray := s.extract 0 (s.size - (prevS s).size - 1)
def opnS (s : ByteArray) : Bool := decide (3 ≤ (splitS s 10).length) && (decide ((lastS s).size = 0) && (prsOk (bodyS s) && decide (sealS (bodyS s) = s)))
theorem two_last {α : Type} (L : List α) (d : α) (h : 2 ≤ L.length) : L = L.take (L.length - 2) ++ [L.getD (L.length - 2) d, L.getD (L.length - 1) d] := by
  have h1 := take_getD L (L.length - 2) d (by omega)
  have h2 := take_getD L (L.length - 2 + 1) d (by omega)
  rw [show L.length - 2 + 1 + 1 = L.length by omega, List.take_length, show L.length - 2 + 1 = L.length - 1 by omega] at h2
  rw [show L.length - 2 + 1 = L.length - 1 by omega] at h1
  conv => lhs; rw [h2, h1]
  simp
/-- The text before its last two pieces. -/
theorem split_end {s : ByteArray} (h : 2 ≤ (splitS s 10).length) : s.data.toList = (((splitS s 10).take ((splitS s 10).length - 2)).map (·.data.toList)).flatMap (fun x => x ++ [10]) ++ ((prevS s).data.toList ++ 10 :: (lastS s).data.toList) := by
  have h1 := two_last (splitS s 10) ByteArray.empty h
  have h2 := jn1_spl 10 s.data.toList
  rw [← split10, h1, List.map_append, jn1_app 10 _ (by simp)] at h2
  exact h2.symm
theorem prev_size {s : ByteArray} (h : 2 ≤ (splitS s 10).length) : (prevS s).size + 1 ≤ s.size := by
  have := congrArg List.length (split_end h)
  rw [List.length_append, List.length_append, List.length_cons, len_data, len_data] at this
  omega
theorem bodyS_data {s : ByteArray} (h : 2 ≤ (splitS s 10).length) (h0 : (lastS s).size = 0) : (bodyS s).data.toList = (((splitS s 10).take ((splitS s 10).length - 2)).map (·.data.toList)).flatMap (fun x => x ++ [10]) := by
  have e := split_end h
  have hl : (lastS s).data.toList = [] := List.eq_nil_of_length_eq_zero (by rw [len_data]; exact h0)
  have hp := len_data (prevS s)
  have hs := len_data s
  rw [hl] at e
  have hlen := congrArg List.length e
  rw [List.length_append, List.length_append, List.length_singleton] at hlen
  unfold bodyS
  rw [ext_data, List.drop_zero]
  conv => lhs; rw [e]
  exact List.take_left' (by omega)
theorem body_pieces {s : ByteArray} (h : 3 ≤ (splitS s 10).length) (h0 : (lastS s).size = 0) : 2 ≤ (splitS (bodyS s) 10).length ∧ (bodyS s).size ≤ s.size := by
  refine ⟨?_, ext_size _ _ _⟩
  have hd := bodyS_data (by omega) h0
  rw [← jn1_end] at hd
  have hf : ∀ y ∈ ((splitS s 10).take ((splitS s 10).length - 2)).map (·.data.toList) ++ [[]], (10 : UInt8) ∉ y := by
    intro y hy
    rcases List.mem_append.1 hy with e | e
    · obtain ⟨x, hx, rfl⟩ := List.mem_map.1 e
      exact spl_mem 10 s.data.toList _ (by rw [← split10]; exact List.mem_map.2 ⟨x, List.mem_of_mem_take hx, rfl⟩)
    · rw [List.mem_singleton.1 e]; simp
  have hsp := split10 (bodyS s)
  rw [hd, spl_jn1 10 _ (by simp) hf] at hsp
  have := congrArg List.length hsp
  simp only [List.length_map, List.length_append, List.length_take, List.length_singleton] at this
  omega
/-- A sealed report's text, as the reference splits it. -/
theorem seal_split {b t : ByteArray} {w : Int} {R : List Rw} (h : repOk t w R = true) (hb : b.data.toList = txB t w R) : 3 ≤ (splitS (sealS b) 10).length ∧ (lastS (sealS b)).size = 0 ∧ bodyS (sealS b) = b := by
  have hj : (sealS b).data.toList = jn1 10 ((hdB t w :: R.map lnB) ++ [dgW ++ Lib.itoa (digest b), []]) := by
    rw [jn1_app 10 _ (by simp), seal_data, hb]
    unfold txB
    simp [jn1]
  have hs : splitS (sealS b) 10 = ((hdB t w :: R.map lnB).map (fun x => (⟨x.toArray⟩ : ByteArray))) ++ [⟨(dgW ++ Lib.itoa (digest b)).toArray⟩, ⟨#[]⟩] := by
    apply map_data_inj
    rw [split10, hj, spl_jn1 10 _ (by simp)]
    · rw [List.map_append, List.map_map]
      congr 1
      exact (List.map_id _).symm
    · intro y hy
      rcases List.mem_append.1 hy with e | e
      · exact lines_free h y e
      · rcases List.mem_cons.1 e with e | e
        · rw [e]
          intro hm
          rcases List.mem_append.1 hm with e | e
          · exact absurd e (by decide)
          · exact itoa_free _ (by decide) e
        · rw [List.mem_singleton.1 e]; simp
  have len : (splitS (sealS b) 10).length = R.length + 3 := by rw [hs]; simp
  have el : lastS (sealS b) = ⟨#[]⟩ := by
    unfold lastS
    rw [len, hs, List.getD_eq_getElem?_getD, List.getElem?_append_right (by simp)]
    simp
  have e0 : (lastS (sealS b)).size = 0 := by rw [el]; rfl
  refine ⟨by omega, e0, ?_⟩
  apply data_ext
  rw [bodyS_data (by omega) e0, len, hs, List.take_left' (by simp), List.map_map, hb]
  unfold txB
  congr 1
  exact List.map_id _
/-- Both open one thing. -/
def specO (s : ByteArray) : Bool := decide (s.size ≤ 8000) && opnS s
theorem opn_text {s : ByteArray} (h : opnS s = true) : 3 ≤ (splitS s 10).length ∧ (lastS s).size = 0 ∧ prsOk (bodyS s) = true ∧ sealS (bodyS s) = s := by
  unfold opnS at h
  simpa using h
theorem open_same (s : ByteArray) : (if (decide (s.size ≤ 8000) && opnI s) = true then resP (hdT (bodyI s)) (hdW (bodyI s)) (parR (bodyI s)) else badRep [(false, [.b false])]) = (if specO s = true then resRep (T3 (bodyS s)) (W3 (bodyS s)) [(false, [.b true])] (rwsS (bodyS s)) else badRep [(false, [.b false])]) := by
  unfold specO
  by_cases h8 : s.size ≤ 8000
  · rw [decide_eq_true h8, Bool.true_and, Bool.true_and]
    by_cases hp : opnS s = true
    · obtain ⟨o1, o2, o3, o4⟩ := opn_text hp
      obtain ⟨g1, g2⟩ := prs_text o3
      obtain ⟨i1, i2, i3, i4⟩ := impl_reads g1 g2
      have hbi : bodyI s = bodyS s := by
        have := body_seal (bodyS s)
        rwa [o4] at this
      have hat : 0 ≤ atS s := by
        have := at_seal (bodyS s)
        rw [o4] at this
        omega
      have hi : opnI s = true := by
        unfold opnI
        rw [hbi, i1, decide_eq_true hat, decide_eq_true o4]
        simp only [Bool.and_self]
      rw [if_pos hp, if_pos hi, hbi, i2, i3, i4]
      unfold resP
      rw [if_pos g1]
    · rw [if_neg hp]
      by_cases ho : opnI s = true
      · rw [if_pos ho]
        unfold resP
        by_cases hg : repOk (hdT (bodyI s)) (hdW (bodyI s)) (parR (bodyI s)) = true
        · exfalso
          unfold opnI at ho
          simp only [Bool.and_eq_true, decide_eq_true_eq] at ho
          obtain ⟨o1, o2, o3⟩ := ho
          have ht := impl_text o3
          obtain ⟨s1, s2, s3⟩ := seal_split hg ht
          rw [o2] at s1 s2 s3
          refine hp ?_
          unfold opnS
          rw [s3, (spec_reads hg ht).2.1, decide_eq_true s1, decide_eq_true s2, decide_eq_true o2]
          simp only [Bool.and_self]
        · rw [if_neg hg]
      · rw [if_neg ho]
  · rw [decide_eq_false h8, Bool.false_and, Bool.false_and]
    simp only [Bool.false_eq_true, if_false]
end Go.Proofs.YtoinlnlmmnmojaaGreatDoor.E
