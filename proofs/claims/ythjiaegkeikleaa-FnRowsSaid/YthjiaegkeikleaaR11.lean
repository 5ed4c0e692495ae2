/- Joined reports and added rows, with own lists; what the law says of them. -/
import Derived.Test.YthjiaegkeikleaaR9
import Derived.Test.YthjiaegkeikleaaR10
namespace Go.Proofs.Ythjiaegkeikleaa.E
open Go Go.Proofs
set_option maxHeartbeats 20000000
set_option linter.unusedSimpArgs false
set_option linter.unusedVariables false
def noRp : Rp := (ByteArray.empty, 0, [])
def rpOk (p : Rp) : Bool := repOk p.1 p.2.1 p.2.2
def joinRp (p q : Rp) : Rp := (p.1, p.2.1, joinR p.2.2 q.2.2 q.2.2.length)
def joinV (p q : Rp) : Rp × Bool := if rpOk p = true ∧ rpOk q = true ∧ p.2.1 = q.2.1 ∧ rpOk (joinRp p q) = true then (joinRp p q, true) else (noRp, false)
def addRp (p : Rp) (y : Rw) : Rp := (p.1, p.2.1, p.2.2 ++ [y])
def addV (p : Rp) (y : Rw) : Rp × Bool := if rpOk p = true ∧ rpOk (addRp p y) = true then (addRp p y, true) else (noRp, false)
def sp_Join : Sp := fun args ins => (sp_JoinReports args ins).map (ownR KR)
def sp_Add : Sp := fun args ins => (sp_AddRow args ins).map (ownR KR)
theorem Join_eq {p q : Rp} (hp : JoinB p.1 p.2.2) (hq : JoinB q.1 q.2.2) :
    sp_Join [(true, [.s p.1, .i .i64 p.2.1, .ls KR p.2.2]), (true, [.s q.1, .i .i64 q.2.1, .ls KR q.2.2])] [] = some ⟨[(true, [.s (joinV p q).1.1, .i .i64 (joinV p q).1.2.1, .sl 500]), (false, [.b (joinV p q).2])], [], [.arr KR (joinV p q).1.2.2 0 none]⟩ := by
  obtain ⟨ta, wa, xs⟩ := p
  obtain ⟨tb, wb, ys⟩ := q
  have e : sp_JoinReports [(true, [.s ta, .i .i64 wa, .ls KR xs]), (true, [.s tb, .i .i64 wb, .ls KR ys])] [] = if (repOk ta wa xs && (repOk tb wb ys && decide (wa = wb))) = true then some (resJoin ta wa (joinR xs ys ys.length)) else some (badRep [(false, [.b false])]) := if_pos ⟨hp, hq⟩
  unfold sp_Join joinV rpOk joinRp
  dsimp only
  rw [e]
  by_cases h1 : (repOk ta wa xs && (repOk tb wb ys && decide (wa = wb))) = true
  · rw [if_pos h1, Option.map_some]
    have h2 : repOk ta wa xs = true ∧ repOk tb wb ys = true ∧ wa = wb := by simpa using h1
    unfold resJoin
    by_cases h3 : repOk ta wa (joinR xs ys ys.length) = true
    · rw [if_pos h3, if_pos ⟨h2.1, h2.2.1, h2.2.2, h3⟩]
      cases joinR xs ys ys.length <;> rfl
    · rw [if_neg h3, if_neg (fun h => h3 h.2.2.2)]
      rfl
  · rw [if_neg h1, if_neg (fun h => h1 (by rw [h.1, h.2.1, decide_eq_true h.2.2.1]; rfl)), Option.map_some]
    rfl
theorem Add_eq {p : Rp} {y : Rw} (hp : JoinB p.1 p.2.2) (h1 : y.1.size ≤ 4611686018427387904) (h2 : y.2.length * 8 ≤ 140737488355328) :
    sp_Add [(true, [.s p.1, .i .i64 p.2.1, .ls KR p.2.2]), (true, [.s y.1, .ls I64 y.2])] [] = some ⟨[(true, [.s (addV p y).1.1, .i .i64 (addV p y).1.2.1, .sl 500]), (false, [.b (addV p y).2])], [], [.arr KR (addV p y).1.2.2 0 none]⟩ := by
  obtain ⟨t, wd, xs⟩ := p
  obtain ⟨nm, ns⟩ := y
  have e : sp_AddRow [(true, [.s t, .i .i64 wd, .ls KR xs]), (true, [.s nm, .ls I64 ns])] [] = if (repOk t wd xs && repOk t wd (xs ++ [((nm, ns) : Rw)])) = true then some ⟨[(true, [.s t, .i .i64 wd, .sl 500]), (false, [.b true])], [], [.arr KR (xs ++ [((nm, ns) : Rw)]) 0 none]⟩ else some (badRep [(false, [.b false])]) := if_pos ⟨hp, h1, h2⟩
  unfold sp_Add addV rpOk addRp
  dsimp only
  rw [e]
  by_cases h : (repOk t wd xs && repOk t wd (xs ++ [((nm, ns) : Rw)])) = true
  · rw [if_pos h, if_pos (by simpa using h)]; rfl
  · rw [if_neg h, if_neg (fun h' => h (by rw [h'.1, h'.2]; rfl))]; rfl
theorem rowIx_self {t : ByteArray} {wd : Int} {xs : List Rw} (h : repOk t wd xs = true) {i : Nat} (hi : i < xs.length) : rowIx (xs.getD i noR).1 0 xs = i := by
  have h1 := (rowOk_name (repOk_row h hi)).2.2.1
  have h2 := rowIx_app (xs.getD i noR).1 (xs.take i) (xs.drop i) 0
  rw [List.take_append_drop, if_pos h1, List.length_take, drop_getD xs i noR hi, rowIx, if_pos rfl] at h2
  rw [h2, Nat.zero_add, Nat.min_eq_left (by omega)]
theorem getD_of_mem {α : Type} {d : α} : ∀ {xs : List α} {x : α}, x ∈ xs → ∃ i, i < xs.length ∧ xs.getD i d = x
  | [], x, h => absurd h List.not_mem_nil
  | a :: l, x, h => by
    rcases List.mem_cons.1 h with e | e
    · exact ⟨0, by simp, e.symm⟩
    · obtain ⟨i, h1, h2⟩ := getD_of_mem (d := d) e
      exact ⟨i + 1, by simp; omega, h2⟩
theorem joinR_app (xs ys : List Rw) : ∀ j, j ≤ ys.length → ∃ R : List Rw, joinR xs ys j = xs ++ R ∧ ∀ y ∈ R, rowIx y.1 0 xs < 0
  | 0, _ => ⟨[], by simp [joinR], fun y hy => absurd hy List.not_mem_nil⟩
  | j + 1, hj => by
    obtain ⟨R, h1, h2⟩ := joinR_app xs ys j (by omega)
    rw [joinR, h1]
    by_cases c : rowIx (ys.getD j noR).1 0 xs < 0
    · rw [if_pos c]
      refine ⟨R ++ [ys.getD j noR], List.append_assoc _ _ _, fun y hy => ?_⟩
      rcases List.mem_append.1 hy with e | e
      · exact h2 y e
      · rw [List.mem_singleton.1 e]; exact c
    · rw [if_neg c]
      exact ⟨R, List.append_nil _, h2⟩
theorem dfL_all {f : Rw → Bool} {xs : List Rw} (h : ∀ x ∈ xs, f x = true) : dfL f xs = xs.map (·.1) := by
  unfold dfL; rw [List.filter_eq_self.2 h]
theorem dfL_none {f : Rw → Bool} {xs : List Rw} (h : ∀ x ∈ xs, f x = false) : dfL f xs = [] := by
  unfold dfL
  rw [List.filter_eq_nil_iff.2 (fun x hx => by rw [h x hx]; decide)]; rfl
theorem dfL_app (f : Rw → Bool) (xs ys : List Rw) : dfL f (xs ++ ys) = dfL f xs ++ dfL f ys := by
  unfold dfL; rw [List.filter_append, List.map_append]
theorem dfA_app {t : ByteArray} {wd : Int} {xs R : List Rw} (h : repOk t wd xs = true) {x : Rw} (hx : x ∈ xs) : dfA (xs ++ R) x = false := by
  obtain ⟨i, h1, rfl⟩ := getD_of_mem (d := noR) hx
  have h2 := rowIx_self h h1
  have h3 := rowIx_app (xs.getD i noR).1 xs R 0
  rw [h2, if_neg (by omega)] at h3
  unfold dfA
  have h4 : (xs ++ R).getD i noR = xs.getD i noR := by rw [List.getD_eq_getElem?_getD, List.getElem?_append_left h1, ← List.getD_eq_getElem?_getD]
  rw [h3, decide_eq_false (by omega), Bool.false_or, Int.toNat_natCast, h4, decide_eq_true rfl]; rfl
theorem dfB_mem {t : ByteArray} {wd : Int} {xs : List Rw} (h : repOk t wd xs = true) {x : Rw} (hx : x ∈ xs) : dfB xs x = false := by
  obtain ⟨i, h1, rfl⟩ := getD_of_mem (d := noR) hx
  unfold dfB
  rw [rowIx_self h h1]
  exact decide_eq_false (by omega)
theorem differV_self {p : Rp} (h : rpOk p = true) : differV p p = ([], true) := by
  unfold differV
  rw [if_pos ⟨h, h⟩]
  unfold difN
  rw [dfL_none (fun x hx => by have := dfA_app (R := []) h hx; rwa [List.append_nil] at this), dfL_none (fun x hx => dfB_mem h hx)]; rfl
theorem dif_join {p q : Rp} (h : (joinV p q).2 = true) : rpOk (joinV p q).1 = true ∧ (differV p (joinV p q).1).2 = true ∧ ((differV p (joinV p q).1).1.length : Int) = (joinV p q).1.2.2.length - p.2.2.length ∧ differV (joinV p q).1 (joinV p q).1 = ([], true) := by
  unfold joinV at h ⊢
  split at h
  · rename_i hc
    rw [if_pos hc]
    refine ⟨hc.2.2.2, ?_, ?_, differV_self hc.2.2.2⟩
    · unfold differV; rw [if_pos ⟨hc.1, hc.2.2.2⟩]
    · unfold differV
      rw [if_pos ⟨hc.1, hc.2.2.2⟩]
      show ((difN p.2.2 (joinR p.2.2 q.2.2 q.2.2.length)).length : Int) = ((joinR p.2.2 q.2.2 q.2.2.length).length : Int) - p.2.2.length
      obtain ⟨R, h1, h2⟩ := joinR_app p.2.2 q.2.2 q.2.2.length (Nat.le_refl _)
      rw [h1]
      unfold difN
      rw [dfL_none (fun x hx => dfA_app hc.1 hx), dfL_app, dfL_none (fun x hx => dfB_mem hc.1 hx), dfL_all (f := dfB p.2.2) (fun y hy => decide_eq_true (h2 y hy))]
      simp only [List.nil_append, List.length_map, List.length_append]
      omega
  · cases h
theorem noRp_in : RepD noRp := ⟨by decide, by decide, by decide, fun x hx => absurd hx List.not_mem_nil⟩
theorem joinV_in {p q : Rp} (hp : RepD p) (hq : RepD q) : RepD (joinV p q).1 := by
  unfold joinV
  split
  · rename_i hc
    refine ⟨hp.1, hp.2.1, ?_, fun x hx => ?_⟩
    · have : (joinRp p q).2.2.length ≤ 40 := repOk_len hc.2.2.2
      show (joinRp p q).2.2.length ≤ 41
      omega
    · exact (joinR_mem (Nat.le_refl _) x hx).elim (hp.2.2.2 x) (hq.2.2.2 x)
  · exact noRp_in
theorem addV_in {p : Rp} {y : Rw} (hp : RepD p) (hy : RowD y) : RepD (addV p y).1 := by
  unfold addV
  split
  · rename_i hc
    refine ⟨hp.1, hp.2.1, ?_, fun x hx => ?_⟩
    · have : (addRp p y).2.2.length ≤ 40 := repOk_len hc.2
      show (addRp p y).2.2.length ≤ 41
      omega
    · rcases List.mem_append.1 hx with e | e
      · exact hp.2.2.2 x e
      · rw [List.mem_singleton.1 e]; exact hy
  · exact noRp_in
theorem add_last {p : Rp} {y : Rw} (h : (addV p y).2 = true) : (addV p y).1.2.2 = p.2.2 ++ [y] := by
  unfold addV at h ⊢
  split at h
  · rename_i hc
    rw [if_pos hc]; rfl
  · cases h
end Go.Proofs.Ythjiaegkeikleaa.E
