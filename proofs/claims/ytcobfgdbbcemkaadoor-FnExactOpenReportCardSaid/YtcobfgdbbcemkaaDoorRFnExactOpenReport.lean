/- For every input the law FnExactOpenReport returns true, and each argument reads afterwards as it read before. Conditions: the package-level variables that the row lists read as listed when the call begins (the card ties them to the text of the program). -/
import Derived.Test.YtcobfgdbbcemkaaDoorRows
import Derived.Test.YtcobfgdbbcemkaaDoorTFnExactOpenReport
import Derived.WalkKit
import Derived.ProofKit
import Derived.OpenShut
import Derived.ShutString
import Derived.ChangeOld
import Derived.Below
import Derived.SizedLaws
import Derived.Lib.SmallJoins
import Derived.Test.YtcobfgdbbcemkaaDoorE38
import Derived.Test.YtcobfgdbbcemkaaDoorTie
import Derived.Test.YtcobfgdbbcemkaaDoorCards
import Derived.SevenTiedAt
import Derived.Stop.Joined
namespace Go.Proofs.YtcobfgdbbcemkaaDoor.RFnExactOpenReport
open Go.ChangeShapes Go.WideShapes Go.ChangeAt Go.RowKit Go.Proofs.YtcobfgdbbcemkaaDoor.E
open Go.ChangeMaps (open_string shut_string)
set_option linter.unusedVariables false
theorem own : ownKnob Tryd.prog.godebug = none := by kernel_rfl
theorem laidOut : laidOutB Tryd.prog = true := by kernel_rfl
theorem kb9 : kindB Tryd.prog 6 9 = some .str := by kernel_rfl
theorem ab9 : aggB Tryd.prog 9 = false := by kernel_rfl
set_option maxRecDepth 100000 in
theorem lifted (os : Os) (started : os.Started) (H : Type) (enc : TypeId × Value → H) :
    ReturnsInHanded {} Tryd.checked os 3 .any (fun w args => (Rows.fnExactOpenReportSpec.pre enc Tryd.prog Tryd.f3 Rows.fnExactOpenReportRow.domain false w args ∧ laidMetH Tryd.prog Rows.fnExactOpenReportRow.laid w) ∧ sizedMet enc Tryd.prog Tryd.f3 (OpenSpec.ofChange Rows.fnExactOpenReportSpec) false w args) (Rows.fnExactOpenReportSpec.post enc Tryd.prog Tryd.f3 false true false false) := by
  refine returns_laid (C := Tryd.checked) (X := fun w _ => laidMetH Tryd.prog Rows.fnExactOpenReportRow.laid w) (fun _ _ _ hh h => h.of_heap hh) own started (by kernel_rfl) Tryd.func3
    (ChangeSpec.witness_shaped (enc := enc) (C := Tryd.checked) (os := os) (X := fun w _ => laidMetH Tryd.prog Rows.fnExactOpenReportRow.laid w) false (World.laidAll Tryd.prog os Rows.fnExactOpenReportRow.laid) #[.string ByteArray.empty] 8 (World.laidAll_os _ _ _)
      (World.shaped_of_ZipB (by kernel_rfl) (by kernel_rfl)) (by kernel_rfl) (by kernel_rfl) (by kernel_rfl)
      (by rw [MakeChecks.laidMetH_plain _ _ _ (by kernel_rfl)]; exact laidMet_laidAll _ (by kernel_rfl) (by kernel_rfl))) ?_
  intro W base args ds gs before hval0 hW hcnd hsz0 hL hsh _
  have hG : Glob W.heap.size (hp W) (fun _ => none) := fun p hp' => by
    rcases List.mem_cons.1 (show p ∈ _ :: [_] from hp') with rfl | hp2
    · obtain ⟨h1, h2⟩ := int_block (cell_of_shapedOpen_int (P := Tryd.prog) (g := 0) (t := 3) (zero := #[.int .i64 0]) (k := .i64) hsh (by decide) (by kernel_rfl) rfl (by kernel_rfl) (by kernel_rfl) Tryd.underlying3)
      exact ⟨h1, rfl, h2⟩
    · obtain rfl := List.mem_singleton.1 hp2
      have hL2 := hL
      rw [MakeChecks.laidMetH_plain _ _ _ (by kernel_rfl)] at hL2
      have e10 : (Rows.laid_internal_strconv_uint64pow10 : DataW Unit) = Lib.tabData .u64 Lib.pow10Tab := by kernel_rfl
      have htab : Lib.TabIs Tryd.prog W "internal/strconv.uint64pow10" .u64 Lib.pow10Tab := tabIs_of_laid (g := 1) (t := 83) (by kernel_rfl) (by kernel_rfl) Tryd.underlying83 Tryd.underlying68 (by kernel_rfl) (by kernel_rfl) (by rw [← e10]; exact .tail _ (.tail _ (.head _))) hL2
      obtain ⟨h1, h2⟩ := tab_block htab (by kernel_rfl)
      exact ⟨h1, rfl, h2⟩
  have hval : ∀ (j : Nat) t v, Tryd.f3.params[j]? = some t → args[j]? = some v → Value.okWide Tryd.prog W .any base t v := hval0
  have hW' := hW
  obtain ⟨p, q, hA0, hV, rfl, hfz, hnd⟩ := hW
  have hA : DataW.TrodAll enc Tryd.prog W 0 (fun _ => true) true Tryd.f3.params.toList args.toList ds p := hA0
  rw [Tryd.params3] at hA hval
  obtain ⟨v0, vs0, d0, ds0, p0, q0, hargs, rfl, rfl, h0, r0⟩ := trodAll_cons hA
  obtain ⟨rfl, rfl, rfl⟩ := trodAll_nil r0
  obtain rfl : args = #[v0] := by cases args; simp_all
  obtain ⟨rfl, rfl⟩ := trodVars_none hV
  have lt0 : ∀ x ∈ p0, x.block < W.heap.size := by obtain ⟨m, hm⟩ := h0; exact DataW.trod_lt m _ _ _ hm
  obtain ⟨x0, ax0, wx0⟩ := par_E (adr := fun _ => undef) (ob := obI []) 6 kb9 (hval 0 9 v0 rfl rfl) h0
  rw [ab9] at ax0
  clear hA0 hval0 hsz0
  refine (law_calls (W := W) (vals := #[v0]) (ok_FnExactOpenReport_all) (yes_S1 wx0) ⟨ax0, trivial⟩ hG).mono fun e W' ⟨he, bel⟩ => ?_
  subst he
  exact ⟨_, rfl, _, _, _, [], _, [], hW', trodAll_mk1 (shut_bool Tryd.underlying4 _), (trodAll_cons_mk (Below.trod laidOut (by kernel_rfl) (of_decide_eq_true (by kernel_rfl)) h0 bel lt0) trodAll_mk0), rfl, bel.frame _, fun h => by cases h⟩
theorem over : Rows.FnExactOpenReportSaid :=
  OpenClaim.holds_of_wide 3 Tryd.f3 rfl rfl rfl rfl rfl rfl rfl ⟨rfl, rfl, rfl, rfl, rfl⟩ rfl rfl rfl rfl rfl (by kernel_rfl) Tryd.func3 (by kernel_rfl)
    (of_decide_eq_true (by kernel_rfl)) (by unfold Func.isWrapper; first | (rw [if_pos (by decide +kernel)]; kernel_rfl) | (rw [if_neg (by decide +kernel)]; exact ⟨rfl, rfl⟩))
    (fun os started H enc _ => lifted os started H enc)
theorem proved : Rows.FnExactOpenReportCardSaid :=
  Claim7.holds_tied_plain_at .later [] [.data, .data, .data, .data, .pinned] true Rows.fnExactOpenReportCard.stood.harness false over (fun _ h => by cases h) (by kernel_rfl) (fun _ h => by cases h) fnExactOpenReport_row_tie rfl ⟨rfl, rfl⟩ (by kernel_rfl) rfl
    (fun f fn hf hfn => by
      obtain rfl : f = 3 := Option.some.inj ((show Tryd.prog.funcNamed Rows.fnExactOpenReportRow.func = some 3 by kernel_rfl).symm.trans hf) |>.symm
      obtain rfl : fn = Tryd.f3 := (Option.some.inj (Tryd.func3.symm.trans hfn)).symm
      exact ⟨by kernel_rfl, fun j t ht => by
        rw [Tryd.params3] at ht
        have hm : t ∈ [9] := by simpa using Array.mem_of_getElem? ht
        have hall : ([9].all fun u => !Tryd.prog.wantsStandIn u) = true := by kernel_rfl
        exact (show Tryd.prog.wantsStandIn t = false by simpa using List.all_eq_true.1 hall t hm)⟩)
    (by kernel_rfl)
#print axioms proved
end Go.Proofs.YtcobfgdbbcemkaaDoor.RFnExactOpenReport
namespace Go.Proofs.YtcobfgdbbcemkaaDoor
/-- The card, under a short name, for the claim. -/
theorem fnExactOpenReport_holds : Rows.FnExactOpenReportCardSaid := RFnExactOpenReport.proved
end Go.Proofs.YtcobfgdbbcemkaaDoor
