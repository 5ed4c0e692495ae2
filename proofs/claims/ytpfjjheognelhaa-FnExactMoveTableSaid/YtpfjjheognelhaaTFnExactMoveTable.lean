/- The table of the functions that FnExactMoveTable reaches. -/
import Derived.Test.YtpfjjheognelhaaG1
import Derived.Test.YtpfjjheognelhaaG2
import Derived.Test.YtpfjjheognelhaaG3
import Derived.Test.YtpfjjheognelhaaG4
import Derived.Test.YtpfjjheognelhaaG5
import Derived.Test.YtpfjjheognelhaaG6
import Derived.Test.YtpfjjheognelhaaG7
import Derived.Test.YtpfjjheognelhaaG8
import Derived.Test.YtpfjjheognelhaaG10
import Derived.Test.YtpfjjheognelhaaG11
import Derived.Test.YtpfjjheognelhaaLMoveTable
namespace Go.Proofs.Ytpfjjheognelhaa.E
open Go Go.Proofs
def TFnExactMoveTable_0 : List (Nat × Sp) := []
theorem TFnExactMoveTable_k0 : EvOk Try.prog (tab TFnExactMoveTable_0) := tab_nil
def TFnExactMoveTable_1 : List (Nat × Sp) := (77, sp_szIntS) :: TFnExactMoveTable_0
theorem TFnExactMoveTable_k1 : EvOk Try.prog (tab TFnExactMoveTable_1) := tab_cons ok_szIntS TFnExactMoveTable_k0
def TFnExactMoveTable_2 : List (Nat × Sp) := (76, sp_szIntSS) :: TFnExactMoveTable_1
theorem TFnExactMoveTable_k2 : EvOk Try.prog (tab TFnExactMoveTable_2) := tab_cons (ok_szIntSS (ev := tab TFnExactMoveTable_1) TFnExactMoveTable_k1 rfl) TFnExactMoveTable_k1
def TFnExactMoveTable_3 : List (Nat × Sp) := (14, sp_szJob) :: TFnExactMoveTable_2
theorem TFnExactMoveTable_k3 : EvOk Try.prog (tab TFnExactMoveTable_3) := tab_cons (ok_szJob (ev := tab TFnExactMoveTable_2) TFnExactMoveTable_k2 rfl rfl) TFnExactMoveTable_k2
def TFnExactMoveTable_4 : List (Nat × Sp) := (15, sp_szPlan) :: TFnExactMoveTable_3
theorem TFnExactMoveTable_k4 : EvOk Try.prog (tab TFnExactMoveTable_4) := tab_cons (ok_szPlan (ev := tab TFnExactMoveTable_3) TFnExactMoveTable_k3 rfl) TFnExactMoveTable_k3
def TFnExactMoveTable_5 : List (Nat × Sp) := (83, sp_toIntS) :: TFnExactMoveTable_4
theorem TFnExactMoveTable_k5 : EvOk Try.prog (tab TFnExactMoveTable_5) := tab_cons ok_toIntS TFnExactMoveTable_k4
def TFnExactMoveTable_6 : List (Nat × Sp) := (82, sp_toIntSS) :: TFnExactMoveTable_5
theorem TFnExactMoveTable_k6 : EvOk Try.prog (tab TFnExactMoveTable_6) := tab_cons (ok_toIntSS (ev := tab TFnExactMoveTable_5) TFnExactMoveTable_k5 rfl) TFnExactMoveTable_k5
def TFnExactMoveTable_7 : List (Nat × Sp) := (84, sp_toLimits) :: TFnExactMoveTable_6
theorem TFnExactMoveTable_k7 : EvOk Try.prog (tab TFnExactMoveTable_7) := tab_cons ok_toLimits TFnExactMoveTable_k6
def TFnExactMoveTable_8 : List (Nat × Sp) := (17, sp_toJob) :: TFnExactMoveTable_7
theorem TFnExactMoveTable_k8 : EvOk Try.prog (tab TFnExactMoveTable_8) := tab_cons (ok_toJob (ev := tab TFnExactMoveTable_7) TFnExactMoveTable_k7 rfl rfl rfl) TFnExactMoveTable_k7
def TFnExactMoveTable_9 : List (Nat × Sp) := (18, sp_toPlan) :: TFnExactMoveTable_8
theorem TFnExactMoveTable_k9 : EvOk Try.prog (tab TFnExactMoveTable_9) := tab_cons (ok_toPlan (ev := tab TFnExactMoveTable_8) TFnExactMoveTable_k8 rfl) TFnExactMoveTable_k8
def TFnExactMoveTable_10 : List (Nat × Sp) := (36, sp_eqIntS) :: TFnExactMoveTable_9
theorem TFnExactMoveTable_k10 : EvOk Try.prog (tab TFnExactMoveTable_10) := tab_cons ok_eqIntS TFnExactMoveTable_k9
def TFnExactMoveTable_11 : List (Nat × Sp) := (43, sp_eqIntSS) :: TFnExactMoveTable_10
theorem TFnExactMoveTable_k11 : EvOk Try.prog (tab TFnExactMoveTable_11) := tab_cons (ok_eqIntSS (ev := tab TFnExactMoveTable_10) TFnExactMoveTable_k10 rfl) TFnExactMoveTable_k10
def TFnExactMoveTable_12 : List (Nat × Sp) := (86, sp_eqLimits) :: TFnExactMoveTable_11
theorem TFnExactMoveTable_k12 : EvOk Try.prog (tab TFnExactMoveTable_12) := tab_cons ok_eqLimits TFnExactMoveTable_k11
def TFnExactMoveTable_13 : List (Nat × Sp) := (20, sp_eqJob) :: TFnExactMoveTable_12
theorem TFnExactMoveTable_k13 : EvOk Try.prog (tab TFnExactMoveTable_13) := tab_cons (ok_eqJob (ev := tab TFnExactMoveTable_12) TFnExactMoveTable_k12 rfl rfl rfl) TFnExactMoveTable_k12
def TFnExactMoveTable_14 : List (Nat × Sp) := (21, sp_eqPlan) :: TFnExactMoveTable_13
theorem TFnExactMoveTable_k14 : EvOk Try.prog (tab TFnExactMoveTable_14) := tab_cons (ok_eqPlan (ev := tab TFnExactMoveTable_13) TFnExactMoveTable_k13 rfl) TFnExactMoveTable_k13
def TFnExactMoveTable_15 : List (Nat × Sp) := (39, sp_markIntS) :: TFnExactMoveTable_14
theorem TFnExactMoveTable_k15 : EvOk Try.prog (tab TFnExactMoveTable_15) := tab_cons ok_markIntS TFnExactMoveTable_k14
def TFnExactMoveTable_16 : List (Nat × Sp) := (44, sp_markIntSS) :: TFnExactMoveTable_15
theorem TFnExactMoveTable_k16 : EvOk Try.prog (tab TFnExactMoveTable_16) := tab_cons (ok_markIntSS (ev := tab TFnExactMoveTable_15) TFnExactMoveTable_k15 rfl) TFnExactMoveTable_k15
def TFnExactMoveTable_17 : List (Nat × Sp) := (37, sp_markJob) :: TFnExactMoveTable_16
theorem TFnExactMoveTable_k17 : EvOk Try.prog (tab TFnExactMoveTable_17) := tab_cons (ok_markJob (ev := tab TFnExactMoveTable_16) TFnExactMoveTable_k16 rfl rfl) TFnExactMoveTable_k16
def TFnExactMoveTable_18 : List (Nat × Sp) := (38, sp_markPlan) :: TFnExactMoveTable_17
theorem TFnExactMoveTable_k18 : EvOk Try.prog (tab TFnExactMoveTable_18) := tab_cons (ok_markPlan (ev := tab TFnExactMoveTable_17) TFnExactMoveTable_k17 rfl) TFnExactMoveTable_k17
def TFnExactMoveTable_19 : List (Nat × Sp) := (40, sp_heldIntS) :: TFnExactMoveTable_18
theorem TFnExactMoveTable_k19 : EvOk Try.prog (tab TFnExactMoveTable_19) := tab_cons ok_heldIntS TFnExactMoveTable_k18
def TFnExactMoveTable_20 : List (Nat × Sp) := (45, sp_heldIntSS) :: TFnExactMoveTable_19
theorem TFnExactMoveTable_k20 : EvOk Try.prog (tab TFnExactMoveTable_20) := tab_cons (ok_heldIntSS (ev := tab TFnExactMoveTable_19) TFnExactMoveTable_k19 rfl) TFnExactMoveTable_k19
def TFnExactMoveTable_21 : List (Nat × Sp) := (125, sp_l1In) :: TFnExactMoveTable_20
theorem TFnExactMoveTable_k21 : EvOk Try.prog (tab TFnExactMoveTable_21) := tab_cons ok_l1In TFnExactMoveTable_k20
def TFnExactMoveTable_22 : List (Nat × Sp) := (127, sp_l1All) :: TFnExactMoveTable_21
theorem TFnExactMoveTable_k22 : EvOk Try.prog (tab TFnExactMoveTable_22) := tab_cons (ok_l1All (ev := tab TFnExactMoveTable_21) TFnExactMoveTable_k21 rfl) TFnExactMoveTable_k21
def TFnExactMoveTable_23 : List (Nat × Sp) := (154, sp_l1Rising) :: TFnExactMoveTable_22
theorem TFnExactMoveTable_k23 : EvOk Try.prog (tab TFnExactMoveTable_23) := tab_cons (ok_l1Rising (ev := tab TFnExactMoveTable_22) TFnExactMoveTable_k22 rfl) TFnExactMoveTable_k22
def TFnExactMoveTable_24 : List (Nat × Sp) := (151, sp_clArcs) :: TFnExactMoveTable_23
theorem TFnExactMoveTable_k24 : EvOk Try.prog (tab TFnExactMoveTable_24) := tab_cons (ok_clArcs (ev := tab TFnExactMoveTable_23) TFnExactMoveTable_k23 rfl rfl) TFnExactMoveTable_k23
def TFnExactMoveTable_25 : List (Nat × Sp) := (146, sp_plJob) :: TFnExactMoveTable_24
theorem TFnExactMoveTable_k25 : EvOk Try.prog (tab TFnExactMoveTable_25) := tab_cons (ok_plJob (ev := tab TFnExactMoveTable_24) TFnExactMoveTable_k24 rfl rfl rfl) TFnExactMoveTable_k24
def TFnExactMoveTable_26 : List (Nat × Sp) := (129, sp_plGood) :: TFnExactMoveTable_25
theorem TFnExactMoveTable_k26 : EvOk Try.prog (tab TFnExactMoveTable_26) := tab_cons (ok_plGood (ev := tab TFnExactMoveTable_25) TFnExactMoveTable_k25 rfl) TFnExactMoveTable_k25
def TFnExactMoveTable_27 : List (Nat × Sp) := (128, sp_plBoth) :: TFnExactMoveTable_26
theorem TFnExactMoveTable_k27 : EvOk Try.prog (tab TFnExactMoveTable_27) := tab_cons (ok_plBoth (ev := tab TFnExactMoveTable_26) TFnExactMoveTable_k26 rfl rfl) TFnExactMoveTable_k26
def TFnExactMoveTable_28 : List (Nat × Sp) := (78, sp_coGood) :: TFnExactMoveTable_27
theorem TFnExactMoveTable_k28 : EvOk Try.prog (tab TFnExactMoveTable_28) := tab_cons (ok_coGood (ev := tab TFnExactMoveTable_27) TFnExactMoveTable_k27 rfl rfl) TFnExactMoveTable_k27
def TFnExactMoveTable_29 : List (Nat × Sp) := (81, sp_rank) :: TFnExactMoveTable_28
theorem TFnExactMoveTable_k29 : EvOk Try.prog (tab TFnExactMoveTable_29) := tab_cons ok_coRank TFnExactMoveTable_k28
def TFnExactMoveTable_30 : List (Nat × Sp) := (41, sp_MoveTable) :: TFnExactMoveTable_29
theorem TFnExactMoveTable_k30 : EvOk Try.prog (tab TFnExactMoveTable_30) := tab_cons (ok_spec_MoveTable (ev := tab TFnExactMoveTable_29) TFnExactMoveTable_k29 rfl rfl) TFnExactMoveTable_k29
def TFnExactMoveTable_31 : List (Nat × Sp) := (155, sp_areBlocks) :: TFnExactMoveTable_30
theorem TFnExactMoveTable_k31 : EvOk Try.prog (tab TFnExactMoveTable_31) := tab_cons ok_areBlocks TFnExactMoveTable_k30
def TFnExactMoveTable_32 : List (Nat × Sp) := (152, sp_clArcs) :: TFnExactMoveTable_31
theorem TFnExactMoveTable_k32 : EvOk Try.prog (tab TFnExactMoveTable_32) := tab_cons (ok_AreArcs (ev := tab TFnExactMoveTable_31) TFnExactMoveTable_k31 rfl) TFnExactMoveTable_k31
def TFnExactMoveTable_33 : List (Nat × Sp) := (153, sp_goodValues) :: TFnExactMoveTable_32
theorem TFnExactMoveTable_k33 : EvOk Try.prog (tab TFnExactMoveTable_33) := tab_cons ok_goodValues TFnExactMoveTable_k32
def TFnExactMoveTable_34 : List (Nat × Sp) := (147, sp_areValued) :: TFnExactMoveTable_33
theorem TFnExactMoveTable_k34 : EvOk Try.prog (tab TFnExactMoveTable_34) := tab_cons (ok_areValued (ev := tab TFnExactMoveTable_33) TFnExactMoveTable_k33 rfl rfl) TFnExactMoveTable_k33
def TFnExactMoveTable_35 : List (Nat × Sp) := (130, sp_plJob) :: TFnExactMoveTable_34
theorem TFnExactMoveTable_k35 : EvOk Try.prog (tab TFnExactMoveTable_35) := tab_cons (ok_IsJob (ev := tab TFnExactMoveTable_34) TFnExactMoveTable_k34 rfl) TFnExactMoveTable_k34
def TFnExactMoveTable_36 : List (Nat × Sp) := (131, sp_isPlan) :: TFnExactMoveTable_35
theorem TFnExactMoveTable_k36 : EvOk Try.prog (tab TFnExactMoveTable_36) := tab_cons ok_isPlan TFnExactMoveTable_k35
def TFnExactMoveTable_37 : List (Nat × Sp) := (85, sp_coGood) :: TFnExactMoveTable_36
theorem TFnExactMoveTable_k37 : EvOk Try.prog (tab TFnExactMoveTable_37) := tab_cons (ok_arePlans (ev := tab TFnExactMoveTable_36) TFnExactMoveTable_k36 rfl rfl) TFnExactMoveTable_k36
def TFnExactMoveTable_38 : List (Nat × Sp) := (103, sp_rank) :: TFnExactMoveTable_37
theorem TFnExactMoveTable_k38 : EvOk Try.prog (tab TFnExactMoveTable_38) := tab_cons ok_rankOf TFnExactMoveTable_k37
def TFnExactMoveTable_39 : List (Nat × Sp) := (42, sp_MoveTable) :: TFnExactMoveTable_38
theorem TFnExactMoveTable_k39 : EvOk Try.prog (tab TFnExactMoveTable_39) := tab_cons (ok_impl_MoveTable (ev := tab TFnExactMoveTable_38) TFnExactMoveTable_k38 rfl rfl) TFnExactMoveTable_k38
theorem ok_FnExactMoveTable_all : FnOk Try.prog 7 sp_JPP := (ok_FnExactMoveTable (ev := tab TFnExactMoveTable_39) TFnExactMoveTable_k39 rfl rfl rfl rfl rfl rfl rfl rfl rfl rfl rfl rfl rfl)
end Go.Proofs.Ytpfjjheognelhaa.E
