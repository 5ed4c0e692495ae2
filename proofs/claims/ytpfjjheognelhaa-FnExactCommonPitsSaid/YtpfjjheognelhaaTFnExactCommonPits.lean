/- The table of the functions that FnExactCommonPits reaches. -/
import Derived.Test.YtpfjjheognelhaaG1
import Derived.Test.YtpfjjheognelhaaG2
import Derived.Test.YtpfjjheognelhaaG3
import Derived.Test.YtpfjjheognelhaaG4
import Derived.Test.YtpfjjheognelhaaG5
import Derived.Test.YtpfjjheognelhaaG6
import Derived.Test.YtpfjjheognelhaaG7
import Derived.Test.YtpfjjheognelhaaG8
import Derived.Test.YtpfjjheognelhaaG10
import Derived.Test.YtpfjjheognelhaaG9
namespace Go.Proofs.Ytpfjjheognelhaa.E
open Go Go.Proofs
def TFnExactCommonPits_0 : List (Nat × Sp) := []
theorem TFnExactCommonPits_k0 : EvOk Try.prog (tab TFnExactCommonPits_0) := tab_nil
def TFnExactCommonPits_1 : List (Nat × Sp) := (77, sp_szIntS) :: TFnExactCommonPits_0
theorem TFnExactCommonPits_k1 : EvOk Try.prog (tab TFnExactCommonPits_1) := tab_cons ok_szIntS TFnExactCommonPits_k0
def TFnExactCommonPits_2 : List (Nat × Sp) := (76, sp_szIntSS) :: TFnExactCommonPits_1
theorem TFnExactCommonPits_k2 : EvOk Try.prog (tab TFnExactCommonPits_2) := tab_cons (ok_szIntSS (ev := tab TFnExactCommonPits_1) TFnExactCommonPits_k1 rfl) TFnExactCommonPits_k1
def TFnExactCommonPits_3 : List (Nat × Sp) := (14, sp_szJob) :: TFnExactCommonPits_2
theorem TFnExactCommonPits_k3 : EvOk Try.prog (tab TFnExactCommonPits_3) := tab_cons (ok_szJob (ev := tab TFnExactCommonPits_2) TFnExactCommonPits_k2 rfl rfl) TFnExactCommonPits_k2
def TFnExactCommonPits_4 : List (Nat × Sp) := (15, sp_szPlan) :: TFnExactCommonPits_3
theorem TFnExactCommonPits_k4 : EvOk Try.prog (tab TFnExactCommonPits_4) := tab_cons (ok_szPlan (ev := tab TFnExactCommonPits_3) TFnExactCommonPits_k3 rfl) TFnExactCommonPits_k3
def TFnExactCommonPits_5 : List (Nat × Sp) := (83, sp_toIntS) :: TFnExactCommonPits_4
theorem TFnExactCommonPits_k5 : EvOk Try.prog (tab TFnExactCommonPits_5) := tab_cons ok_toIntS TFnExactCommonPits_k4
def TFnExactCommonPits_6 : List (Nat × Sp) := (82, sp_toIntSS) :: TFnExactCommonPits_5
theorem TFnExactCommonPits_k6 : EvOk Try.prog (tab TFnExactCommonPits_6) := tab_cons (ok_toIntSS (ev := tab TFnExactCommonPits_5) TFnExactCommonPits_k5 rfl) TFnExactCommonPits_k5
def TFnExactCommonPits_7 : List (Nat × Sp) := (84, sp_toLimits) :: TFnExactCommonPits_6
theorem TFnExactCommonPits_k7 : EvOk Try.prog (tab TFnExactCommonPits_7) := tab_cons ok_toLimits TFnExactCommonPits_k6
def TFnExactCommonPits_8 : List (Nat × Sp) := (17, sp_toJob) :: TFnExactCommonPits_7
theorem TFnExactCommonPits_k8 : EvOk Try.prog (tab TFnExactCommonPits_8) := tab_cons (ok_toJob (ev := tab TFnExactCommonPits_7) TFnExactCommonPits_k7 rfl rfl rfl) TFnExactCommonPits_k7
def TFnExactCommonPits_9 : List (Nat × Sp) := (18, sp_toPlan) :: TFnExactCommonPits_8
theorem TFnExactCommonPits_k9 : EvOk Try.prog (tab TFnExactCommonPits_9) := tab_cons (ok_toPlan (ev := tab TFnExactCommonPits_8) TFnExactCommonPits_k8 rfl) TFnExactCommonPits_k8
def TFnExactCommonPits_10 : List (Nat × Sp) := (36, sp_eqIntS) :: TFnExactCommonPits_9
theorem TFnExactCommonPits_k10 : EvOk Try.prog (tab TFnExactCommonPits_10) := tab_cons ok_eqIntS TFnExactCommonPits_k9
def TFnExactCommonPits_11 : List (Nat × Sp) := (43, sp_eqIntSS) :: TFnExactCommonPits_10
theorem TFnExactCommonPits_k11 : EvOk Try.prog (tab TFnExactCommonPits_11) := tab_cons (ok_eqIntSS (ev := tab TFnExactCommonPits_10) TFnExactCommonPits_k10 rfl) TFnExactCommonPits_k10
def TFnExactCommonPits_12 : List (Nat × Sp) := (86, sp_eqLimits) :: TFnExactCommonPits_11
theorem TFnExactCommonPits_k12 : EvOk Try.prog (tab TFnExactCommonPits_12) := tab_cons ok_eqLimits TFnExactCommonPits_k11
def TFnExactCommonPits_13 : List (Nat × Sp) := (20, sp_eqJob) :: TFnExactCommonPits_12
theorem TFnExactCommonPits_k13 : EvOk Try.prog (tab TFnExactCommonPits_13) := tab_cons (ok_eqJob (ev := tab TFnExactCommonPits_12) TFnExactCommonPits_k12 rfl rfl rfl) TFnExactCommonPits_k12
def TFnExactCommonPits_14 : List (Nat × Sp) := (21, sp_eqPlan) :: TFnExactCommonPits_13
theorem TFnExactCommonPits_k14 : EvOk Try.prog (tab TFnExactCommonPits_14) := tab_cons (ok_eqPlan (ev := tab TFnExactCommonPits_13) TFnExactCommonPits_k13 rfl) TFnExactCommonPits_k13
def TFnExactCommonPits_15 : List (Nat × Sp) := (39, sp_markIntS) :: TFnExactCommonPits_14
theorem TFnExactCommonPits_k15 : EvOk Try.prog (tab TFnExactCommonPits_15) := tab_cons ok_markIntS TFnExactCommonPits_k14
def TFnExactCommonPits_16 : List (Nat × Sp) := (44, sp_markIntSS) :: TFnExactCommonPits_15
theorem TFnExactCommonPits_k16 : EvOk Try.prog (tab TFnExactCommonPits_16) := tab_cons (ok_markIntSS (ev := tab TFnExactCommonPits_15) TFnExactCommonPits_k15 rfl) TFnExactCommonPits_k15
def TFnExactCommonPits_17 : List (Nat × Sp) := (37, sp_markJob) :: TFnExactCommonPits_16
theorem TFnExactCommonPits_k17 : EvOk Try.prog (tab TFnExactCommonPits_17) := tab_cons (ok_markJob (ev := tab TFnExactCommonPits_16) TFnExactCommonPits_k16 rfl rfl) TFnExactCommonPits_k16
def TFnExactCommonPits_18 : List (Nat × Sp) := (38, sp_markPlan) :: TFnExactCommonPits_17
theorem TFnExactCommonPits_k18 : EvOk Try.prog (tab TFnExactCommonPits_18) := tab_cons (ok_markPlan (ev := tab TFnExactCommonPits_17) TFnExactCommonPits_k17 rfl) TFnExactCommonPits_k17
def TFnExactCommonPits_19 : List (Nat × Sp) := (40, sp_heldIntS) :: TFnExactCommonPits_18
theorem TFnExactCommonPits_k19 : EvOk Try.prog (tab TFnExactCommonPits_19) := tab_cons ok_heldIntS TFnExactCommonPits_k18
def TFnExactCommonPits_20 : List (Nat × Sp) := (45, sp_heldIntSS) :: TFnExactCommonPits_19
theorem TFnExactCommonPits_k20 : EvOk Try.prog (tab TFnExactCommonPits_20) := tab_cons (ok_heldIntSS (ev := tab TFnExactCommonPits_19) TFnExactCommonPits_k19 rfl) TFnExactCommonPits_k19
def TFnExactCommonPits_21 : List (Nat × Sp) := (125, sp_l1In) :: TFnExactCommonPits_20
theorem TFnExactCommonPits_k21 : EvOk Try.prog (tab TFnExactCommonPits_21) := tab_cons ok_l1In TFnExactCommonPits_k20
def TFnExactCommonPits_22 : List (Nat × Sp) := (127, sp_l1All) :: TFnExactCommonPits_21
theorem TFnExactCommonPits_k22 : EvOk Try.prog (tab TFnExactCommonPits_22) := tab_cons (ok_l1All (ev := tab TFnExactCommonPits_21) TFnExactCommonPits_k21 rfl) TFnExactCommonPits_k21
def TFnExactCommonPits_23 : List (Nat × Sp) := (154, sp_l1Rising) :: TFnExactCommonPits_22
theorem TFnExactCommonPits_k23 : EvOk Try.prog (tab TFnExactCommonPits_23) := tab_cons (ok_l1Rising (ev := tab TFnExactCommonPits_22) TFnExactCommonPits_k22 rfl) TFnExactCommonPits_k22
def TFnExactCommonPits_24 : List (Nat × Sp) := (151, sp_clArcs) :: TFnExactCommonPits_23
theorem TFnExactCommonPits_k24 : EvOk Try.prog (tab TFnExactCommonPits_24) := tab_cons (ok_clArcs (ev := tab TFnExactCommonPits_23) TFnExactCommonPits_k23 rfl rfl) TFnExactCommonPits_k23
def TFnExactCommonPits_25 : List (Nat × Sp) := (146, sp_plJob) :: TFnExactCommonPits_24
theorem TFnExactCommonPits_k25 : EvOk Try.prog (tab TFnExactCommonPits_25) := tab_cons (ok_plJob (ev := tab TFnExactCommonPits_24) TFnExactCommonPits_k24 rfl rfl rfl) TFnExactCommonPits_k24
def TFnExactCommonPits_26 : List (Nat × Sp) := (129, sp_plGood) :: TFnExactCommonPits_25
theorem TFnExactCommonPits_k26 : EvOk Try.prog (tab TFnExactCommonPits_26) := tab_cons (ok_plGood (ev := tab TFnExactCommonPits_25) TFnExactCommonPits_k25 rfl) TFnExactCommonPits_k25
def TFnExactCommonPits_27 : List (Nat × Sp) := (128, sp_plBoth) :: TFnExactCommonPits_26
theorem TFnExactCommonPits_k27 : EvOk Try.prog (tab TFnExactCommonPits_27) := tab_cons (ok_plBoth (ev := tab TFnExactCommonPits_26) TFnExactCommonPits_k26 rfl rfl) TFnExactCommonPits_k26
def TFnExactCommonPits_28 : List (Nat × Sp) := (78, sp_coGood) :: TFnExactCommonPits_27
theorem TFnExactCommonPits_k28 : EvOk Try.prog (tab TFnExactCommonPits_28) := tab_cons (ok_coGood (ev := tab TFnExactCommonPits_27) TFnExactCommonPits_k27 rfl rfl) TFnExactCommonPits_k27
def TFnExactCommonPits_29 : List (Nat × Sp) := (81, sp_rank) :: TFnExactCommonPits_28
theorem TFnExactCommonPits_k29 : EvOk Try.prog (tab TFnExactCommonPits_29) := tab_cons ok_coRank TFnExactCommonPits_k28
def TFnExactCommonPits_30 : List (Nat × Sp) := (46, sp_CommonPits) :: TFnExactCommonPits_29
theorem TFnExactCommonPits_k30 : EvOk Try.prog (tab TFnExactCommonPits_30) := tab_cons (ok_spec_CommonPits (ev := tab TFnExactCommonPits_29) TFnExactCommonPits_k29 rfl rfl) TFnExactCommonPits_k29
def TFnExactCommonPits_31 : List (Nat × Sp) := (155, sp_areBlocks) :: TFnExactCommonPits_30
theorem TFnExactCommonPits_k31 : EvOk Try.prog (tab TFnExactCommonPits_31) := tab_cons ok_areBlocks TFnExactCommonPits_k30
def TFnExactCommonPits_32 : List (Nat × Sp) := (152, sp_clArcs) :: TFnExactCommonPits_31
theorem TFnExactCommonPits_k32 : EvOk Try.prog (tab TFnExactCommonPits_32) := tab_cons (ok_AreArcs (ev := tab TFnExactCommonPits_31) TFnExactCommonPits_k31 rfl) TFnExactCommonPits_k31
def TFnExactCommonPits_33 : List (Nat × Sp) := (153, sp_goodValues) :: TFnExactCommonPits_32
theorem TFnExactCommonPits_k33 : EvOk Try.prog (tab TFnExactCommonPits_33) := tab_cons ok_goodValues TFnExactCommonPits_k32
def TFnExactCommonPits_34 : List (Nat × Sp) := (147, sp_areValued) :: TFnExactCommonPits_33
theorem TFnExactCommonPits_k34 : EvOk Try.prog (tab TFnExactCommonPits_34) := tab_cons (ok_areValued (ev := tab TFnExactCommonPits_33) TFnExactCommonPits_k33 rfl rfl) TFnExactCommonPits_k33
def TFnExactCommonPits_35 : List (Nat × Sp) := (130, sp_plJob) :: TFnExactCommonPits_34
theorem TFnExactCommonPits_k35 : EvOk Try.prog (tab TFnExactCommonPits_35) := tab_cons (ok_IsJob (ev := tab TFnExactCommonPits_34) TFnExactCommonPits_k34 rfl) TFnExactCommonPits_k34
def TFnExactCommonPits_36 : List (Nat × Sp) := (131, sp_isPlan) :: TFnExactCommonPits_35
theorem TFnExactCommonPits_k36 : EvOk Try.prog (tab TFnExactCommonPits_36) := tab_cons ok_isPlan TFnExactCommonPits_k35
def TFnExactCommonPits_37 : List (Nat × Sp) := (85, sp_coGood) :: TFnExactCommonPits_36
theorem TFnExactCommonPits_k37 : EvOk Try.prog (tab TFnExactCommonPits_37) := tab_cons (ok_arePlans (ev := tab TFnExactCommonPits_36) TFnExactCommonPits_k36 rfl rfl) TFnExactCommonPits_k36
def TFnExactCommonPits_38 : List (Nat × Sp) := (103, sp_rank) :: TFnExactCommonPits_37
theorem TFnExactCommonPits_k38 : EvOk Try.prog (tab TFnExactCommonPits_38) := tab_cons ok_rankOf TFnExactCommonPits_k37
def TFnExactCommonPits_39 : List (Nat × Sp) := (47, sp_CommonPits) :: TFnExactCommonPits_38
theorem TFnExactCommonPits_k39 : EvOk Try.prog (tab TFnExactCommonPits_39) := tab_cons (ok_impl_CommonPits (ev := tab TFnExactCommonPits_38) TFnExactCommonPits_k38 rfl rfl) TFnExactCommonPits_k38
theorem ok_FnExactCommonPits_all : FnOk Try.prog 8 sp_JPP := (ok_FnExactCommonPits (ev := tab TFnExactCommonPits_39) TFnExactCommonPits_k39 rfl rfl rfl rfl rfl rfl rfl rfl rfl rfl rfl rfl rfl)
end Go.Proofs.Ytpfjjheognelhaa.E
