/- The table of the functions that FnExactStepsTowards reaches. -/
import Derived.Test.YtfdgijglpelgiaaG1
import Derived.Test.YtfdgijglpelgiaaG2
import Derived.Test.YtfdgijglpelgiaaG3
import Derived.Test.YtfdgijglpelgiaaG4
import Derived.Test.YtfdgijglpelgiaaG5
import Derived.Test.YtfdgijglpelgiaaG6
import Derived.Test.YtfdgijglpelgiaaG7
import Derived.Test.YtfdgijglpelgiaaG8
import Derived.Test.YtfdgijglpelgiaaG10
import Derived.Test.YtfdgijglpelgiaaG11
import Derived.Test.YtfdgijglpelgiaaK0
import Derived.Test.YtfdgijglpelgiaaK1
import Derived.Test.YtfdgijglpelgiaaK2
import Derived.Test.YtfdgijglpelgiaaK3
import Derived.Test.YtfdgijglpelgiaaK4
import Derived.Test.YtfdgijglpelgiaaK5
import Derived.Test.YtfdgijglpelgiaaK6
import Derived.Test.YtfdgijglpelgiaaK7
import Derived.Test.YtfdgijglpelgiaaK8
import Derived.Test.YtfdgijglpelgiaaK9
import Derived.Test.YtfdgijglpelgiaaLStepsTowards
namespace Go.Proofs.Ytfdgijglpelgiaa.E
open Go Go.Proofs
def TFnExactStepsTowards_0 : List (Nat × Sp) := []
theorem TFnExactStepsTowards_k0 : EvOk Try.prog (tab TFnExactStepsTowards_0) := tab_nil
def TFnExactStepsTowards_1 : List (Nat × Sp) := (19, sp_szIntS) :: TFnExactStepsTowards_0
theorem TFnExactStepsTowards_k1 : EvOk Try.prog (tab TFnExactStepsTowards_1) := tab_cons ok_szIntS TFnExactStepsTowards_k0
def TFnExactStepsTowards_2 : List (Nat × Sp) := (18, sp_szIntSS) :: TFnExactStepsTowards_1
theorem TFnExactStepsTowards_k2 : EvOk Try.prog (tab TFnExactStepsTowards_2) := tab_cons (ok_szIntSS (ev := tab TFnExactStepsTowards_1) TFnExactStepsTowards_k1 rfl) TFnExactStepsTowards_k1
def TFnExactStepsTowards_3 : List (Nat × Sp) := (4, sp_szJob) :: TFnExactStepsTowards_2
theorem TFnExactStepsTowards_k3 : EvOk Try.prog (tab TFnExactStepsTowards_3) := tab_cons (ok_szJob (ev := tab TFnExactStepsTowards_2) TFnExactStepsTowards_k2 rfl rfl) TFnExactStepsTowards_k2
def TFnExactStepsTowards_4 : List (Nat × Sp) := (5, sp_szPlan) :: TFnExactStepsTowards_3
theorem TFnExactStepsTowards_k4 : EvOk Try.prog (tab TFnExactStepsTowards_4) := tab_cons (ok_szPlan (ev := tab TFnExactStepsTowards_3) TFnExactStepsTowards_k3 rfl) TFnExactStepsTowards_k3
def TFnExactStepsTowards_5 : List (Nat × Sp) := (25, sp_toIntS) :: TFnExactStepsTowards_4
theorem TFnExactStepsTowards_k5 : EvOk Try.prog (tab TFnExactStepsTowards_5) := tab_cons ok_toIntS TFnExactStepsTowards_k4
def TFnExactStepsTowards_6 : List (Nat × Sp) := (24, sp_toIntSS) :: TFnExactStepsTowards_5
theorem TFnExactStepsTowards_k6 : EvOk Try.prog (tab TFnExactStepsTowards_6) := tab_cons (ok_toIntSS (ev := tab TFnExactStepsTowards_5) TFnExactStepsTowards_k5 rfl) TFnExactStepsTowards_k5
def TFnExactStepsTowards_7 : List (Nat × Sp) := (26, sp_toLimits) :: TFnExactStepsTowards_6
theorem TFnExactStepsTowards_k7 : EvOk Try.prog (tab TFnExactStepsTowards_7) := tab_cons ok_toLimits TFnExactStepsTowards_k6
def TFnExactStepsTowards_8 : List (Nat × Sp) := (7, sp_toJob) :: TFnExactStepsTowards_7
theorem TFnExactStepsTowards_k8 : EvOk Try.prog (tab TFnExactStepsTowards_8) := tab_cons (ok_toJob (ev := tab TFnExactStepsTowards_7) TFnExactStepsTowards_k7 rfl rfl rfl) TFnExactStepsTowards_k7
def TFnExactStepsTowards_9 : List (Nat × Sp) := (8, sp_toPlan) :: TFnExactStepsTowards_8
theorem TFnExactStepsTowards_k9 : EvOk Try.prog (tab TFnExactStepsTowards_9) := tab_cons (ok_toPlan (ev := tab TFnExactStepsTowards_8) TFnExactStepsTowards_k8 rfl) TFnExactStepsTowards_k8
def TFnExactStepsTowards_10 : List (Nat × Sp) := (11, sp_eqIntS) :: TFnExactStepsTowards_9
theorem TFnExactStepsTowards_k10 : EvOk Try.prog (tab TFnExactStepsTowards_10) := tab_cons ok_eqIntS TFnExactStepsTowards_k9
def TFnExactStepsTowards_11 : List (Nat × Sp) := (32, sp_eqIntSS) :: TFnExactStepsTowards_10
theorem TFnExactStepsTowards_k11 : EvOk Try.prog (tab TFnExactStepsTowards_11) := tab_cons (ok_eqIntSS (ev := tab TFnExactStepsTowards_10) TFnExactStepsTowards_k10 rfl) TFnExactStepsTowards_k10
def TFnExactStepsTowards_12 : List (Nat × Sp) := (33, sp_eqLimits) :: TFnExactStepsTowards_11
theorem TFnExactStepsTowards_k12 : EvOk Try.prog (tab TFnExactStepsTowards_12) := tab_cons ok_eqLimits TFnExactStepsTowards_k11
def TFnExactStepsTowards_13 : List (Nat × Sp) := (12, sp_eqJob) :: TFnExactStepsTowards_12
theorem TFnExactStepsTowards_k13 : EvOk Try.prog (tab TFnExactStepsTowards_13) := tab_cons (ok_eqJob (ev := tab TFnExactStepsTowards_12) TFnExactStepsTowards_k12 rfl rfl rfl) TFnExactStepsTowards_k12
def TFnExactStepsTowards_14 : List (Nat × Sp) := (10, sp_eqPlan) :: TFnExactStepsTowards_13
theorem TFnExactStepsTowards_k14 : EvOk Try.prog (tab TFnExactStepsTowards_14) := tab_cons (ok_eqPlan (ev := tab TFnExactStepsTowards_13) TFnExactStepsTowards_k13 rfl) TFnExactStepsTowards_k13
def TFnExactStepsTowards_15 : List (Nat × Sp) := (15, sp_markIntS) :: TFnExactStepsTowards_14
theorem TFnExactStepsTowards_k15 : EvOk Try.prog (tab TFnExactStepsTowards_15) := tab_cons ok_markIntS TFnExactStepsTowards_k14
def TFnExactStepsTowards_16 : List (Nat × Sp) := (34, sp_markIntSS) :: TFnExactStepsTowards_15
theorem TFnExactStepsTowards_k16 : EvOk Try.prog (tab TFnExactStepsTowards_16) := tab_cons (ok_markIntSS (ev := tab TFnExactStepsTowards_15) TFnExactStepsTowards_k15 rfl) TFnExactStepsTowards_k15
def TFnExactStepsTowards_17 : List (Nat × Sp) := (13, sp_markJob) :: TFnExactStepsTowards_16
theorem TFnExactStepsTowards_k17 : EvOk Try.prog (tab TFnExactStepsTowards_17) := tab_cons (ok_markJob (ev := tab TFnExactStepsTowards_16) TFnExactStepsTowards_k16 rfl rfl) TFnExactStepsTowards_k16
def TFnExactStepsTowards_18 : List (Nat × Sp) := (14, sp_markPlan) :: TFnExactStepsTowards_17
theorem TFnExactStepsTowards_k18 : EvOk Try.prog (tab TFnExactStepsTowards_18) := tab_cons (ok_markPlan (ev := tab TFnExactStepsTowards_17) TFnExactStepsTowards_k17 rfl) TFnExactStepsTowards_k17
def TFnExactStepsTowards_19 : List (Nat × Sp) := (17, sp_heldIntS) :: TFnExactStepsTowards_18
theorem TFnExactStepsTowards_k19 : EvOk Try.prog (tab TFnExactStepsTowards_19) := tab_cons ok_heldIntS TFnExactStepsTowards_k18
def TFnExactStepsTowards_20 : List (Nat × Sp) := (16, sp_heldPlan) :: TFnExactStepsTowards_19
theorem TFnExactStepsTowards_k20 : EvOk Try.prog (tab TFnExactStepsTowards_20) := tab_cons (ok_heldPlan (ev := tab TFnExactStepsTowards_19) TFnExactStepsTowards_k19 rfl) TFnExactStepsTowards_k19
def TFnExactStepsTowards_21 : List (Nat × Sp) := (46, sp_l1In) :: TFnExactStepsTowards_20
theorem TFnExactStepsTowards_k21 : EvOk Try.prog (tab TFnExactStepsTowards_21) := tab_cons ok_l1In TFnExactStepsTowards_k20
def TFnExactStepsTowards_22 : List (Nat × Sp) := (45, sp_l1All) :: TFnExactStepsTowards_21
theorem TFnExactStepsTowards_k22 : EvOk Try.prog (tab TFnExactStepsTowards_22) := tab_cons (ok_l1All (ev := tab TFnExactStepsTowards_21) TFnExactStepsTowards_k21 rfl) TFnExactStepsTowards_k21
def TFnExactStepsTowards_23 : List (Nat × Sp) := (52, sp_l1Rising) :: TFnExactStepsTowards_22
theorem TFnExactStepsTowards_k23 : EvOk Try.prog (tab TFnExactStepsTowards_23) := tab_cons (ok_l1Rising (ev := tab TFnExactStepsTowards_22) TFnExactStepsTowards_k22 rfl) TFnExactStepsTowards_k22
def TFnExactStepsTowards_24 : List (Nat × Sp) := (49, sp_clArcs) :: TFnExactStepsTowards_23
theorem TFnExactStepsTowards_k24 : EvOk Try.prog (tab TFnExactStepsTowards_24) := tab_cons (ok_clArcs (ev := tab TFnExactStepsTowards_23) TFnExactStepsTowards_k23 rfl rfl) TFnExactStepsTowards_k23
def TFnExactStepsTowards_25 : List (Nat × Sp) := (44, sp_plJob) :: TFnExactStepsTowards_24
theorem TFnExactStepsTowards_k25 : EvOk Try.prog (tab TFnExactStepsTowards_25) := tab_cons (ok_plJob (ev := tab TFnExactStepsTowards_24) TFnExactStepsTowards_k24 rfl rfl rfl) TFnExactStepsTowards_k24
def TFnExactStepsTowards_26 : List (Nat × Sp) := (36, sp_plGood) :: TFnExactStepsTowards_25
theorem TFnExactStepsTowards_k26 : EvOk Try.prog (tab TFnExactStepsTowards_26) := tab_cons (ok_plGood (ev := tab TFnExactStepsTowards_25) TFnExactStepsTowards_k25 rfl) TFnExactStepsTowards_k25
def TFnExactStepsTowards_27 : List (Nat × Sp) := (35, sp_plBoth) :: TFnExactStepsTowards_26
theorem TFnExactStepsTowards_k27 : EvOk Try.prog (tab TFnExactStepsTowards_27) := tab_cons (ok_plBoth (ev := tab TFnExactStepsTowards_26) TFnExactStepsTowards_k26 rfl rfl) TFnExactStepsTowards_k26
def TFnExactStepsTowards_28 : List (Nat × Sp) := (20, sp_coGood) :: TFnExactStepsTowards_27
theorem TFnExactStepsTowards_k28 : EvOk Try.prog (tab TFnExactStepsTowards_28) := tab_cons (ok_coGood (ev := tab TFnExactStepsTowards_27) TFnExactStepsTowards_k27 rfl rfl) TFnExactStepsTowards_k27
def TFnExactStepsTowards_29 : List (Nat × Sp) := (37, sp_plFaults) :: TFnExactStepsTowards_28
theorem TFnExactStepsTowards_k29 : EvOk Try.prog (tab TFnExactStepsTowards_29) := tab_cons (ok_plFaults (ev := tab TFnExactStepsTowards_28) TFnExactStepsTowards_k28 rfl) TFnExactStepsTowards_k28
def TFnExactStepsTowards_30 : List (Nat × Sp) := (47, sp_tonnes) :: TFnExactStepsTowards_29
theorem TFnExactStepsTowards_k30 : EvOk Try.prog (tab TFnExactStepsTowards_30) := tab_cons ok_plTonnes TFnExactStepsTowards_k29
def TFnExactStepsTowards_31 : List (Nat × Sp) := (38, sp_plOver) :: TFnExactStepsTowards_30
theorem TFnExactStepsTowards_k31 : EvOk Try.prog (tab TFnExactStepsTowards_31) := tab_cons (ok_plOver (ev := tab TFnExactStepsTowards_30) TFnExactStepsTowards_k30 rfl) TFnExactStepsTowards_k30
def TFnExactStepsTowards_32 : List (Nat × Sp) := (21, sp_feas) :: TFnExactStepsTowards_31
theorem TFnExactStepsTowards_k32 : EvOk Try.prog (tab TFnExactStepsTowards_32) := tab_cons (ok_plFeasible (ev := tab TFnExactStepsTowards_31) TFnExactStepsTowards_k31 rfl rfl) TFnExactStepsTowards_k31
def TFnExactStepsTowards_33 : List (Nat × Sp) := (23, sp_coMoved) :: TFnExactStepsTowards_32
theorem TFnExactStepsTowards_k33 : EvOk Try.prog (tab TFnExactStepsTowards_33) := tab_cons ok_coMoved TFnExactStepsTowards_k32
def TFnExactStepsTowards_34 : List (Nat × Sp) := (39, sp_toIntS) :: TFnExactStepsTowards_33
theorem TFnExactStepsTowards_k34 : EvOk Try.prog (tab TFnExactStepsTowards_34) := tab_cons ok_l1Own' TFnExactStepsTowards_k33
def TFnExactStepsTowards_35 : List (Nat × Sp) := (22, sp_with) :: TFnExactStepsTowards_34
theorem TFnExactStepsTowards_k35 : EvOk Try.prog (tab TFnExactStepsTowards_35) := tab_cons (ok_plWith (ev := tab TFnExactStepsTowards_34) TFnExactStepsTowards_k34 rfl) TFnExactStepsTowards_k34
def TFnExactStepsTowards_36 : List (Nat × Sp) := (6, sp_StepsS) :: TFnExactStepsTowards_35
theorem TFnExactStepsTowards_k36 : EvOk Try.prog (tab TFnExactStepsTowards_36) := tab_cons (ok_spec_StepsTowards (ev := tab TFnExactStepsTowards_35) TFnExactStepsTowards_k35 rfl rfl rfl rfl) TFnExactStepsTowards_k35
def TFnExactStepsTowards_37 : List (Nat × Sp) := (53, sp_areBlocks) :: TFnExactStepsTowards_36
theorem TFnExactStepsTowards_k37 : EvOk Try.prog (tab TFnExactStepsTowards_37) := tab_cons ok_areBlocks TFnExactStepsTowards_k36
def TFnExactStepsTowards_38 : List (Nat × Sp) := (50, sp_clArcs) :: TFnExactStepsTowards_37
theorem TFnExactStepsTowards_k38 : EvOk Try.prog (tab TFnExactStepsTowards_38) := tab_cons (ok_AreArcs (ev := tab TFnExactStepsTowards_37) TFnExactStepsTowards_k37 rfl) TFnExactStepsTowards_k37
def TFnExactStepsTowards_39 : List (Nat × Sp) := (51, sp_goodValues) :: TFnExactStepsTowards_38
theorem TFnExactStepsTowards_k39 : EvOk Try.prog (tab TFnExactStepsTowards_39) := tab_cons ok_goodValues TFnExactStepsTowards_k38
def TFnExactStepsTowards_40 : List (Nat × Sp) := (48, sp_areValued) :: TFnExactStepsTowards_39
theorem TFnExactStepsTowards_k40 : EvOk Try.prog (tab TFnExactStepsTowards_40) := tab_cons (ok_areValued (ev := tab TFnExactStepsTowards_39) TFnExactStepsTowards_k39 rfl rfl) TFnExactStepsTowards_k39
def TFnExactStepsTowards_41 : List (Nat × Sp) := (40, sp_plJob) :: TFnExactStepsTowards_40
theorem TFnExactStepsTowards_k41 : EvOk Try.prog (tab TFnExactStepsTowards_41) := tab_cons (ok_IsJob (ev := tab TFnExactStepsTowards_40) TFnExactStepsTowards_k40 rfl) TFnExactStepsTowards_k40
def TFnExactStepsTowards_42 : List (Nat × Sp) := (41, sp_isPlan) :: TFnExactStepsTowards_41
theorem TFnExactStepsTowards_k42 : EvOk Try.prog (tab TFnExactStepsTowards_42) := tab_cons ok_isPlan TFnExactStepsTowards_k41
def TFnExactStepsTowards_43 : List (Nat × Sp) := (27, sp_coGood) :: TFnExactStepsTowards_42
theorem TFnExactStepsTowards_k43 : EvOk Try.prog (tab TFnExactStepsTowards_43) := tab_cons (ok_arePlans (ev := tab TFnExactStepsTowards_42) TFnExactStepsTowards_k42 rfl rfl) TFnExactStepsTowards_k42
def TFnExactStepsTowards_44 : List (Nat × Sp) := (42, sp_keepsOrder) :: TFnExactStepsTowards_43
theorem TFnExactStepsTowards_k44 : EvOk Try.prog (tab TFnExactStepsTowards_44) := tab_cons ok_keepsOrder TFnExactStepsTowards_k43
def TFnExactStepsTowards_45 : List (Nat × Sp) := (43, sp_tonnes) :: TFnExactStepsTowards_44
theorem TFnExactStepsTowards_k45 : EvOk Try.prog (tab TFnExactStepsTowards_45) := tab_cons ok_tonnesIn TFnExactStepsTowards_k44
def TFnExactStepsTowards_46 : List (Nat × Sp) := (28, sp_feas) :: TFnExactStepsTowards_45
theorem TFnExactStepsTowards_k46 : EvOk Try.prog (tab TFnExactStepsTowards_46) := tab_cons (ok_isFeasible (ev := tab TFnExactStepsTowards_45) TFnExactStepsTowards_k45 rfl rfl) TFnExactStepsTowards_k45
def TFnExactStepsTowards_47 : List (Nat × Sp) := (29, sp_toPlan) :: TFnExactStepsTowards_46
theorem TFnExactStepsTowards_k47 : EvOk Try.prog (tab TFnExactStepsTowards_47) := tab_cons ok_copyPlan TFnExactStepsTowards_k46
def TFnExactStepsTowards_48 : List (Nat × Sp) := (30, sp_movedBlocks) :: TFnExactStepsTowards_47
theorem TFnExactStepsTowards_k48 : EvOk Try.prog (tab TFnExactStepsTowards_48) := tab_cons ok_movedBlocks TFnExactStepsTowards_k47
def TFnExactStepsTowards_49 : List (Nat × Sp) := (31, sp_with) :: TFnExactStepsTowards_48
theorem TFnExactStepsTowards_k49 : EvOk Try.prog (tab TFnExactStepsTowards_49) := tab_cons (ok_movedPlan (ev := tab TFnExactStepsTowards_48) TFnExactStepsTowards_k48 rfl) TFnExactStepsTowards_k48
def TFnExactStepsTowards_50 : List (Nat × Sp) := (9, sp_StepsI) :: TFnExactStepsTowards_49
theorem TFnExactStepsTowards_k50 : EvOk Try.prog (tab TFnExactStepsTowards_50) := tab_cons (ok_impl_StepsTowards (ev := tab TFnExactStepsTowards_49) TFnExactStepsTowards_k49 rfl rfl rfl rfl rfl) TFnExactStepsTowards_k49
theorem ok_FnExactStepsTowards_all : FnOk Try.prog 3 sp_JPP := (ok_FnExactStepsTowards (ev := tab TFnExactStepsTowards_50) TFnExactStepsTowards_k50 rfl rfl rfl rfl rfl rfl rfl rfl rfl rfl rfl rfl rfl rfl)
end Go.Proofs.Ytfdgijglpelgiaa.E
