/- The table of the functions that FnDebts reaches. -/
import Derived.Test.YtnbfhbfnccihgaaG1
import Derived.Test.YtnbfhbfnccihgaaG2
import Derived.Test.YtnbfhbfnccihgaaG3
import Derived.Test.YtnbfhbfnccihgaaG4
import Derived.Test.YtnbfhbfnccihgaaG5
import Derived.Test.YtnbfhbfnccihgaaG6
import Derived.Test.YtnbfhbfnccihgaaG7
import Derived.Test.YtnbfhbfnccihgaaR1
import Derived.Test.YtnbfhbfnccihgaaT0
import Derived.Test.YtnbfhbfnccihgaaT1
import Derived.Test.YtnbfhbfnccihgaaU1
import Derived.Test.YtnbfhbfnccihgaaU2
import Derived.Test.YtnbfhbfnccihgaaU3
import Derived.Test.YtnbfhbfnccihgaaU4
import Derived.Test.YtnbfhbfnccihgaaU5
import Derived.Test.YtnbfhbfnccihgaaU6
import Derived.Test.YtnbfhbfnccihgaaU7
import Derived.Test.YtnbfhbfnccihgaaU8
import Derived.Test.YtnbfhbfnccihgaaU9
import Derived.Test.YtnbfhbfnccihgaaU10
import Derived.Test.YtnbfhbfnccihgaaU11
import Derived.Test.YtnbfhbfnccihgaaU12
import Derived.Test.YtnbfhbfnccihgaaV1
import Derived.Test.YtnbfhbfnccihgaaV2
import Derived.Test.YtnbfhbfnccihgaaV3
import Derived.Test.YtnbfhbfnccihgaaW1
import Derived.Test.YtnbfhbfnccihgaaW2
import Derived.Test.YtnbfhbfnccihgaaW3
import Derived.Test.YtnbfhbfnccihgaaZ0
import Derived.Test.YtnbfhbfnccihgaaZ1
import Derived.Test.YtnbfhbfnccihgaaZ2
import Derived.Test.YtnbfhbfnccihgaaZ3
namespace Go.Proofs.Ytnbfhbfnccihgaa.E
open Go Go.Proofs
def TFnDebts_0 : List (Nat × Sp) := []
theorem TFnDebts_k0 : EvOk Try.prog (tab TFnDebts_0) := tab_nil
noncomputable def TFnDebts_1 : List (Nat × Sp) := (4, sp_DrawPaybackPeriod) :: TFnDebts_0
theorem TFnDebts_k1 : EvOk Try.prog (tab TFnDebts_1) := tab_cons ok_DrawPaybackPeriod TFnDebts_k0
noncomputable def TFnDebts_2 : List (Nat × Sp) := (9, sp_DrawFactorIn) :: TFnDebts_1
theorem TFnDebts_k2 : EvOk Try.prog (tab TFnDebts_2) := tab_cons ok_DrawFactorIn TFnDebts_k1
noncomputable def TFnDebts_3 : List (Nat × Sp) := (55, sp_areBlocks) :: TFnDebts_2
theorem TFnDebts_k3 : EvOk Try.prog (tab TFnDebts_3) := tab_cons ok_areBlocks TFnDebts_k2
noncomputable def TFnDebts_4 : List (Nat × Sp) := (49, sp_clArcs) :: TFnDebts_3
theorem TFnDebts_k4 : EvOk Try.prog (tab TFnDebts_4) := tab_cons (ok_AreArcs (ev := tab TFnDebts_3) TFnDebts_k3 rfl) TFnDebts_k3
noncomputable def TFnDebts_5 : List (Nat × Sp) := (50, sp_goodValues) :: TFnDebts_4
theorem TFnDebts_k5 : EvOk Try.prog (tab TFnDebts_5) := tab_cons ok_goodValues TFnDebts_k4
noncomputable def TFnDebts_6 : List (Nat × Sp) := (33, sp_areValued) :: TFnDebts_5
theorem TFnDebts_k6 : EvOk Try.prog (tab TFnDebts_6) := tab_cons (ok_areValued (ev := tab TFnDebts_5) TFnDebts_k5 rfl rfl) TFnDebts_k5
noncomputable def TFnDebts_7 : List (Nat × Sp) := (16, sp_plJob) :: TFnDebts_6
theorem TFnDebts_k7 : EvOk Try.prog (tab TFnDebts_7) := tab_cons (ok_IsJob (ev := tab TFnDebts_6) TFnDebts_k6 rfl) TFnDebts_k6
noncomputable def TFnDebts_8 : List (Nat × Sp) := (17, sp_isPlan) :: TFnDebts_7
theorem TFnDebts_k8 : EvOk Try.prog (tab TFnDebts_8) := tab_cons ok_isPlan TFnDebts_k7
noncomputable def TFnDebts_9 : List (Nat × Sp) := (27, sp_power) :: TFnDebts_8
theorem TFnDebts_k9 : EvOk Try.prog (tab TFnDebts_9) := tab_cons ok_power TFnDebts_k8
noncomputable def TFnDebts_10 : List (Nat × Sp) := (34, sp_factor) :: TFnDebts_9
theorem TFnDebts_k10 : EvOk Try.prog (tab TFnDebts_10) := tab_cons (ok_scaledFactor (ev := tab TFnDebts_9) TFnDebts_k9 rfl) TFnDebts_k9
noncomputable def TFnDebts_11 : List (Nat × Sp) := (18, sp_perW) :: TFnDebts_10
theorem TFnDebts_k11 : EvOk Try.prog (tab TFnDebts_11) := tab_cons (ok_periodWorths (ev := tab TFnDebts_10) TFnDebts_k10 rfl) TFnDebts_k10
noncomputable def TFnDebts_12 : List (Nat × Sp) := (5, sp_payback) :: TFnDebts_11
theorem TFnDebts_k12 : EvOk Try.prog (tab TFnDebts_12) := tab_cons (ok_impl_PaybackPeriod (ev := tab TFnDebts_11) TFnDebts_k11 rfl rfl rfl) TFnDebts_k11
noncomputable def TFnDebts_13 : List (Nat × Sp) := (29, sp_l1In) :: TFnDebts_12
theorem TFnDebts_k13 : EvOk Try.prog (tab TFnDebts_13) := tab_cons ok_l1In TFnDebts_k12
noncomputable def TFnDebts_14 : List (Nat × Sp) := (43, sp_l1All) :: TFnDebts_13
theorem TFnDebts_k14 : EvOk Try.prog (tab TFnDebts_14) := tab_cons (ok_l1All (ev := tab TFnDebts_13) TFnDebts_k13 rfl) TFnDebts_k13
noncomputable def TFnDebts_15 : List (Nat × Sp) := (53, sp_l1Rising) :: TFnDebts_14
theorem TFnDebts_k15 : EvOk Try.prog (tab TFnDebts_15) := tab_cons (ok_l1Rising (ev := tab TFnDebts_14) TFnDebts_k14 rfl) TFnDebts_k14
noncomputable def TFnDebts_16 : List (Nat × Sp) := (42, sp_clArcs) :: TFnDebts_15
theorem TFnDebts_k16 : EvOk Try.prog (tab TFnDebts_16) := tab_cons (ok_clArcs (ev := tab TFnDebts_15) TFnDebts_k15 rfl rfl) TFnDebts_k15
noncomputable def TFnDebts_17 : List (Nat × Sp) := (28, sp_plJob) :: TFnDebts_16
theorem TFnDebts_k17 : EvOk Try.prog (tab TFnDebts_17) := tab_cons (ok_plJob (ev := tab TFnDebts_16) TFnDebts_k16 rfl rfl rfl) TFnDebts_k16
noncomputable def TFnDebts_18 : List (Nat × Sp) := (35, sp_plGood) :: TFnDebts_17
theorem TFnDebts_k18 : EvOk Try.prog (tab TFnDebts_18) := tab_cons (ok_plGood (ev := tab TFnDebts_17) TFnDebts_k17 rfl) TFnDebts_k17
noncomputable def TFnDebts_19 : List (Nat × Sp) := (19, sp_plBoth) :: TFnDebts_18
theorem TFnDebts_k19 : EvOk Try.prog (tab TFnDebts_19) := tab_cons (ok_plBoth (ev := tab TFnDebts_18) TFnDebts_k18 rfl rfl) TFnDebts_k18
noncomputable def TFnDebts_20 : List (Nat × Sp) := (31, sp_power) :: TFnDebts_19
theorem TFnDebts_k20 : EvOk Try.prog (tab TFnDebts_20) := tab_cons ok_srPower TFnDebts_k19
noncomputable def TFnDebts_21 : List (Nat × Sp) := (36, sp_factor) :: TFnDebts_20
theorem TFnDebts_k21 : EvOk Try.prog (tab TFnDebts_21) := tab_cons (ok_srFactor (ev := tab TFnDebts_20) TFnDebts_k20 rfl) TFnDebts_k20
noncomputable def TFnDebts_22 : List (Nat × Sp) := (21, sp_perW) :: TFnDebts_21
theorem TFnDebts_k22 : EvOk Try.prog (tab TFnDebts_22) := tab_cons (ok_woPeriods (ev := tab TFnDebts_21) TFnDebts_k21 rfl) TFnDebts_k21
noncomputable def TFnDebts_23 : List (Nat × Sp) := (20, sp_woSums) :: TFnDebts_22
theorem TFnDebts_k23 : EvOk Try.prog (tab TFnDebts_23) := tab_cons ok_woSums TFnDebts_k22
noncomputable def TFnDebts_24 : List (Nat × Sp) := (6, sp_payback) :: TFnDebts_23
theorem TFnDebts_k24 : EvOk Try.prog (tab TFnDebts_24) := tab_cons (ok_spec_PaybackPeriod (ev := tab TFnDebts_23) TFnDebts_k23 rfl rfl rfl) TFnDebts_k23
noncomputable def TFnDebts_25 : List (Nat × Sp) := (7, sp_debt) :: TFnDebts_24
theorem TFnDebts_k25 : EvOk Try.prog (tab TFnDebts_25) := tab_cons (ok_impl_DeepestDebt (ev := tab TFnDebts_24) TFnDebts_k24 rfl rfl rfl) TFnDebts_k24
noncomputable def TFnDebts_26 : List (Nat × Sp) := (22, sp_l1Least) :: TFnDebts_25
theorem TFnDebts_k26 : EvOk Try.prog (tab TFnDebts_26) := tab_cons ok_l1Least TFnDebts_k25
noncomputable def TFnDebts_27 : List (Nat × Sp) := (8, sp_debt) :: TFnDebts_26
theorem TFnDebts_k27 : EvOk Try.prog (tab TFnDebts_27) := tab_cons (ok_spec_DeepestDebt (ev := tab TFnDebts_26) TFnDebts_k26 rfl rfl rfl rfl) TFnDebts_k26
noncomputable def TFnDebts_28 : List (Nat × Sp) := (41, sp_absP) :: TFnDebts_27
theorem TFnDebts_k28 : EvOk Try.prog (tab TFnDebts_28) := tab_cons ok_impl_abs TFnDebts_k27
noncomputable def TFnDebts_29 : List (Nat × Sp) := (26, sp_low) :: TFnDebts_28
theorem TFnDebts_k29 : EvOk Try.prog (tab TFnDebts_29) := tab_cons (ok_lowest (ev := tab TFnDebts_28) TFnDebts_k28 rfl) TFnDebts_k28
noncomputable def TFnDebts_30 : List (Nat × Sp) := (10, sp_FactorIn) :: TFnDebts_29
theorem TFnDebts_k30 : EvOk Try.prog (tab TFnDebts_30) := tab_cons (ok_impl_FactorIn (ev := tab TFnDebts_29) TFnDebts_k29 rfl rfl rfl) TFnDebts_k29
noncomputable def TFnDebts_31 : List (Nat × Sp) := (25, sp_l1Most) :: TFnDebts_30
theorem TFnDebts_k31 : EvOk Try.prog (tab TFnDebts_31) := tab_cons ok_l1Most TFnDebts_k30
noncomputable def TFnDebts_32 : List (Nat × Sp) := (45, sp_l1Abs) :: TFnDebts_31
theorem TFnDebts_k32 : EvOk Try.prog (tab TFnDebts_32) := tab_cons (ok_l1Abs (ev := tab TFnDebts_31) TFnDebts_k31 rfl) TFnDebts_k31
noncomputable def TFnDebts_33 : List (Nat × Sp) := (44, sp_low) :: TFnDebts_32
theorem TFnDebts_k33 : EvOk Try.prog (tab TFnDebts_33) := tab_cons ok_moPart TFnDebts_k32
noncomputable def TFnDebts_34 : List (Nat × Sp) := (46, sp_sign) :: TFnDebts_33
theorem TFnDebts_k34 : EvOk Try.prog (tab TFnDebts_34) := tab_cons ok_l1Sign TFnDebts_k33
noncomputable def TFnDebts_35 : List (Nat × Sp) := (30, sp_low) :: TFnDebts_34
theorem TFnDebts_k35 : EvOk Try.prog (tab TFnDebts_35) := tab_cons (ok_woPart (ev := tab TFnDebts_34) TFnDebts_k34 rfl rfl rfl) TFnDebts_k34
noncomputable def TFnDebts_36 : List (Nat × Sp) := (11, sp_FactorIn) :: TFnDebts_35
theorem TFnDebts_k36 : EvOk Try.prog (tab TFnDebts_36) := tab_cons (ok_spec_FactorIn (ev := tab TFnDebts_35) TFnDebts_k35 rfl rfl rfl rfl) TFnDebts_k35
noncomputable def TFnDebts_37 : List (Nat × Sp) := (12, sp_worths) :: TFnDebts_36
theorem TFnDebts_k37 : EvOk Try.prog (tab TFnDebts_37) := tab_cons (ok_impl_PeriodWorths (ev := tab TFnDebts_36) TFnDebts_k36 rfl rfl rfl) TFnDebts_k36
noncomputable def TFnDebts_38 : List (Nat × Sp) := (13, sp_worths) :: TFnDebts_37
theorem TFnDebts_k38 : EvOk Try.prog (tab TFnDebts_38) := tab_cons (ok_spec_PeriodWorths (ev := tab TFnDebts_37) TFnDebts_k37 rfl rfl) TFnDebts_k37
noncomputable def TFnDebts_39 : List (Nat × Sp) := (14, sp_qInts) :: TFnDebts_38
theorem TFnDebts_k39 : EvOk Try.prog (tab TFnDebts_39) := tab_cons ok_qInts TFnDebts_k38
theorem ok_FnDebts_all : FnOk Try.prog 3 sp_LL := (ok_FnDebts (ev := tab TFnDebts_39) TFnDebts_k39 rfl rfl rfl rfl rfl rfl rfl rfl rfl rfl rfl)
end Go.Proofs.Ytnbfhbfnccihgaa.E
