/- The table of the functions that FnExactEarlierOf reaches. -/
import Derived.Test.YtpfjjheognelhaaG1
import Derived.Test.YtpfjjheognelhaaG2
import Derived.Test.YtpfjjheognelhaaG3
import Derived.Test.YtpfjjheognelhaaG4
import Derived.Test.YtpfjjheognelhaaG5
import Derived.Test.YtpfjjheognelhaaG6
import Derived.Test.YtpfjjheognelhaaG7
import Derived.Test.YtpfjjheognelhaaG8
import Derived.Test.YtpfjjheognelhaaG10
import Derived.Test.YtpfjjheognelhaaG11
import Derived.Test.YtpfjjheognelhaaG12
import Derived.Test.YtpfjjheognelhaaG13
import Derived.Test.YtpfjjheognelhaaLEarlierOf
namespace Go.Proofs.Ytpfjjheognelhaa.E
open Go Go.Proofs
def TFnExactEarlierOf_0 : List (Nat × Sp) := []
theorem TFnExactEarlierOf_k0 : EvOk Try.prog (tab TFnExactEarlierOf_0) := tab_nil
def TFnExactEarlierOf_1 : List (Nat × Sp) := (77, sp_szIntS) :: TFnExactEarlierOf_0
theorem TFnExactEarlierOf_k1 : EvOk Try.prog (tab TFnExactEarlierOf_1) := tab_cons ok_szIntS TFnExactEarlierOf_k0
def TFnExactEarlierOf_2 : List (Nat × Sp) := (76, sp_szIntSS) :: TFnExactEarlierOf_1
theorem TFnExactEarlierOf_k2 : EvOk Try.prog (tab TFnExactEarlierOf_2) := tab_cons (ok_szIntSS (ev := tab TFnExactEarlierOf_1) TFnExactEarlierOf_k1 rfl) TFnExactEarlierOf_k1
def TFnExactEarlierOf_3 : List (Nat × Sp) := (14, sp_szJob) :: TFnExactEarlierOf_2
theorem TFnExactEarlierOf_k3 : EvOk Try.prog (tab TFnExactEarlierOf_3) := tab_cons (ok_szJob (ev := tab TFnExactEarlierOf_2) TFnExactEarlierOf_k2 rfl rfl) TFnExactEarlierOf_k2
def TFnExactEarlierOf_4 : List (Nat × Sp) := (15, sp_szPlan) :: TFnExactEarlierOf_3
theorem TFnExactEarlierOf_k4 : EvOk Try.prog (tab TFnExactEarlierOf_4) := tab_cons (ok_szPlan (ev := tab TFnExactEarlierOf_3) TFnExactEarlierOf_k3 rfl) TFnExactEarlierOf_k3
def TFnExactEarlierOf_5 : List (Nat × Sp) := (83, sp_toIntS) :: TFnExactEarlierOf_4
theorem TFnExactEarlierOf_k5 : EvOk Try.prog (tab TFnExactEarlierOf_5) := tab_cons ok_toIntS TFnExactEarlierOf_k4
def TFnExactEarlierOf_6 : List (Nat × Sp) := (82, sp_toIntSS) :: TFnExactEarlierOf_5
theorem TFnExactEarlierOf_k6 : EvOk Try.prog (tab TFnExactEarlierOf_6) := tab_cons (ok_toIntSS (ev := tab TFnExactEarlierOf_5) TFnExactEarlierOf_k5 rfl) TFnExactEarlierOf_k5
def TFnExactEarlierOf_7 : List (Nat × Sp) := (84, sp_toLimits) :: TFnExactEarlierOf_6
theorem TFnExactEarlierOf_k7 : EvOk Try.prog (tab TFnExactEarlierOf_7) := tab_cons ok_toLimits TFnExactEarlierOf_k6
def TFnExactEarlierOf_8 : List (Nat × Sp) := (17, sp_toJob) :: TFnExactEarlierOf_7
theorem TFnExactEarlierOf_k8 : EvOk Try.prog (tab TFnExactEarlierOf_8) := tab_cons (ok_toJob (ev := tab TFnExactEarlierOf_7) TFnExactEarlierOf_k7 rfl rfl rfl) TFnExactEarlierOf_k7
def TFnExactEarlierOf_9 : List (Nat × Sp) := (18, sp_toPlan) :: TFnExactEarlierOf_8
theorem TFnExactEarlierOf_k9 : EvOk Try.prog (tab TFnExactEarlierOf_9) := tab_cons (ok_toPlan (ev := tab TFnExactEarlierOf_8) TFnExactEarlierOf_k8 rfl) TFnExactEarlierOf_k8
def TFnExactEarlierOf_10 : List (Nat × Sp) := (36, sp_eqIntS) :: TFnExactEarlierOf_9
theorem TFnExactEarlierOf_k10 : EvOk Try.prog (tab TFnExactEarlierOf_10) := tab_cons ok_eqIntS TFnExactEarlierOf_k9
def TFnExactEarlierOf_11 : List (Nat × Sp) := (43, sp_eqIntSS) :: TFnExactEarlierOf_10
theorem TFnExactEarlierOf_k11 : EvOk Try.prog (tab TFnExactEarlierOf_11) := tab_cons (ok_eqIntSS (ev := tab TFnExactEarlierOf_10) TFnExactEarlierOf_k10 rfl) TFnExactEarlierOf_k10
def TFnExactEarlierOf_12 : List (Nat × Sp) := (86, sp_eqLimits) :: TFnExactEarlierOf_11
theorem TFnExactEarlierOf_k12 : EvOk Try.prog (tab TFnExactEarlierOf_12) := tab_cons ok_eqLimits TFnExactEarlierOf_k11
def TFnExactEarlierOf_13 : List (Nat × Sp) := (20, sp_eqJob) :: TFnExactEarlierOf_12
theorem TFnExactEarlierOf_k13 : EvOk Try.prog (tab TFnExactEarlierOf_13) := tab_cons (ok_eqJob (ev := tab TFnExactEarlierOf_12) TFnExactEarlierOf_k12 rfl rfl rfl) TFnExactEarlierOf_k12
def TFnExactEarlierOf_14 : List (Nat × Sp) := (21, sp_eqPlan) :: TFnExactEarlierOf_13
theorem TFnExactEarlierOf_k14 : EvOk Try.prog (tab TFnExactEarlierOf_14) := tab_cons (ok_eqPlan (ev := tab TFnExactEarlierOf_13) TFnExactEarlierOf_k13 rfl) TFnExactEarlierOf_k13
def TFnExactEarlierOf_15 : List (Nat × Sp) := (39, sp_markIntS) :: TFnExactEarlierOf_14
theorem TFnExactEarlierOf_k15 : EvOk Try.prog (tab TFnExactEarlierOf_15) := tab_cons ok_markIntS TFnExactEarlierOf_k14
def TFnExactEarlierOf_16 : List (Nat × Sp) := (44, sp_markIntSS) :: TFnExactEarlierOf_15
theorem TFnExactEarlierOf_k16 : EvOk Try.prog (tab TFnExactEarlierOf_16) := tab_cons (ok_markIntSS (ev := tab TFnExactEarlierOf_15) TFnExactEarlierOf_k15 rfl) TFnExactEarlierOf_k15
def TFnExactEarlierOf_17 : List (Nat × Sp) := (37, sp_markJob) :: TFnExactEarlierOf_16
theorem TFnExactEarlierOf_k17 : EvOk Try.prog (tab TFnExactEarlierOf_17) := tab_cons (ok_markJob (ev := tab TFnExactEarlierOf_16) TFnExactEarlierOf_k16 rfl rfl) TFnExactEarlierOf_k16
def TFnExactEarlierOf_18 : List (Nat × Sp) := (38, sp_markPlan) :: TFnExactEarlierOf_17
theorem TFnExactEarlierOf_k18 : EvOk Try.prog (tab TFnExactEarlierOf_18) := tab_cons (ok_markPlan (ev := tab TFnExactEarlierOf_17) TFnExactEarlierOf_k17 rfl) TFnExactEarlierOf_k17
def TFnExactEarlierOf_19 : List (Nat × Sp) := (40, sp_heldIntS) :: TFnExactEarlierOf_18
theorem TFnExactEarlierOf_k19 : EvOk Try.prog (tab TFnExactEarlierOf_19) := tab_cons ok_heldIntS TFnExactEarlierOf_k18
def TFnExactEarlierOf_20 : List (Nat × Sp) := (52, sp_heldPlan) :: TFnExactEarlierOf_19
theorem TFnExactEarlierOf_k20 : EvOk Try.prog (tab TFnExactEarlierOf_20) := tab_cons (ok_heldPlan (ev := tab TFnExactEarlierOf_19) TFnExactEarlierOf_k19 rfl) TFnExactEarlierOf_k19
def TFnExactEarlierOf_21 : List (Nat × Sp) := (125, sp_l1In) :: TFnExactEarlierOf_20
theorem TFnExactEarlierOf_k21 : EvOk Try.prog (tab TFnExactEarlierOf_21) := tab_cons ok_l1In TFnExactEarlierOf_k20
def TFnExactEarlierOf_22 : List (Nat × Sp) := (127, sp_l1All) :: TFnExactEarlierOf_21
theorem TFnExactEarlierOf_k22 : EvOk Try.prog (tab TFnExactEarlierOf_22) := tab_cons (ok_l1All (ev := tab TFnExactEarlierOf_21) TFnExactEarlierOf_k21 rfl) TFnExactEarlierOf_k21
def TFnExactEarlierOf_23 : List (Nat × Sp) := (154, sp_l1Rising) :: TFnExactEarlierOf_22
theorem TFnExactEarlierOf_k23 : EvOk Try.prog (tab TFnExactEarlierOf_23) := tab_cons (ok_l1Rising (ev := tab TFnExactEarlierOf_22) TFnExactEarlierOf_k22 rfl) TFnExactEarlierOf_k22
def TFnExactEarlierOf_24 : List (Nat × Sp) := (151, sp_clArcs) :: TFnExactEarlierOf_23
theorem TFnExactEarlierOf_k24 : EvOk Try.prog (tab TFnExactEarlierOf_24) := tab_cons (ok_clArcs (ev := tab TFnExactEarlierOf_23) TFnExactEarlierOf_k23 rfl rfl) TFnExactEarlierOf_k23
def TFnExactEarlierOf_25 : List (Nat × Sp) := (146, sp_plJob) :: TFnExactEarlierOf_24
theorem TFnExactEarlierOf_k25 : EvOk Try.prog (tab TFnExactEarlierOf_25) := tab_cons (ok_plJob (ev := tab TFnExactEarlierOf_24) TFnExactEarlierOf_k24 rfl rfl rfl) TFnExactEarlierOf_k24
def TFnExactEarlierOf_26 : List (Nat × Sp) := (129, sp_plGood) :: TFnExactEarlierOf_25
theorem TFnExactEarlierOf_k26 : EvOk Try.prog (tab TFnExactEarlierOf_26) := tab_cons (ok_plGood (ev := tab TFnExactEarlierOf_25) TFnExactEarlierOf_k25 rfl) TFnExactEarlierOf_k25
def TFnExactEarlierOf_27 : List (Nat × Sp) := (128, sp_plBoth) :: TFnExactEarlierOf_26
theorem TFnExactEarlierOf_k27 : EvOk Try.prog (tab TFnExactEarlierOf_27) := tab_cons (ok_plBoth (ev := tab TFnExactEarlierOf_26) TFnExactEarlierOf_k26 rfl rfl) TFnExactEarlierOf_k26
def TFnExactEarlierOf_28 : List (Nat × Sp) := (78, sp_coGood) :: TFnExactEarlierOf_27
theorem TFnExactEarlierOf_k28 : EvOk Try.prog (tab TFnExactEarlierOf_28) := tab_cons (ok_coGood (ev := tab TFnExactEarlierOf_27) TFnExactEarlierOf_k27 rfl rfl) TFnExactEarlierOf_k27
def TFnExactEarlierOf_29 : List (Nat × Sp) := (81, sp_rank) :: TFnExactEarlierOf_28
theorem TFnExactEarlierOf_k29 : EvOk Try.prog (tab TFnExactEarlierOf_29) := tab_cons ok_coRank TFnExactEarlierOf_k28
def TFnExactEarlierOf_30 : List (Nat × Sp) := (80, sp_min) :: TFnExactEarlierOf_29
theorem TFnExactEarlierOf_k30 : EvOk Try.prog (tab TFnExactEarlierOf_30) := tab_cons ok_l1Least TFnExactEarlierOf_k29
def TFnExactEarlierOf_31 : List (Nat × Sp) := (120, sp_max) :: TFnExactEarlierOf_30
theorem TFnExactEarlierOf_k31 : EvOk Try.prog (tab TFnExactEarlierOf_31) := tab_cons ok_l1Most TFnExactEarlierOf_k30
def TFnExactEarlierOf_32 : List (Nat × Sp) := (106, sp_coJoin) :: TFnExactEarlierOf_31
theorem TFnExactEarlierOf_k32 : EvOk Try.prog (tab TFnExactEarlierOf_32) := tab_cons (ok_coJoin (ev := tab TFnExactEarlierOf_31) TFnExactEarlierOf_k31 rfl rfl rfl) TFnExactEarlierOf_k31
def TFnExactEarlierOf_33 : List (Nat × Sp) := (50, sp_EarlierOf) :: TFnExactEarlierOf_32
theorem TFnExactEarlierOf_k33 : EvOk Try.prog (tab TFnExactEarlierOf_33) := tab_cons (ok_spec_EarlierOf (ev := tab TFnExactEarlierOf_32) TFnExactEarlierOf_k32 rfl rfl) TFnExactEarlierOf_k32
def TFnExactEarlierOf_34 : List (Nat × Sp) := (155, sp_areBlocks) :: TFnExactEarlierOf_33
theorem TFnExactEarlierOf_k34 : EvOk Try.prog (tab TFnExactEarlierOf_34) := tab_cons ok_areBlocks TFnExactEarlierOf_k33
def TFnExactEarlierOf_35 : List (Nat × Sp) := (152, sp_clArcs) :: TFnExactEarlierOf_34
theorem TFnExactEarlierOf_k35 : EvOk Try.prog (tab TFnExactEarlierOf_35) := tab_cons (ok_AreArcs (ev := tab TFnExactEarlierOf_34) TFnExactEarlierOf_k34 rfl) TFnExactEarlierOf_k34
def TFnExactEarlierOf_36 : List (Nat × Sp) := (153, sp_goodValues) :: TFnExactEarlierOf_35
theorem TFnExactEarlierOf_k36 : EvOk Try.prog (tab TFnExactEarlierOf_36) := tab_cons ok_goodValues TFnExactEarlierOf_k35
def TFnExactEarlierOf_37 : List (Nat × Sp) := (147, sp_areValued) :: TFnExactEarlierOf_36
theorem TFnExactEarlierOf_k37 : EvOk Try.prog (tab TFnExactEarlierOf_37) := tab_cons (ok_areValued (ev := tab TFnExactEarlierOf_36) TFnExactEarlierOf_k36 rfl rfl) TFnExactEarlierOf_k36
def TFnExactEarlierOf_38 : List (Nat × Sp) := (130, sp_plJob) :: TFnExactEarlierOf_37
theorem TFnExactEarlierOf_k38 : EvOk Try.prog (tab TFnExactEarlierOf_38) := tab_cons (ok_IsJob (ev := tab TFnExactEarlierOf_37) TFnExactEarlierOf_k37 rfl) TFnExactEarlierOf_k37
def TFnExactEarlierOf_39 : List (Nat × Sp) := (131, sp_isPlan) :: TFnExactEarlierOf_38
theorem TFnExactEarlierOf_k39 : EvOk Try.prog (tab TFnExactEarlierOf_39) := tab_cons ok_isPlan TFnExactEarlierOf_k38
def TFnExactEarlierOf_40 : List (Nat × Sp) := (85, sp_coGood) :: TFnExactEarlierOf_39
theorem TFnExactEarlierOf_k40 : EvOk Try.prog (tab TFnExactEarlierOf_40) := tab_cons (ok_arePlans (ev := tab TFnExactEarlierOf_39) TFnExactEarlierOf_k39 rfl rfl) TFnExactEarlierOf_k39
def TFnExactEarlierOf_41 : List (Nat × Sp) := (113, sp_toPlan) :: TFnExactEarlierOf_40
theorem TFnExactEarlierOf_k41 : EvOk Try.prog (tab TFnExactEarlierOf_41) := tab_cons ok_copyPlan TFnExactEarlierOf_k40
def TFnExactEarlierOf_42 : List (Nat × Sp) := (103, sp_rank) :: TFnExactEarlierOf_41
theorem TFnExactEarlierOf_k42 : EvOk Try.prog (tab TFnExactEarlierOf_42) := tab_cons ok_rankOf TFnExactEarlierOf_k41
def TFnExactEarlierOf_43 : List (Nat × Sp) := (108, sp_min) :: TFnExactEarlierOf_42
theorem TFnExactEarlierOf_k43 : EvOk Try.prog (tab TFnExactEarlierOf_43) := tab_cons ok_fn_EarlierOf TFnExactEarlierOf_k42
def TFnExactEarlierOf_44 : List (Nat × Sp) := (109, sp_max) :: TFnExactEarlierOf_43
theorem TFnExactEarlierOf_k44 : EvOk Try.prog (tab TFnExactEarlierOf_44) := tab_cons ok_fn_LaterOf TFnExactEarlierOf_k43
def TFnExactEarlierOf_45 : List (Nat × Sp) := (107, sp_planByRanks) :: TFnExactEarlierOf_44
theorem TFnExactEarlierOf_k45 : EvOk Try.prog (tab TFnExactEarlierOf_45) := tab_cons (ok_planByRanks (ev := tab TFnExactEarlierOf_44) TFnExactEarlierOf_k44 rfl rfl rfl rfl) TFnExactEarlierOf_k44
def TFnExactEarlierOf_46 : List (Nat × Sp) := (51, sp_EarlierOf) :: TFnExactEarlierOf_45
theorem TFnExactEarlierOf_k46 : EvOk Try.prog (tab TFnExactEarlierOf_46) := tab_cons (ok_impl_EarlierOf (ev := tab TFnExactEarlierOf_45) TFnExactEarlierOf_k45 rfl rfl) TFnExactEarlierOf_k45
theorem ok_FnExactEarlierOf_all : FnOk Try.prog 10 sp_JPP := (ok_FnExactEarlierOf (ev := tab TFnExactEarlierOf_46) TFnExactEarlierOf_k46 rfl rfl rfl rfl rfl rfl rfl rfl rfl rfl rfl)
end Go.Proofs.Ytpfjjheognelhaa.E
