/- The table of the functions that FnExactLaterOf reaches. -/
import Derived.Test.YtpfjjheognelhaaG1
import Derived.Test.YtpfjjheognelhaaG2
import Derived.Test.YtpfjjheognelhaaG3
import Derived.Test.YtpfjjheognelhaaG4
import Derived.Test.YtpfjjheognelhaaG5
import Derived.Test.YtpfjjheognelhaaG6
import Derived.Test.YtpfjjheognelhaaG7
import Derived.Test.YtpfjjheognelhaaG8
import Derived.Test.YtpfjjheognelhaaG10
import Derived.Test.YtpfjjheognelhaaG11
import Derived.Test.YtpfjjheognelhaaG12
import Derived.Test.YtpfjjheognelhaaG13
import Derived.Test.YtpfjjheognelhaaLLaterOf
namespace Go.Proofs.Ytpfjjheognelhaa.E
open Go Go.Proofs
def TFnExactLaterOf_0 : List (Nat × Sp) := []
theorem TFnExactLaterOf_k0 : EvOk Try.prog (tab TFnExactLaterOf_0) := tab_nil
def TFnExactLaterOf_1 : List (Nat × Sp) := (77, sp_szIntS) :: TFnExactLaterOf_0
theorem TFnExactLaterOf_k1 : EvOk Try.prog (tab TFnExactLaterOf_1) := tab_cons ok_szIntS TFnExactLaterOf_k0
def TFnExactLaterOf_2 : List (Nat × Sp) := (76, sp_szIntSS) :: TFnExactLaterOf_1
theorem TFnExactLaterOf_k2 : EvOk Try.prog (tab TFnExactLaterOf_2) := tab_cons (ok_szIntSS (ev := tab TFnExactLaterOf_1) TFnExactLaterOf_k1 rfl) TFnExactLaterOf_k1
def TFnExactLaterOf_3 : List (Nat × Sp) := (14, sp_szJob) :: TFnExactLaterOf_2
theorem TFnExactLaterOf_k3 : EvOk Try.prog (tab TFnExactLaterOf_3) := tab_cons (ok_szJob (ev := tab TFnExactLaterOf_2) TFnExactLaterOf_k2 rfl rfl) TFnExactLaterOf_k2
def TFnExactLaterOf_4 : List (Nat × Sp) := (15, sp_szPlan) :: TFnExactLaterOf_3
theorem TFnExactLaterOf_k4 : EvOk Try.prog (tab TFnExactLaterOf_4) := tab_cons (ok_szPlan (ev := tab TFnExactLaterOf_3) TFnExactLaterOf_k3 rfl) TFnExactLaterOf_k3
def TFnExactLaterOf_5 : List (Nat × Sp) := (83, sp_toIntS) :: TFnExactLaterOf_4
theorem TFnExactLaterOf_k5 : EvOk Try.prog (tab TFnExactLaterOf_5) := tab_cons ok_toIntS TFnExactLaterOf_k4
def TFnExactLaterOf_6 : List (Nat × Sp) := (82, sp_toIntSS) :: TFnExactLaterOf_5
theorem TFnExactLaterOf_k6 : EvOk Try.prog (tab TFnExactLaterOf_6) := tab_cons (ok_toIntSS (ev := tab TFnExactLaterOf_5) TFnExactLaterOf_k5 rfl) TFnExactLaterOf_k5
def TFnExactLaterOf_7 : List (Nat × Sp) := (84, sp_toLimits) :: TFnExactLaterOf_6
theorem TFnExactLaterOf_k7 : EvOk Try.prog (tab TFnExactLaterOf_7) := tab_cons ok_toLimits TFnExactLaterOf_k6
def TFnExactLaterOf_8 : List (Nat × Sp) := (17, sp_toJob) :: TFnExactLaterOf_7
theorem TFnExactLaterOf_k8 : EvOk Try.prog (tab TFnExactLaterOf_8) := tab_cons (ok_toJob (ev := tab TFnExactLaterOf_7) TFnExactLaterOf_k7 rfl rfl rfl) TFnExactLaterOf_k7
def TFnExactLaterOf_9 : List (Nat × Sp) := (18, sp_toPlan) :: TFnExactLaterOf_8
theorem TFnExactLaterOf_k9 : EvOk Try.prog (tab TFnExactLaterOf_9) := tab_cons (ok_toPlan (ev := tab TFnExactLaterOf_8) TFnExactLaterOf_k8 rfl) TFnExactLaterOf_k8
def TFnExactLaterOf_10 : List (Nat × Sp) := (36, sp_eqIntS) :: TFnExactLaterOf_9
theorem TFnExactLaterOf_k10 : EvOk Try.prog (tab TFnExactLaterOf_10) := tab_cons ok_eqIntS TFnExactLaterOf_k9
def TFnExactLaterOf_11 : List (Nat × Sp) := (43, sp_eqIntSS) :: TFnExactLaterOf_10
theorem TFnExactLaterOf_k11 : EvOk Try.prog (tab TFnExactLaterOf_11) := tab_cons (ok_eqIntSS (ev := tab TFnExactLaterOf_10) TFnExactLaterOf_k10 rfl) TFnExactLaterOf_k10
def TFnExactLaterOf_12 : List (Nat × Sp) := (86, sp_eqLimits) :: TFnExactLaterOf_11
theorem TFnExactLaterOf_k12 : EvOk Try.prog (tab TFnExactLaterOf_12) := tab_cons ok_eqLimits TFnExactLaterOf_k11
def TFnExactLaterOf_13 : List (Nat × Sp) := (20, sp_eqJob) :: TFnExactLaterOf_12
theorem TFnExactLaterOf_k13 : EvOk Try.prog (tab TFnExactLaterOf_13) := tab_cons (ok_eqJob (ev := tab TFnExactLaterOf_12) TFnExactLaterOf_k12 rfl rfl rfl) TFnExactLaterOf_k12
def TFnExactLaterOf_14 : List (Nat × Sp) := (21, sp_eqPlan) :: TFnExactLaterOf_13
theorem TFnExactLaterOf_k14 : EvOk Try.prog (tab TFnExactLaterOf_14) := tab_cons (ok_eqPlan (ev := tab TFnExactLaterOf_13) TFnExactLaterOf_k13 rfl) TFnExactLaterOf_k13
def TFnExactLaterOf_15 : List (Nat × Sp) := (39, sp_markIntS) :: TFnExactLaterOf_14
theorem TFnExactLaterOf_k15 : EvOk Try.prog (tab TFnExactLaterOf_15) := tab_cons ok_markIntS TFnExactLaterOf_k14
def TFnExactLaterOf_16 : List (Nat × Sp) := (44, sp_markIntSS) :: TFnExactLaterOf_15
theorem TFnExactLaterOf_k16 : EvOk Try.prog (tab TFnExactLaterOf_16) := tab_cons (ok_markIntSS (ev := tab TFnExactLaterOf_15) TFnExactLaterOf_k15 rfl) TFnExactLaterOf_k15
def TFnExactLaterOf_17 : List (Nat × Sp) := (37, sp_markJob) :: TFnExactLaterOf_16
theorem TFnExactLaterOf_k17 : EvOk Try.prog (tab TFnExactLaterOf_17) := tab_cons (ok_markJob (ev := tab TFnExactLaterOf_16) TFnExactLaterOf_k16 rfl rfl) TFnExactLaterOf_k16
def TFnExactLaterOf_18 : List (Nat × Sp) := (38, sp_markPlan) :: TFnExactLaterOf_17
theorem TFnExactLaterOf_k18 : EvOk Try.prog (tab TFnExactLaterOf_18) := tab_cons (ok_markPlan (ev := tab TFnExactLaterOf_17) TFnExactLaterOf_k17 rfl) TFnExactLaterOf_k17
def TFnExactLaterOf_19 : List (Nat × Sp) := (40, sp_heldIntS) :: TFnExactLaterOf_18
theorem TFnExactLaterOf_k19 : EvOk Try.prog (tab TFnExactLaterOf_19) := tab_cons ok_heldIntS TFnExactLaterOf_k18
def TFnExactLaterOf_20 : List (Nat × Sp) := (52, sp_heldPlan) :: TFnExactLaterOf_19
theorem TFnExactLaterOf_k20 : EvOk Try.prog (tab TFnExactLaterOf_20) := tab_cons (ok_heldPlan (ev := tab TFnExactLaterOf_19) TFnExactLaterOf_k19 rfl) TFnExactLaterOf_k19
def TFnExactLaterOf_21 : List (Nat × Sp) := (125, sp_l1In) :: TFnExactLaterOf_20
theorem TFnExactLaterOf_k21 : EvOk Try.prog (tab TFnExactLaterOf_21) := tab_cons ok_l1In TFnExactLaterOf_k20
def TFnExactLaterOf_22 : List (Nat × Sp) := (127, sp_l1All) :: TFnExactLaterOf_21
theorem TFnExactLaterOf_k22 : EvOk Try.prog (tab TFnExactLaterOf_22) := tab_cons (ok_l1All (ev := tab TFnExactLaterOf_21) TFnExactLaterOf_k21 rfl) TFnExactLaterOf_k21
def TFnExactLaterOf_23 : List (Nat × Sp) := (154, sp_l1Rising) :: TFnExactLaterOf_22
theorem TFnExactLaterOf_k23 : EvOk Try.prog (tab TFnExactLaterOf_23) := tab_cons (ok_l1Rising (ev := tab TFnExactLaterOf_22) TFnExactLaterOf_k22 rfl) TFnExactLaterOf_k22
def TFnExactLaterOf_24 : List (Nat × Sp) := (151, sp_clArcs) :: TFnExactLaterOf_23
theorem TFnExactLaterOf_k24 : EvOk Try.prog (tab TFnExactLaterOf_24) := tab_cons (ok_clArcs (ev := tab TFnExactLaterOf_23) TFnExactLaterOf_k23 rfl rfl) TFnExactLaterOf_k23
def TFnExactLaterOf_25 : List (Nat × Sp) := (146, sp_plJob) :: TFnExactLaterOf_24
theorem TFnExactLaterOf_k25 : EvOk Try.prog (tab TFnExactLaterOf_25) := tab_cons (ok_plJob (ev := tab TFnExactLaterOf_24) TFnExactLaterOf_k24 rfl rfl rfl) TFnExactLaterOf_k24
def TFnExactLaterOf_26 : List (Nat × Sp) := (129, sp_plGood) :: TFnExactLaterOf_25
theorem TFnExactLaterOf_k26 : EvOk Try.prog (tab TFnExactLaterOf_26) := tab_cons (ok_plGood (ev := tab TFnExactLaterOf_25) TFnExactLaterOf_k25 rfl) TFnExactLaterOf_k25
def TFnExactLaterOf_27 : List (Nat × Sp) := (128, sp_plBoth) :: TFnExactLaterOf_26
theorem TFnExactLaterOf_k27 : EvOk Try.prog (tab TFnExactLaterOf_27) := tab_cons (ok_plBoth (ev := tab TFnExactLaterOf_26) TFnExactLaterOf_k26 rfl rfl) TFnExactLaterOf_k26
def TFnExactLaterOf_28 : List (Nat × Sp) := (78, sp_coGood) :: TFnExactLaterOf_27
theorem TFnExactLaterOf_k28 : EvOk Try.prog (tab TFnExactLaterOf_28) := tab_cons (ok_coGood (ev := tab TFnExactLaterOf_27) TFnExactLaterOf_k27 rfl rfl) TFnExactLaterOf_k27
def TFnExactLaterOf_29 : List (Nat × Sp) := (81, sp_rank) :: TFnExactLaterOf_28
theorem TFnExactLaterOf_k29 : EvOk Try.prog (tab TFnExactLaterOf_29) := tab_cons ok_coRank TFnExactLaterOf_k28
def TFnExactLaterOf_30 : List (Nat × Sp) := (80, sp_min) :: TFnExactLaterOf_29
theorem TFnExactLaterOf_k30 : EvOk Try.prog (tab TFnExactLaterOf_30) := tab_cons ok_l1Least TFnExactLaterOf_k29
def TFnExactLaterOf_31 : List (Nat × Sp) := (120, sp_max) :: TFnExactLaterOf_30
theorem TFnExactLaterOf_k31 : EvOk Try.prog (tab TFnExactLaterOf_31) := tab_cons ok_l1Most TFnExactLaterOf_k30
def TFnExactLaterOf_32 : List (Nat × Sp) := (106, sp_coJoin) :: TFnExactLaterOf_31
theorem TFnExactLaterOf_k32 : EvOk Try.prog (tab TFnExactLaterOf_32) := tab_cons (ok_coJoin (ev := tab TFnExactLaterOf_31) TFnExactLaterOf_k31 rfl rfl rfl) TFnExactLaterOf_k31
def TFnExactLaterOf_33 : List (Nat × Sp) := (53, sp_LaterOf) :: TFnExactLaterOf_32
theorem TFnExactLaterOf_k33 : EvOk Try.prog (tab TFnExactLaterOf_33) := tab_cons (ok_spec_LaterOf (ev := tab TFnExactLaterOf_32) TFnExactLaterOf_k32 rfl rfl) TFnExactLaterOf_k32
def TFnExactLaterOf_34 : List (Nat × Sp) := (155, sp_areBlocks) :: TFnExactLaterOf_33
theorem TFnExactLaterOf_k34 : EvOk Try.prog (tab TFnExactLaterOf_34) := tab_cons ok_areBlocks TFnExactLaterOf_k33
def TFnExactLaterOf_35 : List (Nat × Sp) := (152, sp_clArcs) :: TFnExactLaterOf_34
theorem TFnExactLaterOf_k35 : EvOk Try.prog (tab TFnExactLaterOf_35) := tab_cons (ok_AreArcs (ev := tab TFnExactLaterOf_34) TFnExactLaterOf_k34 rfl) TFnExactLaterOf_k34
def TFnExactLaterOf_36 : List (Nat × Sp) := (153, sp_goodValues) :: TFnExactLaterOf_35
theorem TFnExactLaterOf_k36 : EvOk Try.prog (tab TFnExactLaterOf_36) := tab_cons ok_goodValues TFnExactLaterOf_k35
def TFnExactLaterOf_37 : List (Nat × Sp) := (147, sp_areValued) :: TFnExactLaterOf_36
theorem TFnExactLaterOf_k37 : EvOk Try.prog (tab TFnExactLaterOf_37) := tab_cons (ok_areValued (ev := tab TFnExactLaterOf_36) TFnExactLaterOf_k36 rfl rfl) TFnExactLaterOf_k36
def TFnExactLaterOf_38 : List (Nat × Sp) := (130, sp_plJob) :: TFnExactLaterOf_37
theorem TFnExactLaterOf_k38 : EvOk Try.prog (tab TFnExactLaterOf_38) := tab_cons (ok_IsJob (ev := tab TFnExactLaterOf_37) TFnExactLaterOf_k37 rfl) TFnExactLaterOf_k37
def TFnExactLaterOf_39 : List (Nat × Sp) := (131, sp_isPlan) :: TFnExactLaterOf_38
theorem TFnExactLaterOf_k39 : EvOk Try.prog (tab TFnExactLaterOf_39) := tab_cons ok_isPlan TFnExactLaterOf_k38
def TFnExactLaterOf_40 : List (Nat × Sp) := (85, sp_coGood) :: TFnExactLaterOf_39
theorem TFnExactLaterOf_k40 : EvOk Try.prog (tab TFnExactLaterOf_40) := tab_cons (ok_arePlans (ev := tab TFnExactLaterOf_39) TFnExactLaterOf_k39 rfl rfl) TFnExactLaterOf_k39
def TFnExactLaterOf_41 : List (Nat × Sp) := (113, sp_toPlan) :: TFnExactLaterOf_40
theorem TFnExactLaterOf_k41 : EvOk Try.prog (tab TFnExactLaterOf_41) := tab_cons ok_copyPlan TFnExactLaterOf_k40
def TFnExactLaterOf_42 : List (Nat × Sp) := (103, sp_rank) :: TFnExactLaterOf_41
theorem TFnExactLaterOf_k42 : EvOk Try.prog (tab TFnExactLaterOf_42) := tab_cons ok_rankOf TFnExactLaterOf_k41
def TFnExactLaterOf_43 : List (Nat × Sp) := (108, sp_min) :: TFnExactLaterOf_42
theorem TFnExactLaterOf_k43 : EvOk Try.prog (tab TFnExactLaterOf_43) := tab_cons ok_fn_EarlierOf TFnExactLaterOf_k42
def TFnExactLaterOf_44 : List (Nat × Sp) := (109, sp_max) :: TFnExactLaterOf_43
theorem TFnExactLaterOf_k44 : EvOk Try.prog (tab TFnExactLaterOf_44) := tab_cons ok_fn_LaterOf TFnExactLaterOf_k43
def TFnExactLaterOf_45 : List (Nat × Sp) := (107, sp_planByRanks) :: TFnExactLaterOf_44
theorem TFnExactLaterOf_k45 : EvOk Try.prog (tab TFnExactLaterOf_45) := tab_cons (ok_planByRanks (ev := tab TFnExactLaterOf_44) TFnExactLaterOf_k44 rfl rfl rfl rfl) TFnExactLaterOf_k44
def TFnExactLaterOf_46 : List (Nat × Sp) := (54, sp_LaterOf) :: TFnExactLaterOf_45
theorem TFnExactLaterOf_k46 : EvOk Try.prog (tab TFnExactLaterOf_46) := tab_cons (ok_impl_LaterOf (ev := tab TFnExactLaterOf_45) TFnExactLaterOf_k45 rfl rfl) TFnExactLaterOf_k45
theorem ok_FnExactLaterOf_all : FnOk Try.prog 11 sp_JPP := (ok_FnExactLaterOf (ev := tab TFnExactLaterOf_46) TFnExactLaterOf_k46 rfl rfl rfl rfl rfl rfl rfl rfl rfl rfl rfl)
end Go.Proofs.Ytpfjjheognelhaa.E
