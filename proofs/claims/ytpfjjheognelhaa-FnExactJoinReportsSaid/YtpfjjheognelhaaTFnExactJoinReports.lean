/- The table of the functions that FnExactJoinReports reaches. -/
import Derived.Test.YtpfjjheognelhaaG1
import Derived.Test.YtpfjjheognelhaaG2
import Derived.Test.YtpfjjheognelhaaG3
import Derived.Test.YtpfjjheognelhaaG4
import Derived.Test.YtpfjjheognelhaaH1
import Derived.Test.YtpfjjheognelhaaH2
import Derived.Test.YtpfjjheognelhaaH3
import Derived.Test.YtpfjjheognelhaaH4
import Derived.Test.YtpfjjheognelhaaH5
import Derived.Test.YtpfjjheognelhaaH6
import Derived.Test.YtpfjjheognelhaaH7
import Derived.Test.YtpfjjheognelhaaH8
import Derived.Test.YtpfjjheognelhaaG10
import Derived.Test.YtpfjjheognelhaaH9
namespace Go.Proofs.Ytpfjjheognelhaa.E
open Go Go.Proofs
def TFnExactJoinReports_0 : List (Nat × Sp) := []
theorem TFnExactJoinReports_k0 : EvOk Try.prog (tab TFnExactJoinReports_0) := tab_nil
def TFnExactJoinReports_1 : List (Nat × Sp) := (77, sp_szIntS) :: TFnExactJoinReports_0
theorem TFnExactJoinReports_k1 : EvOk Try.prog (tab TFnExactJoinReports_1) := tab_cons ok_szIntS TFnExactJoinReports_k0
def TFnExactJoinReports_2 : List (Nat × Sp) := (132, sp_szRow) :: TFnExactJoinReports_1
theorem TFnExactJoinReports_k2 : EvOk Try.prog (tab TFnExactJoinReports_2) := tab_cons (ok_szRow (ev := tab TFnExactJoinReports_1) TFnExactJoinReports_k1 rfl) TFnExactJoinReports_k1
def TFnExactJoinReports_3 : List (Nat × Sp) := (87, sp_szRowS) :: TFnExactJoinReports_2
theorem TFnExactJoinReports_k3 : EvOk Try.prog (tab TFnExactJoinReports_3) := tab_cons (ok_szRowS (ev := tab TFnExactJoinReports_2) TFnExactJoinReports_k2 rfl) TFnExactJoinReports_k2
def TFnExactJoinReports_4 : List (Nat × Sp) := (22, sp_szReport) :: TFnExactJoinReports_3
theorem TFnExactJoinReports_k4 : EvOk Try.prog (tab TFnExactJoinReports_4) := tab_cons (ok_szReport (ev := tab TFnExactJoinReports_3) TFnExactJoinReports_k3 rfl) TFnExactJoinReports_k3
def TFnExactJoinReports_5 : List (Nat × Sp) := (83, sp_toIntS) :: TFnExactJoinReports_4
theorem TFnExactJoinReports_k5 : EvOk Try.prog (tab TFnExactJoinReports_5) := tab_cons ok_toIntS TFnExactJoinReports_k4
def TFnExactJoinReports_6 : List (Nat × Sp) := (134, sp_toRow) :: TFnExactJoinReports_5
theorem TFnExactJoinReports_k6 : EvOk Try.prog (tab TFnExactJoinReports_6) := tab_cons (ok_toRow (ev := tab TFnExactJoinReports_5) TFnExactJoinReports_k5 rfl) TFnExactJoinReports_k5
def TFnExactJoinReports_7 : List (Nat × Sp) := (91, sp_toRowS) :: TFnExactJoinReports_6
theorem TFnExactJoinReports_k7 : EvOk Try.prog (tab TFnExactJoinReports_7) := tab_cons (ok_toRowS (ev := tab TFnExactJoinReports_6) TFnExactJoinReports_k6 rfl) TFnExactJoinReports_k6
def TFnExactJoinReports_8 : List (Nat × Sp) := (24, sp_toReport) :: TFnExactJoinReports_7
theorem TFnExactJoinReports_k8 : EvOk Try.prog (tab TFnExactJoinReports_8) := tab_cons (ok_toReport (ev := tab TFnExactJoinReports_7) TFnExactJoinReports_k7 rfl) TFnExactJoinReports_k7
def TFnExactJoinReports_9 : List (Nat × Sp) := (36, sp_eqIntS) :: TFnExactJoinReports_8
theorem TFnExactJoinReports_k9 : EvOk Try.prog (tab TFnExactJoinReports_9) := tab_cons ok_eqIntS TFnExactJoinReports_k8
def TFnExactJoinReports_10 : List (Nat × Sp) := (135, sp_eqRow) :: TFnExactJoinReports_9
theorem TFnExactJoinReports_k10 : EvOk Try.prog (tab TFnExactJoinReports_10) := tab_cons (ok_eqRow (ev := tab TFnExactJoinReports_9) TFnExactJoinReports_k9 rfl) TFnExactJoinReports_k9
def TFnExactJoinReports_11 : List (Nat × Sp) := (96, sp_eqRowS) :: TFnExactJoinReports_10
theorem TFnExactJoinReports_k11 : EvOk Try.prog (tab TFnExactJoinReports_11) := tab_cons (ok_eqRowS (ev := tab TFnExactJoinReports_10) TFnExactJoinReports_k10 rfl) TFnExactJoinReports_k10
def TFnExactJoinReports_12 : List (Nat × Sp) := (26, sp_eqReport) :: TFnExactJoinReports_11
theorem TFnExactJoinReports_k12 : EvOk Try.prog (tab TFnExactJoinReports_12) := tab_cons (ok_eqReport (ev := tab TFnExactJoinReports_11) TFnExactJoinReports_k11 rfl) TFnExactJoinReports_k11
def TFnExactJoinReports_13 : List (Nat × Sp) := (39, sp_markIntS) :: TFnExactJoinReports_12
theorem TFnExactJoinReports_k13 : EvOk Try.prog (tab TFnExactJoinReports_13) := tab_cons ok_markIntS TFnExactJoinReports_k12
def TFnExactJoinReports_14 : List (Nat × Sp) := (101, sp_markText) :: TFnExactJoinReports_13
theorem TFnExactJoinReports_k14 : EvOk Try.prog (tab TFnExactJoinReports_14) := tab_cons ok_markText TFnExactJoinReports_k13
def TFnExactJoinReports_15 : List (Nat × Sp) := (97, sp_markRowS) :: TFnExactJoinReports_14
theorem TFnExactJoinReports_k15 : EvOk Try.prog (tab TFnExactJoinReports_15) := tab_cons (ok_markRowS (ev := tab TFnExactJoinReports_14) TFnExactJoinReports_k14 rfl rfl) TFnExactJoinReports_k14
def TFnExactJoinReports_16 : List (Nat × Sp) := (27, sp_markReport) :: TFnExactJoinReports_15
theorem TFnExactJoinReports_k16 : EvOk Try.prog (tab TFnExactJoinReports_16) := tab_cons (ok_markReport (ev := tab TFnExactJoinReports_15) TFnExactJoinReports_k15 rfl) TFnExactJoinReports_k15
def TFnExactJoinReports_17 : List (Nat × Sp) := (40, sp_heldIntS) :: TFnExactJoinReports_16
theorem TFnExactJoinReports_k17 : EvOk Try.prog (tab TFnExactJoinReports_17) := tab_cons ok_heldIntS TFnExactJoinReports_k16
def TFnExactJoinReports_18 : List (Nat × Sp) := (98, sp_heldRowS) :: TFnExactJoinReports_17
theorem TFnExactJoinReports_k18 : EvOk Try.prog (tab TFnExactJoinReports_18) := tab_cons (ok_heldRowS (ev := tab TFnExactJoinReports_17) TFnExactJoinReports_k17 rfl rfl) TFnExactJoinReports_k17
def TFnExactJoinReports_19 : List (Nat × Sp) := (28, sp_heldReport) :: TFnExactJoinReports_18
theorem TFnExactJoinReports_k19 : EvOk Try.prog (tab TFnExactJoinReports_19) := tab_cons (ok_heldReport (ev := tab TFnExactJoinReports_18) TFnExactJoinReports_k18 rfl) TFnExactJoinReports_k18
def TFnExactJoinReports_20 : List (Nat × Sp) := (125, sp_l1In) :: TFnExactJoinReports_19
theorem TFnExactJoinReports_k20 : EvOk Try.prog (tab TFnExactJoinReports_20) := tab_cons ok_l1In TFnExactJoinReports_k19
def TFnExactJoinReports_21 : List (Nat × Sp) := (123, sp_name) :: TFnExactJoinReports_20
theorem TFnExactJoinReports_k21 : EvOk Try.prog (tab TFnExactJoinReports_21) := tab_cons (ok_rpName (ev := tab TFnExactJoinReports_20) TFnExactJoinReports_k20 rfl) TFnExactJoinReports_k20
def TFnExactJoinReports_22 : List (Nat × Sp) := (90, sp_rpRow) :: TFnExactJoinReports_21
theorem TFnExactJoinReports_k22 : EvOk Try.prog (tab TFnExactJoinReports_22) := tab_cons ok_rpRow TFnExactJoinReports_k21
def TFnExactJoinReports_23 : List (Nat × Sp) := (127, sp_l1All) :: TFnExactJoinReports_22
theorem TFnExactJoinReports_k23 : EvOk Try.prog (tab TFnExactJoinReports_23) := tab_cons (ok_l1All (ev := tab TFnExactJoinReports_22) TFnExactJoinReports_k22 rfl) TFnExactJoinReports_k22
def TFnExactJoinReports_24 : List (Nat × Sp) := (88, sp_repOk) :: TFnExactJoinReports_23
theorem TFnExactJoinReports_k24 : EvOk Try.prog (tab TFnExactJoinReports_24) := tab_cons (ok_rpGood (ev := tab TFnExactJoinReports_23) TFnExactJoinReports_k23 rfl rfl rfl rfl) TFnExactJoinReports_k23
def TFnExactJoinReports_25 : List (Nat × Sp) := (133, sp_toIntS) :: TFnExactJoinReports_24
theorem TFnExactJoinReports_k25 : EvOk Try.prog (tab TFnExactJoinReports_25) := tab_cons ok_l1Own TFnExactJoinReports_k24
def TFnExactJoinReports_26 : List (Nat × Sp) := (89, sp_toRow) :: TFnExactJoinReports_25
theorem TFnExactJoinReports_k26 : EvOk Try.prog (tab TFnExactJoinReports_26) := tab_cons (ok_rpOwn (ev := tab TFnExactJoinReports_25) TFnExactJoinReports_k25 rfl) TFnExactJoinReports_k25
def TFnExactJoinReports_27 : List (Nat × Sp) := (23, sp_JoinReports) :: TFnExactJoinReports_26
theorem TFnExactJoinReports_k27 : EvOk Try.prog (tab TFnExactJoinReports_27) := tab_cons (ok_spec_JoinReports (ev := tab TFnExactJoinReports_26) TFnExactJoinReports_k26 rfl rfl rfl) TFnExactJoinReports_k26
def TFnExactJoinReports_28 : List (Nat × Sp) := (116, sp_name) :: TFnExactJoinReports_27
theorem TFnExactJoinReports_k28 : EvOk Try.prog (tab TFnExactJoinReports_28) := tab_cons ok_isName TFnExactJoinReports_k27
def TFnExactJoinReports_29 : List (Nat × Sp) := (93, sp_rowNamed) :: TFnExactJoinReports_28
theorem TFnExactJoinReports_k29 : EvOk Try.prog (tab TFnExactJoinReports_29) := tab_cons ok_rowNamed TFnExactJoinReports_k28
def TFnExactJoinReports_30 : List (Nat × Sp) := (117, sp_isReported) :: TFnExactJoinReports_29
theorem TFnExactJoinReports_k30 : EvOk Try.prog (tab TFnExactJoinReports_30) := tab_cons ok_isReported TFnExactJoinReports_k29
def TFnExactJoinReports_31 : List (Nat × Sp) := (61, sp_repOk) :: TFnExactJoinReports_30
theorem TFnExactJoinReports_k31 : EvOk Try.prog (tab TFnExactJoinReports_31) := tab_cons (ok_IsReport (ev := tab TFnExactJoinReports_30) TFnExactJoinReports_k30 rfl rfl rfl) TFnExactJoinReports_k30
def TFnExactJoinReports_32 : List (Nat × Sp) := (94, sp_toRow) :: TFnExactJoinReports_31
theorem TFnExactJoinReports_k32 : EvOk Try.prog (tab TFnExactJoinReports_32) := tab_cons ok_copyRow TFnExactJoinReports_k31
def TFnExactJoinReports_33 : List (Nat × Sp) := (92, sp_copyReport) :: TFnExactJoinReports_32
theorem TFnExactJoinReports_k33 : EvOk Try.prog (tab TFnExactJoinReports_33) := tab_cons (ok_copyReport (ev := tab TFnExactJoinReports_32) TFnExactJoinReports_k32 rfl) TFnExactJoinReports_k32
def TFnExactJoinReports_34 : List (Nat × Sp) := (95, sp_validReport) :: TFnExactJoinReports_33
theorem TFnExactJoinReports_k34 : EvOk Try.prog (tab TFnExactJoinReports_34) := tab_cons (ok_validReport (ev := tab TFnExactJoinReports_33) TFnExactJoinReports_k33 rfl) TFnExactJoinReports_k33
def TFnExactJoinReports_35 : List (Nat × Sp) := (25, sp_JoinReports) :: TFnExactJoinReports_34
theorem TFnExactJoinReports_k35 : EvOk Try.prog (tab TFnExactJoinReports_35) := tab_cons (ok_impl_JoinReports (ev := tab TFnExactJoinReports_34) TFnExactJoinReports_k34 rfl rfl rfl rfl rfl) TFnExactJoinReports_k34
theorem ok_FnExactJoinReports_all : FnOk Try.prog 4 sp_RR := (ok_FnExactJoinReports (ev := tab TFnExactJoinReports_35) TFnExactJoinReports_k35 rfl rfl rfl rfl rfl rfl rfl)
end Go.Proofs.Ytpfjjheognelhaa.E
