/- The table of the functions that FnExactReportText reaches. -/
import Derived.Test.YtmendhimmebbkaaDoorG1
import Derived.Test.YtmendhimmebbkaaDoorG2
import Derived.Test.YtmendhimmebbkaaDoorG3
import Derived.Test.YtmendhimmebbkaaDoorG4
import Derived.Test.YtmendhimmebbkaaDoorH1
import Derived.Test.YtmendhimmebbkaaDoorH2
import Derived.Test.YtmendhimmebbkaaDoorH3
import Derived.Test.YtmendhimmebbkaaDoorH4
import Derived.Test.YtmendhimmebbkaaDoorH5
import Derived.Test.YtmendhimmebbkaaDoorH6
import Derived.Test.YtmendhimmebbkaaDoorH7
import Derived.Test.YtmendhimmebbkaaDoorD1
import Derived.Test.YtmendhimmebbkaaDoorN1
import Derived.Test.YtmendhimmebbkaaDoorN2
import Derived.Test.YtmendhimmebbkaaDoorN3
import Derived.Test.YtmendhimmebbkaaDoorN4
namespace Go.Proofs.YtmendhimmebbkaaDoor.E
open Go Go.Proofs
def TFnExactReportText_0 : List (Nat × Sp) := []
theorem TFnExactReportText_k0 : EvOk Tryd.prog (tab TFnExactReportText_0) := tab_nil
def TFnExactReportText_1 : List (Nat × Sp) := (65, sp_szIntS) :: TFnExactReportText_0
theorem TFnExactReportText_k1 : EvOk Tryd.prog (tab TFnExactReportText_1) := tab_cons ok_szIntS TFnExactReportText_k0
def TFnExactReportText_2 : List (Nat × Sp) := (36, sp_szRow) :: TFnExactReportText_1
theorem TFnExactReportText_k2 : EvOk Tryd.prog (tab TFnExactReportText_2) := tab_cons (ok_szRow (ev := tab TFnExactReportText_1) TFnExactReportText_k1 rfl) TFnExactReportText_k1
def TFnExactReportText_3 : List (Nat × Sp) := (20, sp_szRowS) :: TFnExactReportText_2
theorem TFnExactReportText_k3 : EvOk Tryd.prog (tab TFnExactReportText_3) := tab_cons (ok_szRowS (ev := tab TFnExactReportText_2) TFnExactReportText_k2 rfl) TFnExactReportText_k2
def TFnExactReportText_4 : List (Nat × Sp) := (7, sp_szReport) :: TFnExactReportText_3
theorem TFnExactReportText_k4 : EvOk Tryd.prog (tab TFnExactReportText_4) := tab_cons (ok_szReport (ev := tab TFnExactReportText_3) TFnExactReportText_k3 rfl) TFnExactReportText_k3
def TFnExactReportText_5 : List (Nat × Sp) := (66, sp_toIntS) :: TFnExactReportText_4
theorem TFnExactReportText_k5 : EvOk Tryd.prog (tab TFnExactReportText_5) := tab_cons ok_toIntS TFnExactReportText_k4
def TFnExactReportText_6 : List (Nat × Sp) := (43, sp_toRow) :: TFnExactReportText_5
theorem TFnExactReportText_k6 : EvOk Tryd.prog (tab TFnExactReportText_6) := tab_cons (ok_toRow (ev := tab TFnExactReportText_5) TFnExactReportText_k5 rfl) TFnExactReportText_k5
def TFnExactReportText_7 : List (Nat × Sp) := (23, sp_toRowS) :: TFnExactReportText_6
theorem TFnExactReportText_k7 : EvOk Tryd.prog (tab TFnExactReportText_7) := tab_cons (ok_toRowS (ev := tab TFnExactReportText_6) TFnExactReportText_k6 rfl) TFnExactReportText_k6
def TFnExactReportText_8 : List (Nat × Sp) := (9, sp_toReport) :: TFnExactReportText_7
theorem TFnExactReportText_k8 : EvOk Tryd.prog (tab TFnExactReportText_8) := tab_cons (ok_toReport (ev := tab TFnExactReportText_7) TFnExactReportText_k7 rfl) TFnExactReportText_k7
def TFnExactReportText_9 : List (Nat × Sp) := (69, sp_eqIntS) :: TFnExactReportText_8
theorem TFnExactReportText_k9 : EvOk Tryd.prog (tab TFnExactReportText_9) := tab_cons ok_eqIntS TFnExactReportText_k8
def TFnExactReportText_10 : List (Nat × Sp) := (49, sp_eqRow) :: TFnExactReportText_9
theorem TFnExactReportText_k10 : EvOk Tryd.prog (tab TFnExactReportText_10) := tab_cons (ok_eqRow (ev := tab TFnExactReportText_9) TFnExactReportText_k9 rfl) TFnExactReportText_k9
def TFnExactReportText_11 : List (Nat × Sp) := (26, sp_eqRowS) :: TFnExactReportText_10
theorem TFnExactReportText_k11 : EvOk Tryd.prog (tab TFnExactReportText_11) := tab_cons (ok_eqRowS (ev := tab TFnExactReportText_10) TFnExactReportText_k10 rfl) TFnExactReportText_k10
def TFnExactReportText_12 : List (Nat × Sp) := (11, sp_eqReport) :: TFnExactReportText_11
theorem TFnExactReportText_k12 : EvOk Tryd.prog (tab TFnExactReportText_12) := tab_cons (ok_eqReport (ev := tab TFnExactReportText_11) TFnExactReportText_k11 rfl) TFnExactReportText_k11
def TFnExactReportText_13 : List (Nat × Sp) := (40, sp_l1In) :: TFnExactReportText_12
theorem TFnExactReportText_k13 : EvOk Tryd.prog (tab TFnExactReportText_13) := tab_cons ok_l1In TFnExactReportText_k12
def TFnExactReportText_14 : List (Nat × Sp) := (37, sp_name) :: TFnExactReportText_13
theorem TFnExactReportText_k14 : EvOk Tryd.prog (tab TFnExactReportText_14) := tab_cons (ok_rpName (ev := tab TFnExactReportText_13) TFnExactReportText_k13 rfl) TFnExactReportText_k13
def TFnExactReportText_15 : List (Nat × Sp) := (38, sp_rpRow) :: TFnExactReportText_14
theorem TFnExactReportText_k15 : EvOk Tryd.prog (tab TFnExactReportText_15) := tab_cons ok_rpRow TFnExactReportText_k14
def TFnExactReportText_16 : List (Nat × Sp) := (39, sp_l1All) :: TFnExactReportText_15
theorem TFnExactReportText_k16 : EvOk Tryd.prog (tab TFnExactReportText_16) := tab_cons (ok_l1All (ev := tab TFnExactReportText_15) TFnExactReportText_k15 rfl) TFnExactReportText_k15
def TFnExactReportText_17 : List (Nat × Sp) := (21, sp_repOk) :: TFnExactReportText_16
theorem TFnExactReportText_k17 : EvOk Tryd.prog (tab TFnExactReportText_17) := tab_cons (ok_rpGood (ev := tab TFnExactReportText_16) TFnExactReportText_k16 rfl rfl rfl rfl) TFnExactReportText_k16
def TFnExactReportText_18 : List (Nat × Sp) := (41, sp_l1Num) :: TFnExactReportText_17
theorem TFnExactReportText_k18 : EvOk Tryd.prog (tab TFnExactReportText_18) := tab_cons ok_l1Num TFnExactReportText_k17
def TFnExactReportText_19 : List (Nat × Sp) := (42, sp_l1Int) :: TFnExactReportText_18
theorem TFnExactReportText_k19 : EvOk Tryd.prog (tab TFnExactReportText_19) := tab_cons (ok_l1Int (ev := tab TFnExactReportText_18) TFnExactReportText_k18 rfl) TFnExactReportText_k18
def TFnExactReportText_20 : List (Nat × Sp) := (22, sp_rpText) :: TFnExactReportText_19
theorem TFnExactReportText_k20 : EvOk Tryd.prog (tab TFnExactReportText_20) := tab_cons (ok_rpText (ev := tab TFnExactReportText_19) TFnExactReportText_k19 rfl rfl) TFnExactReportText_k19
def TFnExactReportText_21 : List (Nat × Sp) := (8, sp_ReportText) :: TFnExactReportText_20
theorem TFnExactReportText_k21 : EvOk Tryd.prog (tab TFnExactReportText_21) := tab_cons (ok_spec_ReportText (ev := tab TFnExactReportText_20) TFnExactReportText_k20 rfl rfl) TFnExactReportText_k20
def TFnExactReportText_22 : List (Nat × Sp) := (44, sp_name) :: TFnExactReportText_21
theorem TFnExactReportText_k22 : EvOk Tryd.prog (tab TFnExactReportText_22) := tab_cons ok_isName TFnExactReportText_k21
def TFnExactReportText_23 : List (Nat × Sp) := (45, sp_rowNamed) :: TFnExactReportText_22
theorem TFnExactReportText_k23 : EvOk Tryd.prog (tab TFnExactReportText_23) := tab_cons ok_rowNamed TFnExactReportText_k22
def TFnExactReportText_24 : List (Nat × Sp) := (46, sp_isReported) :: TFnExactReportText_23
theorem TFnExactReportText_k24 : EvOk Tryd.prog (tab TFnExactReportText_24) := tab_cons ok_isReported TFnExactReportText_k23
def TFnExactReportText_25 : List (Nat × Sp) := (24, sp_repOk) :: TFnExactReportText_24
theorem TFnExactReportText_k25 : EvOk Tryd.prog (tab TFnExactReportText_25) := tab_cons (ok_IsReport (ev := tab TFnExactReportText_24) TFnExactReportText_k24 rfl rfl rfl) TFnExactReportText_k24
def TFnExactReportText_26 : List (Nat × Sp) := (47, sp_Itoa) :: TFnExactReportText_25
theorem TFnExactReportText_k26 : EvOk Tryd.prog (tab TFnExactReportText_26) := tab_cons ok_Itoa TFnExactReportText_k25
def TFnExactReportText_27 : List (Nat × Sp) := (68, sp_Join) :: TFnExactReportText_26
theorem TFnExactReportText_k27 : EvOk Tryd.prog (tab TFnExactReportText_27) := tab_cons ok_Join TFnExactReportText_k26
def TFnExactReportText_28 : List (Nat × Sp) := (48, sp_numbersText) :: TFnExactReportText_27
theorem TFnExactReportText_k28 : EvOk Tryd.prog (tab TFnExactReportText_28) := tab_cons (ok_numbersText (ev := tab TFnExactReportText_27) TFnExactReportText_k27 rfl rfl) TFnExactReportText_k27
def TFnExactReportText_29 : List (Nat × Sp) := (25, sp_reportText) :: TFnExactReportText_28
theorem TFnExactReportText_k29 : EvOk Tryd.prog (tab TFnExactReportText_29) := tab_cons (ok_reportText (ev := tab TFnExactReportText_28) TFnExactReportText_k28 rfl rfl) TFnExactReportText_k28
def TFnExactReportText_30 : List (Nat × Sp) := (10, sp_ReportText) :: TFnExactReportText_29
theorem TFnExactReportText_k30 : EvOk Tryd.prog (tab TFnExactReportText_30) := tab_cons (ok_impl_ReportText (ev := tab TFnExactReportText_29) TFnExactReportText_k29 rfl rfl) TFnExactReportText_k29
theorem ok_FnExactReportText_all : FnOk Tryd.prog 3 sp_R1 := (ok_FnExactReportText (ev := tab TFnExactReportText_30) TFnExactReportText_k30 rfl rfl rfl rfl rfl)
end Go.Proofs.YtmendhimmebbkaaDoor.E
