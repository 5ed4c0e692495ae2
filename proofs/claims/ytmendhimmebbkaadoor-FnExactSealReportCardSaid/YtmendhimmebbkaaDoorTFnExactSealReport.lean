/- The table of the functions that FnExactSealReport reaches. -/
import Derived.Test.YtmendhimmebbkaaDoorG1
import Derived.Test.YtmendhimmebbkaaDoorG2
import Derived.Test.YtmendhimmebbkaaDoorG3
import Derived.Test.YtmendhimmebbkaaDoorG4
import Derived.Test.YtmendhimmebbkaaDoorH1
import Derived.Test.YtmendhimmebbkaaDoorH2
import Derived.Test.YtmendhimmebbkaaDoorH3
import Derived.Test.YtmendhimmebbkaaDoorH4
import Derived.Test.YtmendhimmebbkaaDoorH5
import Derived.Test.YtmendhimmebbkaaDoorH6
import Derived.Test.YtmendhimmebbkaaDoorH7
import Derived.Test.YtmendhimmebbkaaDoorD1
import Derived.Test.YtmendhimmebbkaaDoorN1
import Derived.Test.YtmendhimmebbkaaDoorN2
import Derived.Test.YtmendhimmebbkaaDoorN3
import Derived.Test.YtmendhimmebbkaaDoorN4
namespace Go.Proofs.YtmendhimmebbkaaDoor.E
open Go Go.Proofs
def TFnExactSealReport_0 : List (Nat × Sp) := []
theorem TFnExactSealReport_k0 : EvOk Tryd.prog (tab TFnExactSealReport_0) := tab_nil
def TFnExactSealReport_1 : List (Nat × Sp) := (65, sp_szIntS) :: TFnExactSealReport_0
theorem TFnExactSealReport_k1 : EvOk Tryd.prog (tab TFnExactSealReport_1) := tab_cons ok_szIntS TFnExactSealReport_k0
def TFnExactSealReport_2 : List (Nat × Sp) := (36, sp_szRow) :: TFnExactSealReport_1
theorem TFnExactSealReport_k2 : EvOk Tryd.prog (tab TFnExactSealReport_2) := tab_cons (ok_szRow (ev := tab TFnExactSealReport_1) TFnExactSealReport_k1 rfl) TFnExactSealReport_k1
def TFnExactSealReport_3 : List (Nat × Sp) := (20, sp_szRowS) :: TFnExactSealReport_2
theorem TFnExactSealReport_k3 : EvOk Tryd.prog (tab TFnExactSealReport_3) := tab_cons (ok_szRowS (ev := tab TFnExactSealReport_2) TFnExactSealReport_k2 rfl) TFnExactSealReport_k2
def TFnExactSealReport_4 : List (Nat × Sp) := (7, sp_szReport) :: TFnExactSealReport_3
theorem TFnExactSealReport_k4 : EvOk Tryd.prog (tab TFnExactSealReport_4) := tab_cons (ok_szReport (ev := tab TFnExactSealReport_3) TFnExactSealReport_k3 rfl) TFnExactSealReport_k3
def TFnExactSealReport_5 : List (Nat × Sp) := (66, sp_toIntS) :: TFnExactSealReport_4
theorem TFnExactSealReport_k5 : EvOk Tryd.prog (tab TFnExactSealReport_5) := tab_cons ok_toIntS TFnExactSealReport_k4
def TFnExactSealReport_6 : List (Nat × Sp) := (43, sp_toRow) :: TFnExactSealReport_5
theorem TFnExactSealReport_k6 : EvOk Tryd.prog (tab TFnExactSealReport_6) := tab_cons (ok_toRow (ev := tab TFnExactSealReport_5) TFnExactSealReport_k5 rfl) TFnExactSealReport_k5
def TFnExactSealReport_7 : List (Nat × Sp) := (23, sp_toRowS) :: TFnExactSealReport_6
theorem TFnExactSealReport_k7 : EvOk Tryd.prog (tab TFnExactSealReport_7) := tab_cons (ok_toRowS (ev := tab TFnExactSealReport_6) TFnExactSealReport_k6 rfl) TFnExactSealReport_k6
def TFnExactSealReport_8 : List (Nat × Sp) := (9, sp_toReport) :: TFnExactSealReport_7
theorem TFnExactSealReport_k8 : EvOk Tryd.prog (tab TFnExactSealReport_8) := tab_cons (ok_toReport (ev := tab TFnExactSealReport_7) TFnExactSealReport_k7 rfl) TFnExactSealReport_k7
def TFnExactSealReport_9 : List (Nat × Sp) := (69, sp_eqIntS) :: TFnExactSealReport_8
theorem TFnExactSealReport_k9 : EvOk Tryd.prog (tab TFnExactSealReport_9) := tab_cons ok_eqIntS TFnExactSealReport_k8
def TFnExactSealReport_10 : List (Nat × Sp) := (49, sp_eqRow) :: TFnExactSealReport_9
theorem TFnExactSealReport_k10 : EvOk Tryd.prog (tab TFnExactSealReport_10) := tab_cons (ok_eqRow (ev := tab TFnExactSealReport_9) TFnExactSealReport_k9 rfl) TFnExactSealReport_k9
def TFnExactSealReport_11 : List (Nat × Sp) := (26, sp_eqRowS) :: TFnExactSealReport_10
theorem TFnExactSealReport_k11 : EvOk Tryd.prog (tab TFnExactSealReport_11) := tab_cons (ok_eqRowS (ev := tab TFnExactSealReport_10) TFnExactSealReport_k10 rfl) TFnExactSealReport_k10
def TFnExactSealReport_12 : List (Nat × Sp) := (11, sp_eqReport) :: TFnExactSealReport_11
theorem TFnExactSealReport_k12 : EvOk Tryd.prog (tab TFnExactSealReport_12) := tab_cons (ok_eqReport (ev := tab TFnExactSealReport_11) TFnExactSealReport_k11 rfl) TFnExactSealReport_k11
def TFnExactSealReport_13 : List (Nat × Sp) := (40, sp_l1In) :: TFnExactSealReport_12
theorem TFnExactSealReport_k13 : EvOk Tryd.prog (tab TFnExactSealReport_13) := tab_cons ok_l1In TFnExactSealReport_k12
def TFnExactSealReport_14 : List (Nat × Sp) := (37, sp_name) :: TFnExactSealReport_13
theorem TFnExactSealReport_k14 : EvOk Tryd.prog (tab TFnExactSealReport_14) := tab_cons (ok_rpName (ev := tab TFnExactSealReport_13) TFnExactSealReport_k13 rfl) TFnExactSealReport_k13
def TFnExactSealReport_15 : List (Nat × Sp) := (38, sp_rpRow) :: TFnExactSealReport_14
theorem TFnExactSealReport_k15 : EvOk Tryd.prog (tab TFnExactSealReport_15) := tab_cons ok_rpRow TFnExactSealReport_k14
def TFnExactSealReport_16 : List (Nat × Sp) := (39, sp_l1All) :: TFnExactSealReport_15
theorem TFnExactSealReport_k16 : EvOk Tryd.prog (tab TFnExactSealReport_16) := tab_cons (ok_l1All (ev := tab TFnExactSealReport_15) TFnExactSealReport_k15 rfl) TFnExactSealReport_k15
def TFnExactSealReport_17 : List (Nat × Sp) := (21, sp_repOk) :: TFnExactSealReport_16
theorem TFnExactSealReport_k17 : EvOk Tryd.prog (tab TFnExactSealReport_17) := tab_cons (ok_rpGood (ev := tab TFnExactSealReport_16) TFnExactSealReport_k16 rfl rfl rfl rfl) TFnExactSealReport_k16
def TFnExactSealReport_18 : List (Nat × Sp) := (41, sp_l1Num) :: TFnExactSealReport_17
theorem TFnExactSealReport_k18 : EvOk Tryd.prog (tab TFnExactSealReport_18) := tab_cons ok_l1Num TFnExactSealReport_k17
def TFnExactSealReport_19 : List (Nat × Sp) := (42, sp_l1Int) :: TFnExactSealReport_18
theorem TFnExactSealReport_k19 : EvOk Tryd.prog (tab TFnExactSealReport_19) := tab_cons (ok_l1Int (ev := tab TFnExactSealReport_18) TFnExactSealReport_k18 rfl) TFnExactSealReport_k18
def TFnExactSealReport_20 : List (Nat × Sp) := (22, sp_rpText) :: TFnExactSealReport_19
theorem TFnExactSealReport_k20 : EvOk Tryd.prog (tab TFnExactSealReport_20) := tab_cons (ok_rpText (ev := tab TFnExactSealReport_19) TFnExactSealReport_k19 rfl rfl) TFnExactSealReport_k19
def TFnExactSealReport_21 : List (Nat × Sp) := (50, sp_digest) :: TFnExactSealReport_20
theorem TFnExactSealReport_k21 : EvOk Tryd.prog (tab TFnExactSealReport_21) := tab_cons ok_rpDigest TFnExactSealReport_k20
def TFnExactSealReport_22 : List (Nat × Sp) := (27, sp_rpSeal) :: TFnExactSealReport_21
theorem TFnExactSealReport_k22 : EvOk Tryd.prog (tab TFnExactSealReport_22) := tab_cons (ok_rpSeal (ev := tab TFnExactSealReport_21) TFnExactSealReport_k21 rfl rfl rfl) TFnExactSealReport_k21
def TFnExactSealReport_23 : List (Nat × Sp) := (12, sp_SealReport) :: TFnExactSealReport_22
theorem TFnExactSealReport_k23 : EvOk Tryd.prog (tab TFnExactSealReport_23) := tab_cons (ok_spec_SealReport (ev := tab TFnExactSealReport_22) TFnExactSealReport_k22 rfl rfl) TFnExactSealReport_k22
def TFnExactSealReport_24 : List (Nat × Sp) := (44, sp_name) :: TFnExactSealReport_23
theorem TFnExactSealReport_k24 : EvOk Tryd.prog (tab TFnExactSealReport_24) := tab_cons ok_isName TFnExactSealReport_k23
def TFnExactSealReport_25 : List (Nat × Sp) := (45, sp_rowNamed) :: TFnExactSealReport_24
theorem TFnExactSealReport_k25 : EvOk Tryd.prog (tab TFnExactSealReport_25) := tab_cons ok_rowNamed TFnExactSealReport_k24
def TFnExactSealReport_26 : List (Nat × Sp) := (46, sp_isReported) :: TFnExactSealReport_25
theorem TFnExactSealReport_k26 : EvOk Tryd.prog (tab TFnExactSealReport_26) := tab_cons ok_isReported TFnExactSealReport_k25
def TFnExactSealReport_27 : List (Nat × Sp) := (24, sp_repOk) :: TFnExactSealReport_26
theorem TFnExactSealReport_k27 : EvOk Tryd.prog (tab TFnExactSealReport_27) := tab_cons (ok_IsReport (ev := tab TFnExactSealReport_26) TFnExactSealReport_k26 rfl rfl rfl) TFnExactSealReport_k26
def TFnExactSealReport_28 : List (Nat × Sp) := (47, sp_Itoa) :: TFnExactSealReport_27
theorem TFnExactSealReport_k28 : EvOk Tryd.prog (tab TFnExactSealReport_28) := tab_cons ok_Itoa TFnExactSealReport_k27
def TFnExactSealReport_29 : List (Nat × Sp) := (68, sp_Join) :: TFnExactSealReport_28
theorem TFnExactSealReport_k29 : EvOk Tryd.prog (tab TFnExactSealReport_29) := tab_cons ok_Join TFnExactSealReport_k28
def TFnExactSealReport_30 : List (Nat × Sp) := (48, sp_numbersText) :: TFnExactSealReport_29
theorem TFnExactSealReport_k30 : EvOk Tryd.prog (tab TFnExactSealReport_30) := tab_cons (ok_numbersText (ev := tab TFnExactSealReport_29) TFnExactSealReport_k29 rfl rfl) TFnExactSealReport_k29
def TFnExactSealReport_31 : List (Nat × Sp) := (25, sp_reportText) :: TFnExactSealReport_30
theorem TFnExactSealReport_k31 : EvOk Tryd.prog (tab TFnExactSealReport_31) := tab_cons (ok_reportText (ev := tab TFnExactSealReport_30) TFnExactSealReport_k30 rfl rfl) TFnExactSealReport_k30
def TFnExactSealReport_32 : List (Nat × Sp) := (51, sp_digest) :: TFnExactSealReport_31
theorem TFnExactSealReport_k32 : EvOk Tryd.prog (tab TFnExactSealReport_32) := tab_cons ok_impl_digestOf TFnExactSealReport_k31
def TFnExactSealReport_33 : List (Nat × Sp) := (28, sp_sealed) :: TFnExactSealReport_32
theorem TFnExactSealReport_k33 : EvOk Tryd.prog (tab TFnExactSealReport_33) := tab_cons (ok_sealed (ev := tab TFnExactSealReport_32) TFnExactSealReport_k32 rfl rfl) TFnExactSealReport_k32
def TFnExactSealReport_34 : List (Nat × Sp) := (13, sp_SealReport) :: TFnExactSealReport_33
theorem TFnExactSealReport_k34 : EvOk Tryd.prog (tab TFnExactSealReport_34) := tab_cons (ok_impl_SealReport (ev := tab TFnExactSealReport_33) TFnExactSealReport_k33 rfl rfl rfl) TFnExactSealReport_k33
theorem ok_FnExactSealReport_all : FnOk Tryd.prog 4 sp_R1 := (ok_FnExactSealReport (ev := tab TFnExactSealReport_34) TFnExactSealReport_k34 rfl rfl rfl rfl rfl)
end Go.Proofs.YtmendhimmebbkaaDoor.E
