/- The table of the functions that FnExactOpenReport reaches. -/
import Derived.Test.YtcobfgdbbcemkaaDoorG1
import Derived.Test.YtcobfgdbbcemkaaDoorG2
import Derived.Test.YtcobfgdbbcemkaaDoorG3
import Derived.Test.YtcobfgdbbcemkaaDoorG4
import Derived.Test.YtcobfgdbbcemkaaDoorH1
import Derived.Test.YtcobfgdbbcemkaaDoorH2
import Derived.Test.YtcobfgdbbcemkaaDoorH3
import Derived.Test.YtcobfgdbbcemkaaDoorH4
import Derived.Test.YtcobfgdbbcemkaaDoorH5
import Derived.Test.YtcobfgdbbcemkaaDoorH6
import Derived.Test.YtcobfgdbbcemkaaDoorH7
import Derived.Test.YtcobfgdbbcemkaaDoorJ1
import Derived.Test.YtcobfgdbbcemkaaDoorJ2
import Derived.Test.YtcobfgdbbcemkaaDoorJ3
import Derived.Test.YtcobfgdbbcemkaaDoorN1
import Derived.Test.YtcobfgdbbcemkaaDoorN2
import Derived.Test.YtcobfgdbbcemkaaDoorN3
import Derived.Test.YtcobfgdbbcemkaaDoorD1
import Derived.Test.YtcobfgdbbcemkaaDoorP1
import Derived.Test.YtcobfgdbbcemkaaDoorP3
import Derived.Test.YtcobfgdbbcemkaaDoorP4
import Derived.Test.YtcobfgdbbcemkaaDoorP5
import Derived.Test.YtcobfgdbbcemkaaDoorP6
import Derived.Test.YtcobfgdbbcemkaaDoorP7
import Derived.Test.YtcobfgdbbcemkaaDoorP8
import Derived.Test.YtcobfgdbbcemkaaDoorQ1
import Derived.Test.YtcobfgdbbcemkaaDoorQ2
namespace Go.Proofs.YtcobfgdbbcemkaaDoor.E
open Go Go.Proofs
def TFnExactOpenReport_0 : List (Nat × Sp) := []
theorem TFnExactOpenReport_k0 : EvOk Tryd.prog (tab TFnExactOpenReport_0) := tab_nil
def TFnExactOpenReport_1 : List (Nat × Sp) := (53, sp_eqIntS) :: TFnExactOpenReport_0
theorem TFnExactOpenReport_k1 : EvOk Tryd.prog (tab TFnExactOpenReport_1) := tab_cons ok_eqIntS TFnExactOpenReport_k0
def TFnExactOpenReport_2 : List (Nat × Sp) := (35, sp_eqRow) :: TFnExactOpenReport_1
theorem TFnExactOpenReport_k2 : EvOk Tryd.prog (tab TFnExactOpenReport_2) := tab_cons (ok_eqRow (ev := tab TFnExactOpenReport_1) TFnExactOpenReport_k1 rfl) TFnExactOpenReport_k1
def TFnExactOpenReport_3 : List (Nat × Sp) := (16, sp_eqRowS) :: TFnExactOpenReport_2
theorem TFnExactOpenReport_k3 : EvOk Tryd.prog (tab TFnExactOpenReport_3) := tab_cons (ok_eqRowS (ev := tab TFnExactOpenReport_2) TFnExactOpenReport_k2 rfl) TFnExactOpenReport_k2
def TFnExactOpenReport_4 : List (Nat × Sp) := (6, sp_eqReport) :: TFnExactOpenReport_3
theorem TFnExactOpenReport_k4 : EvOk Tryd.prog (tab TFnExactOpenReport_4) := tab_cons (ok_eqReport (ev := tab TFnExactOpenReport_3) TFnExactOpenReport_k3 rfl) TFnExactOpenReport_k3
def TFnExactOpenReport_5 : List (Nat × Sp) := (37, sp_markIntS) :: TFnExactOpenReport_4
theorem TFnExactOpenReport_k5 : EvOk Tryd.prog (tab TFnExactOpenReport_5) := tab_cons ok_markIntS TFnExactOpenReport_k4
def TFnExactOpenReport_6 : List (Nat × Sp) := (36, sp_markText) :: TFnExactOpenReport_5
theorem TFnExactOpenReport_k6 : EvOk Tryd.prog (tab TFnExactOpenReport_6) := tab_cons ok_markText TFnExactOpenReport_k5
def TFnExactOpenReport_7 : List (Nat × Sp) := (17, sp_markRowS) :: TFnExactOpenReport_6
theorem TFnExactOpenReport_k7 : EvOk Tryd.prog (tab TFnExactOpenReport_7) := tab_cons (ok_markRowS (ev := tab TFnExactOpenReport_6) TFnExactOpenReport_k6 rfl rfl) TFnExactOpenReport_k6
def TFnExactOpenReport_8 : List (Nat × Sp) := (7, sp_markReport) :: TFnExactOpenReport_7
theorem TFnExactOpenReport_k8 : EvOk Tryd.prog (tab TFnExactOpenReport_8) := tab_cons (ok_markReport (ev := tab TFnExactOpenReport_7) TFnExactOpenReport_k7 rfl) TFnExactOpenReport_k7
def TFnExactOpenReport_9 : List (Nat × Sp) := (38, sp_heldIntS) :: TFnExactOpenReport_8
theorem TFnExactOpenReport_k9 : EvOk Tryd.prog (tab TFnExactOpenReport_9) := tab_cons ok_heldIntS TFnExactOpenReport_k8
def TFnExactOpenReport_10 : List (Nat × Sp) := (18, sp_heldRowS) :: TFnExactOpenReport_9
theorem TFnExactOpenReport_k10 : EvOk Tryd.prog (tab TFnExactOpenReport_10) := tab_cons (ok_heldRowS (ev := tab TFnExactOpenReport_9) TFnExactOpenReport_k9 rfl rfl) TFnExactOpenReport_k9
def TFnExactOpenReport_11 : List (Nat × Sp) := (8, sp_heldReport) :: TFnExactOpenReport_10
theorem TFnExactOpenReport_k11 : EvOk Tryd.prog (tab TFnExactOpenReport_11) := tab_cons (ok_heldReport (ev := tab TFnExactOpenReport_10) TFnExactOpenReport_k10 rfl) TFnExactOpenReport_k10
def TFnExactOpenReport_12 : List (Nat × Sp) := (10, sp_rpLong) :: TFnExactOpenReport_11
theorem TFnExactOpenReport_k12 : EvOk Tryd.prog (tab TFnExactOpenReport_12) := tab_cons ok_rpLong TFnExactOpenReport_k11
def TFnExactOpenReport_13 : List (Nat × Sp) := (9, sp_l1Split) :: TFnExactOpenReport_12
theorem TFnExactOpenReport_k13 : EvOk Tryd.prog (tab TFnExactOpenReport_13) := tab_cons ok_l1Split TFnExactOpenReport_k12
def TFnExactOpenReport_14 : List (Nat × Sp) := (39, sp_l1In) :: TFnExactOpenReport_13
theorem TFnExactOpenReport_k14 : EvOk Tryd.prog (tab TFnExactOpenReport_14) := tab_cons ok_l1In TFnExactOpenReport_k13
def TFnExactOpenReport_15 : List (Nat × Sp) := (19, sp_l1Read) :: TFnExactOpenReport_14
theorem TFnExactOpenReport_k15 : EvOk Tryd.prog (tab TFnExactOpenReport_15) := tab_cons (ok_l1Read (ev := tab TFnExactOpenReport_14) TFnExactOpenReport_k14 rfl) TFnExactOpenReport_k14
def TFnExactOpenReport_16 : List (Nat × Sp) := (40, sp_spNumber) :: TFnExactOpenReport_15
theorem TFnExactOpenReport_k16 : EvOk Tryd.prog (tab TFnExactOpenReport_16) := tab_cons (ok_spNumber (ev := tab TFnExactOpenReport_15) TFnExactOpenReport_k15 rfl) TFnExactOpenReport_k15
def TFnExactOpenReport_17 : List (Nat × Sp) := (20, sp_rpNumber) :: TFnExactOpenReport_16
theorem TFnExactOpenReport_k17 : EvOk Tryd.prog (tab TFnExactOpenReport_17) := tab_cons (ok_rpNumber (ev := tab TFnExactOpenReport_16) TFnExactOpenReport_k16 rfl) TFnExactOpenReport_k16
def TFnExactOpenReport_18 : List (Nat × Sp) := (41, sp_name) :: TFnExactOpenReport_17
theorem TFnExactOpenReport_k18 : EvOk Tryd.prog (tab TFnExactOpenReport_18) := tab_cons (ok_rpName (ev := tab TFnExactOpenReport_17) TFnExactOpenReport_k17 rfl) TFnExactOpenReport_k17
def TFnExactOpenReport_19 : List (Nat × Sp) := (42, sp_rpRow) :: TFnExactOpenReport_18
theorem TFnExactOpenReport_k19 : EvOk Tryd.prog (tab TFnExactOpenReport_19) := tab_cons ok_rpRow TFnExactOpenReport_k18
def TFnExactOpenReport_20 : List (Nat × Sp) := (43, sp_l1All) :: TFnExactOpenReport_19
theorem TFnExactOpenReport_k20 : EvOk Tryd.prog (tab TFnExactOpenReport_20) := tab_cons (ok_l1All (ev := tab TFnExactOpenReport_19) TFnExactOpenReport_k19 rfl) TFnExactOpenReport_k19
def TFnExactOpenReport_21 : List (Nat × Sp) := (21, sp_repOk) :: TFnExactOpenReport_20
theorem TFnExactOpenReport_k21 : EvOk Tryd.prog (tab TFnExactOpenReport_21) := tab_cons (ok_rpGood (ev := tab TFnExactOpenReport_20) TFnExactOpenReport_k20 rfl rfl rfl rfl) TFnExactOpenReport_k20
def TFnExactOpenReport_22 : List (Nat × Sp) := (23, sp_l1Num) :: TFnExactOpenReport_21
theorem TFnExactOpenReport_k22 : EvOk Tryd.prog (tab TFnExactOpenReport_22) := tab_cons ok_l1Num TFnExactOpenReport_k21
def TFnExactOpenReport_23 : List (Nat × Sp) := (44, sp_l1Int) :: TFnExactOpenReport_22
theorem TFnExactOpenReport_k23 : EvOk Tryd.prog (tab TFnExactOpenReport_23) := tab_cons (ok_l1Int (ev := tab TFnExactOpenReport_22) TFnExactOpenReport_k22 rfl) TFnExactOpenReport_k22
def TFnExactOpenReport_24 : List (Nat × Sp) := (22, sp_rpText) :: TFnExactOpenReport_23
theorem TFnExactOpenReport_k24 : EvOk Tryd.prog (tab TFnExactOpenReport_24) := tab_cons (ok_rpText (ev := tab TFnExactOpenReport_23) TFnExactOpenReport_k23 rfl rfl) TFnExactOpenReport_k23
def TFnExactOpenReport_25 : List (Nat × Sp) := (11, sp_rpParse) :: TFnExactOpenReport_24
theorem TFnExactOpenReport_k25 : EvOk Tryd.prog (tab TFnExactOpenReport_25) := tab_cons (ok_rpParse (ev := tab TFnExactOpenReport_24) TFnExactOpenReport_k24 rfl rfl rfl rfl rfl) TFnExactOpenReport_k24
def TFnExactOpenReport_26 : List (Nat × Sp) := (24, sp_digest) :: TFnExactOpenReport_25
theorem TFnExactOpenReport_k26 : EvOk Tryd.prog (tab TFnExactOpenReport_26) := tab_cons ok_rpDigest TFnExactOpenReport_k25
def TFnExactOpenReport_27 : List (Nat × Sp) := (12, sp_rpSeal) :: TFnExactOpenReport_26
theorem TFnExactOpenReport_k27 : EvOk Tryd.prog (tab TFnExactOpenReport_27) := tab_cons (ok_rpSeal (ev := tab TFnExactOpenReport_26) TFnExactOpenReport_k26 rfl rfl rfl) TFnExactOpenReport_k26
def TFnExactOpenReport_28 : List (Nat × Sp) := (4, sp_OpenI) :: TFnExactOpenReport_27
theorem TFnExactOpenReport_k28 : EvOk Tryd.prog (tab TFnExactOpenReport_28) := tab_cons (ok_spec_OpenReport (ev := tab TFnExactOpenReport_27) TFnExactOpenReport_k27 rfl rfl rfl rfl) TFnExactOpenReport_k27
def TFnExactOpenReport_29 : List (Nat × Sp) := (13, sp_LastIndex) :: TFnExactOpenReport_28
theorem TFnExactOpenReport_k29 : EvOk Tryd.prog (tab TFnExactOpenReport_29) := tab_cons ok_LastIndex TFnExactOpenReport_k28
def TFnExactOpenReport_30 : List (Nat × Sp) := (28, sp_digest) :: TFnExactOpenReport_29
theorem TFnExactOpenReport_k30 : EvOk Tryd.prog (tab TFnExactOpenReport_30) := tab_cons ok_impl_digestOf TFnExactOpenReport_k29
def TFnExactOpenReport_31 : List (Nat × Sp) := (27, sp_Itoa) :: TFnExactOpenReport_30
theorem TFnExactOpenReport_k31 : EvOk Tryd.prog (tab TFnExactOpenReport_31) := tab_cons ok_Itoa TFnExactOpenReport_k30
def TFnExactOpenReport_32 : List (Nat × Sp) := (14, sp_sealed) :: TFnExactOpenReport_31
theorem TFnExactOpenReport_k32 : EvOk Tryd.prog (tab TFnExactOpenReport_32) := tab_cons (ok_sealed (ev := tab TFnExactOpenReport_31) TFnExactOpenReport_k31 rfl rfl) TFnExactOpenReport_k31
def TFnExactOpenReport_33 : List (Nat × Sp) := (47, sp_HasSuffix) :: TFnExactOpenReport_32
theorem TFnExactOpenReport_k33 : EvOk Tryd.prog (tab TFnExactOpenReport_33) := tab_cons ok_HasSuffix TFnExactOpenReport_k32
def TFnExactOpenReport_34 : List (Nat × Sp) := (30, sp_Split) :: TFnExactOpenReport_33
theorem TFnExactOpenReport_k34 : EvOk Tryd.prog (tab TFnExactOpenReport_34) := tab_cons ok_Split TFnExactOpenReport_k33
def TFnExactOpenReport_35 : List (Nat × Sp) := (29, sp_linesOf) :: TFnExactOpenReport_34
theorem TFnExactOpenReport_k35 : EvOk Tryd.prog (tab TFnExactOpenReport_35) := tab_cons (ok_linesOf (ev := tab TFnExactOpenReport_34) TFnExactOpenReport_k34 rfl rfl) TFnExactOpenReport_k34
def TFnExactOpenReport_36 : List (Nat × Sp) := (31, sp_decimal) :: TFnExactOpenReport_35
theorem TFnExactOpenReport_k36 : EvOk Tryd.prog (tab TFnExactOpenReport_36) := tab_cons ok_decimal TFnExactOpenReport_k35
def TFnExactOpenReport_37 : List (Nat × Sp) := (32, sp_Cut) :: TFnExactOpenReport_36
theorem TFnExactOpenReport_k37 : EvOk Tryd.prog (tab TFnExactOpenReport_37) := tab_cons ok_Cut TFnExactOpenReport_k36
def TFnExactOpenReport_38 : List (Nat × Sp) := (50, sp_CutPrefix) :: TFnExactOpenReport_37
theorem TFnExactOpenReport_k38 : EvOk Tryd.prog (tab TFnExactOpenReport_38) := tab_cons ok_CutPrefix TFnExactOpenReport_k37
def TFnExactOpenReport_39 : List (Nat × Sp) := (51, sp_signedDecimal) :: TFnExactOpenReport_38
theorem TFnExactOpenReport_k39 : EvOk Tryd.prog (tab TFnExactOpenReport_39) := tab_cons (ok_signedDecimal (ev := tab TFnExactOpenReport_38) TFnExactOpenReport_k38 rfl rfl) TFnExactOpenReport_k38
def TFnExactOpenReport_40 : List (Nat × Sp) := (33, sp_signedLine) :: TFnExactOpenReport_39
theorem TFnExactOpenReport_k40 : EvOk Tryd.prog (tab TFnExactOpenReport_40) := tab_cons (ok_signedLine (ev := tab TFnExactOpenReport_39) TFnExactOpenReport_k39 rfl rfl rfl) TFnExactOpenReport_k39
def TFnExactOpenReport_41 : List (Nat × Sp) := (61, sp_name) :: TFnExactOpenReport_40
theorem TFnExactOpenReport_k41 : EvOk Tryd.prog (tab TFnExactOpenReport_41) := tab_cons ok_isName TFnExactOpenReport_k40
def TFnExactOpenReport_42 : List (Nat × Sp) := (62, sp_rowNamed) :: TFnExactOpenReport_41
theorem TFnExactOpenReport_k42 : EvOk Tryd.prog (tab TFnExactOpenReport_42) := tab_cons ok_rowNamed TFnExactOpenReport_k41
def TFnExactOpenReport_43 : List (Nat × Sp) := (63, sp_isReported) :: TFnExactOpenReport_42
theorem TFnExactOpenReport_k43 : EvOk Tryd.prog (tab TFnExactOpenReport_43) := tab_cons ok_isReported TFnExactOpenReport_k42
def TFnExactOpenReport_44 : List (Nat × Sp) := (52, sp_repOk) :: TFnExactOpenReport_43
theorem TFnExactOpenReport_k44 : EvOk Tryd.prog (tab TFnExactOpenReport_44) := tab_cons (ok_IsReport (ev := tab TFnExactOpenReport_43) TFnExactOpenReport_k43 rfl rfl rfl) TFnExactOpenReport_k43
def TFnExactOpenReport_45 : List (Nat × Sp) := (34, sp_validReport) :: TFnExactOpenReport_44
theorem TFnExactOpenReport_k45 : EvOk Tryd.prog (tab TFnExactOpenReport_45) := tab_cons (ok_validReport (ev := tab TFnExactOpenReport_44) TFnExactOpenReport_k44 rfl) TFnExactOpenReport_k44
def TFnExactOpenReport_46 : List (Nat × Sp) := (15, sp_parseReport) :: TFnExactOpenReport_45
theorem TFnExactOpenReport_k46 : EvOk Tryd.prog (tab TFnExactOpenReport_46) := tab_cons (ok_parseReport (ev := tab TFnExactOpenReport_45) TFnExactOpenReport_k45 rfl rfl rfl rfl rfl rfl) TFnExactOpenReport_k45
def TFnExactOpenReport_47 : List (Nat × Sp) := (5, sp_OpenI) :: TFnExactOpenReport_46
theorem TFnExactOpenReport_k47 : EvOk Tryd.prog (tab TFnExactOpenReport_47) := tab_cons (ok_impl_OpenReport (ev := tab TFnExactOpenReport_46) TFnExactOpenReport_k46 rfl rfl rfl) TFnExactOpenReport_k46
theorem ok_FnExactOpenReport_all : FnOk Tryd.prog 3 sp_S1 := (ok_FnExactOpenReport (ev := tab TFnExactOpenReport_47) TFnExactOpenReport_k47 rfl rfl rfl rfl rfl)
end Go.Proofs.YtcobfgdbbcemkaaDoor.E
