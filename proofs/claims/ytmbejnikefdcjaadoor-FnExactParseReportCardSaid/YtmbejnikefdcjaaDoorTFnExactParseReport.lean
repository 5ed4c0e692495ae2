/- The table of the functions that FnExactParseReport reaches. -/
import Derived.Test.YtmbejnikefdcjaaDoorG1
import Derived.Test.YtmbejnikefdcjaaDoorG2
import Derived.Test.YtmbejnikefdcjaaDoorG3
import Derived.Test.YtmbejnikefdcjaaDoorG4
import Derived.Test.YtmbejnikefdcjaaDoorH1
import Derived.Test.YtmbejnikefdcjaaDoorH2
import Derived.Test.YtmbejnikefdcjaaDoorH3
import Derived.Test.YtmbejnikefdcjaaDoorH4
import Derived.Test.YtmbejnikefdcjaaDoorH5
import Derived.Test.YtmbejnikefdcjaaDoorH6
import Derived.Test.YtmbejnikefdcjaaDoorH7
import Derived.Test.YtmbejnikefdcjaaDoorJ1
import Derived.Test.YtmbejnikefdcjaaDoorJ2
import Derived.Test.YtmbejnikefdcjaaDoorJ3
import Derived.Test.YtmbejnikefdcjaaDoorN1
import Derived.Test.YtmbejnikefdcjaaDoorN2
import Derived.Test.YtmbejnikefdcjaaDoorN3
import Derived.Test.YtmbejnikefdcjaaDoorD1
import Derived.Test.YtmbejnikefdcjaaDoorP1
import Derived.Test.YtmbejnikefdcjaaDoorP3
import Derived.Test.YtmbejnikefdcjaaDoorP4
import Derived.Test.YtmbejnikefdcjaaDoorP5
import Derived.Test.YtmbejnikefdcjaaDoorP6
import Derived.Test.YtmbejnikefdcjaaDoorP7
import Derived.Test.YtmbejnikefdcjaaDoorP8
namespace Go.Proofs.YtmbejnikefdcjaaDoor.E
open Go Go.Proofs
def TFnExactParseReport_0 : List (Nat × Sp) := []
theorem TFnExactParseReport_k0 : EvOk Tryd.prog (tab TFnExactParseReport_0) := tab_nil
def TFnExactParseReport_1 : List (Nat × Sp) := (43, sp_eqIntS) :: TFnExactParseReport_0
theorem TFnExactParseReport_k1 : EvOk Tryd.prog (tab TFnExactParseReport_1) := tab_cons ok_eqIntS TFnExactParseReport_k0
def TFnExactParseReport_2 : List (Nat × Sp) := (26, sp_eqRow) :: TFnExactParseReport_1
theorem TFnExactParseReport_k2 : EvOk Tryd.prog (tab TFnExactParseReport_2) := tab_cons (ok_eqRow (ev := tab TFnExactParseReport_1) TFnExactParseReport_k1 rfl) TFnExactParseReport_k1
def TFnExactParseReport_3 : List (Nat × Sp) := (13, sp_eqRowS) :: TFnExactParseReport_2
theorem TFnExactParseReport_k3 : EvOk Tryd.prog (tab TFnExactParseReport_3) := tab_cons (ok_eqRowS (ev := tab TFnExactParseReport_2) TFnExactParseReport_k2 rfl) TFnExactParseReport_k2
def TFnExactParseReport_4 : List (Nat × Sp) := (6, sp_eqReport) :: TFnExactParseReport_3
theorem TFnExactParseReport_k4 : EvOk Tryd.prog (tab TFnExactParseReport_4) := tab_cons (ok_eqReport (ev := tab TFnExactParseReport_3) TFnExactParseReport_k3 rfl) TFnExactParseReport_k3
def TFnExactParseReport_5 : List (Nat × Sp) := (28, sp_markIntS) :: TFnExactParseReport_4
theorem TFnExactParseReport_k5 : EvOk Tryd.prog (tab TFnExactParseReport_5) := tab_cons ok_markIntS TFnExactParseReport_k4
def TFnExactParseReport_6 : List (Nat × Sp) := (27, sp_markText) :: TFnExactParseReport_5
theorem TFnExactParseReport_k6 : EvOk Tryd.prog (tab TFnExactParseReport_6) := tab_cons ok_markText TFnExactParseReport_k5
def TFnExactParseReport_7 : List (Nat × Sp) := (14, sp_markRowS) :: TFnExactParseReport_6
theorem TFnExactParseReport_k7 : EvOk Tryd.prog (tab TFnExactParseReport_7) := tab_cons (ok_markRowS (ev := tab TFnExactParseReport_6) TFnExactParseReport_k6 rfl rfl) TFnExactParseReport_k6
def TFnExactParseReport_8 : List (Nat × Sp) := (7, sp_markReport) :: TFnExactParseReport_7
theorem TFnExactParseReport_k8 : EvOk Tryd.prog (tab TFnExactParseReport_8) := tab_cons (ok_markReport (ev := tab TFnExactParseReport_7) TFnExactParseReport_k7 rfl) TFnExactParseReport_k7
def TFnExactParseReport_9 : List (Nat × Sp) := (29, sp_heldIntS) :: TFnExactParseReport_8
theorem TFnExactParseReport_k9 : EvOk Tryd.prog (tab TFnExactParseReport_9) := tab_cons ok_heldIntS TFnExactParseReport_k8
def TFnExactParseReport_10 : List (Nat × Sp) := (15, sp_heldRowS) :: TFnExactParseReport_9
theorem TFnExactParseReport_k10 : EvOk Tryd.prog (tab TFnExactParseReport_10) := tab_cons (ok_heldRowS (ev := tab TFnExactParseReport_9) TFnExactParseReport_k9 rfl rfl) TFnExactParseReport_k9
def TFnExactParseReport_11 : List (Nat × Sp) := (8, sp_heldReport) :: TFnExactParseReport_10
theorem TFnExactParseReport_k11 : EvOk Tryd.prog (tab TFnExactParseReport_11) := tab_cons (ok_heldReport (ev := tab TFnExactParseReport_10) TFnExactParseReport_k10 rfl) TFnExactParseReport_k10
def TFnExactParseReport_12 : List (Nat × Sp) := (9, sp_rpLong) :: TFnExactParseReport_11
theorem TFnExactParseReport_k12 : EvOk Tryd.prog (tab TFnExactParseReport_12) := tab_cons ok_rpLong TFnExactParseReport_k11
def TFnExactParseReport_13 : List (Nat × Sp) := (10, sp_l1Split) :: TFnExactParseReport_12
theorem TFnExactParseReport_k13 : EvOk Tryd.prog (tab TFnExactParseReport_13) := tab_cons ok_l1Split TFnExactParseReport_k12
def TFnExactParseReport_14 : List (Nat × Sp) := (30, sp_l1In) :: TFnExactParseReport_13
theorem TFnExactParseReport_k14 : EvOk Tryd.prog (tab TFnExactParseReport_14) := tab_cons ok_l1In TFnExactParseReport_k13
def TFnExactParseReport_15 : List (Nat × Sp) := (16, sp_l1Read) :: TFnExactParseReport_14
theorem TFnExactParseReport_k15 : EvOk Tryd.prog (tab TFnExactParseReport_15) := tab_cons (ok_l1Read (ev := tab TFnExactParseReport_14) TFnExactParseReport_k14 rfl) TFnExactParseReport_k14
def TFnExactParseReport_16 : List (Nat × Sp) := (31, sp_spNumber) :: TFnExactParseReport_15
theorem TFnExactParseReport_k16 : EvOk Tryd.prog (tab TFnExactParseReport_16) := tab_cons (ok_spNumber (ev := tab TFnExactParseReport_15) TFnExactParseReport_k15 rfl) TFnExactParseReport_k15
def TFnExactParseReport_17 : List (Nat × Sp) := (17, sp_rpNumber) :: TFnExactParseReport_16
theorem TFnExactParseReport_k17 : EvOk Tryd.prog (tab TFnExactParseReport_17) := tab_cons (ok_rpNumber (ev := tab TFnExactParseReport_16) TFnExactParseReport_k16 rfl) TFnExactParseReport_k16
def TFnExactParseReport_18 : List (Nat × Sp) := (32, sp_name) :: TFnExactParseReport_17
theorem TFnExactParseReport_k18 : EvOk Tryd.prog (tab TFnExactParseReport_18) := tab_cons (ok_rpName (ev := tab TFnExactParseReport_17) TFnExactParseReport_k17 rfl) TFnExactParseReport_k17
def TFnExactParseReport_19 : List (Nat × Sp) := (33, sp_rpRow) :: TFnExactParseReport_18
theorem TFnExactParseReport_k19 : EvOk Tryd.prog (tab TFnExactParseReport_19) := tab_cons ok_rpRow TFnExactParseReport_k18
def TFnExactParseReport_20 : List (Nat × Sp) := (34, sp_l1All) :: TFnExactParseReport_19
theorem TFnExactParseReport_k20 : EvOk Tryd.prog (tab TFnExactParseReport_20) := tab_cons (ok_l1All (ev := tab TFnExactParseReport_19) TFnExactParseReport_k19 rfl) TFnExactParseReport_k19
def TFnExactParseReport_21 : List (Nat × Sp) := (18, sp_repOk) :: TFnExactParseReport_20
theorem TFnExactParseReport_k21 : EvOk Tryd.prog (tab TFnExactParseReport_21) := tab_cons (ok_rpGood (ev := tab TFnExactParseReport_20) TFnExactParseReport_k20 rfl rfl rfl rfl) TFnExactParseReport_k20
def TFnExactParseReport_22 : List (Nat × Sp) := (35, sp_l1Num) :: TFnExactParseReport_21
theorem TFnExactParseReport_k22 : EvOk Tryd.prog (tab TFnExactParseReport_22) := tab_cons ok_l1Num TFnExactParseReport_k21
def TFnExactParseReport_23 : List (Nat × Sp) := (36, sp_l1Int) :: TFnExactParseReport_22
theorem TFnExactParseReport_k23 : EvOk Tryd.prog (tab TFnExactParseReport_23) := tab_cons (ok_l1Int (ev := tab TFnExactParseReport_22) TFnExactParseReport_k22 rfl) TFnExactParseReport_k22
def TFnExactParseReport_24 : List (Nat × Sp) := (19, sp_rpText) :: TFnExactParseReport_23
theorem TFnExactParseReport_k24 : EvOk Tryd.prog (tab TFnExactParseReport_24) := tab_cons (ok_rpText (ev := tab TFnExactParseReport_23) TFnExactParseReport_k23 rfl rfl) TFnExactParseReport_k23
def TFnExactParseReport_25 : List (Nat × Sp) := (11, sp_rpParse) :: TFnExactParseReport_24
theorem TFnExactParseReport_k25 : EvOk Tryd.prog (tab TFnExactParseReport_25) := tab_cons (ok_rpParse (ev := tab TFnExactParseReport_24) TFnExactParseReport_k24 rfl rfl rfl rfl rfl) TFnExactParseReport_k24
def TFnExactParseReport_26 : List (Nat × Sp) := (4, sp_ParseI) :: TFnExactParseReport_25
theorem TFnExactParseReport_k26 : EvOk Tryd.prog (tab TFnExactParseReport_26) := tab_cons (ok_spec_ParseReport (ev := tab TFnExactParseReport_25) TFnExactParseReport_k25 rfl rfl rfl) TFnExactParseReport_k25
def TFnExactParseReport_27 : List (Nat × Sp) := (37, sp_HasSuffix) :: TFnExactParseReport_26
theorem TFnExactParseReport_k27 : EvOk Tryd.prog (tab TFnExactParseReport_27) := tab_cons ok_HasSuffix TFnExactParseReport_k26
def TFnExactParseReport_28 : List (Nat × Sp) := (21, sp_Split) :: TFnExactParseReport_27
theorem TFnExactParseReport_k28 : EvOk Tryd.prog (tab TFnExactParseReport_28) := tab_cons ok_Split TFnExactParseReport_k27
def TFnExactParseReport_29 : List (Nat × Sp) := (20, sp_linesOf) :: TFnExactParseReport_28
theorem TFnExactParseReport_k29 : EvOk Tryd.prog (tab TFnExactParseReport_29) := tab_cons (ok_linesOf (ev := tab TFnExactParseReport_28) TFnExactParseReport_k28 rfl rfl) TFnExactParseReport_k28
def TFnExactParseReport_30 : List (Nat × Sp) := (22, sp_decimal) :: TFnExactParseReport_29
theorem TFnExactParseReport_k30 : EvOk Tryd.prog (tab TFnExactParseReport_30) := tab_cons ok_decimal TFnExactParseReport_k29
def TFnExactParseReport_31 : List (Nat × Sp) := (23, sp_Cut) :: TFnExactParseReport_30
theorem TFnExactParseReport_k31 : EvOk Tryd.prog (tab TFnExactParseReport_31) := tab_cons ok_Cut TFnExactParseReport_k30
def TFnExactParseReport_32 : List (Nat × Sp) := (40, sp_CutPrefix) :: TFnExactParseReport_31
theorem TFnExactParseReport_k32 : EvOk Tryd.prog (tab TFnExactParseReport_32) := tab_cons ok_CutPrefix TFnExactParseReport_k31
def TFnExactParseReport_33 : List (Nat × Sp) := (41, sp_signedDecimal) :: TFnExactParseReport_32
theorem TFnExactParseReport_k33 : EvOk Tryd.prog (tab TFnExactParseReport_33) := tab_cons (ok_signedDecimal (ev := tab TFnExactParseReport_32) TFnExactParseReport_k32 rfl rfl) TFnExactParseReport_k32
def TFnExactParseReport_34 : List (Nat × Sp) := (24, sp_signedLine) :: TFnExactParseReport_33
theorem TFnExactParseReport_k34 : EvOk Tryd.prog (tab TFnExactParseReport_34) := tab_cons (ok_signedLine (ev := tab TFnExactParseReport_33) TFnExactParseReport_k33 rfl rfl rfl) TFnExactParseReport_k33
def TFnExactParseReport_35 : List (Nat × Sp) := (50, sp_name) :: TFnExactParseReport_34
theorem TFnExactParseReport_k35 : EvOk Tryd.prog (tab TFnExactParseReport_35) := tab_cons ok_isName TFnExactParseReport_k34
def TFnExactParseReport_36 : List (Nat × Sp) := (51, sp_rowNamed) :: TFnExactParseReport_35
theorem TFnExactParseReport_k36 : EvOk Tryd.prog (tab TFnExactParseReport_36) := tab_cons ok_rowNamed TFnExactParseReport_k35
def TFnExactParseReport_37 : List (Nat × Sp) := (52, sp_isReported) :: TFnExactParseReport_36
theorem TFnExactParseReport_k37 : EvOk Tryd.prog (tab TFnExactParseReport_37) := tab_cons ok_isReported TFnExactParseReport_k36
def TFnExactParseReport_38 : List (Nat × Sp) := (42, sp_repOk) :: TFnExactParseReport_37
theorem TFnExactParseReport_k38 : EvOk Tryd.prog (tab TFnExactParseReport_38) := tab_cons (ok_IsReport (ev := tab TFnExactParseReport_37) TFnExactParseReport_k37 rfl rfl rfl) TFnExactParseReport_k37
def TFnExactParseReport_39 : List (Nat × Sp) := (25, sp_validReport) :: TFnExactParseReport_38
theorem TFnExactParseReport_k39 : EvOk Tryd.prog (tab TFnExactParseReport_39) := tab_cons (ok_validReport (ev := tab TFnExactParseReport_38) TFnExactParseReport_k38 rfl) TFnExactParseReport_k38
def TFnExactParseReport_40 : List (Nat × Sp) := (12, sp_parseReport) :: TFnExactParseReport_39
theorem TFnExactParseReport_k40 : EvOk Tryd.prog (tab TFnExactParseReport_40) := tab_cons (ok_parseReport (ev := tab TFnExactParseReport_39) TFnExactParseReport_k39 rfl rfl rfl rfl rfl rfl) TFnExactParseReport_k39
def TFnExactParseReport_41 : List (Nat × Sp) := (5, sp_ParseI) :: TFnExactParseReport_40
theorem TFnExactParseReport_k41 : EvOk Tryd.prog (tab TFnExactParseReport_41) := tab_cons (ok_impl_ParseReport (ev := tab TFnExactParseReport_40) TFnExactParseReport_k40 rfl) TFnExactParseReport_k40
theorem ok_FnExactParseReport_all : FnOk Tryd.prog 3 sp_S1 := (ok_FnExactParseReport (ev := tab TFnExactParseReport_41) TFnExactParseReport_k41 rfl rfl rfl rfl rfl)
end Go.Proofs.YtmbejnikefdcjaaDoor.E
