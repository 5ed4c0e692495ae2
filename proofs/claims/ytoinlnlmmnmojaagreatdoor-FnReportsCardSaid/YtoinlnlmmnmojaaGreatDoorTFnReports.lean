/- The table of the functions that FnReports reaches. -/
import Derived.Test.YtoinlnlmmnmojaaGreatDoorG1
import Derived.Test.YtoinlnlmmnmojaaGreatDoorG2
import Derived.Test.YtoinlnlmmnmojaaGreatDoorG3
import Derived.Test.YtoinlnlmmnmojaaGreatDoorG4
import Derived.Test.YtoinlnlmmnmojaaGreatDoorH1
import Derived.Test.YtoinlnlmmnmojaaGreatDoorH2
import Derived.Test.YtoinlnlmmnmojaaGreatDoorH3
import Derived.Test.YtoinlnlmmnmojaaGreatDoorH4
import Derived.Test.YtoinlnlmmnmojaaGreatDoorH5
import Derived.Test.YtoinlnlmmnmojaaGreatDoorH6
import Derived.Test.YtoinlnlmmnmojaaGreatDoorH7
import Derived.Test.YtoinlnlmmnmojaaGreatDoorH8
import Derived.Test.YtoinlnlmmnmojaaGreatDoorH10
import Derived.Test.YtoinlnlmmnmojaaGreatDoorN0
import Derived.Test.YtoinlnlmmnmojaaGreatDoorN1
import Derived.Test.YtoinlnlmmnmojaaGreatDoorN2
import Derived.Test.YtoinlnlmmnmojaaGreatDoorN3
import Derived.Test.YtoinlnlmmnmojaaGreatDoorD1
import Derived.Test.YtoinlnlmmnmojaaGreatDoorJ1
import Derived.Test.YtoinlnlmmnmojaaGreatDoorJ2
import Derived.Test.YtoinlnlmmnmojaaGreatDoorJ3
import Derived.Test.YtoinlnlmmnmojaaGreatDoorP1
import Derived.Test.YtoinlnlmmnmojaaGreatDoorP3
import Derived.Test.YtoinlnlmmnmojaaGreatDoorP4
import Derived.Test.YtoinlnlmmnmojaaGreatDoorP5
import Derived.Test.YtoinlnlmmnmojaaGreatDoorP6
import Derived.Test.YtoinlnlmmnmojaaGreatDoorP7
import Derived.Test.YtoinlnlmmnmojaaGreatDoorP8
import Derived.Test.YtoinlnlmmnmojaaGreatDoorQ1
import Derived.Test.YtoinlnlmmnmojaaGreatDoorQ2
import Derived.Test.YtoinlnlmmnmojaaGreatDoorR1
import Derived.Test.YtoinlnlmmnmojaaGreatDoorR2
import Derived.Test.YtoinlnlmmnmojaaGreatDoorR3
import Derived.Test.YtoinlnlmmnmojaaGreatDoorR4
import Derived.Test.YtoinlnlmmnmojaaGreatDoorR5
import Derived.Test.YtoinlnlmmnmojaaGreatDoorR6
import Derived.Test.YtoinlnlmmnmojaaGreatDoorR7
import Derived.Test.YtoinlnlmmnmojaaGreatDoorR8
import Derived.Test.YtoinlnlmmnmojaaGreatDoorR10
import Derived.Test.YtoinlnlmmnmojaaGreatDoorS1
import Derived.Test.YtoinlnlmmnmojaaGreatDoorS2
import Derived.Test.YtoinlnlmmnmojaaGreatDoorS3
import Derived.Test.YtoinlnlmmnmojaaGreatDoorT0
import Derived.Test.YtoinlnlmmnmojaaGreatDoorS4
namespace Go.Proofs.YtoinlnlmmnmojaaGreatDoor.E
open Go Go.Proofs
def TFnReports_0 : List (Nat × Sp) := []
theorem TFnReports_k0 : EvOk Tryz.prog (tab TFnReports_0) := tab_nil
def TFnReports_1 : List (Nat × Sp) := (4, sp_big) :: TFnReports_0
theorem TFnReports_k1 : EvOk Tryz.prog (tab TFnReports_1) := tab_cons ok_big TFnReports_k0
def TFnReports_2 : List (Nat × Sp) := (70, sp_next) :: TFnReports_1
theorem TFnReports_k2 : EvOk Tryz.prog (tab TFnReports_2) := tab_cons ok_next TFnReports_k1
def TFnReports_3 : List (Nat × Sp) := (47, sp_pick) :: TFnReports_2
theorem TFnReports_k3 : EvOk Tryz.prog (tab TFnReports_3) := tab_cons (ok_pick (ev := tab TFnReports_2) TFnReports_k2 rfl) TFnReports_k2
def TFnReports_4 : List (Nat × Sp) := (48, sp_of) :: TFnReports_3
theorem TFnReports_k4 : EvOk Tryz.prog (tab TFnReports_4) := tab_cons (ok_of (ev := tab TFnReports_3) TFnReports_k3 rfl) TFnReports_k3
def TFnReports_5 : List (Nat × Sp) := (67, sp_among) :: TFnReports_4
theorem TFnReports_k5 : EvOk Tryz.prog (tab TFnReports_5) := tab_cons (ok_among (ev := tab TFnReports_4) TFnReports_k4 rfl) TFnReports_k4
def TFnReports_6 : List (Nat × Sp) := (66, sp_row) :: TFnReports_5
theorem TFnReports_k6 : EvOk Tryz.prog (tab TFnReports_6) := tab_cons (ok_row (ev := tab TFnReports_5) TFnReports_k5 rfl rfl rfl) TFnReports_k5
def TFnReports_7 : List (Nat × Sp) := (42, sp_one) :: TFnReports_6
theorem TFnReports_k7 : EvOk Tryz.prog (tab TFnReports_7) := tab_cons (ok_one (ev := tab TFnReports_6) TFnReports_k6 rfl) TFnReports_k6
def TFnReports_8 : List (Nat × Sp) := (54, sp_rpRow) :: TFnReports_7
theorem TFnReports_k8 : EvOk Tryz.prog (tab TFnReports_8) := tab_cons ok_rpRow TFnReports_k7
def TFnReports_9 : List (Nat × Sp) := (56, sp_l1Num) :: TFnReports_8
theorem TFnReports_k9 : EvOk Tryz.prog (tab TFnReports_9) := tab_cons ok_l1Num TFnReports_k8
def TFnReports_10 : List (Nat × Sp) := (41, sp_report) :: TFnReports_9
theorem TFnReports_k10 : EvOk Tryz.prog (tab TFnReports_10) := tab_cons (ok_report (ev := tab TFnReports_9) TFnReports_k9 rfl rfl rfl rfl rfl rfl rfl) TFnReports_k9
def TFnReports_11 : List (Nat × Sp) := (27, sp_DrawIsReport) :: TFnReports_10
theorem TFnReports_k11 : EvOk Tryz.prog (tab TFnReports_11) := tab_cons (ok_DrawIsReport (ev := tab TFnReports_10) TFnReports_k10 rfl) TFnReports_k10
def TFnReports_12 : List (Nat × Sp) := (5, sp_DrawIsReport) :: TFnReports_11
theorem TFnReports_k12 : EvOk Tryz.prog (tab TFnReports_12) := tab_cons (ok_DrawReportText (ev := tab TFnReports_11) TFnReports_k11 rfl) TFnReports_k11
def TFnReports_13 : List (Nat × Sp) := (57, sp_l1Int) :: TFnReports_12
theorem TFnReports_k13 : EvOk Tryz.prog (tab TFnReports_13) := tab_cons (ok_l1Int (ev := tab TFnReports_12) TFnReports_k12 rfl) TFnReports_k12
def TFnReports_14 : List (Nat × Sp) := (30, sp_rpText) :: TFnReports_13
theorem TFnReports_k14 : EvOk Tryz.prog (tab TFnReports_14) := tab_cons (ok_rpText (ev := tab TFnReports_13) TFnReports_k13 rfl rfl) TFnReports_k13
def TFnReports_15 : List (Nat × Sp) := (50, sp_digest) :: TFnReports_14
theorem TFnReports_k15 : EvOk Tryz.prog (tab TFnReports_15) := tab_cons ok_rpDigest TFnReports_k14
def TFnReports_16 : List (Nat × Sp) := (36, sp_rpSeal) :: TFnReports_15
theorem TFnReports_k16 : EvOk Tryz.prog (tab TFnReports_16) := tab_cons (ok_rpSeal (ev := tab TFnReports_15) TFnReports_k15 rfl rfl rfl) TFnReports_k15
def TFnReports_17 : List (Nat × Sp) := (43, sp_spoilt) :: TFnReports_16
theorem TFnReports_k17 : EvOk Tryz.prog (tab TFnReports_17) := tab_cons (ok_spoilt (ev := tab TFnReports_16) TFnReports_k16 rfl) TFnReports_k16
def TFnReports_18 : List (Nat × Sp) := (20, sp_DrawOpenReport) :: TFnReports_17
theorem TFnReports_k18 : EvOk Tryz.prog (tab TFnReports_18) := tab_cons (ok_DrawOpenReport (ev := tab TFnReports_17) TFnReports_k17 rfl rfl rfl rfl) TFnReports_k17
def TFnReports_19 : List (Nat × Sp) := (22, sp_DrawParseReport) :: TFnReports_18
theorem TFnReports_k19 : EvOk Tryz.prog (tab TFnReports_19) := tab_cons (ok_DrawParseReport (ev := tab TFnReports_18) TFnReports_k18 rfl rfl rfl rfl rfl) TFnReports_k18
def TFnReports_20 : List (Nat × Sp) := (24, sp_DrawDigestOf) :: TFnReports_19
theorem TFnReports_k20 : EvOk Tryz.prog (tab TFnReports_20) := tab_cons (ok_DrawDigestOf (ev := tab TFnReports_19) TFnReports_k19 rfl rfl rfl rfl) TFnReports_k19
def TFnReports_21 : List (Nat × Sp) := (31, sp_name) :: TFnReports_20
theorem TFnReports_k21 : EvOk Tryz.prog (tab TFnReports_21) := tab_cons ok_isName TFnReports_k20
def TFnReports_22 : List (Nat × Sp) := (32, sp_rowNamed) :: TFnReports_21
theorem TFnReports_k22 : EvOk Tryz.prog (tab TFnReports_22) := tab_cons ok_rowNamed TFnReports_k21
def TFnReports_23 : List (Nat × Sp) := (33, sp_isReported) :: TFnReports_22
theorem TFnReports_k23 : EvOk Tryz.prog (tab TFnReports_23) := tab_cons ok_isReported TFnReports_k22
def TFnReports_24 : List (Nat × Sp) := (8, sp_repOk) :: TFnReports_23
theorem TFnReports_k24 : EvOk Tryz.prog (tab TFnReports_24) := tab_cons (ok_IsReport (ev := tab TFnReports_23) TFnReports_k23 rfl rfl rfl) TFnReports_k23
def TFnReports_25 : List (Nat × Sp) := (51, sp_Itoa) :: TFnReports_24
theorem TFnReports_k25 : EvOk Tryz.prog (tab TFnReports_25) := tab_cons ok_Itoa TFnReports_k24
def TFnReports_26 : List (Nat × Sp) := (72, sp_Join) :: TFnReports_25
theorem TFnReports_k26 : EvOk Tryz.prog (tab TFnReports_26) := tab_cons ok_Join TFnReports_k25
def TFnReports_27 : List (Nat × Sp) := (52, sp_numbersText) :: TFnReports_26
theorem TFnReports_k27 : EvOk Tryz.prog (tab TFnReports_27) := tab_cons (ok_numbersText (ev := tab TFnReports_26) TFnReports_k26 rfl rfl) TFnReports_k26
def TFnReports_28 : List (Nat × Sp) := (28, sp_reportText) :: TFnReports_27
theorem TFnReports_k28 : EvOk Tryz.prog (tab TFnReports_28) := tab_cons (ok_reportText (ev := tab TFnReports_27) TFnReports_k27 rfl rfl) TFnReports_k27
def TFnReports_29 : List (Nat × Sp) := (6, sp_ReportText) :: TFnReports_28
theorem TFnReports_k29 : EvOk Tryz.prog (tab TFnReports_29) := tab_cons (ok_impl_ReportText (ev := tab TFnReports_28) TFnReports_k28 rfl rfl) TFnReports_k28
def TFnReports_30 : List (Nat × Sp) := (49, sp_digest) :: TFnReports_29
theorem TFnReports_k30 : EvOk Tryz.prog (tab TFnReports_30) := tab_cons ok_impl_digestOf TFnReports_k29
def TFnReports_31 : List (Nat × Sp) := (35, sp_sealed) :: TFnReports_30
theorem TFnReports_k31 : EvOk Tryz.prog (tab TFnReports_31) := tab_cons (ok_sealed (ev := tab TFnReports_30) TFnReports_k30 rfl rfl) TFnReports_k30
def TFnReports_32 : List (Nat × Sp) := (10, sp_SealReport) :: TFnReports_31
theorem TFnReports_k32 : EvOk Tryz.prog (tab TFnReports_32) := tab_cons (ok_impl_SealReport (ev := tab TFnReports_31) TFnReports_k31 rfl rfl rfl) TFnReports_k31
def TFnReports_33 : List (Nat × Sp) := (73, sp_HasSuffix) :: TFnReports_32
theorem TFnReports_k33 : EvOk Tryz.prog (tab TFnReports_33) := tab_cons ok_HasSuffix TFnReports_k32
def TFnReports_34 : List (Nat × Sp) := (59, sp_Split) :: TFnReports_33
theorem TFnReports_k34 : EvOk Tryz.prog (tab TFnReports_34) := tab_cons ok_Split TFnReports_k33
def TFnReports_35 : List (Nat × Sp) := (58, sp_linesOf) :: TFnReports_34
theorem TFnReports_k35 : EvOk Tryz.prog (tab TFnReports_35) := tab_cons (ok_linesOf (ev := tab TFnReports_34) TFnReports_k34 rfl rfl) TFnReports_k34
def TFnReports_36 : List (Nat × Sp) := (60, sp_decimal) :: TFnReports_35
theorem TFnReports_k36 : EvOk Tryz.prog (tab TFnReports_36) := tab_cons ok_decimal TFnReports_k35
def TFnReports_37 : List (Nat × Sp) := (61, sp_Cut) :: TFnReports_36
theorem TFnReports_k37 : EvOk Tryz.prog (tab TFnReports_37) := tab_cons ok_Cut TFnReports_k36
def TFnReports_38 : List (Nat × Sp) := (76, sp_CutPrefix) :: TFnReports_37
theorem TFnReports_k38 : EvOk Tryz.prog (tab TFnReports_38) := tab_cons ok_CutPrefix TFnReports_k37
def TFnReports_39 : List (Nat × Sp) := (77, sp_signedDecimal) :: TFnReports_38
theorem TFnReports_k39 : EvOk Tryz.prog (tab TFnReports_39) := tab_cons (ok_signedDecimal (ev := tab TFnReports_38) TFnReports_k38 rfl rfl) TFnReports_k38
def TFnReports_40 : List (Nat × Sp) := (62, sp_signedLine) :: TFnReports_39
theorem TFnReports_k40 : EvOk Tryz.prog (tab TFnReports_40) := tab_cons (ok_signedLine (ev := tab TFnReports_39) TFnReports_k39 rfl rfl rfl) TFnReports_k39
def TFnReports_41 : List (Nat × Sp) := (63, sp_validReport) :: TFnReports_40
theorem TFnReports_k41 : EvOk Tryz.prog (tab TFnReports_41) := tab_cons (ok_validReport (ev := tab TFnReports_40) TFnReports_k40 rfl) TFnReports_k40
def TFnReports_42 : List (Nat × Sp) := (34, sp_parseReport) :: TFnReports_41
theorem TFnReports_k42 : EvOk Tryz.prog (tab TFnReports_42) := tab_cons (ok_parseReport (ev := tab TFnReports_41) TFnReports_k41 rfl rfl rfl rfl rfl rfl) TFnReports_k41
def TFnReports_43 : List (Nat × Sp) := (9, sp_Parse) :: TFnReports_42
theorem TFnReports_k43 : EvOk Tryz.prog (tab TFnReports_43) := tab_cons (ok_impl_Parse (ev := tab TFnReports_42) TFnReports_k42 rfl) TFnReports_k42
def TFnReports_44 : List (Nat × Sp) := (37, sp_LastIndex) :: TFnReports_43
theorem TFnReports_k44 : EvOk Tryz.prog (tab TFnReports_44) := tab_cons ok_LastIndex TFnReports_k43
def TFnReports_45 : List (Nat × Sp) := (12, sp_Open) :: TFnReports_44
theorem TFnReports_k45 : EvOk Tryz.prog (tab TFnReports_45) := tab_cons (ok_impl_Open (ev := tab TFnReports_44) TFnReports_k44 rfl rfl rfl) TFnReports_k44
def TFnReports_46 : List (Nat × Sp) := (25, sp_DigestOf) :: TFnReports_45
theorem TFnReports_k46 : EvOk Tryz.prog (tab TFnReports_46) := tab_cons (ok_impl_DigestOf (ev := tab TFnReports_45) TFnReports_k45 rfl) TFnReports_k45
def TFnReports_47 : List (Nat × Sp) := (14, sp_SumRow) :: TFnReports_46
theorem TFnReports_k47 : EvOk Tryz.prog (tab TFnReports_47) := tab_cons (ok_impl_SumRow (ev := tab TFnReports_46) TFnReports_k46 rfl rfl) TFnReports_k46
def TFnReports_48 : List (Nat × Sp) := (17, sp_ColumnOf) :: TFnReports_47
theorem TFnReports_k48 : EvOk Tryz.prog (tab TFnReports_48) := tab_cons (ok_impl_ColumnOf (ev := tab TFnReports_47) TFnReports_k47 rfl) TFnReports_k47
def TFnReports_49 : List (Nat × Sp) := (40, sp_toRow) :: TFnReports_48
theorem TFnReports_k49 : EvOk Tryz.prog (tab TFnReports_49) := tab_cons ok_copyRow TFnReports_k48
def TFnReports_50 : List (Nat × Sp) := (19, sp_RowNamed) :: TFnReports_49
theorem TFnReports_k50 : EvOk Tryz.prog (tab TFnReports_50) := tab_cons (ok_impl_RowNamed (ev := tab TFnReports_49) TFnReports_k49 rfl rfl rfl) TFnReports_k49
def TFnReports_51 : List (Nat × Sp) := (55, sp_l1In) :: TFnReports_50
theorem TFnReports_k51 : EvOk Tryz.prog (tab TFnReports_51) := tab_cons ok_l1In TFnReports_k50
def TFnReports_52 : List (Nat × Sp) := (53, sp_name) :: TFnReports_51
theorem TFnReports_k52 : EvOk Tryz.prog (tab TFnReports_52) := tab_cons (ok_rpName (ev := tab TFnReports_51) TFnReports_k51 rfl) TFnReports_k51
def TFnReports_53 : List (Nat × Sp) := (38, sp_l1All) :: TFnReports_52
theorem TFnReports_k53 : EvOk Tryz.prog (tab TFnReports_53) := tab_cons (ok_l1All (ev := tab TFnReports_52) TFnReports_k52 rfl) TFnReports_k52
def TFnReports_54 : List (Nat × Sp) := (29, sp_repOk) :: TFnReports_53
theorem TFnReports_k54 : EvOk Tryz.prog (tab TFnReports_54) := tab_cons (ok_rpGood (ev := tab TFnReports_53) TFnReports_k53 rfl rfl rfl rfl) TFnReports_k53
def TFnReports_55 : List (Nat × Sp) := (7, sp_ReportText) :: TFnReports_54
theorem TFnReports_k55 : EvOk Tryz.prog (tab TFnReports_55) := tab_cons (ok_spec_ReportText (ev := tab TFnReports_54) TFnReports_k54 rfl rfl) TFnReports_k54
def TFnReports_56 : List (Nat × Sp) := (11, sp_SealReport) :: TFnReports_55
theorem TFnReports_k56 : EvOk Tryz.prog (tab TFnReports_56) := tab_cons (ok_spec_SealReport (ev := tab TFnReports_55) TFnReports_k55 rfl rfl) TFnReports_k55
def TFnReports_57 : List (Nat × Sp) := (45, sp_rpLong) :: TFnReports_56
theorem TFnReports_k57 : EvOk Tryz.prog (tab TFnReports_57) := tab_cons ok_rpLong TFnReports_k56
def TFnReports_58 : List (Nat × Sp) := (44, sp_l1Split) :: TFnReports_57
theorem TFnReports_k58 : EvOk Tryz.prog (tab TFnReports_58) := tab_cons ok_l1Split TFnReports_k57
def TFnReports_59 : List (Nat × Sp) := (68, sp_l1Read) :: TFnReports_58
theorem TFnReports_k59 : EvOk Tryz.prog (tab TFnReports_59) := tab_cons (ok_l1Read (ev := tab TFnReports_58) TFnReports_k58 rfl) TFnReports_k58
def TFnReports_60 : List (Nat × Sp) := (79, sp_spNumber) :: TFnReports_59
theorem TFnReports_k60 : EvOk Tryz.prog (tab TFnReports_60) := tab_cons (ok_spNumber (ev := tab TFnReports_59) TFnReports_k59 rfl) TFnReports_k59
def TFnReports_61 : List (Nat × Sp) := (69, sp_rpNumber) :: TFnReports_60
theorem TFnReports_k61 : EvOk Tryz.prog (tab TFnReports_61) := tab_cons (ok_rpNumber (ev := tab TFnReports_60) TFnReports_k60 rfl) TFnReports_k60
def TFnReports_62 : List (Nat × Sp) := (46, sp_rpParse) :: TFnReports_61
theorem TFnReports_k62 : EvOk Tryz.prog (tab TFnReports_62) := tab_cons (ok_rpParse (ev := tab TFnReports_61) TFnReports_k61 rfl rfl rfl rfl rfl) TFnReports_k61
def TFnReports_63 : List (Nat × Sp) := (23, sp_Parse) :: TFnReports_62
theorem TFnReports_k63 : EvOk Tryz.prog (tab TFnReports_63) := tab_cons (ok_spec_Parse (ev := tab TFnReports_62) TFnReports_k62 rfl rfl rfl) TFnReports_k62
def TFnReports_64 : List (Nat × Sp) := (21, sp_Open) :: TFnReports_63
theorem TFnReports_k64 : EvOk Tryz.prog (tab TFnReports_64) := tab_cons (ok_spec_Open (ev := tab TFnReports_63) TFnReports_k63 rfl rfl rfl rfl) TFnReports_k63
def TFnReports_65 : List (Nat × Sp) := (26, sp_DigestOf) :: TFnReports_64
theorem TFnReports_k65 : EvOk Tryz.prog (tab TFnReports_65) := tab_cons (ok_spec_DigestOf (ev := tab TFnReports_64) TFnReports_k64 rfl rfl) TFnReports_k64
def TFnReports_66 : List (Nat × Sp) := (15, sp_SumRow) :: TFnReports_65
theorem TFnReports_k66 : EvOk Tryz.prog (tab TFnReports_66) := tab_cons (ok_spec_SumRow (ev := tab TFnReports_65) TFnReports_k65 rfl rfl) TFnReports_k65
def TFnReports_67 : List (Nat × Sp) := (39, sp_sameI) :: TFnReports_66
theorem TFnReports_k67 : EvOk Tryz.prog (tab TFnReports_67) := tab_cons ok_sameInts TFnReports_k66
def TFnReports_68 : List (Nat × Sp) := (16, sp_sameRow) :: TFnReports_67
theorem TFnReports_k68 : EvOk Tryz.prog (tab TFnReports_68) := tab_cons (ok_sameRow (ev := tab TFnReports_67) TFnReports_k67 rfl) TFnReports_k67
def TFnReports_69 : List (Nat × Sp) := (13, sp_sameRep) :: TFnReports_68
theorem TFnReports_k69 : EvOk Tryz.prog (tab TFnReports_69) := tab_cons (ok_sameRep (ev := tab TFnReports_68) TFnReports_k68 rfl) TFnReports_k68
def TFnReports_70 : List (Nat × Sp) := (18, sp_pSum) :: TFnReports_69
theorem TFnReports_k70 : EvOk Tryz.prog (tab TFnReports_70) := tab_cons ok_pSum TFnReports_k69
theorem ok_FnReports_all : FnOk Tryz.prog 3 sp_LL := (ok_FnReports (ev := tab TFnReports_70) TFnReports_k70 rfl rfl rfl rfl rfl rfl rfl rfl rfl rfl rfl rfl rfl rfl rfl rfl rfl rfl rfl rfl rfl rfl rfl)
end Go.Proofs.YtoinlnlmmnmojaaGreatDoor.E
