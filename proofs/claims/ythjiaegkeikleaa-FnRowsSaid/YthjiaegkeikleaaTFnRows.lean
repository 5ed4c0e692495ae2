/- The table of the functions that FnRows reaches. -/
import Derived.Test.YthjiaegkeikleaaG1
import Derived.Test.YthjiaegkeikleaaG2
import Derived.Test.YthjiaegkeikleaaG3
import Derived.Test.YthjiaegkeikleaaG4
import Derived.Test.YthjiaegkeikleaaH1
import Derived.Test.YthjiaegkeikleaaH2
import Derived.Test.YthjiaegkeikleaaH3
import Derived.Test.YthjiaegkeikleaaH4
import Derived.Test.YthjiaegkeikleaaH5
import Derived.Test.YthjiaegkeikleaaH6
import Derived.Test.YthjiaegkeikleaaH7
import Derived.Test.YthjiaegkeikleaaH8
import Derived.Test.YthjiaegkeikleaaH10
import Derived.Test.YthjiaegkeikleaaN0
import Derived.Test.YthjiaegkeikleaaR1
import Derived.Test.YthjiaegkeikleaaR2
import Derived.Test.YthjiaegkeikleaaR3
import Derived.Test.YthjiaegkeikleaaR4
import Derived.Test.YthjiaegkeikleaaR5
import Derived.Test.YthjiaegkeikleaaR6
import Derived.Test.YthjiaegkeikleaaR7
import Derived.Test.YthjiaegkeikleaaR8
import Derived.Test.YthjiaegkeikleaaR9
import Derived.Test.YthjiaegkeikleaaR10
import Derived.Test.YthjiaegkeikleaaR11
import Derived.Test.YthjiaegkeikleaaT0
import Derived.Test.YthjiaegkeikleaaR12
namespace Go.Proofs.Ythjiaegkeikleaa.E
open Go Go.Proofs
def TFnRows_0 : List (Nat × Sp) := []
theorem TFnRows_k0 : EvOk Try.prog (tab TFnRows_0) := tab_nil
def TFnRows_1 : List (Nat × Sp) := (4, sp_big) :: TFnRows_0
theorem TFnRows_k1 : EvOk Try.prog (tab TFnRows_1) := tab_cons ok_big TFnRows_k0
def TFnRows_2 : List (Nat × Sp) := (54, sp_next) :: TFnRows_1
theorem TFnRows_k2 : EvOk Try.prog (tab TFnRows_2) := tab_cons ok_next TFnRows_k1
def TFnRows_3 : List (Nat × Sp) := (46, sp_pick) :: TFnRows_2
theorem TFnRows_k3 : EvOk Try.prog (tab TFnRows_3) := tab_cons (ok_pick (ev := tab TFnRows_2) TFnRows_k2 rfl) TFnRows_k2
def TFnRows_4 : List (Nat × Sp) := (44, sp_of) :: TFnRows_3
theorem TFnRows_k4 : EvOk Try.prog (tab TFnRows_4) := tab_cons (ok_of (ev := tab TFnRows_3) TFnRows_k3 rfl) TFnRows_k3
def TFnRows_5 : List (Nat × Sp) := (52, sp_among) :: TFnRows_4
theorem TFnRows_k5 : EvOk Try.prog (tab TFnRows_5) := tab_cons (ok_among (ev := tab TFnRows_4) TFnRows_k4 rfl) TFnRows_k4
def TFnRows_6 : List (Nat × Sp) := (40, sp_row) :: TFnRows_5
theorem TFnRows_k6 : EvOk Try.prog (tab TFnRows_6) := tab_cons (ok_row (ev := tab TFnRows_5) TFnRows_k5 rfl rfl rfl) TFnRows_k5
def TFnRows_7 : List (Nat × Sp) := (50, sp_one) :: TFnRows_6
theorem TFnRows_k7 : EvOk Try.prog (tab TFnRows_7) := tab_cons (ok_one (ev := tab TFnRows_6) TFnRows_k6 rfl) TFnRows_k6
def TFnRows_8 : List (Nat × Sp) := (34, sp_rpRow) :: TFnRows_7
theorem TFnRows_k8 : EvOk Try.prog (tab TFnRows_8) := tab_cons ok_rpRow TFnRows_k7
def TFnRows_9 : List (Nat × Sp) := (53, sp_l1Num) :: TFnRows_8
theorem TFnRows_k9 : EvOk Try.prog (tab TFnRows_9) := tab_cons ok_l1Num TFnRows_k8
def TFnRows_10 : List (Nat × Sp) := (39, sp_report) :: TFnRows_9
theorem TFnRows_k10 : EvOk Try.prog (tab TFnRows_10) := tab_cons (ok_report (ev := tab TFnRows_9) TFnRows_k9 rfl rfl rfl rfl rfl rfl rfl) TFnRows_k9
def TFnRows_11 : List (Nat × Sp) := (47, sp_l1In) :: TFnRows_10
theorem TFnRows_k11 : EvOk Try.prog (tab TFnRows_11) := tab_cons ok_l1In TFnRows_k10
def TFnRows_12 : List (Nat × Sp) := (45, sp_name) :: TFnRows_11
theorem TFnRows_k12 : EvOk Try.prog (tab TFnRows_12) := tab_cons (ok_rpName (ev := tab TFnRows_11) TFnRows_k11 rfl) TFnRows_k11
def TFnRows_13 : List (Nat × Sp) := (49, sp_l1All) :: TFnRows_12
theorem TFnRows_k13 : EvOk Try.prog (tab TFnRows_13) := tab_cons (ok_l1All (ev := tab TFnRows_12) TFnRows_k12 rfl) TFnRows_k12
def TFnRows_14 : List (Nat × Sp) := (32, sp_repOk) :: TFnRows_13
theorem TFnRows_k14 : EvOk Try.prog (tab TFnRows_14) := tab_cons (ok_rpGood (ev := tab TFnRows_13) TFnRows_k13 rfl rfl rfl rfl) TFnRows_k13
def TFnRows_15 : List (Nat × Sp) := (51, sp_toIntS) :: TFnRows_14
theorem TFnRows_k15 : EvOk Try.prog (tab TFnRows_15) := tab_cons ok_l1Own TFnRows_k14
def TFnRows_16 : List (Nat × Sp) := (33, sp_toRow) :: TFnRows_15
theorem TFnRows_k16 : EvOk Try.prog (tab TFnRows_16) := tab_cons (ok_rpOwn (ev := tab TFnRows_15) TFnRows_k15 rfl) TFnRows_k15
def TFnRows_17 : List (Nat × Sp) := (43, sp_rpWith) :: TFnRows_16
theorem TFnRows_k17 : EvOk Try.prog (tab TFnRows_17) := tab_cons (ok_rpWith (ev := tab TFnRows_16) TFnRows_k16 rfl) TFnRows_k16
def TFnRows_18 : List (Nat × Sp) := (27, sp_DrawDifferRows) :: TFnRows_17
theorem TFnRows_k18 : EvOk Try.prog (tab TFnRows_18) := tab_cons (ok_DrawDifferRows (ev := tab TFnRows_17) TFnRows_k17 rfl rfl rfl rfl rfl) TFnRows_k17
def TFnRows_19 : List (Nat × Sp) := (5, sp_DrawDifferRows) :: TFnRows_18
theorem TFnRows_k19 : EvOk Try.prog (tab TFnRows_19) := tab_cons (ok_DrawJoinReports (ev := tab TFnRows_18) TFnRows_k18 rfl) TFnRows_k18
def TFnRows_20 : List (Nat × Sp) := (42, sp_l1Least) :: TFnRows_19
theorem TFnRows_k20 : EvOk Try.prog (tab TFnRows_20) := tab_cons ok_l1Least TFnRows_k19
def TFnRows_21 : List (Nat × Sp) := (41, sp_l1Most) :: TFnRows_20
theorem TFnRows_k21 : EvOk Try.prog (tab TFnRows_21) := tab_cons ok_l1Most TFnRows_k20
def TFnRows_22 : List (Nat × Sp) := (13, sp_DrawAddRow) :: TFnRows_21
theorem TFnRows_k22 : EvOk Try.prog (tab TFnRows_22) := tab_cons (ok_DrawAddRow (ev := tab TFnRows_21) TFnRows_k21 rfl rfl rfl rfl) TFnRows_k21
def TFnRows_23 : List (Nat × Sp) := (17, sp_DrawRowNamed) :: TFnRows_22
theorem TFnRows_k23 : EvOk Try.prog (tab TFnRows_23) := tab_cons (ok_DrawRowNamed (ev := tab TFnRows_22) TFnRows_k22 rfl rfl) TFnRows_k22
def TFnRows_24 : List (Nat × Sp) := (20, sp_DrawColumnOf) :: TFnRows_23
theorem TFnRows_k24 : EvOk Try.prog (tab TFnRows_24) := tab_cons (ok_DrawColumnOf (ev := tab TFnRows_23) TFnRows_k23 rfl rfl) TFnRows_k23
def TFnRows_25 : List (Nat × Sp) := (48, sp_DrawIsReport) :: TFnRows_24
theorem TFnRows_k25 : EvOk Try.prog (tab TFnRows_25) := tab_cons (ok_DrawIsReport (ev := tab TFnRows_24) TFnRows_k24 rfl) TFnRows_k24
def TFnRows_26 : List (Nat × Sp) := (23, sp_DrawIsReport) :: TFnRows_25
theorem TFnRows_k26 : EvOk Try.prog (tab TFnRows_26) := tab_cons (ok_DrawSumRow (ev := tab TFnRows_25) TFnRows_k25 rfl) TFnRows_k25
def TFnRows_27 : List (Nat × Sp) := (37, sp_name) :: TFnRows_26
theorem TFnRows_k27 : EvOk Try.prog (tab TFnRows_27) := tab_cons ok_isName TFnRows_k26
def TFnRows_28 : List (Nat × Sp) := (29, sp_rowNamed) :: TFnRows_27
theorem TFnRows_k28 : EvOk Try.prog (tab TFnRows_28) := tab_cons ok_rowNamed TFnRows_k27
def TFnRows_29 : List (Nat × Sp) := (38, sp_isReported) :: TFnRows_28
theorem TFnRows_k29 : EvOk Try.prog (tab TFnRows_29) := tab_cons ok_isReported TFnRows_k28
def TFnRows_30 : List (Nat × Sp) := (12, sp_repOk) :: TFnRows_29
theorem TFnRows_k30 : EvOk Try.prog (tab TFnRows_30) := tab_cons (ok_IsReport (ev := tab TFnRows_29) TFnRows_k29 rfl rfl rfl) TFnRows_k29
def TFnRows_31 : List (Nat × Sp) := (30, sp_toRow) :: TFnRows_30
theorem TFnRows_k31 : EvOk Try.prog (tab TFnRows_31) := tab_cons ok_copyRow TFnRows_k30
def TFnRows_32 : List (Nat × Sp) := (28, sp_copyReport) :: TFnRows_31
theorem TFnRows_k32 : EvOk Try.prog (tab TFnRows_32) := tab_cons (ok_copyReport (ev := tab TFnRows_31) TFnRows_k31 rfl) TFnRows_k31
def TFnRows_33 : List (Nat × Sp) := (31, sp_validReport) :: TFnRows_32
theorem TFnRows_k33 : EvOk Try.prog (tab TFnRows_33) := tab_cons (ok_validReport (ev := tab TFnRows_32) TFnRows_k32 rfl) TFnRows_k32
def TFnRows_34 : List (Nat × Sp) := (6, sp_Join) :: TFnRows_33
theorem TFnRows_k34 : EvOk Try.prog (tab TFnRows_34) := tab_cons (ok_impl_Join (ev := tab TFnRows_33) TFnRows_k33 rfl rfl rfl rfl rfl) TFnRows_k33
def TFnRows_35 : List (Nat × Sp) := (35, sp_sameI) :: TFnRows_34
theorem TFnRows_k35 : EvOk Try.prog (tab TFnRows_35) := tab_cons ok_slicesEqual TFnRows_k34
def TFnRows_36 : List (Nat × Sp) := (8, sp_DifferRows) :: TFnRows_35
theorem TFnRows_k36 : EvOk Try.prog (tab TFnRows_36) := tab_cons (ok_impl_DifferRows (ev := tab TFnRows_35) TFnRows_k35 rfl rfl rfl) TFnRows_k35
def TFnRows_37 : List (Nat × Sp) := (14, sp_Add) :: TFnRows_36
theorem TFnRows_k37 : EvOk Try.prog (tab TFnRows_37) := tab_cons (ok_impl_Add (ev := tab TFnRows_36) TFnRows_k36 rfl rfl rfl rfl) TFnRows_k36
def TFnRows_38 : List (Nat × Sp) := (18, sp_RowNamed) :: TFnRows_37
theorem TFnRows_k38 : EvOk Try.prog (tab TFnRows_38) := tab_cons (ok_impl_RowNamed (ev := tab TFnRows_37) TFnRows_k37 rfl rfl rfl) TFnRows_k37
def TFnRows_39 : List (Nat × Sp) := (21, sp_ColumnOf) :: TFnRows_38
theorem TFnRows_k39 : EvOk Try.prog (tab TFnRows_39) := tab_cons (ok_impl_ColumnOf (ev := tab TFnRows_38) TFnRows_k38 rfl) TFnRows_k38
def TFnRows_40 : List (Nat × Sp) := (24, sp_SumRow) :: TFnRows_39
theorem TFnRows_k40 : EvOk Try.prog (tab TFnRows_40) := tab_cons (ok_impl_SumRow (ev := tab TFnRows_39) TFnRows_k39 rfl rfl) TFnRows_k39
def TFnRows_41 : List (Nat × Sp) := (7, sp_Join) :: TFnRows_40
theorem TFnRows_k41 : EvOk Try.prog (tab TFnRows_41) := tab_cons (ok_spec_Join (ev := tab TFnRows_40) TFnRows_k40 rfl rfl rfl) TFnRows_k40
def TFnRows_42 : List (Nat × Sp) := (36, sp_sameI) :: TFnRows_41
theorem TFnRows_k42 : EvOk Try.prog (tab TFnRows_42) := tab_cons ok_l1Same TFnRows_k41
def TFnRows_43 : List (Nat × Sp) := (9, sp_DifferRows) :: TFnRows_42
theorem TFnRows_k43 : EvOk Try.prog (tab TFnRows_43) := tab_cons (ok_spec_DifferRows (ev := tab TFnRows_42) TFnRows_k42 rfl rfl rfl) TFnRows_k42
def TFnRows_44 : List (Nat × Sp) := (15, sp_Add) :: TFnRows_43
theorem TFnRows_k44 : EvOk Try.prog (tab TFnRows_44) := tab_cons (ok_spec_Add (ev := tab TFnRows_43) TFnRows_k43 rfl rfl) TFnRows_k43
def TFnRows_45 : List (Nat × Sp) := (19, sp_RowNamed) :: TFnRows_44
theorem TFnRows_k45 : EvOk Try.prog (tab TFnRows_45) := tab_cons (ok_spec_RowNamed (ev := tab TFnRows_44) TFnRows_k44 rfl rfl rfl rfl) TFnRows_k44
def TFnRows_46 : List (Nat × Sp) := (22, sp_ColumnOf) :: TFnRows_45
theorem TFnRows_k46 : EvOk Try.prog (tab TFnRows_46) := tab_cons (ok_spec_ColumnOf (ev := tab TFnRows_45) TFnRows_k45 rfl rfl) TFnRows_k45
def TFnRows_47 : List (Nat × Sp) := (25, sp_SumRow) :: TFnRows_46
theorem TFnRows_k47 : EvOk Try.prog (tab TFnRows_47) := tab_cons (ok_spec_SumRow (ev := tab TFnRows_46) TFnRows_k46 rfl rfl) TFnRows_k46
def TFnRows_48 : List (Nat × Sp) := (26, sp_sameI) :: TFnRows_47
theorem TFnRows_k48 : EvOk Try.prog (tab TFnRows_48) := tab_cons ok_sameInts TFnRows_k47
def TFnRows_49 : List (Nat × Sp) := (16, sp_sameRow) :: TFnRows_48
theorem TFnRows_k49 : EvOk Try.prog (tab TFnRows_49) := tab_cons (ok_sameRow (ev := tab TFnRows_48) TFnRows_k48 rfl) TFnRows_k48
def TFnRows_50 : List (Nat × Sp) := (10, sp_sameRep) :: TFnRows_49
theorem TFnRows_k50 : EvOk Try.prog (tab TFnRows_50) := tab_cons (ok_sameRep (ev := tab TFnRows_49) TFnRows_k49 rfl) TFnRows_k49
def TFnRows_51 : List (Nat × Sp) := (11, sp_sameS) :: TFnRows_50
theorem TFnRows_k51 : EvOk Try.prog (tab TFnRows_51) := tab_cons ok_sameNames TFnRows_k50
theorem ok_FnRows_all : FnOk Try.prog 3 sp_LL := (ok_FnRows (ev := tab TFnRows_51) TFnRows_k51 rfl rfl rfl rfl rfl rfl rfl rfl rfl rfl rfl rfl rfl rfl rfl rfl rfl rfl rfl rfl rfl rfl rfl)
end Go.Proofs.Ythjiaegkeikleaa.E
