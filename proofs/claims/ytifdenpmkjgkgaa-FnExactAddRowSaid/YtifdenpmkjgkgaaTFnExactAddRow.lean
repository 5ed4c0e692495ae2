/- The table of the functions that FnExactAddRow reaches. -/
import Derived.Test.YtifdenpmkjgkgaaG1
import Derived.Test.YtifdenpmkjgkgaaG2
import Derived.Test.YtifdenpmkjgkgaaG3
import Derived.Test.YtifdenpmkjgkgaaG4
import Derived.Test.YtifdenpmkjgkgaaH1
import Derived.Test.YtifdenpmkjgkgaaH2
import Derived.Test.YtifdenpmkjgkgaaH3
import Derived.Test.YtifdenpmkjgkgaaH4
import Derived.Test.YtifdenpmkjgkgaaH5
import Derived.Test.YtifdenpmkjgkgaaH6
import Derived.Test.YtifdenpmkjgkgaaH7
import Derived.Test.YtifdenpmkjgkgaaH10
import Derived.Test.YtifdenpmkjgkgaaG10
import Derived.Test.YtifdenpmkjgkgaaH11
namespace Go.Proofs.Ytifdenpmkjgkgaa.E
open Go Go.Proofs
def TFnExactAddRow_0 : List (Nat × Sp) := []
theorem TFnExactAddRow_k0 : EvOk Try.prog (tab TFnExactAddRow_0) := tab_nil
def TFnExactAddRow_1 : List (Nat × Sp) := (16, sp_szIntS) :: TFnExactAddRow_0
theorem TFnExactAddRow_k1 : EvOk Try.prog (tab TFnExactAddRow_1) := tab_cons ok_szIntS TFnExactAddRow_k0
def TFnExactAddRow_2 : List (Nat × Sp) := (5, sp_szRow) :: TFnExactAddRow_1
theorem TFnExactAddRow_k2 : EvOk Try.prog (tab TFnExactAddRow_2) := tab_cons (ok_szRow (ev := tab TFnExactAddRow_1) TFnExactAddRow_k1 rfl) TFnExactAddRow_k1
def TFnExactAddRow_3 : List (Nat × Sp) := (15, sp_szRowS) :: TFnExactAddRow_2
theorem TFnExactAddRow_k3 : EvOk Try.prog (tab TFnExactAddRow_3) := tab_cons (ok_szRowS (ev := tab TFnExactAddRow_2) TFnExactAddRow_k2 rfl) TFnExactAddRow_k2
def TFnExactAddRow_4 : List (Nat × Sp) := (4, sp_szReport) :: TFnExactAddRow_3
theorem TFnExactAddRow_k4 : EvOk Try.prog (tab TFnExactAddRow_4) := tab_cons (ok_szReport (ev := tab TFnExactAddRow_3) TFnExactAddRow_k3 rfl) TFnExactAddRow_k3
def TFnExactAddRow_5 : List (Nat × Sp) := (20, sp_toIntS) :: TFnExactAddRow_4
theorem TFnExactAddRow_k5 : EvOk Try.prog (tab TFnExactAddRow_5) := tab_cons ok_toIntS TFnExactAddRow_k4
def TFnExactAddRow_6 : List (Nat × Sp) := (8, sp_toRow) :: TFnExactAddRow_5
theorem TFnExactAddRow_k6 : EvOk Try.prog (tab TFnExactAddRow_6) := tab_cons (ok_toRow (ev := tab TFnExactAddRow_5) TFnExactAddRow_k5 rfl) TFnExactAddRow_k5
def TFnExactAddRow_7 : List (Nat × Sp) := (19, sp_toRowS) :: TFnExactAddRow_6
theorem TFnExactAddRow_k7 : EvOk Try.prog (tab TFnExactAddRow_7) := tab_cons (ok_toRowS (ev := tab TFnExactAddRow_6) TFnExactAddRow_k6 rfl) TFnExactAddRow_k6
def TFnExactAddRow_8 : List (Nat × Sp) := (7, sp_toReport) :: TFnExactAddRow_7
theorem TFnExactAddRow_k8 : EvOk Try.prog (tab TFnExactAddRow_8) := tab_cons (ok_toReport (ev := tab TFnExactAddRow_7) TFnExactAddRow_k7 rfl) TFnExactAddRow_k7
def TFnExactAddRow_9 : List (Nat × Sp) := (26, sp_eqIntS) :: TFnExactAddRow_8
theorem TFnExactAddRow_k9 : EvOk Try.prog (tab TFnExactAddRow_9) := tab_cons ok_eqIntS TFnExactAddRow_k8
def TFnExactAddRow_10 : List (Nat × Sp) := (11, sp_eqRow) :: TFnExactAddRow_9
theorem TFnExactAddRow_k10 : EvOk Try.prog (tab TFnExactAddRow_10) := tab_cons (ok_eqRow (ev := tab TFnExactAddRow_9) TFnExactAddRow_k9 rfl) TFnExactAddRow_k9
def TFnExactAddRow_11 : List (Nat × Sp) := (25, sp_eqRowS) :: TFnExactAddRow_10
theorem TFnExactAddRow_k11 : EvOk Try.prog (tab TFnExactAddRow_11) := tab_cons (ok_eqRowS (ev := tab TFnExactAddRow_10) TFnExactAddRow_k10 rfl) TFnExactAddRow_k10
def TFnExactAddRow_12 : List (Nat × Sp) := (10, sp_eqReport) :: TFnExactAddRow_11
theorem TFnExactAddRow_k12 : EvOk Try.prog (tab TFnExactAddRow_12) := tab_cons (ok_eqReport (ev := tab TFnExactAddRow_11) TFnExactAddRow_k11 rfl) TFnExactAddRow_k11
def TFnExactAddRow_13 : List (Nat × Sp) := (28, sp_markIntS) :: TFnExactAddRow_12
theorem TFnExactAddRow_k13 : EvOk Try.prog (tab TFnExactAddRow_13) := tab_cons ok_markIntS TFnExactAddRow_k12
def TFnExactAddRow_14 : List (Nat × Sp) := (38, sp_markText) :: TFnExactAddRow_13
theorem TFnExactAddRow_k14 : EvOk Try.prog (tab TFnExactAddRow_14) := tab_cons ok_markText TFnExactAddRow_k13
def TFnExactAddRow_15 : List (Nat × Sp) := (27, sp_markRowS) :: TFnExactAddRow_14
theorem TFnExactAddRow_k15 : EvOk Try.prog (tab TFnExactAddRow_15) := tab_cons (ok_markRowS (ev := tab TFnExactAddRow_14) TFnExactAddRow_k14 rfl rfl) TFnExactAddRow_k14
def TFnExactAddRow_16 : List (Nat × Sp) := (12, sp_markReport) :: TFnExactAddRow_15
theorem TFnExactAddRow_k16 : EvOk Try.prog (tab TFnExactAddRow_16) := tab_cons (ok_markReport (ev := tab TFnExactAddRow_15) TFnExactAddRow_k15 rfl) TFnExactAddRow_k15
def TFnExactAddRow_17 : List (Nat × Sp) := (13, sp_markRow) :: TFnExactAddRow_16
theorem TFnExactAddRow_k17 : EvOk Try.prog (tab TFnExactAddRow_17) := tab_cons (ok_markRow (ev := tab TFnExactAddRow_16) TFnExactAddRow_k16 rfl) TFnExactAddRow_k16
def TFnExactAddRow_18 : List (Nat × Sp) := (39, sp_heldIntS) :: TFnExactAddRow_17
theorem TFnExactAddRow_k18 : EvOk Try.prog (tab TFnExactAddRow_18) := tab_cons ok_heldIntS TFnExactAddRow_k17
def TFnExactAddRow_19 : List (Nat × Sp) := (29, sp_heldRowS) :: TFnExactAddRow_18
theorem TFnExactAddRow_k19 : EvOk Try.prog (tab TFnExactAddRow_19) := tab_cons (ok_heldRowS (ev := tab TFnExactAddRow_18) TFnExactAddRow_k18 rfl rfl) TFnExactAddRow_k18
def TFnExactAddRow_20 : List (Nat × Sp) := (14, sp_heldReport) :: TFnExactAddRow_19
theorem TFnExactAddRow_k20 : EvOk Try.prog (tab TFnExactAddRow_20) := tab_cons (ok_heldReport (ev := tab TFnExactAddRow_19) TFnExactAddRow_k19 rfl) TFnExactAddRow_k19
def TFnExactAddRow_21 : List (Nat × Sp) := (33, sp_l1In) :: TFnExactAddRow_20
theorem TFnExactAddRow_k21 : EvOk Try.prog (tab TFnExactAddRow_21) := tab_cons ok_l1In TFnExactAddRow_k20
def TFnExactAddRow_22 : List (Nat × Sp) := (30, sp_name) :: TFnExactAddRow_21
theorem TFnExactAddRow_k22 : EvOk Try.prog (tab TFnExactAddRow_22) := tab_cons (ok_rpName (ev := tab TFnExactAddRow_21) TFnExactAddRow_k21 rfl) TFnExactAddRow_k21
def TFnExactAddRow_23 : List (Nat × Sp) := (31, sp_rpRow) :: TFnExactAddRow_22
theorem TFnExactAddRow_k23 : EvOk Try.prog (tab TFnExactAddRow_23) := tab_cons ok_rpRow TFnExactAddRow_k22
def TFnExactAddRow_24 : List (Nat × Sp) := (32, sp_l1All) :: TFnExactAddRow_23
theorem TFnExactAddRow_k24 : EvOk Try.prog (tab TFnExactAddRow_24) := tab_cons (ok_l1All (ev := tab TFnExactAddRow_23) TFnExactAddRow_k23 rfl) TFnExactAddRow_k23
def TFnExactAddRow_25 : List (Nat × Sp) := (17, sp_repOk) :: TFnExactAddRow_24
theorem TFnExactAddRow_k25 : EvOk Try.prog (tab TFnExactAddRow_25) := tab_cons (ok_rpGood (ev := tab TFnExactAddRow_24) TFnExactAddRow_k24 rfl rfl rfl rfl) TFnExactAddRow_k24
def TFnExactAddRow_26 : List (Nat × Sp) := (40, sp_toIntS) :: TFnExactAddRow_25
theorem TFnExactAddRow_k26 : EvOk Try.prog (tab TFnExactAddRow_26) := tab_cons ok_l1Own TFnExactAddRow_k25
def TFnExactAddRow_27 : List (Nat × Sp) := (34, sp_toRow) :: TFnExactAddRow_26
theorem TFnExactAddRow_k27 : EvOk Try.prog (tab TFnExactAddRow_27) := tab_cons (ok_rpOwn (ev := tab TFnExactAddRow_26) TFnExactAddRow_k26 rfl) TFnExactAddRow_k26
def TFnExactAddRow_28 : List (Nat × Sp) := (18, sp_rpWith) :: TFnExactAddRow_27
theorem TFnExactAddRow_k28 : EvOk Try.prog (tab TFnExactAddRow_28) := tab_cons (ok_rpWith (ev := tab TFnExactAddRow_27) TFnExactAddRow_k27 rfl) TFnExactAddRow_k27
def TFnExactAddRow_29 : List (Nat × Sp) := (6, sp_AddRow) :: TFnExactAddRow_28
theorem TFnExactAddRow_k29 : EvOk Try.prog (tab TFnExactAddRow_29) := tab_cons (ok_spec_AddRow (ev := tab TFnExactAddRow_28) TFnExactAddRow_k28 rfl rfl) TFnExactAddRow_k28
def TFnExactAddRow_30 : List (Nat × Sp) := (35, sp_name) :: TFnExactAddRow_29
theorem TFnExactAddRow_k30 : EvOk Try.prog (tab TFnExactAddRow_30) := tab_cons ok_isName TFnExactAddRow_k29
def TFnExactAddRow_31 : List (Nat × Sp) := (36, sp_rowNamed) :: TFnExactAddRow_30
theorem TFnExactAddRow_k31 : EvOk Try.prog (tab TFnExactAddRow_31) := tab_cons ok_rowNamed TFnExactAddRow_k30
def TFnExactAddRow_32 : List (Nat × Sp) := (37, sp_isReported) :: TFnExactAddRow_31
theorem TFnExactAddRow_k32 : EvOk Try.prog (tab TFnExactAddRow_32) := tab_cons ok_isReported TFnExactAddRow_k31
def TFnExactAddRow_33 : List (Nat × Sp) := (21, sp_repOk) :: TFnExactAddRow_32
theorem TFnExactAddRow_k33 : EvOk Try.prog (tab TFnExactAddRow_33) := tab_cons (ok_IsReport (ev := tab TFnExactAddRow_32) TFnExactAddRow_k32 rfl rfl rfl) TFnExactAddRow_k32
def TFnExactAddRow_34 : List (Nat × Sp) := (23, sp_toRow) :: TFnExactAddRow_33
theorem TFnExactAddRow_k34 : EvOk Try.prog (tab TFnExactAddRow_34) := tab_cons ok_copyRow TFnExactAddRow_k33
def TFnExactAddRow_35 : List (Nat × Sp) := (22, sp_copyReport) :: TFnExactAddRow_34
theorem TFnExactAddRow_k35 : EvOk Try.prog (tab TFnExactAddRow_35) := tab_cons (ok_copyReport (ev := tab TFnExactAddRow_34) TFnExactAddRow_k34 rfl) TFnExactAddRow_k34
def TFnExactAddRow_36 : List (Nat × Sp) := (24, sp_validReport) :: TFnExactAddRow_35
theorem TFnExactAddRow_k36 : EvOk Try.prog (tab TFnExactAddRow_36) := tab_cons (ok_validReport (ev := tab TFnExactAddRow_35) TFnExactAddRow_k35 rfl) TFnExactAddRow_k35
def TFnExactAddRow_37 : List (Nat × Sp) := (9, sp_AddRow) :: TFnExactAddRow_36
theorem TFnExactAddRow_k37 : EvOk Try.prog (tab TFnExactAddRow_37) := tab_cons (ok_impl_AddRow (ev := tab TFnExactAddRow_36) TFnExactAddRow_k36 rfl rfl rfl rfl) TFnExactAddRow_k36
theorem ok_FnExactAddRow_all : FnOk Try.prog 3 sp_RX := (ok_FnExactAddRow (ev := tab TFnExactAddRow_37) TFnExactAddRow_k37 rfl rfl rfl rfl rfl rfl rfl rfl rfl rfl rfl)
end Go.Proofs.Ytifdenpmkjgkgaa.E
