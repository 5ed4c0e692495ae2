/- The table of the functions that FnExactJoinScripts reaches. -/
import Derived.Test.YteimoohgcafooaaDoorJ1
import Derived.Test.YteimoohgcafooaaDoorJ2
import Derived.Test.YteimoohgcafooaaDoorJ3
namespace Go.Proofs.YteimoohgcafooaaDoor.E
open Go Go.Proofs
def TFnExactJoinScripts_0 : List (Nat × Sp) := []
theorem TFnExactJoinScripts_k0 : EvOk Tryd.prog (tab TFnExactJoinScripts_0) := tab_nil
def TFnExactJoinScripts_1 : List (Nat × Sp) := (8, sp_l1Split) :: TFnExactJoinScripts_0
theorem TFnExactJoinScripts_k1 : EvOk Tryd.prog (tab TFnExactJoinScripts_1) := tab_cons ok_l1Split TFnExactJoinScripts_k0
def TFnExactJoinScripts_2 : List (Nat × Sp) := (6, sp_csLines) :: TFnExactJoinScripts_1
theorem TFnExactJoinScripts_k2 : EvOk Tryd.prog (tab TFnExactJoinScripts_2) := tab_cons (ok_csLines (ev := tab TFnExactJoinScripts_1) TFnExactJoinScripts_k1 rfl) TFnExactJoinScripts_k1
def TFnExactJoinScripts_3 : List (Nat × Sp) := (4, sp_JoinScripts) :: TFnExactJoinScripts_2
theorem TFnExactJoinScripts_k3 : EvOk Tryd.prog (tab TFnExactJoinScripts_3) := tab_cons (ok_spec_JoinScripts (ev := tab TFnExactJoinScripts_2) TFnExactJoinScripts_k2 rfl) TFnExactJoinScripts_k2
def TFnExactJoinScripts_4 : List (Nat × Sp) := (10, sp_HasSuffix) :: TFnExactJoinScripts_3
theorem TFnExactJoinScripts_k4 : EvOk Tryd.prog (tab TFnExactJoinScripts_4) := tab_cons ok_HasSuffix TFnExactJoinScripts_k3
def TFnExactJoinScripts_5 : List (Nat × Sp) := (11, sp_Split) :: TFnExactJoinScripts_4
theorem TFnExactJoinScripts_k5 : EvOk Tryd.prog (tab TFnExactJoinScripts_5) := tab_cons ok_Split TFnExactJoinScripts_k4
def TFnExactJoinScripts_6 : List (Nat × Sp) := (9, sp_linesOf) :: TFnExactJoinScripts_5
theorem TFnExactJoinScripts_k6 : EvOk Tryd.prog (tab TFnExactJoinScripts_6) := tab_cons (ok_linesOf (ev := tab TFnExactJoinScripts_5) TFnExactJoinScripts_k5 rfl rfl) TFnExactJoinScripts_k5
def TFnExactJoinScripts_7 : List (Nat × Sp) := (7, sp_isScript) :: TFnExactJoinScripts_6
theorem TFnExactJoinScripts_k7 : EvOk Tryd.prog (tab TFnExactJoinScripts_7) := tab_cons (ok_isScript (ev := tab TFnExactJoinScripts_6) TFnExactJoinScripts_k6 rfl) TFnExactJoinScripts_k6
def TFnExactJoinScripts_8 : List (Nat × Sp) := (5, sp_JoinScripts) :: TFnExactJoinScripts_7
theorem TFnExactJoinScripts_k8 : EvOk Tryd.prog (tab TFnExactJoinScripts_8) := tab_cons (ok_impl_JoinScripts (ev := tab TFnExactJoinScripts_7) TFnExactJoinScripts_k7 rfl) TFnExactJoinScripts_k7
theorem ok_FnExactJoinScripts_all : FnOk Tryd.prog 3 sp_S2 := (ok_FnExactJoinScripts (ev := tab TFnExactJoinScripts_8) TFnExactJoinScripts_k8 rfl rfl)
end Go.Proofs.YteimoohgcafooaaDoor.E
