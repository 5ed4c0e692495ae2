/- The table of the functions that FnExactDigestOf reaches. -/
import Derived.Test.YtmendhimmebbkaaD1
import Derived.Test.YtmendhimmebbkaaD2
namespace Go.Proofs.Ytmendhimmebbkaa.E
open Go Go.Proofs
def TFnExactDigestOf_0 : List (Nat × Sp) := []
theorem TFnExactDigestOf_k0 : EvOk Try.prog (tab TFnExactDigestOf_0) := tab_nil
def TFnExactDigestOf_1 : List (Nat × Sp) := (7, sp_digest) :: TFnExactDigestOf_0
theorem TFnExactDigestOf_k1 : EvOk Try.prog (tab TFnExactDigestOf_1) := tab_cons ok_rpDigest TFnExactDigestOf_k0
def TFnExactDigestOf_2 : List (Nat × Sp) := (6, sp_rpLong) :: TFnExactDigestOf_1
theorem TFnExactDigestOf_k2 : EvOk Try.prog (tab TFnExactDigestOf_2) := tab_cons ok_rpLong TFnExactDigestOf_k1
def TFnExactDigestOf_3 : List (Nat × Sp) := (4, sp_DigestOf) :: TFnExactDigestOf_2
theorem TFnExactDigestOf_k3 : EvOk Try.prog (tab TFnExactDigestOf_3) := tab_cons (ok_spec_DigestOf (ev := tab TFnExactDigestOf_2) TFnExactDigestOf_k2 rfl rfl) TFnExactDigestOf_k2
def TFnExactDigestOf_4 : List (Nat × Sp) := (8, sp_digest) :: TFnExactDigestOf_3
theorem TFnExactDigestOf_k4 : EvOk Try.prog (tab TFnExactDigestOf_4) := tab_cons ok_impl_digestOf TFnExactDigestOf_k3
def TFnExactDigestOf_5 : List (Nat × Sp) := (5, sp_DigestOf) :: TFnExactDigestOf_4
theorem TFnExactDigestOf_k5 : EvOk Try.prog (tab TFnExactDigestOf_5) := tab_cons (ok_impl_DigestOf (ev := tab TFnExactDigestOf_4) TFnExactDigestOf_k4 rfl) TFnExactDigestOf_k4
theorem ok_FnExactDigestOf_all : FnOk Try.prog 3 sp_S1 := (ok_FnExactDigestOf (ev := tab TFnExactDigestOf_5) TFnExactDigestOf_k5 rfl rfl)
end Go.Proofs.Ytmendhimmebbkaa.E
