/- The types of the program, for the evaluator. -/
import Derived.Test.YtmendhimmebbkaaEB
import Derived.Test.YtmendhimmebbkaaProg
import Derived.KernelRfl
namespace Go.Proofs.Ytmendhimmebbkaa.E
open Go
def tt : Tys := [(2, ⟨(.int .i64), false, [], [], 8, 0⟩),
  (3, ⟨(.int .i64), false, [], [], 8, 0⟩),
  (4, ⟨.bool, false, [], [], 1, 0⟩),
  (5, ⟨(.int .u8), false, [], [], 1, 0⟩),
  (9, ⟨.str, false, [], [], 16, 0⟩),
  (12, ⟨(.int .u64), false, [], [], 8, 0⟩),
  (21, ⟨(.int .i32), false, [], [], 4, 0⟩),
  (26, ⟨(.sl (.int .u8)), false, [], [], 24, 5⟩),
  (34, ⟨(.int .u32), false, [], [], 4, 0⟩)]
def cfg : Cfg := ⟨tt, []⟩
theorem own0 : look cfg.own 0 = none := rfl
theorem own1 : look cfg.own 1 = none := rfl
theorem own2 : look cfg.own 2 = none := rfl
theorem own3 : look cfg.own 3 = none := rfl
theorem own4 : look cfg.own 4 = none := rfl
theorem own5 : look cfg.own 5 = none := rfl
theorem own6 : look cfg.own 6 = none := rfl
theorem own7 : look cfg.own 7 = none := rfl
theorem own8 : look cfg.own 8 = none := rfl
theorem own9 : look cfg.own 9 = none := rfl
theorem own10 : look cfg.own 10 = none := rfl
theorem own11 : look cfg.own 11 = none := rfl
theorem own12 : look cfg.own 12 = none := rfl
theorem own13 : look cfg.own 13 = none := rfl
theorem own14 : look cfg.own 14 = none := rfl
theorem own15 : look cfg.own 15 = none := rfl
theorem own16 : look cfg.own 16 = none := rfl
theorem own17 : look cfg.own 17 = none := rfl
theorem own18 : look cfg.own 18 = none := rfl
theorem own19 : look cfg.own 19 = none := rfl
theorem own20 : look cfg.own 20 = none := rfl
theorem own21 : look cfg.own 21 = none := rfl
theorem own22 : look cfg.own 22 = none := rfl
theorem own23 : look cfg.own 23 = none := rfl
theorem own24 : look cfg.own 24 = none := rfl
theorem tts : TysOk Try.prog cfg.tt := tysB_ok (by kernel_rfl)
theorem ty2 : look cfg.tt 2 = some ⟨(.int .i64), false, [], [], 8, 0⟩ := rfl
theorem kof2 : kOf cfg 2 = some (.int .i64) := rfl
theorem ty3 : look cfg.tt 3 = some ⟨(.int .i64), false, [], [], 8, 0⟩ := rfl
theorem kof3 : kOf cfg 3 = some (.int .i64) := rfl
theorem ty4 : look cfg.tt 4 = some ⟨.bool, false, [], [], 1, 0⟩ := rfl
theorem kof4 : kOf cfg 4 = some .bool := rfl
theorem ty5 : look cfg.tt 5 = some ⟨(.int .u8), false, [], [], 1, 0⟩ := rfl
theorem kof5 : kOf cfg 5 = some (.int .u8) := rfl
theorem ty9 : look cfg.tt 9 = some ⟨.str, false, [], [], 16, 0⟩ := rfl
theorem kof9 : kOf cfg 9 = some .str := rfl
theorem ty12 : look cfg.tt 12 = some ⟨(.int .u64), false, [], [], 8, 0⟩ := rfl
theorem kof12 : kOf cfg 12 = some (.int .u64) := rfl
theorem ty21 : look cfg.tt 21 = some ⟨(.int .i32), false, [], [], 4, 0⟩ := rfl
theorem kof21 : kOf cfg 21 = some (.int .i32) := rfl
theorem ty26 : look cfg.tt 26 = some ⟨(.sl (.int .u8)), false, [], [], 24, 5⟩ := rfl
theorem kof26 : kOf cfg 26 = some (.sl (.int .u8)) := rfl
theorem ty34 : look cfg.tt 34 = some ⟨(.int .u32), false, [], [], 4, 0⟩ := rfl
theorem kof34 : kOf cfg 34 = some (.int .u32) := rfl
theorem mixed : Try.prog.follows .mixedOrders = true := by kernel_rfl
end Go.Proofs.Ytmendhimmebbkaa.E
