/- The types of the program, for the evaluator. -/
import Derived.Test.YteimoohgcafooaaDoorEB
import Derived.Test.YteimoohgcafooaaDoorProg
import Derived.KernelRfl
namespace Go.Proofs.YteimoohgcafooaaDoor.E
open Go
def tt : Tys := [(2, ⟨(.int .i64), false, [], [], 8, 0⟩),
  (3, ⟨(.int .i64), false, [], [], 8, 0⟩),
  (4, ⟨.bool, false, [], [], 1, 0⟩),
  (5, ⟨(.int .u8), false, [], [], 1, 0⟩),
  (9, ⟨.str, false, [], [], 16, 0⟩),
  (12, ⟨(.int .u64), false, [], [], 8, 0⟩),
  (21, ⟨(.int .i32), false, [], [], 4, 0⟩),
  (25, ⟨(.sl .str), false, [], [], 24, 9⟩),
  (39, ⟨(.int .u64), false, [], [], 8, 0⟩),
  (41, ⟨(.pair (.int .u8) (.int .u8)), true, [0, 1], [1, 1], 2, 0⟩),
  (42, ⟨(.pair (.int .u8) (.int .u8)), true, [0, 1], [1, 1], 2, 0⟩),
  (44, ⟨(.int .u32), false, [], [], 4, 0⟩)]
def cfg : Cfg := ⟨tt, []⟩
theorem own0 : look cfg.own 0 = none := rfl
theorem own1 : look cfg.own 1 = none := rfl
theorem own2 : look cfg.own 2 = none := rfl
theorem own3 : look cfg.own 3 = none := rfl
theorem own4 : look cfg.own 4 = none := rfl
theorem own5 : look cfg.own 5 = none := rfl
theorem own6 : look cfg.own 6 = none := rfl
theorem own7 : look cfg.own 7 = none := rfl
theorem own8 : look cfg.own 8 = none := rfl
theorem own9 : look cfg.own 9 = none := rfl
theorem own10 : look cfg.own 10 = none := rfl
theorem own11 : look cfg.own 11 = none := rfl
theorem own12 : look cfg.own 12 = none := rfl
theorem own13 : look cfg.own 13 = none := rfl
theorem own14 : look cfg.own 14 = none := rfl
theorem own15 : look cfg.own 15 = none := rfl
theorem own16 : look cfg.own 16 = none := rfl
theorem own17 : look cfg.own 17 = none := rfl
theorem own18 : look cfg.own 18 = none := rfl
theorem own19 : look cfg.own 19 = none := rfl
theorem own20 : look cfg.own 20 = none := rfl
theorem own21 : look cfg.own 21 = none := rfl
theorem own22 : look cfg.own 22 = none := rfl
theorem own23 : look cfg.own 23 = none := rfl
theorem own24 : look cfg.own 24 = none := rfl
theorem own25 : look cfg.own 25 = none := rfl
theorem own26 : look cfg.own 26 = none := rfl
theorem own27 : look cfg.own 27 = none := rfl
theorem own28 : look cfg.own 28 = none := rfl
theorem own29 : look cfg.own 29 = none := rfl
theorem own30 : look cfg.own 30 = none := rfl
theorem own31 : look cfg.own 31 = none := rfl
theorem own32 : look cfg.own 32 = none := rfl
theorem own33 : look cfg.own 33 = none := rfl
theorem own34 : look cfg.own 34 = none := rfl
theorem own35 : look cfg.own 35 = none := rfl
theorem own36 : look cfg.own 36 = none := rfl
theorem own37 : look cfg.own 37 = none := rfl
theorem own38 : look cfg.own 38 = none := rfl
theorem own39 : look cfg.own 39 = none := rfl
theorem own40 : look cfg.own 40 = none := rfl
theorem own41 : look cfg.own 41 = none := rfl
theorem own42 : look cfg.own 42 = none := rfl
theorem own43 : look cfg.own 43 = none := rfl
theorem own44 : look cfg.own 44 = none := rfl
theorem own45 : look cfg.own 45 = none := rfl
theorem own46 : look cfg.own 46 = none := rfl
theorem own47 : look cfg.own 47 = none := rfl
theorem own48 : look cfg.own 48 = none := rfl
theorem tts : TysOk Tryd.prog cfg.tt := tysB_ok (by kernel_rfl)
theorem ty2 : look cfg.tt 2 = some ⟨(.int .i64), false, [], [], 8, 0⟩ := rfl
theorem kof2 : kOf cfg 2 = some (.int .i64) := rfl
theorem ty3 : look cfg.tt 3 = some ⟨(.int .i64), false, [], [], 8, 0⟩ := rfl
theorem kof3 : kOf cfg 3 = some (.int .i64) := rfl
theorem ty4 : look cfg.tt 4 = some ⟨.bool, false, [], [], 1, 0⟩ := rfl
theorem kof4 : kOf cfg 4 = some .bool := rfl
theorem ty5 : look cfg.tt 5 = some ⟨(.int .u8), false, [], [], 1, 0⟩ := rfl
theorem kof5 : kOf cfg 5 = some (.int .u8) := rfl
theorem ty9 : look cfg.tt 9 = some ⟨.str, false, [], [], 16, 0⟩ := rfl
theorem kof9 : kOf cfg 9 = some .str := rfl
theorem ty12 : look cfg.tt 12 = some ⟨(.int .u64), false, [], [], 8, 0⟩ := rfl
theorem kof12 : kOf cfg 12 = some (.int .u64) := rfl
theorem ty21 : look cfg.tt 21 = some ⟨(.int .i32), false, [], [], 4, 0⟩ := rfl
theorem kof21 : kOf cfg 21 = some (.int .i32) := rfl
theorem ty25 : look cfg.tt 25 = some ⟨(.sl .str), false, [], [], 24, 9⟩ := rfl
theorem kof25 : kOf cfg 25 = some (.sl .str) := rfl
theorem ty39 : look cfg.tt 39 = some ⟨(.int .u64), false, [], [], 8, 0⟩ := rfl
theorem kof39 : kOf cfg 39 = some (.int .u64) := rfl
theorem ty41 : look cfg.tt 41 = some ⟨(.pair (.int .u8) (.int .u8)), true, [0, 1], [1, 1], 2, 0⟩ := rfl
theorem ty42 : look cfg.tt 42 = some ⟨(.pair (.int .u8) (.int .u8)), true, [0, 1], [1, 1], 2, 0⟩ := rfl
theorem ty44 : look cfg.tt 44 = some ⟨(.int .u32), false, [], [], 4, 0⟩ := rfl
theorem kof44 : kOf cfg 44 = some (.int .u32) := rfl
theorem mixed : Tryd.prog.follows .mixedOrders = true := by kernel_rfl
end Go.Proofs.YteimoohgcafooaaDoor.E
