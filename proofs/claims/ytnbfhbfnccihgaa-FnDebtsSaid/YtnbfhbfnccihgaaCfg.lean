/- The types of the program, for the evaluator. -/
import Derived.Test.YtnbfhbfnccihgaaEB
import Derived.Test.YtnbfhbfnccihgaaProg
import Derived.KernelRfl
namespace Go.Proofs.Ytnbfhbfnccihgaa.E
open Go
def tt : Tys := [(2, ⟨(.int .i64), false, [], [], 8, 0⟩),
  (3, ⟨(.int .i64), false, [], [], 8, 0⟩),
  (4, ⟨.bool, false, [], [], 1, 0⟩),
  (5, ⟨(.int .u8), false, [], [], 1, 0⟩),
  (9, ⟨.str, false, [], [], 16, 0⟩),
  (12, ⟨(.int .u64), false, [], [], 8, 0⟩),
  (21, ⟨(.int .i32), false, [], [], 4, 0⟩),
  (22, ⟨(.sl (.int .u8)), false, [], [], 24, 5⟩),
  (23, ⟨(.sl (.sl (.int .i64))), false, [], [], 24, 24⟩),
  (24, ⟨(.sl (.int .i64)), false, [], [], 24, 3⟩),
  (25, ⟨(.pair (.int .i64) (.int .i64)), true, [0, 1], [1, 1], 16, 0⟩),
  (26, ⟨(.pair (.int .i64) (.int .i64)), true, [0, 1], [1, 1], 16, 0⟩),
  (27, ⟨(.pair (.sl (.sl (.int .i64))) (.pair (.sl (.int .i64)) (.pair (.sl (.int .i64)) (.pair (.pair (.int .i64) (.int .i64)) (.pair (.int .i64) (.pair (.int .i64) (.int .i64))))))), true, [0, 1, 2, 3, 5, 6, 7], [1, 1, 1, 2, 1, 1, 1], 112, 0⟩),
  (28, ⟨(.pair (.sl (.sl (.int .i64))) (.pair (.sl (.int .i64)) (.pair (.sl (.int .i64)) (.pair (.pair (.int .i64) (.int .i64)) (.pair (.int .i64) (.pair (.int .i64) (.int .i64))))))), true, [0, 1, 2, 3, 5, 6, 7], [1, 1, 1, 2, 1, 1, 1], 112, 0⟩),
  (29, ⟨(.pair (.int .i64) (.sl (.int .i64))), true, [0, 1], [1, 1], 32, 0⟩),
  (30, ⟨(.pair (.int .i64) (.sl (.int .i64))), true, [0, 1], [1, 1], 32, 0⟩),
  (49, ⟨(.int .u64), false, [], [], 8, 0⟩),
  (50, ⟨(.pair (.sl (.int .u8)) (.pair (.int .i64) (.int .u64))), true, [0, 1, 2], [1, 1, 1], 40, 0⟩),
  (51, ⟨(.pair (.sl (.int .u8)) (.pair (.int .i64) (.int .u64))), true, [0, 1, 2], [1, 1, 1], 40, 0⟩),
  (70, ⟨(.int .u64), false, [], [], 8, 0⟩),
  (74, ⟨(.pair (.int .i64) (.pair (.int .i64) (.int .i64))), true, [0, 1, 2], [1, 1, 1], 24, 0⟩),
  (75, ⟨(.pair (.int .i64) (.pair (.int .i64) (.int .i64))), true, [0, 1, 2], [1, 1, 1], 24, 0⟩),
  (78, ⟨(.sl (.sl (.pair (.int .i64) (.pair (.int .i64) (.int .i64))))), false, [], [], 24, 85⟩),
  (79, ⟨(.pair (.sl (.int .i64)) (.sl (.sl (.pair (.int .i64) (.pair (.int .i64) (.int .i64)))))), true, [0, 1], [1, 1], 48, 0⟩),
  (80, ⟨(.pair (.sl (.int .i64)) (.sl (.sl (.pair (.int .i64) (.pair (.int .i64) (.int .i64)))))), true, [0, 1], [1, 1], 48, 0⟩),
  (82, ⟨(.sl (.pair (.int .i64) (.pair (.int .i64) (.int .i64)))), false, [], [], 24, 75⟩),
  (85, ⟨(.sl (.pair (.int .i64) (.pair (.int .i64) (.int .i64)))), false, [], [], 24, 87⟩),
  (86, ⟨(.pair (.int .i64) (.pair (.int .i64) (.int .i64))), true, [0, 1, 2], [1, 1, 1], 24, 0⟩),
  (87, ⟨(.pair (.int .i64) (.pair (.int .i64) (.int .i64))), true, [0, 1, 2], [1, 1, 1], 24, 0⟩),
  (102, ⟨(.int .u32), false, [], [], 4, 0⟩)]
def cfg : Cfg := ⟨tt, [(39, [1]), (48, [1])]⟩
theorem own0 : look cfg.own 0 = none := rfl
theorem own1 : look cfg.own 1 = none := rfl
theorem own2 : look cfg.own 2 = none := rfl
theorem own3 : look cfg.own 3 = none := rfl
theorem own4 : look cfg.own 4 = none := rfl
theorem own5 : look cfg.own 5 = none := rfl
theorem own6 : look cfg.own 6 = none := rfl
theorem own7 : look cfg.own 7 = none := rfl
theorem own8 : look cfg.own 8 = none := rfl
theorem own9 : look cfg.own 9 = none := rfl
theorem own10 : look cfg.own 10 = none := rfl
theorem own11 : look cfg.own 11 = none := rfl
theorem own12 : look cfg.own 12 = none := rfl
theorem own13 : look cfg.own 13 = none := rfl
theorem own14 : look cfg.own 14 = none := rfl
theorem own15 : look cfg.own 15 = none := rfl
theorem own16 : look cfg.own 16 = none := rfl
theorem own17 : look cfg.own 17 = none := rfl
theorem own18 : look cfg.own 18 = none := rfl
theorem own19 : look cfg.own 19 = none := rfl
theorem own20 : look cfg.own 20 = none := rfl
theorem own21 : look cfg.own 21 = none := rfl
theorem own22 : look cfg.own 22 = none := rfl
theorem own23 : look cfg.own 23 = none := rfl
theorem own24 : look cfg.own 24 = none := rfl
theorem own25 : look cfg.own 25 = none := rfl
theorem own26 : look cfg.own 26 = none := rfl
theorem own27 : look cfg.own 27 = none := rfl
theorem own28 : look cfg.own 28 = none := rfl
theorem own29 : look cfg.own 29 = none := rfl
theorem own30 : look cfg.own 30 = none := rfl
theorem own31 : look cfg.own 31 = none := rfl
theorem own32 : look cfg.own 32 = none := rfl
theorem own33 : look cfg.own 33 = none := rfl
theorem own34 : look cfg.own 34 = none := rfl
theorem own35 : look cfg.own 35 = none := rfl
theorem own36 : look cfg.own 36 = none := rfl
theorem own37 : look cfg.own 37 = none := rfl
theorem own38 : look cfg.own 38 = none := rfl
theorem own39 : look cfg.own 39 = some [1] := rfl
theorem own40 : look cfg.own 40 = none := rfl
theorem own41 : look cfg.own 41 = none := rfl
theorem own42 : look cfg.own 42 = none := rfl
theorem own43 : look cfg.own 43 = none := rfl
theorem own44 : look cfg.own 44 = none := rfl
theorem own45 : look cfg.own 45 = none := rfl
theorem own46 : look cfg.own 46 = none := rfl
theorem own47 : look cfg.own 47 = none := rfl
theorem own48 : look cfg.own 48 = some [1] := rfl
theorem own49 : look cfg.own 49 = none := rfl
theorem own50 : look cfg.own 50 = none := rfl
theorem own51 : look cfg.own 51 = none := rfl
theorem own52 : look cfg.own 52 = none := rfl
theorem own53 : look cfg.own 53 = none := rfl
theorem own54 : look cfg.own 54 = none := rfl
theorem own55 : look cfg.own 55 = none := rfl
theorem own56 : look cfg.own 56 = none := rfl
theorem own57 : look cfg.own 57 = none := rfl
theorem own58 : look cfg.own 58 = none := rfl
theorem own59 : look cfg.own 59 = none := rfl
theorem own60 : look cfg.own 60 = none := rfl
theorem own61 : look cfg.own 61 = none := rfl
theorem own62 : look cfg.own 62 = none := rfl
theorem own63 : look cfg.own 63 = none := rfl
theorem own64 : look cfg.own 64 = none := rfl
theorem own65 : look cfg.own 65 = none := rfl
theorem own66 : look cfg.own 66 = none := rfl
theorem own67 : look cfg.own 67 = none := rfl
theorem own68 : look cfg.own 68 = none := rfl
theorem own69 : look cfg.own 69 = none := rfl
theorem own70 : look cfg.own 70 = none := rfl
theorem own71 : look cfg.own 71 = none := rfl
theorem own72 : look cfg.own 72 = none := rfl
theorem own73 : look cfg.own 73 = none := rfl
theorem own74 : look cfg.own 74 = none := rfl
theorem own75 : look cfg.own 75 = none := rfl
theorem own76 : look cfg.own 76 = none := rfl
theorem own77 : look cfg.own 77 = none := rfl
theorem own78 : look cfg.own 78 = none := rfl
theorem own79 : look cfg.own 79 = none := rfl
theorem own80 : look cfg.own 80 = none := rfl
theorem own81 : look cfg.own 81 = none := rfl
theorem own82 : look cfg.own 82 = none := rfl
theorem own83 : look cfg.own 83 = none := rfl
theorem own84 : look cfg.own 84 = none := rfl
theorem own85 : look cfg.own 85 = none := rfl
theorem own86 : look cfg.own 86 = none := rfl
theorem own87 : look cfg.own 87 = none := rfl
theorem own88 : look cfg.own 88 = none := rfl
theorem tts : TysOk Try.prog cfg.tt := tysB_ok (by kernel_rfl)
theorem ty2 : look cfg.tt 2 = some ⟨(.int .i64), false, [], [], 8, 0⟩ := rfl
theorem kof2 : kOf cfg 2 = some (.int .i64) := rfl
theorem ty3 : look cfg.tt 3 = some ⟨(.int .i64), false, [], [], 8, 0⟩ := rfl
theorem kof3 : kOf cfg 3 = some (.int .i64) := rfl
theorem ty4 : look cfg.tt 4 = some ⟨.bool, false, [], [], 1, 0⟩ := rfl
theorem kof4 : kOf cfg 4 = some .bool := rfl
theorem ty5 : look cfg.tt 5 = some ⟨(.int .u8), false, [], [], 1, 0⟩ := rfl
theorem kof5 : kOf cfg 5 = some (.int .u8) := rfl
theorem ty9 : look cfg.tt 9 = some ⟨.str, false, [], [], 16, 0⟩ := rfl
theorem kof9 : kOf cfg 9 = some .str := rfl
theorem ty12 : look cfg.tt 12 = some ⟨(.int .u64), false, [], [], 8, 0⟩ := rfl
theorem kof12 : kOf cfg 12 = some (.int .u64) := rfl
theorem ty21 : look cfg.tt 21 = some ⟨(.int .i32), false, [], [], 4, 0⟩ := rfl
theorem kof21 : kOf cfg 21 = some (.int .i32) := rfl
theorem ty22 : look cfg.tt 22 = some ⟨(.sl (.int .u8)), false, [], [], 24, 5⟩ := rfl
theorem kof22 : kOf cfg 22 = some (.sl (.int .u8)) := rfl
theorem ty23 : look cfg.tt 23 = some ⟨(.sl (.sl (.int .i64))), false, [], [], 24, 24⟩ := rfl
theorem kof23 : kOf cfg 23 = some (.sl (.sl (.int .i64))) := rfl
theorem ty24 : look cfg.tt 24 = some ⟨(.sl (.int .i64)), false, [], [], 24, 3⟩ := rfl
theorem kof24 : kOf cfg 24 = some (.sl (.int .i64)) := rfl
theorem ty25 : look cfg.tt 25 = some ⟨(.pair (.int .i64) (.int .i64)), true, [0, 1], [1, 1], 16, 0⟩ := rfl
theorem ty26 : look cfg.tt 26 = some ⟨(.pair (.int .i64) (.int .i64)), true, [0, 1], [1, 1], 16, 0⟩ := rfl
theorem ty27 : look cfg.tt 27 = some ⟨(.pair (.sl (.sl (.int .i64))) (.pair (.sl (.int .i64)) (.pair (.sl (.int .i64)) (.pair (.pair (.int .i64) (.int .i64)) (.pair (.int .i64) (.pair (.int .i64) (.int .i64))))))), true, [0, 1, 2, 3, 5, 6, 7], [1, 1, 1, 2, 1, 1, 1], 112, 0⟩ := rfl
theorem ty28 : look cfg.tt 28 = some ⟨(.pair (.sl (.sl (.int .i64))) (.pair (.sl (.int .i64)) (.pair (.sl (.int .i64)) (.pair (.pair (.int .i64) (.int .i64)) (.pair (.int .i64) (.pair (.int .i64) (.int .i64))))))), true, [0, 1, 2, 3, 5, 6, 7], [1, 1, 1, 2, 1, 1, 1], 112, 0⟩ := rfl
theorem ty29 : look cfg.tt 29 = some ⟨(.pair (.int .i64) (.sl (.int .i64))), true, [0, 1], [1, 1], 32, 0⟩ := rfl
theorem ty30 : look cfg.tt 30 = some ⟨(.pair (.int .i64) (.sl (.int .i64))), true, [0, 1], [1, 1], 32, 0⟩ := rfl
theorem ty49 : look cfg.tt 49 = some ⟨(.int .u64), false, [], [], 8, 0⟩ := rfl
theorem kof49 : kOf cfg 49 = some (.int .u64) := rfl
theorem ty50 : look cfg.tt 50 = some ⟨(.pair (.sl (.int .u8)) (.pair (.int .i64) (.int .u64))), true, [0, 1, 2], [1, 1, 1], 40, 0⟩ := rfl
theorem ty51 : look cfg.tt 51 = some ⟨(.pair (.sl (.int .u8)) (.pair (.int .i64) (.int .u64))), true, [0, 1, 2], [1, 1, 1], 40, 0⟩ := rfl
theorem ty70 : look cfg.tt 70 = some ⟨(.int .u64), false, [], [], 8, 0⟩ := rfl
theorem kof70 : kOf cfg 70 = some (.int .u64) := rfl
theorem ty74 : look cfg.tt 74 = some ⟨(.pair (.int .i64) (.pair (.int .i64) (.int .i64))), true, [0, 1, 2], [1, 1, 1], 24, 0⟩ := rfl
theorem ty75 : look cfg.tt 75 = some ⟨(.pair (.int .i64) (.pair (.int .i64) (.int .i64))), true, [0, 1, 2], [1, 1, 1], 24, 0⟩ := rfl
theorem ty78 : look cfg.tt 78 = some ⟨(.sl (.sl (.pair (.int .i64) (.pair (.int .i64) (.int .i64))))), false, [], [], 24, 85⟩ := rfl
theorem kof78 : kOf cfg 78 = some (.sl (.sl (.pair (.int .i64) (.pair (.int .i64) (.int .i64))))) := rfl
theorem ty79 : look cfg.tt 79 = some ⟨(.pair (.sl (.int .i64)) (.sl (.sl (.pair (.int .i64) (.pair (.int .i64) (.int .i64)))))), true, [0, 1], [1, 1], 48, 0⟩ := rfl
theorem ty80 : look cfg.tt 80 = some ⟨(.pair (.sl (.int .i64)) (.sl (.sl (.pair (.int .i64) (.pair (.int .i64) (.int .i64)))))), true, [0, 1], [1, 1], 48, 0⟩ := rfl
theorem ty82 : look cfg.tt 82 = some ⟨(.sl (.pair (.int .i64) (.pair (.int .i64) (.int .i64)))), false, [], [], 24, 75⟩ := rfl
theorem kof82 : kOf cfg 82 = some (.sl (.pair (.int .i64) (.pair (.int .i64) (.int .i64)))) := rfl
theorem ty85 : look cfg.tt 85 = some ⟨(.sl (.pair (.int .i64) (.pair (.int .i64) (.int .i64)))), false, [], [], 24, 87⟩ := rfl
theorem kof85 : kOf cfg 85 = some (.sl (.pair (.int .i64) (.pair (.int .i64) (.int .i64)))) := rfl
theorem ty86 : look cfg.tt 86 = some ⟨(.pair (.int .i64) (.pair (.int .i64) (.int .i64))), true, [0, 1, 2], [1, 1, 1], 24, 0⟩ := rfl
theorem ty87 : look cfg.tt 87 = some ⟨(.pair (.int .i64) (.pair (.int .i64) (.int .i64))), true, [0, 1, 2], [1, 1, 1], 24, 0⟩ := rfl
theorem ty102 : look cfg.tt 102 = some ⟨(.int .u32), false, [], [], 4, 0⟩ := rfl
theorem kof102 : kOf cfg 102 = some (.int .u32) := rfl
theorem mixed : Try.prog.follows .mixedOrders = true := by kernel_rfl
end Go.Proofs.Ytnbfhbfnccihgaa.E
