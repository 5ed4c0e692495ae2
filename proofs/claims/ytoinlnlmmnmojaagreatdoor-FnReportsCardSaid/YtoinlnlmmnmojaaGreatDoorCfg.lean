/- The types of the program, for the evaluator. -/
import Derived.Test.YtoinlnlmmnmojaaGreatDoorEB
import Derived.Test.YtoinlnlmmnmojaaGreatDoorProg
import Derived.KernelRfl
namespace Go.Proofs.YtoinlnlmmnmojaaGreatDoor.E
open Go
def tt : Tys := [(2, ⟨(.int .i64), false, [], [], 8, 0⟩),
  (3, ⟨(.int .i64), false, [], [], 8, 0⟩),
  (4, ⟨.bool, false, [], [], 1, 0⟩),
  (5, ⟨(.int .u8), false, [], [], 1, 0⟩),
  (9, ⟨.str, false, [], [], 16, 0⟩),
  (12, ⟨(.int .u64), false, [], [], 8, 0⟩),
  (21, ⟨(.int .i32), false, [], [], 4, 0⟩),
  (22, ⟨(.sl (.int .u8)), false, [], [], 24, 5⟩),
  (24, ⟨(.sl (.pair .str (.sl (.int .i64)))), false, [], [], 24, 36⟩),
  (25, ⟨(.pair .str (.pair (.int .i64) (.sl (.pair .str (.sl (.int .i64)))))), true, [0, 1, 2], [1, 1, 1], 48, 0⟩),
  (26, ⟨(.pair .str (.pair (.int .i64) (.sl (.pair .str (.sl (.int .i64)))))), true, [0, 1, 2], [1, 1, 1], 48, 0⟩),
  (34, ⟨(.sl (.int .i64)), false, [], [], 24, 3⟩),
  (35, ⟨(.pair .str (.sl (.int .i64))), true, [0, 1], [1, 1], 40, 0⟩),
  (36, ⟨(.pair .str (.sl (.int .i64))), true, [0, 1], [1, 1], 40, 0⟩),
  (57, ⟨(.int .u64), false, [], [], 8, 0⟩),
  (58, ⟨(.pair (.sl (.int .u8)) (.pair (.int .i64) (.int .u64))), true, [0, 1, 2], [1, 1, 1], 40, 0⟩),
  (59, ⟨(.pair (.sl (.int .u8)) (.pair (.int .i64) (.int .u64))), true, [0, 1, 2], [1, 1, 1], 40, 0⟩),
  (62, ⟨(.sl .str), false, [], [], 24, 9⟩),
  (85, ⟨(.int .u32), false, [], [], 4, 0⟩),
  (88, ⟨(.int .u64), false, [], [], 8, 0⟩),
  (117, ⟨(.pair (.int .u8) (.int .u8)), true, [0, 1], [1, 1], 2, 0⟩),
  (118, ⟨(.pair (.int .u8) (.int .u8)), true, [0, 1], [1, 1], 2, 0⟩)]
def cfg : Cfg := ⟨tt, [(63, [0]), (67, [1]), (48, [1])]⟩
theorem own0 : look cfg.own 0 = none := rfl
theorem own1 : look cfg.own 1 = none := rfl
theorem own2 : look cfg.own 2 = none := rfl
theorem own3 : look cfg.own 3 = none := rfl
theorem own4 : look cfg.own 4 = none := rfl
theorem own5 : look cfg.own 5 = none := rfl
theorem own6 : look cfg.own 6 = none := rfl
theorem own7 : look cfg.own 7 = none := rfl
theorem own8 : look cfg.own 8 = none := rfl
theorem own9 : look cfg.own 9 = none := rfl
theorem own10 : look cfg.own 10 = none := rfl
theorem own11 : look cfg.own 11 = none := rfl
theorem own12 : look cfg.own 12 = none := rfl
theorem own13 : look cfg.own 13 = none := rfl
theorem own14 : look cfg.own 14 = none := rfl
theorem own15 : look cfg.own 15 = none := rfl
theorem own16 : look cfg.own 16 = none := rfl
theorem own17 : look cfg.own 17 = none := rfl
theorem own18 : look cfg.own 18 = none := rfl
theorem own19 : look cfg.own 19 = none := rfl
theorem own20 : look cfg.own 20 = none := rfl
theorem own21 : look cfg.own 21 = none := rfl
theorem own22 : look cfg.own 22 = none := rfl
theorem own23 : look cfg.own 23 = none := rfl
theorem own24 : look cfg.own 24 = none := rfl
theorem own25 : look cfg.own 25 = none := rfl
theorem own26 : look cfg.own 26 = none := rfl
theorem own27 : look cfg.own 27 = none := rfl
theorem own28 : look cfg.own 28 = none := rfl
theorem own29 : look cfg.own 29 = none := rfl
theorem own30 : look cfg.own 30 = none := rfl
theorem own31 : look cfg.own 31 = none := rfl
theorem own32 : look cfg.own 32 = none := rfl
theorem own33 : look cfg.own 33 = none := rfl
theorem own34 : look cfg.own 34 = none := rfl
theorem own35 : look cfg.own 35 = none := rfl
theorem own36 : look cfg.own 36 = none := rfl
theorem own37 : look cfg.own 37 = none := rfl
theorem own38 : look cfg.own 38 = none := rfl
theorem own39 : look cfg.own 39 = none := rfl
theorem own40 : look cfg.own 40 = none := rfl
theorem own41 : look cfg.own 41 = none := rfl
theorem own42 : look cfg.own 42 = none := rfl
theorem own43 : look cfg.own 43 = none := rfl
theorem own44 : look cfg.own 44 = none := rfl
theorem own45 : look cfg.own 45 = none := rfl
theorem own46 : look cfg.own 46 = none := rfl
theorem own47 : look cfg.own 47 = none := rfl
theorem own48 : look cfg.own 48 = some [1] := rfl
theorem own49 : look cfg.own 49 = none := rfl
theorem own50 : look cfg.own 50 = none := rfl
theorem own51 : look cfg.own 51 = none := rfl
theorem own52 : look cfg.own 52 = none := rfl
theorem own53 : look cfg.own 53 = none := rfl
theorem own54 : look cfg.own 54 = none := rfl
theorem own55 : look cfg.own 55 = none := rfl
theorem own56 : look cfg.own 56 = none := rfl
theorem own57 : look cfg.own 57 = none := rfl
theorem own58 : look cfg.own 58 = none := rfl
theorem own59 : look cfg.own 59 = none := rfl
theorem own60 : look cfg.own 60 = none := rfl
theorem own61 : look cfg.own 61 = none := rfl
theorem own62 : look cfg.own 62 = none := rfl
theorem own63 : look cfg.own 63 = some [0] := rfl
theorem own64 : look cfg.own 64 = none := rfl
theorem own65 : look cfg.own 65 = none := rfl
theorem own66 : look cfg.own 66 = none := rfl
theorem own67 : look cfg.own 67 = some [1] := rfl
theorem own68 : look cfg.own 68 = none := rfl
theorem own69 : look cfg.own 69 = none := rfl
theorem own70 : look cfg.own 70 = none := rfl
theorem own71 : look cfg.own 71 = none := rfl
theorem own72 : look cfg.own 72 = none := rfl
theorem own73 : look cfg.own 73 = none := rfl
theorem own74 : look cfg.own 74 = none := rfl
theorem own75 : look cfg.own 75 = none := rfl
theorem own76 : look cfg.own 76 = none := rfl
theorem own77 : look cfg.own 77 = none := rfl
theorem own78 : look cfg.own 78 = none := rfl
theorem own79 : look cfg.own 79 = none := rfl
theorem own80 : look cfg.own 80 = none := rfl
theorem own81 : look cfg.own 81 = none := rfl
theorem own82 : look cfg.own 82 = none := rfl
theorem own83 : look cfg.own 83 = none := rfl
theorem own84 : look cfg.own 84 = none := rfl
theorem own85 : look cfg.own 85 = none := rfl
theorem own86 : look cfg.own 86 = none := rfl
theorem own87 : look cfg.own 87 = none := rfl
theorem own88 : look cfg.own 88 = none := rfl
theorem own89 : look cfg.own 89 = none := rfl
theorem own90 : look cfg.own 90 = none := rfl
theorem own91 : look cfg.own 91 = none := rfl
theorem own92 : look cfg.own 92 = none := rfl
theorem own93 : look cfg.own 93 = none := rfl
theorem own94 : look cfg.own 94 = none := rfl
theorem own95 : look cfg.own 95 = none := rfl
theorem own96 : look cfg.own 96 = none := rfl
theorem own97 : look cfg.own 97 = none := rfl
theorem own98 : look cfg.own 98 = none := rfl
theorem own99 : look cfg.own 99 = none := rfl
theorem own100 : look cfg.own 100 = none := rfl
theorem own101 : look cfg.own 101 = none := rfl
theorem own102 : look cfg.own 102 = none := rfl
theorem own103 : look cfg.own 103 = none := rfl
theorem own104 : look cfg.own 104 = none := rfl
theorem own105 : look cfg.own 105 = none := rfl
theorem own106 : look cfg.own 106 = none := rfl
theorem own107 : look cfg.own 107 = none := rfl
theorem own108 : look cfg.own 108 = none := rfl
theorem own109 : look cfg.own 109 = none := rfl
theorem own110 : look cfg.own 110 = none := rfl
theorem own111 : look cfg.own 111 = none := rfl
theorem own112 : look cfg.own 112 = none := rfl
theorem own113 : look cfg.own 113 = none := rfl
theorem own114 : look cfg.own 114 = none := rfl
theorem own115 : look cfg.own 115 = none := rfl
theorem own116 : look cfg.own 116 = none := rfl
theorem own117 : look cfg.own 117 = none := rfl
theorem own118 : look cfg.own 118 = none := rfl
theorem own119 : look cfg.own 119 = none := rfl
theorem own120 : look cfg.own 120 = none := rfl
theorem own121 : look cfg.own 121 = none := rfl
theorem own122 : look cfg.own 122 = none := rfl
theorem own123 : look cfg.own 123 = none := rfl
theorem own124 : look cfg.own 124 = none := rfl
theorem own125 : look cfg.own 125 = none := rfl
theorem own126 : look cfg.own 126 = none := rfl
theorem own127 : look cfg.own 127 = none := rfl
theorem own128 : look cfg.own 128 = none := rfl
theorem own129 : look cfg.own 129 = none := rfl
theorem own130 : look cfg.own 130 = none := rfl
theorem own131 : look cfg.own 131 = none := rfl
theorem own132 : look cfg.own 132 = none := rfl
theorem own133 : look cfg.own 133 = none := rfl
theorem own134 : look cfg.own 134 = none := rfl
theorem own135 : look cfg.own 135 = none := rfl
theorem own136 : look cfg.own 136 = none := rfl
theorem own137 : look cfg.own 137 = none := rfl
theorem own138 : look cfg.own 138 = none := rfl
theorem own139 : look cfg.own 139 = none := rfl
theorem own140 : look cfg.own 140 = none := rfl
theorem own141 : look cfg.own 141 = none := rfl
theorem tts : TysOk Tryz.prog cfg.tt := tysB_ok (by kernel_rfl)
theorem ty2 : look cfg.tt 2 = some ⟨(.int .i64), false, [], [], 8, 0⟩ := rfl
theorem kof2 : kOf cfg 2 = some (.int .i64) := rfl
theorem ty3 : look cfg.tt 3 = some ⟨(.int .i64), false, [], [], 8, 0⟩ := rfl
theorem kof3 : kOf cfg 3 = some (.int .i64) := rfl
theorem ty4 : look cfg.tt 4 = some ⟨.bool, false, [], [], 1, 0⟩ := rfl
theorem kof4 : kOf cfg 4 = some .bool := rfl
theorem ty5 : look cfg.tt 5 = some ⟨(.int .u8), false, [], [], 1, 0⟩ := rfl
theorem kof5 : kOf cfg 5 = some (.int .u8) := rfl
theorem ty9 : look cfg.tt 9 = some ⟨.str, false, [], [], 16, 0⟩ := rfl
theorem kof9 : kOf cfg 9 = some .str := rfl
theorem ty12 : look cfg.tt 12 = some ⟨(.int .u64), false, [], [], 8, 0⟩ := rfl
theorem kof12 : kOf cfg 12 = some (.int .u64) := rfl
theorem ty21 : look cfg.tt 21 = some ⟨(.int .i32), false, [], [], 4, 0⟩ := rfl
theorem kof21 : kOf cfg 21 = some (.int .i32) := rfl
theorem ty22 : look cfg.tt 22 = some ⟨(.sl (.int .u8)), false, [], [], 24, 5⟩ := rfl
theorem kof22 : kOf cfg 22 = some (.sl (.int .u8)) := rfl
theorem ty24 : look cfg.tt 24 = some ⟨(.sl (.pair .str (.sl (.int .i64)))), false, [], [], 24, 36⟩ := rfl
theorem kof24 : kOf cfg 24 = some (.sl (.pair .str (.sl (.int .i64)))) := rfl
theorem ty25 : look cfg.tt 25 = some ⟨(.pair .str (.pair (.int .i64) (.sl (.pair .str (.sl (.int .i64)))))), true, [0, 1, 2], [1, 1, 1], 48, 0⟩ := rfl
theorem ty26 : look cfg.tt 26 = some ⟨(.pair .str (.pair (.int .i64) (.sl (.pair .str (.sl (.int .i64)))))), true, [0, 1, 2], [1, 1, 1], 48, 0⟩ := rfl
theorem ty34 : look cfg.tt 34 = some ⟨(.sl (.int .i64)), false, [], [], 24, 3⟩ := rfl
theorem kof34 : kOf cfg 34 = some (.sl (.int .i64)) := rfl
theorem ty35 : look cfg.tt 35 = some ⟨(.pair .str (.sl (.int .i64))), true, [0, 1], [1, 1], 40, 0⟩ := rfl
theorem ty36 : look cfg.tt 36 = some ⟨(.pair .str (.sl (.int .i64))), true, [0, 1], [1, 1], 40, 0⟩ := rfl
theorem ty57 : look cfg.tt 57 = some ⟨(.int .u64), false, [], [], 8, 0⟩ := rfl
theorem kof57 : kOf cfg 57 = some (.int .u64) := rfl
theorem ty58 : look cfg.tt 58 = some ⟨(.pair (.sl (.int .u8)) (.pair (.int .i64) (.int .u64))), true, [0, 1, 2], [1, 1, 1], 40, 0⟩ := rfl
theorem ty59 : look cfg.tt 59 = some ⟨(.pair (.sl (.int .u8)) (.pair (.int .i64) (.int .u64))), true, [0, 1, 2], [1, 1, 1], 40, 0⟩ := rfl
theorem ty62 : look cfg.tt 62 = some ⟨(.sl .str), false, [], [], 24, 9⟩ := rfl
theorem kof62 : kOf cfg 62 = some (.sl .str) := rfl
theorem ty85 : look cfg.tt 85 = some ⟨(.int .u32), false, [], [], 4, 0⟩ := rfl
theorem kof85 : kOf cfg 85 = some (.int .u32) := rfl
theorem ty88 : look cfg.tt 88 = some ⟨(.int .u64), false, [], [], 8, 0⟩ := rfl
theorem kof88 : kOf cfg 88 = some (.int .u64) := rfl
theorem ty117 : look cfg.tt 117 = some ⟨(.pair (.int .u8) (.int .u8)), true, [0, 1], [1, 1], 2, 0⟩ := rfl
theorem ty118 : look cfg.tt 118 = some ⟨(.pair (.int .u8) (.int .u8)), true, [0, 1], [1, 1], 2, 0⟩ := rfl
theorem mixed : Tryz.prog.follows .mixedOrders = true := by kernel_rfl
end Go.Proofs.YtoinlnlmmnmojaaGreatDoor.E
