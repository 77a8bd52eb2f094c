/- Shows what the parts of the program do that the claim reaches: a machine of values over the model, and the contracts of functions, for all arguments within the lengths that each theorem names. -/
import Derived.Test.YtalhmcbkmpggiaaVm3
import Derived.Test.YtalhmcbkmpggiaaRows
import Derived.Test.YtalhmcbkmpggiaaXLoadV5
set_option linter.all false

namespace Q6
open Go Go.Vm Go.Proofs
def tbl : List TyI := [
  ⟨.bad, 0, 0⟩,
  ⟨.fn, 1, 8⟩,
  ⟨.int .i64, 1, 8⟩,
  ⟨.int .i64, 1, 8⟩,
  ⟨.bool, 1, 1⟩,
  ⟨.int .u8, 1, 1⟩,
  ⟨.int .u8, 1, 1⟩,
  ⟨.st [(2, 0), (3, 1), (4, 2), (6, 3)], 4, 24⟩,
  ⟨.st [(2, 0), (3, 1), (4, 2), (6, 3)], 4, 24⟩,
  ⟨.str, 1, 16⟩,
  ⟨.str, 1, 16⟩,
  ⟨.str, 1, 16⟩,
  ⟨.int .u64, 1, 8⟩,
  ⟨.st [(9, 0), (12, 1)], 2, 24⟩,
  ⟨.st [(9, 0), (12, 1)], 2, 24⟩,
  ⟨.ptr 198, 1, 8⟩,
  ⟨.ptr 201, 1, 8⟩,
  ⟨.ptr 209, 1, 8⟩,
  ⟨.st [(17, 0)], 1, 8⟩,
  ⟨.st [(17, 0)], 1, 8⟩,
  ⟨.ifc, 1, 16⟩,
  ⟨.int .i32, 1, 4⟩,
  ⟨.sl 79, 1, 24⟩,
  ⟨.fn, 1, 8⟩,
  ⟨.sl 5, 1, 24⟩,
  ⟨.fn, 1, 8⟩,
  ⟨.sl 38, 1, 24⟩,
  ⟨.fn, 1, 8⟩,
  ⟨.fn, 1, 8⟩,
  ⟨.fn, 1, 8⟩,
  ⟨.fn, 1, 8⟩,
  ⟨.fn, 1, 8⟩,
  ⟨.fn, 1, 8⟩,
  ⟨.fn, 1, 8⟩,
  ⟨.sl 3, 1, 24⟩,
  ⟨.st [(3, 0), (34, 1), (34, 2)], 3, 56⟩,
  ⟨.st [(3, 0), (34, 1), (34, 2)], 3, 56⟩,
  ⟨.st [(4, 0), (36, 1)], 4, 64⟩,
  ⟨.st [(4, 0), (36, 1)], 4, 64⟩,
  ⟨.sl 91, 1, 24⟩,
  ⟨.st [(3, 0), (3, 1), (3, 2), (3, 3), (3, 4), (38, 5), (38, 9), (3, 13), (39, 14)], 15, 200⟩,
  ⟨.st [(3, 0), (3, 1), (3, 2), (3, 3), (3, 4), (38, 5), (38, 9), (3, 13), (39, 14)], 15, 200⟩,
  ⟨.fn, 1, 8⟩,
  ⟨.fn, 1, 8⟩,
  ⟨.fn, 1, 8⟩,
  ⟨.bad, 0, 0⟩,
  ⟨.fn, 1, 8⟩,
  ⟨.ar 4 38, 16, 256⟩,
  ⟨.st [(3, 0), (47, 1)], 17, 264⟩,
  ⟨.st [(3, 0), (47, 1)], 17, 264⟩,
  ⟨.bad, 0, 0⟩,
  ⟨.fn, 1, 8⟩,
  ⟨.fn, 1, 8⟩,
  ⟨.fn, 1, 8⟩,
  ⟨.bad, 0, 0⟩,
  ⟨.fn, 1, 8⟩,
  ⟨.fn, 1, 8⟩,
  ⟨.fn, 1, 8⟩,
  ⟨.fn, 1, 8⟩,
  ⟨.fn, 1, 8⟩,
  ⟨.fn, 1, 8⟩,
  ⟨.fn, 1, 8⟩,
  ⟨.fn, 1, 8⟩,
  ⟨.fn, 1, 8⟩,
  ⟨.bad, 0, 0⟩,
  ⟨.fn, 1, 8⟩,
  ⟨.sl 41, 1, 24⟩,
  ⟨.st [(66, 0), (3, 1)], 2, 32⟩,
  ⟨.st [(66, 0), (3, 1)], 2, 32⟩,
  ⟨.bad, 0, 0⟩,
  ⟨.fn, 1, 8⟩,
  ⟨.fn, 1, 8⟩,
  ⟨.fn, 1, 8⟩,
  ⟨.fn, 1, 8⟩,
  ⟨.fn, 1, 8⟩,
  ⟨.fn, 1, 8⟩,
  ⟨.fn, 1, 8⟩,
  ⟨.st [(3, 0), (34, 1), (34, 2)], 3, 56⟩,
  ⟨.st [(4, 0), (77, 1)], 4, 64⟩,
  ⟨.st [(4, 0), (77, 1)], 4, 64⟩,
  ⟨.fn, 1, 8⟩,
  ⟨.fn, 1, 8⟩,
  ⟨.fn, 1, 8⟩,
  ⟨.fn, 1, 8⟩,
  ⟨.fn, 1, 8⟩,
  ⟨.fn, 1, 8⟩,
  ⟨.fn, 1, 8⟩,
  ⟨.ptr 139, 1, 8⟩,
  ⟨.fn, 1, 8⟩,
  ⟨.fn, 1, 8⟩,
  ⟨.st [(3, 0), (3, 1), (4, 2)], 3, 24⟩,
  ⟨.st [(3, 0), (3, 1), (4, 2)], 3, 24⟩,
  ⟨.fn, 1, 8⟩,
  ⟨.fn, 1, 8⟩,
  ⟨.fn, 1, 8⟩,
  ⟨.fn, 1, 8⟩,
  ⟨.fn, 1, 8⟩,
  ⟨.ptr 99, 1, 8⟩,
  ⟨.st [(24, 0), (3, 1), (4, 2)], 3, 40⟩,
  ⟨.st [(24, 0), (3, 1), (4, 2)], 3, 40⟩,
  ⟨.fn, 1, 8⟩,
  ⟨.fn, 1, 8⟩,
  ⟨.fn, 1, 8⟩,
  ⟨.fn, 1, 8⟩,
  ⟨.fn, 1, 8⟩,
  ⟨.fn, 1, 8⟩,
  ⟨.fn, 1, 8⟩,
  ⟨.fn, 1, 8⟩,
  ⟨.fn, 1, 8⟩,
  ⟨.fn, 1, 8⟩,
  ⟨.fn, 1, 8⟩,
  ⟨.bad, 0, 0⟩,
  ⟨.fn, 1, 8⟩,
  ⟨.fn, 1, 8⟩,
  ⟨.fn, 1, 8⟩,
  ⟨.ptr 117, 1, 8⟩,
  ⟨.st [(24, 0), (3, 1), (4, 2)], 3, 40⟩,
  ⟨.st [(24, 0), (3, 1), (4, 2)], 3, 40⟩,
  ⟨.fn, 1, 8⟩,
  ⟨.fn, 1, 8⟩,
  ⟨.fn, 1, 8⟩,
  ⟨.fn, 1, 8⟩,
  ⟨.fn, 1, 8⟩,
  ⟨.fn, 1, 8⟩,
  ⟨.fn, 1, 8⟩,
  ⟨.fn, 1, 8⟩,
  ⟨.fn, 1, 8⟩,
  ⟨.fn, 1, 8⟩,
  ⟨.fn, 1, 8⟩,
  ⟨.fn, 1, 8⟩,
  ⟨.fn, 1, 8⟩,
  ⟨.fn, 1, 8⟩,
  ⟨.fn, 1, 8⟩,
  ⟨.int .u64, 1, 8⟩,
  ⟨.fn, 1, 8⟩,
  ⟨.fn, 1, 8⟩,
  ⟨.fn, 1, 8⟩,
  ⟨.fn, 1, 8⟩,
  ⟨.st [(24, 0), (3, 1), (3, 2)], 3, 40⟩,
  ⟨.st [(24, 0), (3, 1), (3, 2)], 3, 40⟩,
  ⟨.fn, 1, 8⟩,
  ⟨.bad, 0, 0⟩,
  ⟨.fn, 1, 8⟩,
  ⟨.bad, 0, 0⟩,
  ⟨.fn, 1, 8⟩,
  ⟨.fn, 1, 8⟩,
  ⟨.fn, 1, 8⟩,
  ⟨.fn, 1, 8⟩,
  ⟨.fn, 1, 8⟩,
  ⟨.bad, 0, 0⟩,
  ⟨.fn, 1, 8⟩,
  ⟨.fn, 1, 8⟩,
  ⟨.fn, 1, 8⟩,
  ⟨.fn, 1, 8⟩,
  ⟨.fn, 1, 8⟩,
  ⟨.fn, 1, 8⟩,
  ⟨.fn, 1, 8⟩,
  ⟨.sl 24, 1, 24⟩,
  ⟨.fn, 1, 8⟩,
  ⟨.fn, 1, 8⟩,
  ⟨.fn, 1, 8⟩,
  ⟨.fn, 1, 8⟩,
  ⟨.fn, 1, 8⟩,
  ⟨.ar 8 49, 136, 2112⟩,
  ⟨.sl 188, 1, 24⟩,
  ⟨.st [(164, 0), (3, 1)], 2, 32⟩,
  ⟨.st [(164, 0), (3, 1)], 2, 32⟩,
  ⟨.sl 194, 1, 24⟩,
  ⟨.st [(163, 0), (166, 136), (68, 138), (39, 140), (167, 141), (3, 142), (4, 143)], 144, 2240⟩,
  ⟨.st [(163, 0), (166, 136), (68, 138), (39, 140), (167, 141), (3, 142), (4, 143)], 144, 2240⟩,
  ⟨.fn, 1, 8⟩,
  ⟨.int .u32, 1, 4⟩,
  ⟨.fn, 1, 8⟩,
  ⟨.fn, 1, 8⟩,
  ⟨.fn, 1, 8⟩,
  ⟨.ptr 169, 1, 8⟩,
  ⟨.fn, 1, 8⟩,
  ⟨.fn, 1, 8⟩,
  ⟨.fn, 1, 8⟩,
  ⟨.fn, 1, 8⟩,
  ⟨.fn, 1, 8⟩,
  ⟨.fn, 1, 8⟩,
  ⟨.fn, 1, 8⟩,
  ⟨.ptr 68, 1, 8⟩,
  ⟨.fn, 1, 8⟩,
  ⟨.fn, 1, 8⟩,
  ⟨.fn, 1, 8⟩,
  ⟨.st [(3, 0), (49, 1), (4, 18), (4, 19)], 20, 280⟩,
  ⟨.st [(3, 0), (49, 1), (4, 18), (4, 19)], 20, 280⟩,
  ⟨.fn, 1, 8⟩,
  ⟨.bad, 0, 0⟩,
  ⟨.fn, 1, 8⟩,
  ⟨.ptr 166, 1, 8⟩,
  ⟨.st [(3, 0), (3, 1)], 2, 16⟩,
  ⟨.st [(3, 0), (3, 1)], 2, 16⟩,
  ⟨.fn, 1, 8⟩,
  ⟨.fn, 1, 8⟩,
  ⟨.st [(17, 0), (17, 1), (17, 2), (9, 3)], 4, 40⟩,
  ⟨.st [(17, 0), (17, 1), (17, 2), (9, 3)], 4, 40⟩,
  ⟨.bad, 0, 0⟩,
  ⟨.bad, 0, 0⟩,
  ⟨.bad, 0, 0⟩,
  ⟨.int .u8, 1, 1⟩,
  ⟨.int .u8, 1, 1⟩,
  ⟨.fn, 1, 8⟩,
  ⟨.ptr 5, 1, 8⟩,
  ⟨.int .i32, 1, 4⟩,
  ⟨.int .i32, 1, 4⟩,
  ⟨.bad, 0, 0⟩,
  ⟨.bad, 0, 0⟩,
  ⟨.fn, 1, 8⟩,
  ⟨.bad, 0, 0⟩
]
def Y : TypeId → TyI := tblY tbl
theorem hY : TysW Try.prog Y := tysW_of (by kernel_rfl)
theorem Y1 : Y 1 = ⟨.fn, 1, 8⟩ := rfl
theorem Y2 : Y 2 = ⟨.int .i64, 1, 8⟩ := rfl
theorem Y3 : Y 3 = ⟨.int .i64, 1, 8⟩ := rfl
theorem Y4 : Y 4 = ⟨.bool, 1, 1⟩ := rfl
theorem Y5 : Y 5 = ⟨.int .u8, 1, 1⟩ := rfl
theorem Y6 : Y 6 = ⟨.int .u8, 1, 1⟩ := rfl
theorem Y7 : Y 7 = ⟨.st [(2, 0), (3, 1), (4, 2), (6, 3)], 4, 24⟩ := rfl
theorem Y8 : Y 8 = ⟨.st [(2, 0), (3, 1), (4, 2), (6, 3)], 4, 24⟩ := rfl
theorem Y9 : Y 9 = ⟨.str, 1, 16⟩ := rfl
theorem Y10 : Y 10 = ⟨.str, 1, 16⟩ := rfl
theorem Y11 : Y 11 = ⟨.str, 1, 16⟩ := rfl
theorem Y12 : Y 12 = ⟨.int .u64, 1, 8⟩ := rfl
theorem Y13 : Y 13 = ⟨.st [(9, 0), (12, 1)], 2, 24⟩ := rfl
theorem Y14 : Y 14 = ⟨.st [(9, 0), (12, 1)], 2, 24⟩ := rfl
theorem Y15 : Y 15 = ⟨.ptr 198, 1, 8⟩ := rfl
theorem Y16 : Y 16 = ⟨.ptr 201, 1, 8⟩ := rfl
theorem Y17 : Y 17 = ⟨.ptr 209, 1, 8⟩ := rfl
theorem Y18 : Y 18 = ⟨.st [(17, 0)], 1, 8⟩ := rfl
theorem Y19 : Y 19 = ⟨.st [(17, 0)], 1, 8⟩ := rfl
theorem Y20 : Y 20 = ⟨.ifc, 1, 16⟩ := rfl
theorem Y21 : Y 21 = ⟨.int .i32, 1, 4⟩ := rfl
theorem Y22 : Y 22 = ⟨.sl 79, 1, 24⟩ := rfl
theorem Y23 : Y 23 = ⟨.fn, 1, 8⟩ := rfl
theorem Y24 : Y 24 = ⟨.sl 5, 1, 24⟩ := rfl
theorem Y25 : Y 25 = ⟨.fn, 1, 8⟩ := rfl
theorem Y26 : Y 26 = ⟨.sl 38, 1, 24⟩ := rfl
theorem Y27 : Y 27 = ⟨.fn, 1, 8⟩ := rfl
theorem Y28 : Y 28 = ⟨.fn, 1, 8⟩ := rfl
theorem Y29 : Y 29 = ⟨.fn, 1, 8⟩ := rfl
theorem Y30 : Y 30 = ⟨.fn, 1, 8⟩ := rfl
theorem Y31 : Y 31 = ⟨.fn, 1, 8⟩ := rfl
theorem Y32 : Y 32 = ⟨.fn, 1, 8⟩ := rfl
theorem Y33 : Y 33 = ⟨.fn, 1, 8⟩ := rfl
theorem Y34 : Y 34 = ⟨.sl 3, 1, 24⟩ := rfl
theorem Y35 : Y 35 = ⟨.st [(3, 0), (34, 1), (34, 2)], 3, 56⟩ := rfl
theorem Y36 : Y 36 = ⟨.st [(3, 0), (34, 1), (34, 2)], 3, 56⟩ := rfl
theorem Y37 : Y 37 = ⟨.st [(4, 0), (36, 1)], 4, 64⟩ := rfl
theorem Y38 : Y 38 = ⟨.st [(4, 0), (36, 1)], 4, 64⟩ := rfl
theorem Y39 : Y 39 = ⟨.sl 91, 1, 24⟩ := rfl
theorem Y40 : Y 40 = ⟨.st [(3, 0), (3, 1), (3, 2), (3, 3), (3, 4), (38, 5), (38, 9), (3, 13), (39, 14)], 15, 200⟩ := rfl
theorem Y41 : Y 41 = ⟨.st [(3, 0), (3, 1), (3, 2), (3, 3), (3, 4), (38, 5), (38, 9), (3, 13), (39, 14)], 15, 200⟩ := rfl
theorem Y42 : Y 42 = ⟨.fn, 1, 8⟩ := rfl
theorem Y43 : Y 43 = ⟨.fn, 1, 8⟩ := rfl
theorem Y44 : Y 44 = ⟨.fn, 1, 8⟩ := rfl
theorem Y46 : Y 46 = ⟨.fn, 1, 8⟩ := rfl
theorem Y47 : Y 47 = ⟨.ar 4 38, 16, 256⟩ := rfl
theorem Y48 : Y 48 = ⟨.st [(3, 0), (47, 1)], 17, 264⟩ := rfl
theorem Y49 : Y 49 = ⟨.st [(3, 0), (47, 1)], 17, 264⟩ := rfl
theorem Y51 : Y 51 = ⟨.fn, 1, 8⟩ := rfl
theorem Y52 : Y 52 = ⟨.fn, 1, 8⟩ := rfl
theorem Y53 : Y 53 = ⟨.fn, 1, 8⟩ := rfl
theorem Y55 : Y 55 = ⟨.fn, 1, 8⟩ := rfl
theorem Y56 : Y 56 = ⟨.fn, 1, 8⟩ := rfl
theorem Y57 : Y 57 = ⟨.fn, 1, 8⟩ := rfl
theorem Y58 : Y 58 = ⟨.fn, 1, 8⟩ := rfl
theorem Y59 : Y 59 = ⟨.fn, 1, 8⟩ := rfl
theorem Y60 : Y 60 = ⟨.fn, 1, 8⟩ := rfl
theorem Y61 : Y 61 = ⟨.fn, 1, 8⟩ := rfl
theorem Y62 : Y 62 = ⟨.fn, 1, 8⟩ := rfl
theorem Y63 : Y 63 = ⟨.fn, 1, 8⟩ := rfl
theorem Y65 : Y 65 = ⟨.fn, 1, 8⟩ := rfl
theorem Y66 : Y 66 = ⟨.sl 41, 1, 24⟩ := rfl
theorem Y67 : Y 67 = ⟨.st [(66, 0), (3, 1)], 2, 32⟩ := rfl
theorem Y68 : Y 68 = ⟨.st [(66, 0), (3, 1)], 2, 32⟩ := rfl
theorem Y70 : Y 70 = ⟨.fn, 1, 8⟩ := rfl
theorem Y71 : Y 71 = ⟨.fn, 1, 8⟩ := rfl
theorem Y72 : Y 72 = ⟨.fn, 1, 8⟩ := rfl
theorem Y73 : Y 73 = ⟨.fn, 1, 8⟩ := rfl
theorem Y74 : Y 74 = ⟨.fn, 1, 8⟩ := rfl
theorem Y75 : Y 75 = ⟨.fn, 1, 8⟩ := rfl
theorem Y76 : Y 76 = ⟨.fn, 1, 8⟩ := rfl
theorem Y77 : Y 77 = ⟨.st [(3, 0), (34, 1), (34, 2)], 3, 56⟩ := rfl
theorem Y78 : Y 78 = ⟨.st [(4, 0), (77, 1)], 4, 64⟩ := rfl
theorem Y79 : Y 79 = ⟨.st [(4, 0), (77, 1)], 4, 64⟩ := rfl
theorem Y80 : Y 80 = ⟨.fn, 1, 8⟩ := rfl
theorem Y81 : Y 81 = ⟨.fn, 1, 8⟩ := rfl
theorem Y82 : Y 82 = ⟨.fn, 1, 8⟩ := rfl
theorem Y83 : Y 83 = ⟨.fn, 1, 8⟩ := rfl
theorem Y84 : Y 84 = ⟨.fn, 1, 8⟩ := rfl
theorem Y85 : Y 85 = ⟨.fn, 1, 8⟩ := rfl
theorem Y86 : Y 86 = ⟨.fn, 1, 8⟩ := rfl
theorem Y87 : Y 87 = ⟨.ptr 139, 1, 8⟩ := rfl
theorem Y88 : Y 88 = ⟨.fn, 1, 8⟩ := rfl
theorem Y89 : Y 89 = ⟨.fn, 1, 8⟩ := rfl
theorem Y90 : Y 90 = ⟨.st [(3, 0), (3, 1), (4, 2)], 3, 24⟩ := rfl
theorem Y91 : Y 91 = ⟨.st [(3, 0), (3, 1), (4, 2)], 3, 24⟩ := rfl
theorem Y92 : Y 92 = ⟨.fn, 1, 8⟩ := rfl
theorem Y93 : Y 93 = ⟨.fn, 1, 8⟩ := rfl
theorem Y94 : Y 94 = ⟨.fn, 1, 8⟩ := rfl
theorem Y95 : Y 95 = ⟨.fn, 1, 8⟩ := rfl
theorem Y96 : Y 96 = ⟨.fn, 1, 8⟩ := rfl
theorem Y97 : Y 97 = ⟨.ptr 99, 1, 8⟩ := rfl
theorem Y98 : Y 98 = ⟨.st [(24, 0), (3, 1), (4, 2)], 3, 40⟩ := rfl
theorem Y99 : Y 99 = ⟨.st [(24, 0), (3, 1), (4, 2)], 3, 40⟩ := rfl
theorem Y100 : Y 100 = ⟨.fn, 1, 8⟩ := rfl
theorem Y101 : Y 101 = ⟨.fn, 1, 8⟩ := rfl
theorem Y102 : Y 102 = ⟨.fn, 1, 8⟩ := rfl
theorem Y103 : Y 103 = ⟨.fn, 1, 8⟩ := rfl
theorem Y104 : Y 104 = ⟨.fn, 1, 8⟩ := rfl
theorem Y105 : Y 105 = ⟨.fn, 1, 8⟩ := rfl
theorem Y106 : Y 106 = ⟨.fn, 1, 8⟩ := rfl
theorem Y107 : Y 107 = ⟨.fn, 1, 8⟩ := rfl
theorem Y108 : Y 108 = ⟨.fn, 1, 8⟩ := rfl
theorem Y109 : Y 109 = ⟨.fn, 1, 8⟩ := rfl
theorem Y110 : Y 110 = ⟨.fn, 1, 8⟩ := rfl
theorem Y112 : Y 112 = ⟨.fn, 1, 8⟩ := rfl
theorem Y113 : Y 113 = ⟨.fn, 1, 8⟩ := rfl
theorem Y114 : Y 114 = ⟨.fn, 1, 8⟩ := rfl
theorem Y115 : Y 115 = ⟨.ptr 117, 1, 8⟩ := rfl
theorem Y116 : Y 116 = ⟨.st [(24, 0), (3, 1), (4, 2)], 3, 40⟩ := rfl
theorem Y117 : Y 117 = ⟨.st [(24, 0), (3, 1), (4, 2)], 3, 40⟩ := rfl
theorem Y118 : Y 118 = ⟨.fn, 1, 8⟩ := rfl
theorem Y119 : Y 119 = ⟨.fn, 1, 8⟩ := rfl
theorem Y120 : Y 120 = ⟨.fn, 1, 8⟩ := rfl
theorem Y121 : Y 121 = ⟨.fn, 1, 8⟩ := rfl
theorem Y122 : Y 122 = ⟨.fn, 1, 8⟩ := rfl
theorem Y123 : Y 123 = ⟨.fn, 1, 8⟩ := rfl
theorem Y124 : Y 124 = ⟨.fn, 1, 8⟩ := rfl
theorem Y125 : Y 125 = ⟨.fn, 1, 8⟩ := rfl
theorem Y126 : Y 126 = ⟨.fn, 1, 8⟩ := rfl
theorem Y127 : Y 127 = ⟨.fn, 1, 8⟩ := rfl
theorem Y128 : Y 128 = ⟨.fn, 1, 8⟩ := rfl
theorem Y129 : Y 129 = ⟨.fn, 1, 8⟩ := rfl
theorem Y130 : Y 130 = ⟨.fn, 1, 8⟩ := rfl
theorem Y131 : Y 131 = ⟨.fn, 1, 8⟩ := rfl
theorem Y132 : Y 132 = ⟨.fn, 1, 8⟩ := rfl
theorem Y133 : Y 133 = ⟨.int .u64, 1, 8⟩ := rfl
theorem Y134 : Y 134 = ⟨.fn, 1, 8⟩ := rfl
theorem Y135 : Y 135 = ⟨.fn, 1, 8⟩ := rfl
theorem Y136 : Y 136 = ⟨.fn, 1, 8⟩ := rfl
theorem Y137 : Y 137 = ⟨.fn, 1, 8⟩ := rfl
theorem Y138 : Y 138 = ⟨.st [(24, 0), (3, 1), (3, 2)], 3, 40⟩ := rfl
theorem Y139 : Y 139 = ⟨.st [(24, 0), (3, 1), (3, 2)], 3, 40⟩ := rfl
theorem Y140 : Y 140 = ⟨.fn, 1, 8⟩ := rfl
theorem Y142 : Y 142 = ⟨.fn, 1, 8⟩ := rfl
theorem Y144 : Y 144 = ⟨.fn, 1, 8⟩ := rfl
theorem Y145 : Y 145 = ⟨.fn, 1, 8⟩ := rfl
theorem Y146 : Y 146 = ⟨.fn, 1, 8⟩ := rfl
theorem Y147 : Y 147 = ⟨.fn, 1, 8⟩ := rfl
theorem Y148 : Y 148 = ⟨.fn, 1, 8⟩ := rfl
theorem Y150 : Y 150 = ⟨.fn, 1, 8⟩ := rfl
theorem Y151 : Y 151 = ⟨.fn, 1, 8⟩ := rfl
theorem Y152 : Y 152 = ⟨.fn, 1, 8⟩ := rfl
theorem Y153 : Y 153 = ⟨.fn, 1, 8⟩ := rfl
theorem Y154 : Y 154 = ⟨.fn, 1, 8⟩ := rfl
theorem Y155 : Y 155 = ⟨.fn, 1, 8⟩ := rfl
theorem Y156 : Y 156 = ⟨.fn, 1, 8⟩ := rfl
theorem Y157 : Y 157 = ⟨.sl 24, 1, 24⟩ := rfl
theorem Y158 : Y 158 = ⟨.fn, 1, 8⟩ := rfl
theorem Y159 : Y 159 = ⟨.fn, 1, 8⟩ := rfl
theorem Y160 : Y 160 = ⟨.fn, 1, 8⟩ := rfl
theorem Y161 : Y 161 = ⟨.fn, 1, 8⟩ := rfl
theorem Y162 : Y 162 = ⟨.fn, 1, 8⟩ := rfl
theorem Y163 : Y 163 = ⟨.ar 8 49, 136, 2112⟩ := rfl
theorem Y164 : Y 164 = ⟨.sl 188, 1, 24⟩ := rfl
theorem Y165 : Y 165 = ⟨.st [(164, 0), (3, 1)], 2, 32⟩ := rfl
theorem Y166 : Y 166 = ⟨.st [(164, 0), (3, 1)], 2, 32⟩ := rfl
theorem Y167 : Y 167 = ⟨.sl 194, 1, 24⟩ := rfl
theorem Y168 : Y 168 = ⟨.st [(163, 0), (166, 136), (68, 138), (39, 140), (167, 141), (3, 142), (4, 143)], 144, 2240⟩ := rfl
theorem Y169 : Y 169 = ⟨.st [(163, 0), (166, 136), (68, 138), (39, 140), (167, 141), (3, 142), (4, 143)], 144, 2240⟩ := rfl
theorem Y170 : Y 170 = ⟨.fn, 1, 8⟩ := rfl
theorem Y171 : Y 171 = ⟨.int .u32, 1, 4⟩ := rfl
theorem Y172 : Y 172 = ⟨.fn, 1, 8⟩ := rfl
theorem Y173 : Y 173 = ⟨.fn, 1, 8⟩ := rfl
theorem Y174 : Y 174 = ⟨.fn, 1, 8⟩ := rfl
theorem Y175 : Y 175 = ⟨.ptr 169, 1, 8⟩ := rfl
theorem Y176 : Y 176 = ⟨.fn, 1, 8⟩ := rfl
theorem Y177 : Y 177 = ⟨.fn, 1, 8⟩ := rfl
theorem Y178 : Y 178 = ⟨.fn, 1, 8⟩ := rfl
theorem Y179 : Y 179 = ⟨.fn, 1, 8⟩ := rfl
theorem Y180 : Y 180 = ⟨.fn, 1, 8⟩ := rfl
theorem Y181 : Y 181 = ⟨.fn, 1, 8⟩ := rfl
theorem Y182 : Y 182 = ⟨.fn, 1, 8⟩ := rfl
theorem Y183 : Y 183 = ⟨.ptr 68, 1, 8⟩ := rfl
theorem Y184 : Y 184 = ⟨.fn, 1, 8⟩ := rfl
theorem Y185 : Y 185 = ⟨.fn, 1, 8⟩ := rfl
theorem Y186 : Y 186 = ⟨.fn, 1, 8⟩ := rfl
theorem Y187 : Y 187 = ⟨.st [(3, 0), (49, 1), (4, 18), (4, 19)], 20, 280⟩ := rfl
theorem Y188 : Y 188 = ⟨.st [(3, 0), (49, 1), (4, 18), (4, 19)], 20, 280⟩ := rfl
theorem Y189 : Y 189 = ⟨.fn, 1, 8⟩ := rfl
theorem Y191 : Y 191 = ⟨.fn, 1, 8⟩ := rfl
theorem Y192 : Y 192 = ⟨.ptr 166, 1, 8⟩ := rfl
theorem Y193 : Y 193 = ⟨.st [(3, 0), (3, 1)], 2, 16⟩ := rfl
theorem Y194 : Y 194 = ⟨.st [(3, 0), (3, 1)], 2, 16⟩ := rfl
theorem Y195 : Y 195 = ⟨.fn, 1, 8⟩ := rfl
theorem Y196 : Y 196 = ⟨.fn, 1, 8⟩ := rfl
theorem Y197 : Y 197 = ⟨.st [(17, 0), (17, 1), (17, 2), (9, 3)], 4, 40⟩ := rfl
theorem Y198 : Y 198 = ⟨.st [(17, 0), (17, 1), (17, 2), (9, 3)], 4, 40⟩ := rfl
theorem Y202 : Y 202 = ⟨.int .u8, 1, 1⟩ := rfl
theorem Y203 : Y 203 = ⟨.int .u8, 1, 1⟩ := rfl
theorem Y204 : Y 204 = ⟨.fn, 1, 8⟩ := rfl
theorem Y205 : Y 205 = ⟨.ptr 5, 1, 8⟩ := rfl
theorem Y206 : Y 206 = ⟨.int .i32, 1, 4⟩ := rfl
theorem Y207 : Y 207 = ⟨.int .i32, 1, 4⟩ := rfl
theorem Y210 : Y 210 = ⟨.fn, 1, 8⟩ := rfl
end Q6

namespace Q6
open Go Go.Vm Go.Proofs
theorem mixed : Try.prog.follows .mixedOrders = true := by kernel_rfl
theorem bs0_22 (own : Nat) : buildSliceM Y own 22 0 [] = .pure { v := .ref own 0 0 0, news := [.arr 4 [] false] } := build0 Y22 Y79 rfl (by decide)
theorem bs0_24 (own : Nat) : buildSliceM Y own 24 0 [] = .pure { v := .ref own 0 0 0, news := [.arr 1 [] false] } := build0 Y24 Y5 rfl (by decide)
theorem bs1_24 (own : Nat) (x : UInt8) : buildSliceM Y own 24 1 [(0, .int .u8 (x.toNat : Int))] = .pure { v := .ref own 0 0 1, news := [.arr 1 [.int .u8 (x.toNat : Int)] false] } := build1 Y24 Y5 rfl (by decide) rfl rfl rfl
theorem bs0_26 (own : Nat) : buildSliceM Y own 26 0 [] = .pure { v := .ref own 0 0 0, news := [.arr 4 [] false] } := build0 Y26 Y38 rfl (by decide)
theorem bs0_34 (own : Nat) : buildSliceM Y own 34 0 [] = .pure { v := .ref own 0 0 0, news := [.arr 1 [] false] } := build0 Y34 Y3 rfl (by decide)
theorem bs1_34 (own : Nat) (x : Int) : buildSliceM Y own 34 1 [(0, .int .i64 x)] = .pure { v := .ref own 0 0 1, news := [.arr 1 [.int .i64 x] false] } := build1 Y34 Y3 rfl (by decide) rfl rfl rfl
theorem bs0_39 (own : Nat) : buildSliceM Y own 39 0 [] = .pure { v := .ref own 0 0 0, news := [.arr 3 [] false] } := build0 Y39 Y91 rfl (by decide)
theorem bs1_39 (own : Nat) (x_0 : Int) (x_1 : Int) (x_2 : Bool) : buildSliceM Y own 39 1 [(0, .nd [.int .i64 x_0, .int .i64 x_1, .bool x_2])] = .pure { v := .ref own 0 0 1, news := [.arr 3 [.nd [.int .i64 x_0, .int .i64 x_1, .bool x_2]] false] } := build1 Y39 Y91 rfl (by decide) rfl rfl rfl
theorem bs0_66 (own : Nat) : buildSliceM Y own 66 0 [] = .pure { v := .ref own 0 0 0, news := [.arr 15 [] false] } := build0 Y66 Y41 rfl (by decide)
theorem bs0_157 (own : Nat) : buildSliceM Y own 157 0 [] = .pure { v := .ref own 0 0 0, news := [.arr 1 [] false] } := build0 Y157 Y24 rfl (by decide)
theorem bs0_164 (own : Nat) : buildSliceM Y own 164 0 [] = .pure { v := .ref own 0 0 0, news := [.arr 20 [] false] } := build0 Y164 Y188 rfl (by decide)
theorem bs0_167 (own : Nat) : buildSliceM Y own 167 0 [] = .pure { v := .ref own 0 0 0, news := [.arr 2 [] false] } := build0 Y167 Y194 rfl (by decide)
theorem bs1_167 (own : Nat) (x_0 : Int) (x_1 : Int) : buildSliceM Y own 167 1 [(0, .nd [.int .i64 x_0, .int .i64 x_1])] = .pure { v := .ref own 0 0 1, news := [.arr 2 [.nd [.int .i64 x_0, .int .i64 x_1]] false] } := build1 Y167 Y194 rfl (by decide) rfl rfl rfl
abbrev ObjT := (Int × (List Int) × (List Int) × Unit)
abbrev SlotT := (Bool × ((Int × (List Int) × (List Int) × Unit)) × Unit)
abbrev LiveT := (Int × Int × Bool × Unit)
abbrev RecT := (Int × Int × Int × Int × Int × ((Bool × ((Int × (List Int) × (List Int) × Unit)) × Unit)) × ((Bool × ((Int × (List Int) × (List Int) × Unit)) × Unit)) × Int × (List ((Int × Int × Bool × Unit))) × Unit)
end Q6

namespace Q6
open Go Go.Vm Go.Proofs
set_option maxHeartbeats 4000000
set_option synthInstance.maxSize 2000
set_option synthInstance.maxHeartbeats 400000
set_option maxRecDepth 10000
set_option linter.unusedSimpArgs false
set_option linter.unusedVariables false

theorem goK {A B1 B2 B3 B4 B5 B6 B7 B8 B9 B10 B11 B12 B13 B14 B15 B16 : Prop} (b1 : B1) (b2 : B2) (b3 : B3) (b4 : B4) (b5 : B5) (b6 : B6) (b7 : B7) (b8 : B8) (b9 : B9) (b10 : B10) (b11 : B11) (b12 : B12) (b13 : B13) (b14 : B14) (b15 : B15) (b16 : B16) (k : B1 →  B2 →  B3 →  B4 →  B5 →  B6 →  B7 →  B8 →  B9 →  B10 →  B11 →  B12 →  B13 →  B14 →  B15 →  B16 → A := by intro h1 h2 h3 h4 h5 h6 h7 h8 h9 h10 h11 h12 h13 h14 h15 h16; refine tw ?_ ?_; (focus (repeat' first | ((have hk8 := Nat.add_zero); (first | refine SW.ops_seq hY fun y1 hy1 => ?_ | refine SW.ops hY ?_ | refine SW.seq (SW.draw2x hD1 hY mixed (by kernel_rfl) ?_) | refine SW.draw2x hD1 hY mixed (by kernel_rfl) ?_ | refine SW.seq (SW.draw2x hD2 hY mixed (by kernel_rfl) ?_) | refine SW.draw2x hD2 hY mixed (by kernel_rfl) ?_ | refine SW.seq (SW.draw2x hD3 hY mixed (by kernel_rfl) ?_) | refine SW.draw2x hD3 hY mixed (by kernel_rfl) ?_ | refine SW.draw_seq hY mixed (by kernel_rfl) fun y1 hy1 => ?_ | refine SW.draw hY mixed (by kernel_rfl) ?_ | refine vcall_c hC1 (hK := ?_) | refine vcall_c hC2 (hK := ?_) | refine vcall_c hC3 (hK := ?_) | refine vcall_c hC4 (hK := ?_) | refine vcall_c hC5 (hK := ?_) | refine vcall_c hC6 (hK := ?_) | refine vcall_c hC7 (hK := ?_) | refine vcall_c hC8 (hK := ?_) | refine vcall_c hC9 (hK := ?_) | refine vcall_c hC10 (hK := ?_) | refine vcall_c hC11 (hK := ?_) | refine vcall_c hC12 (hK := ?_) | refine vcall_c hC13 (hK := ?_) | refine vcall_c hC14 (hK := ?_) | refine vcall_c (cx [] (hG1 _)) (hK := ?_) | refine vcall_c (cx [] (hG1 _ _)) (hK := ?_) | refine vcall_c (cx [] (hG1 _ _ _)) (hK := ?_) | refine vcall_c (cx [] (hG1 _ _ _ _)) (hK := ?_) | refine vcall_c (cx [] (hG2 _)) (hK := ?_) | refine vcall_c (cx [] (hG2 _ _)) (hK := ?_) | refine vcall_c (cx [] (hG2 _ _ _)) (hK := ?_) | refine vcall_c (cx [] (hG2 _ _ _ _)) (hK := ?_) | refine vcall_c (cx [] (hG3 _)) (hK := ?_) | refine vcall_c (cx [] (hG3 _ _)) (hK := ?_) | refine vcall_c (cx [] (hG3 _ _ _)) (hK := ?_) | refine vcall_c (cx [] (hG3 _ _ _ _)) (hK := ?_) | refine kgf ?_ | refine kgt ?_ | (refine k8p ?_; (simp only [k13, hk8, upT_g, dnT_g, nb_g, dnT_b, dnT_s, dnT_0, dnT_r, fx, fy, fz, wo, decide_true, decide_false, wz0, wz1, wz2, wz3, wz4, wz5, wz6, wz7, wz8, appM, Ty.isInt, capT, appendZM, buildM, setAll, plSt, plAr, mnmx, Int.reduceLT, vrec, List.drop_succ_cons, List.drop_zero, convertM, indexM, fieldM, Int.toNat_zero, Int.toNat_one, Int.le_refl, Int.zero_le_ofNat, Int.reduceEq, Int.reduceNe, ne_eq, not_false_eq_true, u8_wrap, marksG_len, marks_len, bne_self_eq_false, take_map_len, tgL_byte, T.asArr, T.tg, tgL, indexAddrM, wk, wl, eq_self, isCall, callT, opM, S.ev, S.put, entryS, thawAL, thawA, RM.run, RM.bind, RM.ofOpt, allocs, Heap.ups, Heap.put, Heap.at, List.replicate, Nat.reduceAdd, Nat.reduceSub, ofConst, nilAs, if_false, if_true, binT, binTy, unT, guardT, quietK, reduceIte, boxM, allocM, loadM, storeM, fieldAddrM, lenT, extractT, subM, setOb, T.get, T.setp, T.offs, T.nw, nwL, T.cel, T.isNd, T.size, sizeL, TyI.agg, Ty.agg, Ty.isFn, zeroT, Nat.reduceLT, Nat.reduceEqDiff, sumT, kill]); (first | refine vpure_c hC1 (hK := ?_) | refine vpure_c hC2 (hK := ?_) | refine vpure_c hC3 (hK := ?_) | refine vpure_c hC4 (hK := ?_) | refine vpure_c hC5 (hK := ?_) | refine vpure_c hC6 (hK := ?_) | refine vpure_c hC7 (hK := ?_) | refine vpure_c hC8 (hK := ?_) | refine vpure_c hC9 (hK := ?_) | refine vpure_c hC10 (hK := ?_) | refine vpure_c hC11 (hK := ?_) | refine vpure_c hC12 (hK := ?_) | refine vpure_c hC13 (hK := ?_) | refine vpure_c hC14 (hK := ?_) | refine vpure_c (cx [] (hG1 _)) (hK := ?_) | refine vpure_c (cx [] (hG1 _ _)) (hK := ?_) | refine vpure_c (cx [] (hG1 _ _ _)) (hK := ?_) | refine vpure_c (cx [] (hG1 _ _ _ _)) (hK := ?_) | refine vpure_c (cx [] (hG2 _)) (hK := ?_) | refine vpure_c (cx [] (hG2 _ _)) (hK := ?_) | refine vpure_c (cx [] (hG2 _ _ _)) (hK := ?_) | refine vpure_c (cx [] (hG2 _ _ _ _)) (hK := ?_) | refine vpure_c (cx [] (hG3 _)) (hK := ?_) | refine vpure_c (cx [] (hG3 _ _)) (hK := ?_) | refine vpure_c (cx [] (hG3 _ _ _)) (hK := ?_) | refine vpure_c (cx [] (hG3 _ _ _ _)) (hK := ?_))) | (simp only [k8]; refine .inl ?_; refine ⟨fun hb => ?_, fun hb => ?_⟩ <;> (try replace hb := Bool.eq_false_iff.2 hb) <;> (first | exact absurd hb (by decide) | replace hk8 := hb))) <;> (simp only [k13, hk8, upT_g, dnT_g, nb_g, dnT_b, dnT_s, dnT_0, dnT_r, fx, fy, fz, wo, decide_true, decide_false, wz0, wz1, wz2, wz3, wz4, wz5, wz6, wz7, wz8, appM, Ty.isInt, capT, appendZM, buildM, setAll, plSt, plAr, mnmx, Int.reduceLT, vrec, List.drop_succ_cons, List.drop_zero, convertM, indexM, fieldM, Int.toNat_zero, Int.toNat_one, Int.le_refl, Int.zero_le_ofNat, Int.reduceEq, Int.reduceNe, ne_eq, not_false_eq_true, u8_wrap, marksG_len, marks_len, bne_self_eq_false, take_map_len, tgL_byte, T.asArr, T.tg, tgL, indexAddrM, wk, wl, eq_self, isCall, callT, opM, S.ev, S.put, entryS, thawAL, thawA, RM.run, RM.bind, RM.ofOpt, allocs, Heap.ups, Heap.put, Heap.at, List.replicate, Nat.reduceAdd, Nat.reduceSub, ofConst, nilAs, if_false, if_true, binT, binTy, unT, guardT, quietK, reduceIte, boxM, allocM, loadM, storeM, fieldAddrM, lenT, extractT, subM, setOb, T.get, T.setp, T.offs, T.nw, nwL, T.cel, T.isNd, T.size, sizeL, TyI.agg, Ty.agg, Ty.isFn, zeroT, Nat.reduceLT, Nat.reduceEqDiff, sumT, kill]; clear hk8; first | subst hy1 | (try simp only [thenS, blockS, if_true, if_false, Nat.reduceEqDiff, reduceIte]))) | (refine Chk.mk (by simp only [rdqs, rdq, k13, upT_g, dnT_g, nb_g, dnT_b, dnT_s, dnT_0, dnT_r, fx, fy, fz, wo, decide_true, decide_false, wz0, wz1, wz2, wz3, wz4, wz5, wz6, wz7, wz8, appM, Ty.isInt, capT, appendZM, buildM, setAll, plSt, plAr, mnmx, Int.reduceLT, vrec, List.drop_succ_cons, List.drop_zero, convertM, indexM, fieldM, Int.toNat_zero, Int.toNat_one, Int.le_refl, Int.zero_le_ofNat, Int.reduceEq, Int.reduceNe, ne_eq, not_false_eq_true, u8_wrap, marksG_len, marks_len, bne_self_eq_false, take_map_len, tgL_byte, T.asArr, T.tg, tgL, indexAddrM, wk, wl, eq_self, isCall, callT, opM, S.ev, S.put, entryS, thawAL, thawA, RM.run, RM.bind, RM.ofOpt, allocs, Heap.ups, Heap.put, Heap.at, List.replicate, Nat.reduceAdd, Nat.reduceSub, ofConst, nilAs, if_false, if_true, binT, binTy, unT, guardT, quietK, reduceIte, boxM, allocM, loadM, storeM, fieldAddrM, lenT, extractT, subM, setOb, T.get, T.setp, T.offs, T.nw, nwL, T.cel, T.isNd, T.size, sizeL, TyI.agg, Ty.agg, Ty.isFn, zeroT, Nat.reduceLT, Nat.reduceEqDiff, sumT, kill]; try trivial) ?_) | exact absurd trivial hb | exact absurd hb (by decide) | exact absurd hcc (by decide) | refine SW.seq ?_ | refine SW.block ?_ | (refine SW.cond rfl (fun hcc => ?_) (fun hcc => ?_)) | (refine SW.exit ?_; simp only [thenS, blockS, if_true, if_false, Nat.reduceEqDiff, reduceIte]) | (refine SW.skip ?_; simp only [thenS, blockS]) | exact SW.ret (RetQ.r hR) | (refine SW.ret (show RetQ _ _ _ _ _ _ _ from ⟨.inr rfl, [_], [1], [_], _, rfl, rfl, rfl, rfl, rfl, ?_⟩)) | (refine SW.ret (show RetQ _ _ _ _ _ _ _ from ⟨.inr rfl, [_, _], [0, 0], [_, _], _, rfl, rfl, rfl, rfl, rfl, ?_⟩)) | (refine SW.ret (show RetQ _ _ _ _ _ _ _ from ⟨.inr rfl, [_, _, _], [0, 0, 0], [_, _, _], _, rfl, rfl, rfl, rfl, rfl, ?_⟩)) | (refine SW.ret (show RetQ _ _ _ _ _ _ _ from ⟨.inr rfl, [_, _, _, _], [0, 0, 0, 0], [_, _, _, _], _, rfl, rfl, rfl, rfl, rfl, ?_⟩)) | ((repeat (refine Wh.h ?_ hb; clear hb)); (repeat (refine Wh.h ?_ hcc; clear hcc)); (first | exact h1 | exact h2 | exact h3 | exact h4 | exact h5 | exact h6 | exact h7 | exact h8 | exact h9 | exact h10 | exact h11 | exact h12 | exact h13 | exact h14 | exact h15 | exact h16)))); (try (have hq : True := h1)); (try (have hq : True := h2)); (try (have hq : True := h3)); (try (have hq : True := h4)); (try (have hq : True := h5)); (try (have hq : True := h6)); (try (have hq : True := h7)); (try (have hq : True := h8)); (try (have hq : True := h9)); (try (have hq : True := h10)); (try (have hq : True := h11)); (try (have hq : True := h12)); (try (have hq : True := h13)); (try (have hq : True := h14)); (try (have hq : True := h15)); (try (have hq : True := h16)); exact True.intro) : A := k b1 b2 b3 b4 b5 b6 b7 b8 b9 b10 b11 b12 b13 b14 b15 b16
theorem goN {A B1 B2 B3 B4 B5 B6 B7 B8 B9 B10 B11 B12 B13 B14 B15 B16 : Prop} (b1 : B1) (b2 : B2) (b3 : B3) (b4 : B4) (b5 : B5) (b6 : B6) (b7 : B7) (b8 : B8) (b9 : B9) (b10 : B10) (b11 : B11) (b12 : B12) (b13 : B13) (b14 : B14) (b15 : B15) (b16 : B16) (k : B1 →  B2 →  B3 →  B4 →  B5 →  B6 →  B7 →  B8 →  B9 →  B10 →  B11 →  B12 →  B13 →  B14 →  B15 →  B16 → A := by intro h1 h2 h3 h4 h5 h6 h7 h8 h9 h10 h11 h12 h13 h14 h15 h16; refine tw ?_ ?_; (focus (repeat' first | ((have hk8 := Nat.add_zero); (first | refine SW.ops_seq hY fun y1 hy1 => ?_ | refine SW.ops hY ?_ | refine SW.seq (SW.draw2x hD1 hY mixed (by kernel_rfl) ?_) | refine SW.draw2x hD1 hY mixed (by kernel_rfl) ?_ | refine SW.seq (SW.draw2x hD2 hY mixed (by kernel_rfl) ?_) | refine SW.draw2x hD2 hY mixed (by kernel_rfl) ?_ | refine SW.seq (SW.draw2x hD3 hY mixed (by kernel_rfl) ?_) | refine SW.draw2x hD3 hY mixed (by kernel_rfl) ?_ | refine SW.draw_seq hY mixed (by kernel_rfl) fun y1 hy1 => ?_ | refine SW.draw hY mixed (by kernel_rfl) ?_ | refine vcall_c hC1 (hK := ?_) | refine vcall_c hC2 (hK := ?_) | refine vcall_c hC3 (hK := ?_) | refine vcall_c hC4 (hK := ?_) | refine vcall_c hC5 (hK := ?_) | refine vcall_c hC6 (hK := ?_) | refine vcall_c hC7 (hK := ?_) | refine vcall_c hC8 (hK := ?_) | refine vcall_c hC9 (hK := ?_) | refine vcall_c hC10 (hK := ?_) | refine vcall_c hC11 (hK := ?_) | refine vcall_c hC12 (hK := ?_) | refine vcall_c hC13 (hK := ?_) | refine vcall_c hC14 (hK := ?_) | refine vcall_c (cx [] (hG1 _)) (hK := ?_) | refine vcall_c (cx [] (hG1 _ _)) (hK := ?_) | refine vcall_c (cx [] (hG1 _ _ _)) (hK := ?_) | refine vcall_c (cx [] (hG1 _ _ _ _)) (hK := ?_) | refine vcall_c (cx [] (hG2 _)) (hK := ?_) | refine vcall_c (cx [] (hG2 _ _)) (hK := ?_) | refine vcall_c (cx [] (hG2 _ _ _)) (hK := ?_) | refine vcall_c (cx [] (hG2 _ _ _ _)) (hK := ?_) | refine vcall_c (cx [] (hG3 _)) (hK := ?_) | refine vcall_c (cx [] (hG3 _ _)) (hK := ?_) | refine vcall_c (cx [] (hG3 _ _ _)) (hK := ?_) | refine vcall_c (cx [] (hG3 _ _ _ _)) (hK := ?_) | refine kgf ?_ | refine kgt ?_ | (refine k8p ?_; (simp only [k13, hk8, upT_g, dnT_g, nb_g, dnT_b, dnT_s, dnT_0, dnT_r, fx, fy, fz, wo, decide_true, decide_false, wz0, wz1, wz2, wz3, wz4, wz5, wz6, wz7, wz8, appM, Ty.isInt, capT, appendZM, buildM, setAll, plSt, plAr, mnmx, Int.reduceLT, vrec, List.drop_succ_cons, List.drop_zero, convertM, indexM, fieldM, Int.toNat_zero, Int.toNat_one, Int.le_refl, Int.zero_le_ofNat, Int.reduceEq, Int.reduceNe, ne_eq, not_false_eq_true, u8_wrap, marksG_len, marks_len, bne_self_eq_false, take_map_len, tgL_byte, T.asArr, T.tg, tgL, indexAddrM, wk, wl, eq_self, isCall, callT, opM, S.ev, S.put, entryS, thawAL, thawA, RM.run, RM.bind, RM.ofOpt, allocs, Heap.ups, Heap.put, Heap.at, List.replicate, Nat.reduceAdd, Nat.reduceSub, ofConst, nilAs, if_false, if_true, binT, binTy, unT, guardT, quietK, reduceIte, boxM, allocM, loadM, storeM, fieldAddrM, lenT, extractT, subM, setOb, T.get, T.setp, T.offs, T.nw, nwL, T.cel, T.isNd, T.size, sizeL, TyI.agg, Ty.agg, Ty.isFn, zeroT, Nat.reduceLT, Nat.reduceEqDiff, sumT, kill]); (first | refine vpure_c hC1 (hK := ?_) | refine vpure_c hC2 (hK := ?_) | refine vpure_c hC3 (hK := ?_) | refine vpure_c hC4 (hK := ?_) | refine vpure_c hC5 (hK := ?_) | refine vpure_c hC6 (hK := ?_) | refine vpure_c hC7 (hK := ?_) | refine vpure_c hC8 (hK := ?_) | refine vpure_c hC9 (hK := ?_) | refine vpure_c hC10 (hK := ?_) | refine vpure_c hC11 (hK := ?_) | refine vpure_c hC12 (hK := ?_) | refine vpure_c hC13 (hK := ?_) | refine vpure_c hC14 (hK := ?_) | refine vpure_c (cx [] (hG1 _)) (hK := ?_) | refine vpure_c (cx [] (hG1 _ _)) (hK := ?_) | refine vpure_c (cx [] (hG1 _ _ _)) (hK := ?_) | refine vpure_c (cx [] (hG1 _ _ _ _)) (hK := ?_) | refine vpure_c (cx [] (hG2 _)) (hK := ?_) | refine vpure_c (cx [] (hG2 _ _)) (hK := ?_) | refine vpure_c (cx [] (hG2 _ _ _)) (hK := ?_) | refine vpure_c (cx [] (hG2 _ _ _ _)) (hK := ?_) | refine vpure_c (cx [] (hG3 _)) (hK := ?_) | refine vpure_c (cx [] (hG3 _ _)) (hK := ?_) | refine vpure_c (cx [] (hG3 _ _ _)) (hK := ?_) | refine vpure_c (cx [] (hG3 _ _ _ _)) (hK := ?_)))) <;> (simp only [k13, hk8, upT_g, dnT_g, nb_g, dnT_b, dnT_s, dnT_0, dnT_r, fx, fy, fz, wo, decide_true, decide_false, wz0, wz1, wz2, wz3, wz4, wz5, wz6, wz7, wz8, appM, Ty.isInt, capT, appendZM, buildM, setAll, plSt, plAr, mnmx, Int.reduceLT, vrec, List.drop_succ_cons, List.drop_zero, convertM, indexM, fieldM, Int.toNat_zero, Int.toNat_one, Int.le_refl, Int.zero_le_ofNat, Int.reduceEq, Int.reduceNe, ne_eq, not_false_eq_true, u8_wrap, marksG_len, marks_len, bne_self_eq_false, take_map_len, tgL_byte, T.asArr, T.tg, tgL, indexAddrM, wk, wl, eq_self, isCall, callT, opM, S.ev, S.put, entryS, thawAL, thawA, RM.run, RM.bind, RM.ofOpt, allocs, Heap.ups, Heap.put, Heap.at, List.replicate, Nat.reduceAdd, Nat.reduceSub, ofConst, nilAs, if_false, if_true, binT, binTy, unT, guardT, quietK, reduceIte, boxM, allocM, loadM, storeM, fieldAddrM, lenT, extractT, subM, setOb, T.get, T.setp, T.offs, T.nw, nwL, T.cel, T.isNd, T.size, sizeL, TyI.agg, Ty.agg, Ty.isFn, zeroT, Nat.reduceLT, Nat.reduceEqDiff, sumT, kill]; clear hk8; first | subst hy1 | (try simp only [thenS, blockS, if_true, if_false, Nat.reduceEqDiff, reduceIte]))) | (refine Chk.mk (by simp only [rdqs, rdq, k13, upT_g, dnT_g, nb_g, dnT_b, dnT_s, dnT_0, dnT_r, fx, fy, fz, wo, decide_true, decide_false, wz0, wz1, wz2, wz3, wz4, wz5, wz6, wz7, wz8, appM, Ty.isInt, capT, appendZM, buildM, setAll, plSt, plAr, mnmx, Int.reduceLT, vrec, List.drop_succ_cons, List.drop_zero, convertM, indexM, fieldM, Int.toNat_zero, Int.toNat_one, Int.le_refl, Int.zero_le_ofNat, Int.reduceEq, Int.reduceNe, ne_eq, not_false_eq_true, u8_wrap, marksG_len, marks_len, bne_self_eq_false, take_map_len, tgL_byte, T.asArr, T.tg, tgL, indexAddrM, wk, wl, eq_self, isCall, callT, opM, S.ev, S.put, entryS, thawAL, thawA, RM.run, RM.bind, RM.ofOpt, allocs, Heap.ups, Heap.put, Heap.at, List.replicate, Nat.reduceAdd, Nat.reduceSub, ofConst, nilAs, if_false, if_true, binT, binTy, unT, guardT, quietK, reduceIte, boxM, allocM, loadM, storeM, fieldAddrM, lenT, extractT, subM, setOb, T.get, T.setp, T.offs, T.nw, nwL, T.cel, T.isNd, T.size, sizeL, TyI.agg, Ty.agg, Ty.isFn, zeroT, Nat.reduceLT, Nat.reduceEqDiff, sumT, kill]; try trivial) ?_) | exact absurd trivial hb | exact absurd hb (by decide) | exact absurd hcc (by decide) | refine SW.seq ?_ | refine SW.block ?_ | (refine SW.exit ?_; simp only [thenS, blockS, if_true, if_false, Nat.reduceEqDiff, reduceIte]) | (refine SW.skip ?_; simp only [thenS, blockS]) | ((repeat (refine Wh.h ?_ hb; clear hb)); (repeat (refine Wh.h ?_ hcc; clear hcc)); (first | exact h1 | exact h2 | exact h3 | exact h4 | exact h5 | exact h6 | exact h7 | exact h8 | exact h9 | exact h10 | exact h11 | exact h12 | exact h13 | exact h14 | exact h15 | exact h16)))); (try (have hq : True := h1)); (try (have hq : True := h2)); (try (have hq : True := h3)); (try (have hq : True := h4)); (try (have hq : True := h5)); (try (have hq : True := h6)); (try (have hq : True := h7)); (try (have hq : True := h8)); (try (have hq : True := h9)); (try (have hq : True := h10)); (try (have hq : True := h11)); (try (have hq : True := h12)); (try (have hq : True := h13)); (try (have hq : True := h14)); (try (have hq : True := h15)); (try (have hq : True := h16)); exact True.intro) : A := k b1 b2 b3 b4 b5 b6 b7 b8 b9 b10 b11 b12 b13 b14 b15 b16
theorem goS {A B1 : Prop} (b1 : B1) (k : B1 → A := by intro h1; refine tw ?_ ?_; (focus (repeat' first | ((have hk8 := Nat.add_zero); (first | refine SW.ops_seq hY fun y1 hy1 => ?_) <;> (simp only [k13, hk8, upT_g, dnT_g, nb_g, dnT_b, dnT_s, dnT_0, dnT_r, fx, fy, fz, wo, decide_true, decide_false, wz0, wz1, wz2, wz3, wz4, wz5, wz6, wz7, wz8, appM, Ty.isInt, capT, appendZM, buildM, setAll, plSt, plAr, mnmx, Int.reduceLT, vrec, List.drop_succ_cons, List.drop_zero, convertM, indexM, fieldM, Int.toNat_zero, Int.toNat_one, Int.le_refl, Int.zero_le_ofNat, Int.reduceEq, Int.reduceNe, ne_eq, not_false_eq_true, u8_wrap, marksG_len, marks_len, bne_self_eq_false, take_map_len, tgL_byte, T.asArr, T.tg, tgL, indexAddrM, wk, wl, eq_self, isCall, callT, opM, S.ev, S.put, entryS, thawAL, thawA, RM.run, RM.bind, RM.ofOpt, allocs, Heap.ups, Heap.put, Heap.at, List.replicate, Nat.reduceAdd, Nat.reduceSub, ofConst, nilAs, if_false, if_true, binT, binTy, unT, guardT, quietK, reduceIte, boxM, allocM, loadM, storeM, fieldAddrM, lenT, extractT, subM, setOb, T.get, T.setp, T.offs, T.nw, nwL, T.cel, T.isNd, T.size, sizeL, TyI.agg, Ty.agg, Ty.isFn, zeroT, Nat.reduceLT, Nat.reduceEqDiff, sumT, kill]; clear hk8; first | subst hy1 | (try simp only [thenS, blockS, if_true, if_false, Nat.reduceEqDiff, reduceIte]))) | refine SW.seq ?_ | (exact h1))); (try (have hq : True := h1)); exact True.intro) : A := k b1
theorem goR {A B1 B2 B3 B4 B5 B6 B7 B8 B9 B10 B11 B12 B13 B14 B15 B16 : Prop} (b1 : B1) (b2 : B2) (b3 : B3) (b4 : B4) (b5 : B5) (b6 : B6) (b7 : B7) (b8 : B8) (b9 : B9) (b10 : B10) (b11 : B11) (b12 : B12) (b13 : B13) (b14 : B14) (b15 : B15) (b16 : B16) (k : B1 →  B2 →  B3 →  B4 →  B5 →  B6 →  B7 →  B8 →  B9 →  B10 →  B11 →  B12 →  B13 →  B14 →  B15 →  B16 → A := by intro h1 h2 h3 h4 h5 h6 h7 h8 h9 h10 h11 h12 h13 h14 h15 h16; refine tw ?_ ?_; (focus (repeat' first | ((have hk8 := Nat.add_zero); (first | refine SW.ops_seq hY fun y1 hy1 => ?_ | refine SW.ops hY ?_ | refine SW.seq (SW.draw2x hD1 hY mixed (by kernel_rfl) ?_) | refine SW.draw2x hD1 hY mixed (by kernel_rfl) ?_ | refine SW.seq (SW.draw2x hD2 hY mixed (by kernel_rfl) ?_) | refine SW.draw2x hD2 hY mixed (by kernel_rfl) ?_ | refine SW.seq (SW.draw2x hD3 hY mixed (by kernel_rfl) ?_) | refine SW.draw2x hD3 hY mixed (by kernel_rfl) ?_ | refine SW.draw_seq hY mixed (by kernel_rfl) fun y1 hy1 => ?_ | refine SW.draw hY mixed (by kernel_rfl) ?_ | refine vcall_c hC1 (hK := ?_) | refine vcall_c hC2 (hK := ?_) | refine vcall_c hC3 (hK := ?_) | refine vcall_c hC4 (hK := ?_) | refine vcall_c hC5 (hK := ?_) | refine vcall_c hC6 (hK := ?_) | refine vcall_c hC7 (hK := ?_) | refine vcall_c hC8 (hK := ?_) | refine vcall_c hC9 (hK := ?_) | refine vcall_c hC10 (hK := ?_) | refine vcall_c hC11 (hK := ?_) | refine vcall_c hC12 (hK := ?_) | refine vcall_c hC13 (hK := ?_) | refine vcall_c hC14 (hK := ?_) | refine vcall_c (cx [] (hG1 _)) (hK := ?_) | refine vcall_c (cx [] (hG1 _ _)) (hK := ?_) | refine vcall_c (cx [] (hG1 _ _ _)) (hK := ?_) | refine vcall_c (cx [] (hG1 _ _ _ _)) (hK := ?_) | refine vcall_c (cx [] (hG2 _)) (hK := ?_) | refine vcall_c (cx [] (hG2 _ _)) (hK := ?_) | refine vcall_c (cx [] (hG2 _ _ _)) (hK := ?_) | refine vcall_c (cx [] (hG2 _ _ _ _)) (hK := ?_) | refine vcall_c (cx [] (hG3 _)) (hK := ?_) | refine vcall_c (cx [] (hG3 _ _)) (hK := ?_) | refine vcall_c (cx [] (hG3 _ _ _)) (hK := ?_) | refine vcall_c (cx [] (hG3 _ _ _ _)) (hK := ?_) | refine kgf ?_ | refine kgt ?_ | (refine k8p ?_; (simp only [k13, hk8, upT_g, dnT_g, nb_g, dnT_b, dnT_s, dnT_0, dnT_r, fx, fy, fz, wo, decide_true, decide_false, wz0, wz1, wz2, wz3, wz4, wz5, wz6, wz7, wz8, appM, Ty.isInt, capT, appendZM, buildM, setAll, plSt, plAr, mnmx, Int.reduceLT, vrec, List.drop_succ_cons, List.drop_zero, convertM, indexM, fieldM, Int.toNat_zero, Int.toNat_one, Int.le_refl, Int.zero_le_ofNat, Int.reduceEq, Int.reduceNe, ne_eq, not_false_eq_true, u8_wrap, marksG_len, marks_len, bne_self_eq_false, take_map_len, tgL_byte, T.asArr, T.tg, tgL, indexAddrM, wk, wl, eq_self, isCall, callT, opM, S.ev, S.put, entryS, thawAL, thawA, RM.run, RM.bind, RM.ofOpt, allocs, Heap.ups, Heap.put, Heap.at, List.replicate, Nat.reduceAdd, Nat.reduceSub, ofConst, nilAs, if_false, if_true, binT, binTy, unT, guardT, quietK, reduceIte, boxM, allocM, loadM, storeM, fieldAddrM, lenT, extractT, subM, setOb, T.get, T.setp, T.offs, T.nw, nwL, T.cel, T.isNd, T.size, sizeL, TyI.agg, Ty.agg, Ty.isFn, zeroT, Nat.reduceLT, Nat.reduceEqDiff, sumT, kill]); (first | refine vpure_c hC1 (hK := ?_) | refine vpure_c hC2 (hK := ?_) | refine vpure_c hC3 (hK := ?_) | refine vpure_c hC4 (hK := ?_) | refine vpure_c hC5 (hK := ?_) | refine vpure_c hC6 (hK := ?_) | refine vpure_c hC7 (hK := ?_) | refine vpure_c hC8 (hK := ?_) | refine vpure_c hC9 (hK := ?_) | refine vpure_c hC10 (hK := ?_) | refine vpure_c hC11 (hK := ?_) | refine vpure_c hC12 (hK := ?_) | refine vpure_c hC13 (hK := ?_) | refine vpure_c hC14 (hK := ?_) | refine vpure_c (cx [] (hG1 _)) (hK := ?_) | refine vpure_c (cx [] (hG1 _ _)) (hK := ?_) | refine vpure_c (cx [] (hG1 _ _ _)) (hK := ?_) | refine vpure_c (cx [] (hG1 _ _ _ _)) (hK := ?_) | refine vpure_c (cx [] (hG2 _)) (hK := ?_) | refine vpure_c (cx [] (hG2 _ _)) (hK := ?_) | refine vpure_c (cx [] (hG2 _ _ _)) (hK := ?_) | refine vpure_c (cx [] (hG2 _ _ _ _)) (hK := ?_) | refine vpure_c (cx [] (hG3 _)) (hK := ?_) | refine vpure_c (cx [] (hG3 _ _)) (hK := ?_) | refine vpure_c (cx [] (hG3 _ _ _)) (hK := ?_) | refine vpure_c (cx [] (hG3 _ _ _ _)) (hK := ?_))) | (simp only [k8]; refine .inl ?_; refine ⟨fun hb => ?_, fun hb => ?_⟩ <;> (try replace hb := Bool.eq_false_iff.2 hb) <;> (first | exact absurd hb (by decide) | replace hk8 := hb))) <;> (simp only [k13, hk8, upT_g, dnT_g, nb_g, dnT_b, dnT_s, dnT_0, dnT_r, fx, fy, fz, wo, decide_true, decide_false, wz0, wz1, wz2, wz3, wz4, wz5, wz6, wz7, wz8, appM, Ty.isInt, capT, appendZM, buildM, setAll, plSt, plAr, mnmx, Int.reduceLT, vrec, List.drop_succ_cons, List.drop_zero, convertM, indexM, fieldM, Int.toNat_zero, Int.toNat_one, Int.le_refl, Int.zero_le_ofNat, Int.reduceEq, Int.reduceNe, ne_eq, not_false_eq_true, u8_wrap, marksG_len, marks_len, bne_self_eq_false, take_map_len, tgL_byte, T.asArr, T.tg, tgL, indexAddrM, wk, wl, eq_self, isCall, callT, opM, S.ev, S.put, entryS, thawAL, thawA, RM.run, RM.bind, RM.ofOpt, allocs, Heap.ups, Heap.put, Heap.at, List.replicate, Nat.reduceAdd, Nat.reduceSub, ofConst, nilAs, if_false, if_true, binT, binTy, unT, guardT, quietK, reduceIte, boxM, allocM, loadM, storeM, fieldAddrM, lenT, extractT, subM, setOb, T.get, T.setp, T.offs, T.nw, nwL, T.cel, T.isNd, T.size, sizeL, TyI.agg, Ty.agg, Ty.isFn, zeroT, Nat.reduceLT, Nat.reduceEqDiff, sumT, kill]; clear hk8; first | subst hy1 | (try simp only [thenS, blockS, if_true, if_false, Nat.reduceEqDiff, reduceIte]))) | (refine Chk.mk (by simp only [rdqs, rdq, k13, upT_g, dnT_g, nb_g, dnT_b, dnT_s, dnT_0, dnT_r, fx, fy, fz, wo, decide_true, decide_false, wz0, wz1, wz2, wz3, wz4, wz5, wz6, wz7, wz8, appM, Ty.isInt, capT, appendZM, buildM, setAll, plSt, plAr, mnmx, Int.reduceLT, vrec, List.drop_succ_cons, List.drop_zero, convertM, indexM, fieldM, Int.toNat_zero, Int.toNat_one, Int.le_refl, Int.zero_le_ofNat, Int.reduceEq, Int.reduceNe, ne_eq, not_false_eq_true, u8_wrap, marksG_len, marks_len, bne_self_eq_false, take_map_len, tgL_byte, T.asArr, T.tg, tgL, indexAddrM, wk, wl, eq_self, isCall, callT, opM, S.ev, S.put, entryS, thawAL, thawA, RM.run, RM.bind, RM.ofOpt, allocs, Heap.ups, Heap.put, Heap.at, List.replicate, Nat.reduceAdd, Nat.reduceSub, ofConst, nilAs, if_false, if_true, binT, binTy, unT, guardT, quietK, reduceIte, boxM, allocM, loadM, storeM, fieldAddrM, lenT, extractT, subM, setOb, T.get, T.setp, T.offs, T.nw, nwL, T.cel, T.isNd, T.size, sizeL, TyI.agg, Ty.agg, Ty.isFn, zeroT, Nat.reduceLT, Nat.reduceEqDiff, sumT, kill]; try trivial) ?_) | exact absurd trivial hb | exact absurd hb (by decide) | exact absurd hcc (by decide) | refine SW.seq ?_ | refine SW.block ?_ | (refine SW.cond rfl (fun hcc => ?_) (fun hcc => ?_)) | (refine SW.exit ?_; simp only [thenS, blockS, if_true, if_false, Nat.reduceEqDiff, reduceIte]) | (refine SW.skip ?_; simp only [thenS, blockS]) | ((repeat (refine Wh.h ?_ hb; clear hb)); (repeat (refine Wh.h ?_ hcc; clear hcc)); (first | exact h1 | exact h2 | exact h3 | exact h4 | exact h5 | exact h6 | exact h7 | exact h8 | exact h9 | exact h10 | exact h11 | exact h12 | exact h13 | exact h14 | exact h15 | exact h16)))); (try (have hq : True := h1)); (try (have hq : True := h2)); (try (have hq : True := h3)); (try (have hq : True := h4)); (try (have hq : True := h5)); (try (have hq : True := h6)); (try (have hq : True := h7)); (try (have hq : True := h8)); (try (have hq : True := h9)); (try (have hq : True := h10)); (try (have hq : True := h11)); (try (have hq : True := h12)); (try (have hq : True := h13)); (try (have hq : True := h14)); (try (have hq : True := h15)); (try (have hq : True := h16)); exact True.intro) : A := k b1 b2 b3 b4 b5 b6 b7 b8 b9 b10 b11 b12 b13 b14 b15 b16
theorem goU {A B1 B2 B3 B4 B5 B6 B7 B8 B9 B10 B11 B12 B13 B14 B15 B16 : Prop} (b1 : B1) (b2 : B2) (b3 : B3) (b4 : B4) (b5 : B5) (b6 : B6) (b7 : B7) (b8 : B8) (b9 : B9) (b10 : B10) (b11 : B11) (b12 : B12) (b13 : B13) (b14 : B14) (b15 : B15) (b16 : B16) (k : B1 →  B2 →  B3 →  B4 →  B5 →  B6 →  B7 →  B8 →  B9 →  B10 →  B11 →  B12 →  B13 →  B14 →  B15 →  B16 → A := by intro h1 h2 h3 h4 h5 h6 h7 h8 h9 h10 h11 h12 h13 h14 h15 h16; refine tw ?_ ?_; (focus (repeat' first | ((have hk8 := Nat.add_zero); (first | refine SW.ops_seq hY fun y1 hy1 => ?_ | refine SW.ops hY ?_ | refine SW.seq (SW.draw2x hD1 hY mixed (by kernel_rfl) ?_) | refine SW.draw2x hD1 hY mixed (by kernel_rfl) ?_ | refine SW.seq (SW.draw2x hD2 hY mixed (by kernel_rfl) ?_) | refine SW.draw2x hD2 hY mixed (by kernel_rfl) ?_ | refine SW.seq (SW.draw2x hD3 hY mixed (by kernel_rfl) ?_) | refine SW.draw2x hD3 hY mixed (by kernel_rfl) ?_ | refine SW.draw_seq hY mixed (by kernel_rfl) fun y1 hy1 => ?_ | refine SW.draw hY mixed (by kernel_rfl) ?_ | refine vcall_c hC1 (hK := ?_) | refine vcall_c hC2 (hK := ?_) | refine vcall_c hC3 (hK := ?_) | refine vcall_c hC4 (hK := ?_) | refine vcall_c hC5 (hK := ?_) | refine vcall_c hC6 (hK := ?_) | refine vcall_c hC7 (hK := ?_) | refine vcall_c hC8 (hK := ?_) | refine vcall_c hC9 (hK := ?_) | refine vcall_c hC10 (hK := ?_) | refine vcall_c hC11 (hK := ?_) | refine vcall_c hC12 (hK := ?_) | refine vcall_c hC13 (hK := ?_) | refine vcall_c hC14 (hK := ?_) | refine vcall_c (cx [] (hG1 _)) (hK := ?_) | refine vcall_c (cx [] (hG1 _ _)) (hK := ?_) | refine vcall_c (cx [] (hG1 _ _ _)) (hK := ?_) | refine vcall_c (cx [] (hG1 _ _ _ _)) (hK := ?_) | refine vcall_c (cx [] (hG2 _)) (hK := ?_) | refine vcall_c (cx [] (hG2 _ _)) (hK := ?_) | refine vcall_c (cx [] (hG2 _ _ _)) (hK := ?_) | refine vcall_c (cx [] (hG2 _ _ _ _)) (hK := ?_) | refine vcall_c (cx [] (hG3 _)) (hK := ?_) | refine vcall_c (cx [] (hG3 _ _)) (hK := ?_) | refine vcall_c (cx [] (hG3 _ _ _)) (hK := ?_) | refine vcall_c (cx [] (hG3 _ _ _ _)) (hK := ?_) | refine kgf ?_ | refine kgt ?_ | (refine k8p ?_; (simp only [k13, hk8, upT_g, dnT_g, nb_g, dnT_b, dnT_s, dnT_0, dnT_r, fx, fy, fz, wo, decide_true, decide_false, wz0, wz1, wz2, wz3, wz4, wz5, wz6, wz7, wz8, appM, Ty.isInt, capT, appendZM, buildM, setAll, plSt, plAr, mnmx, Int.reduceLT, vrec, List.drop_succ_cons, List.drop_zero, convertM, indexM, fieldM, Int.toNat_zero, Int.toNat_one, Int.le_refl, Int.zero_le_ofNat, Int.reduceEq, Int.reduceNe, ne_eq, not_false_eq_true, u8_wrap, marksG_len, marks_len, bne_self_eq_false, take_map_len, tgL_byte, T.asArr, T.tg, tgL, indexAddrM, wk, wl, eq_self, isCall, callT, opM, S.ev, S.put, entryS, thawAL, thawA, RM.run, RM.bind, RM.ofOpt, allocs, Heap.ups, Heap.put, Heap.at, List.replicate, Nat.reduceAdd, Nat.reduceSub, ofConst, nilAs, if_false, if_true, binT, binTy, unT, guardT, quietK, reduceIte, boxM, allocM, loadM, storeM, fieldAddrM, lenT, extractT, subM, setOb, T.get, T.setp, T.offs, T.nw, nwL, T.cel, T.isNd, T.size, sizeL, TyI.agg, Ty.agg, Ty.isFn, zeroT, Nat.reduceLT, Nat.reduceEqDiff, sumT, kill]); (first | refine vpure_c hC1 (hK := ?_) | refine vpure_c hC2 (hK := ?_) | refine vpure_c hC3 (hK := ?_) | refine vpure_c hC4 (hK := ?_) | refine vpure_c hC5 (hK := ?_) | refine vpure_c hC6 (hK := ?_) | refine vpure_c hC7 (hK := ?_) | refine vpure_c hC8 (hK := ?_) | refine vpure_c hC9 (hK := ?_) | refine vpure_c hC10 (hK := ?_) | refine vpure_c hC11 (hK := ?_) | refine vpure_c hC12 (hK := ?_) | refine vpure_c hC13 (hK := ?_) | refine vpure_c hC14 (hK := ?_) | refine vpure_c (cx [] (hG1 _)) (hK := ?_) | refine vpure_c (cx [] (hG1 _ _)) (hK := ?_) | refine vpure_c (cx [] (hG1 _ _ _)) (hK := ?_) | refine vpure_c (cx [] (hG1 _ _ _ _)) (hK := ?_) | refine vpure_c (cx [] (hG2 _)) (hK := ?_) | refine vpure_c (cx [] (hG2 _ _)) (hK := ?_) | refine vpure_c (cx [] (hG2 _ _ _)) (hK := ?_) | refine vpure_c (cx [] (hG2 _ _ _ _)) (hK := ?_) | refine vpure_c (cx [] (hG3 _)) (hK := ?_) | refine vpure_c (cx [] (hG3 _ _)) (hK := ?_) | refine vpure_c (cx [] (hG3 _ _ _)) (hK := ?_) | refine vpure_c (cx [] (hG3 _ _ _ _)) (hK := ?_))) | (simp only [k8]; refine .inl ?_; refine ⟨fun hb => ?_, fun hb => ?_⟩ <;> (try replace hb := Bool.eq_false_iff.2 hb) <;> (first | exact absurd hb (by decide) | replace hk8 := hb))) <;> (simp only [k13, hk8, upT_g, dnT_g, nb_g, dnT_b, dnT_s, dnT_0, dnT_r, fx, fy, fz, wo, decide_true, decide_false, wz0, wz1, wz2, wz3, wz4, wz5, wz6, wz7, wz8, appM, Ty.isInt, capT, appendZM, buildM, setAll, plSt, plAr, mnmx, Int.reduceLT, vrec, List.drop_succ_cons, List.drop_zero, convertM, indexM, fieldM, Int.toNat_zero, Int.toNat_one, Int.le_refl, Int.zero_le_ofNat, Int.reduceEq, Int.reduceNe, ne_eq, not_false_eq_true, u8_wrap, marksG_len, marks_len, bne_self_eq_false, take_map_len, tgL_byte, T.asArr, T.tg, tgL, indexAddrM, wk, wl, eq_self, isCall, callT, opM, S.ev, S.put, entryS, thawAL, thawA, RM.run, RM.bind, RM.ofOpt, allocs, Heap.ups, Heap.put, Heap.at, List.replicate, Nat.reduceAdd, Nat.reduceSub, ofConst, nilAs, if_false, if_true, binT, binTy, unT, guardT, quietK, reduceIte, boxM, allocM, loadM, storeM, fieldAddrM, lenT, extractT, subM, setOb, T.get, T.setp, T.offs, T.nw, nwL, T.cel, T.isNd, T.size, sizeL, TyI.agg, Ty.agg, Ty.isFn, zeroT, Nat.reduceLT, Nat.reduceEqDiff, sumT, kill]; clear hk8; first | subst hy1 | (try simp only [thenS, blockS, if_true, if_false, Nat.reduceEqDiff, reduceIte]))) | (refine Chk.mk (by simp only [rdqs, rdq, k13, upT_g, dnT_g, nb_g, dnT_b, dnT_s, dnT_0, dnT_r, fx, fy, fz, wo, decide_true, decide_false, wz0, wz1, wz2, wz3, wz4, wz5, wz6, wz7, wz8, appM, Ty.isInt, capT, appendZM, buildM, setAll, plSt, plAr, mnmx, Int.reduceLT, vrec, List.drop_succ_cons, List.drop_zero, convertM, indexM, fieldM, Int.toNat_zero, Int.toNat_one, Int.le_refl, Int.zero_le_ofNat, Int.reduceEq, Int.reduceNe, ne_eq, not_false_eq_true, u8_wrap, marksG_len, marks_len, bne_self_eq_false, take_map_len, tgL_byte, T.asArr, T.tg, tgL, indexAddrM, wk, wl, eq_self, isCall, callT, opM, S.ev, S.put, entryS, thawAL, thawA, RM.run, RM.bind, RM.ofOpt, allocs, Heap.ups, Heap.put, Heap.at, List.replicate, Nat.reduceAdd, Nat.reduceSub, ofConst, nilAs, if_false, if_true, binT, binTy, unT, guardT, quietK, reduceIte, boxM, allocM, loadM, storeM, fieldAddrM, lenT, extractT, subM, setOb, T.get, T.setp, T.offs, T.nw, nwL, T.cel, T.isNd, T.size, sizeL, TyI.agg, Ty.agg, Ty.isFn, zeroT, Nat.reduceLT, Nat.reduceEqDiff, sumT, kill]; try trivial) ?_) | exact absurd trivial hb | exact absurd hb (by decide) | exact absurd hcc (by decide) | refine SW.seq ?_ | refine SW.block ?_ | (refine SW.cond rfl (fun hcc => ?_) (fun hcc => ?_)) | (refine SW.exit ?_; simp only [thenS, blockS, if_true, if_false, Nat.reduceEqDiff, reduceIte]) | (refine SW.skip ?_; simp only [thenS, blockS]) | refine SWl.s ?_ | refine SW.loopN 9 ?_ | ((repeat (refine Wh.h ?_ hb; clear hb)); (repeat (refine Wh.h ?_ hcc; clear hcc)); (first | exact h1 | exact h2 | exact h3 | exact h4 | exact h5 | exact h6 | exact h7 | exact h8 | exact h9 | exact h10 | exact h11 | exact h12 | exact h13 | exact h14 | exact h15 | exact h16)))); (try (have hq : True := h1)); (try (have hq : True := h2)); (try (have hq : True := h3)); (try (have hq : True := h4)); (try (have hq : True := h5)); (try (have hq : True := h6)); (try (have hq : True := h7)); (try (have hq : True := h8)); (try (have hq : True := h9)); (try (have hq : True := h10)); (try (have hq : True := h11)); (try (have hq : True := h12)); (try (have hq : True := h13)); (try (have hq : True := h14)); (try (have hq : True := h15)); (try (have hq : True := h16)); exact True.intro) : A := k b1 b2 b3 b4 b5 b6 b7 b8 b9 b10 b11 b12 b13 b14 b15 b16
theorem goV {A B1 B2 B3 B4 B5 B6 B7 B8 B9 B10 B11 B12 B13 B14 B15 B16 : Prop} (b1 : B1) (b2 : B2) (b3 : B3) (b4 : B4) (b5 : B5) (b6 : B6) (b7 : B7) (b8 : B8) (b9 : B9) (b10 : B10) (b11 : B11) (b12 : B12) (b13 : B13) (b14 : B14) (b15 : B15) (b16 : B16) (k : B1 →  B2 →  B3 →  B4 →  B5 →  B6 →  B7 →  B8 →  B9 →  B10 →  B11 →  B12 →  B13 →  B14 →  B15 →  B16 → A := by intro h1 h2 h3 h4 h5 h6 h7 h8 h9 h10 h11 h12 h13 h14 h15 h16; refine tw ?_ ?_; (focus (repeat' first | ((have hk8 := Nat.add_zero); (first | refine SW.ops_seq hY fun y1 hy1 => ?_ | refine SW.ops hY ?_ | refine SW.seq (SW.draw2x hD1 hY mixed (by kernel_rfl) ?_) | refine SW.draw2x hD1 hY mixed (by kernel_rfl) ?_ | refine SW.seq (SW.draw2x hD2 hY mixed (by kernel_rfl) ?_) | refine SW.draw2x hD2 hY mixed (by kernel_rfl) ?_ | refine SW.seq (SW.draw2x hD3 hY mixed (by kernel_rfl) ?_) | refine SW.draw2x hD3 hY mixed (by kernel_rfl) ?_ | refine SW.draw_seq hY mixed (by kernel_rfl) fun y1 hy1 => ?_ | refine SW.draw hY mixed (by kernel_rfl) ?_ | refine vcall_c hC1 (hK := ?_) | refine vcall_c hC2 (hK := ?_) | refine vcall_c hC3 (hK := ?_) | refine vcall_c hC4 (hK := ?_) | refine vcall_c hC5 (hK := ?_) | refine vcall_c hC6 (hK := ?_) | refine vcall_c hC7 (hK := ?_) | refine vcall_c hC8 (hK := ?_) | refine vcall_c hC9 (hK := ?_) | refine vcall_c hC10 (hK := ?_) | refine vcall_c hC11 (hK := ?_) | refine vcall_c hC12 (hK := ?_) | refine vcall_c hC13 (hK := ?_) | refine vcall_c hC14 (hK := ?_) | refine vcall_c (cx [] (hG1 _)) (hK := ?_) | refine vcall_c (cx [] (hG1 _ _)) (hK := ?_) | refine vcall_c (cx [] (hG1 _ _ _)) (hK := ?_) | refine vcall_c (cx [] (hG1 _ _ _ _)) (hK := ?_) | refine vcall_c (cx [] (hG2 _)) (hK := ?_) | refine vcall_c (cx [] (hG2 _ _)) (hK := ?_) | refine vcall_c (cx [] (hG2 _ _ _)) (hK := ?_) | refine vcall_c (cx [] (hG2 _ _ _ _)) (hK := ?_) | refine vcall_c (cx [] (hG3 _)) (hK := ?_) | refine vcall_c (cx [] (hG3 _ _)) (hK := ?_) | refine vcall_c (cx [] (hG3 _ _ _)) (hK := ?_) | refine vcall_c (cx [] (hG3 _ _ _ _)) (hK := ?_) | refine kgf ?_ | refine kgt ?_ | (refine k8p ?_; (simp only [k13, hk8, upT_g, dnT_g, nb_g, dnT_b, dnT_s, dnT_0, dnT_r, fx, fy, fz, wo, decide_true, decide_false, wz0, wz1, wz2, wz3, wz4, wz5, wz6, wz7, wz8, appM, Ty.isInt, capT, appendZM, buildM, setAll, plSt, plAr, mnmx, Int.reduceLT, vrec, List.drop_succ_cons, List.drop_zero, convertM, indexM, fieldM, Int.toNat_zero, Int.toNat_one, Int.le_refl, Int.zero_le_ofNat, Int.reduceEq, Int.reduceNe, ne_eq, not_false_eq_true, u8_wrap, marksG_len, marks_len, bne_self_eq_false, take_map_len, tgL_byte, T.asArr, T.tg, tgL, indexAddrM, wk, wl, eq_self, isCall, callT, opM, S.ev, S.put, entryS, thawAL, thawA, RM.run, RM.bind, RM.ofOpt, allocs, Heap.ups, Heap.put, Heap.at, List.replicate, Nat.reduceAdd, Nat.reduceSub, ofConst, nilAs, if_false, if_true, binT, binTy, unT, guardT, quietK, reduceIte, boxM, allocM, loadM, storeM, fieldAddrM, lenT, extractT, subM, setOb, T.get, T.setp, T.offs, T.nw, nwL, T.cel, T.isNd, T.size, sizeL, TyI.agg, Ty.agg, Ty.isFn, zeroT, Nat.reduceLT, Nat.reduceEqDiff, sumT, kill]); (first | refine vpure_c hC1 (hK := ?_) | refine vpure_c hC2 (hK := ?_) | refine vpure_c hC3 (hK := ?_) | refine vpure_c hC4 (hK := ?_) | refine vpure_c hC5 (hK := ?_) | refine vpure_c hC6 (hK := ?_) | refine vpure_c hC7 (hK := ?_) | refine vpure_c hC8 (hK := ?_) | refine vpure_c hC9 (hK := ?_) | refine vpure_c hC10 (hK := ?_) | refine vpure_c hC11 (hK := ?_) | refine vpure_c hC12 (hK := ?_) | refine vpure_c hC13 (hK := ?_) | refine vpure_c hC14 (hK := ?_) | refine vpure_c (cx [] (hG1 _)) (hK := ?_) | refine vpure_c (cx [] (hG1 _ _)) (hK := ?_) | refine vpure_c (cx [] (hG1 _ _ _)) (hK := ?_) | refine vpure_c (cx [] (hG1 _ _ _ _)) (hK := ?_) | refine vpure_c (cx [] (hG2 _)) (hK := ?_) | refine vpure_c (cx [] (hG2 _ _)) (hK := ?_) | refine vpure_c (cx [] (hG2 _ _ _)) (hK := ?_) | refine vpure_c (cx [] (hG2 _ _ _ _)) (hK := ?_) | refine vpure_c (cx [] (hG3 _)) (hK := ?_) | refine vpure_c (cx [] (hG3 _ _)) (hK := ?_) | refine vpure_c (cx [] (hG3 _ _ _)) (hK := ?_) | refine vpure_c (cx [] (hG3 _ _ _ _)) (hK := ?_))) | (simp only [k8]; refine .inl ?_; refine ⟨fun hb => ?_, fun hb => ?_⟩ <;> (try replace hb := Bool.eq_false_iff.2 hb) <;> (first | exact absurd hb (by decide) | replace hk8 := hb))) <;> (simp only [k13, hk8, upT_g, dnT_g, nb_g, dnT_b, dnT_s, dnT_0, dnT_r, fx, fy, fz, wo, decide_true, decide_false, wz0, wz1, wz2, wz3, wz4, wz5, wz6, wz7, wz8, appM, Ty.isInt, capT, appendZM, buildM, setAll, plSt, plAr, mnmx, Int.reduceLT, vrec, List.drop_succ_cons, List.drop_zero, convertM, indexM, fieldM, Int.toNat_zero, Int.toNat_one, Int.le_refl, Int.zero_le_ofNat, Int.reduceEq, Int.reduceNe, ne_eq, not_false_eq_true, u8_wrap, marksG_len, marks_len, bne_self_eq_false, take_map_len, tgL_byte, T.asArr, T.tg, tgL, indexAddrM, wk, wl, eq_self, isCall, callT, opM, S.ev, S.put, entryS, thawAL, thawA, RM.run, RM.bind, RM.ofOpt, allocs, Heap.ups, Heap.put, Heap.at, List.replicate, Nat.reduceAdd, Nat.reduceSub, ofConst, nilAs, if_false, if_true, binT, binTy, unT, guardT, quietK, reduceIte, boxM, allocM, loadM, storeM, fieldAddrM, lenT, extractT, subM, setOb, T.get, T.setp, T.offs, T.nw, nwL, T.cel, T.isNd, T.size, sizeL, TyI.agg, Ty.agg, Ty.isFn, zeroT, Nat.reduceLT, Nat.reduceEqDiff, sumT, kill]; clear hk8; first | subst hy1 | (try simp only [thenS, blockS, if_true, if_false, Nat.reduceEqDiff, reduceIte]))) | (refine Chk.mk (by simp only [rdqs, rdq, k13, upT_g, dnT_g, nb_g, dnT_b, dnT_s, dnT_0, dnT_r, fx, fy, fz, wo, decide_true, decide_false, wz0, wz1, wz2, wz3, wz4, wz5, wz6, wz7, wz8, appM, Ty.isInt, capT, appendZM, buildM, setAll, plSt, plAr, mnmx, Int.reduceLT, vrec, List.drop_succ_cons, List.drop_zero, convertM, indexM, fieldM, Int.toNat_zero, Int.toNat_one, Int.le_refl, Int.zero_le_ofNat, Int.reduceEq, Int.reduceNe, ne_eq, not_false_eq_true, u8_wrap, marksG_len, marks_len, bne_self_eq_false, take_map_len, tgL_byte, T.asArr, T.tg, tgL, indexAddrM, wk, wl, eq_self, isCall, callT, opM, S.ev, S.put, entryS, thawAL, thawA, RM.run, RM.bind, RM.ofOpt, allocs, Heap.ups, Heap.put, Heap.at, List.replicate, Nat.reduceAdd, Nat.reduceSub, ofConst, nilAs, if_false, if_true, binT, binTy, unT, guardT, quietK, reduceIte, boxM, allocM, loadM, storeM, fieldAddrM, lenT, extractT, subM, setOb, T.get, T.setp, T.offs, T.nw, nwL, T.cel, T.isNd, T.size, sizeL, TyI.agg, Ty.agg, Ty.isFn, zeroT, Nat.reduceLT, Nat.reduceEqDiff, sumT, kill]; try trivial) ?_) | exact absurd trivial hb | exact absurd hb (by decide) | exact absurd hcc (by decide) | refine SW.seq ?_ | refine SW.block ?_ | (refine SW.cond rfl (fun hcc => ?_) (fun hcc => ?_)) | (refine SW.exit ?_; simp only [thenS, blockS, if_true, if_false, Nat.reduceEqDiff, reduceIte]) | (refine SW.skip ?_; simp only [thenS, blockS]) | exact SW.ret (RetQ.r hR) | (refine SW.ret (show RetQ _ _ _ _ _ _ _ from ⟨.inr rfl, [_], [1], [_], _, rfl, rfl, rfl, rfl, rfl, ?_⟩)) | (refine SW.ret (show RetQ _ _ _ _ _ _ _ from ⟨.inr rfl, [_, _], [0, 0], [_, _], _, rfl, rfl, rfl, rfl, rfl, ?_⟩)) | (refine SW.ret (show RetQ _ _ _ _ _ _ _ from ⟨.inr rfl, [_, _, _], [0, 0, 0], [_, _, _], _, rfl, rfl, rfl, rfl, rfl, ?_⟩)) | (refine SW.ret (show RetQ _ _ _ _ _ _ _ from ⟨.inr rfl, [_, _, _, _], [0, 0, 0, 0], [_, _, _, _], _, rfl, rfl, rfl, rfl, rfl, ?_⟩)) | refine SWl.s ?_ | refine SW.loopN 9 ?_ | ((repeat (refine Wh.h ?_ hb; clear hb)); (repeat (refine Wh.h ?_ hcc; clear hcc)); (first | exact h1 | exact h2 | exact h3 | exact h4 | exact h5 | exact h6 | exact h7 | exact h8 | exact h9 | exact h10 | exact h11 | exact h12 | exact h13 | exact h14 | exact h15 | exact h16)))); (try (have hq : True := h1)); (try (have hq : True := h2)); (try (have hq : True := h3)); (try (have hq : True := h4)); (try (have hq : True := h5)); (try (have hq : True := h6)); (try (have hq : True := h7)); (try (have hq : True := h8)); (try (have hq : True := h9)); (try (have hq : True := h10)); (try (have hq : True := h11)); (try (have hq : True := h12)); (try (have hq : True := h13)); (try (have hq : True := h14)); (try (have hq : True := h15)); (try (have hq : True := h16)); exact True.intro) : A := k b1 b2 b3 b4 b5 b6 b7 b8 b9 b10 b11 b12 b13 b14 b15 b16
theorem go0 {A : Prop} (k : A := by repeat' first | ((have hk8 := Nat.add_zero); (first | refine SW.ops_seq hY fun y1 hy1 => ?_ | refine SW.ops hY ?_ | refine SW.seq (SW.draw2x hD1 hY mixed (by kernel_rfl) ?_) | refine SW.draw2x hD1 hY mixed (by kernel_rfl) ?_ | refine SW.seq (SW.draw2x hD2 hY mixed (by kernel_rfl) ?_) | refine SW.draw2x hD2 hY mixed (by kernel_rfl) ?_ | refine SW.seq (SW.draw2x hD3 hY mixed (by kernel_rfl) ?_) | refine SW.draw2x hD3 hY mixed (by kernel_rfl) ?_ | refine SW.draw_seq hY mixed (by kernel_rfl) fun y1 hy1 => ?_ | refine SW.draw hY mixed (by kernel_rfl) ?_ | refine vcall_c hC1 (hK := ?_) | refine vcall_c hC2 (hK := ?_) | refine vcall_c hC3 (hK := ?_) | refine vcall_c hC4 (hK := ?_) | refine vcall_c hC5 (hK := ?_) | refine vcall_c hC6 (hK := ?_) | refine vcall_c hC7 (hK := ?_) | refine vcall_c hC8 (hK := ?_) | refine vcall_c hC9 (hK := ?_) | refine vcall_c hC10 (hK := ?_) | refine vcall_c hC11 (hK := ?_) | refine vcall_c hC12 (hK := ?_) | refine vcall_c hC13 (hK := ?_) | refine vcall_c hC14 (hK := ?_) | refine vcall_c (cx [] (hG1 _)) (hK := ?_) | refine vcall_c (cx [] (hG1 _ _)) (hK := ?_) | refine vcall_c (cx [] (hG1 _ _ _)) (hK := ?_) | refine vcall_c (cx [] (hG1 _ _ _ _)) (hK := ?_) | refine vcall_c (cx [] (hG2 _)) (hK := ?_) | refine vcall_c (cx [] (hG2 _ _)) (hK := ?_) | refine vcall_c (cx [] (hG2 _ _ _)) (hK := ?_) | refine vcall_c (cx [] (hG2 _ _ _ _)) (hK := ?_) | refine vcall_c (cx [] (hG3 _)) (hK := ?_) | refine vcall_c (cx [] (hG3 _ _)) (hK := ?_) | refine vcall_c (cx [] (hG3 _ _ _)) (hK := ?_) | refine vcall_c (cx [] (hG3 _ _ _ _)) (hK := ?_) | refine kgf ?_ | refine kgt ?_ | (refine k8p ?_; (simp only [k13, hk8, upT_g, dnT_g, nb_g, dnT_b, dnT_s, dnT_0, dnT_r, fx, fy, fz, wo, decide_true, decide_false, wz0, wz1, wz2, wz3, wz4, wz5, wz6, wz7, wz8, appM, Ty.isInt, capT, appendZM, buildM, setAll, plSt, plAr, mnmx, Int.reduceLT, vrec, List.drop_succ_cons, List.drop_zero, convertM, indexM, fieldM, Int.toNat_zero, Int.toNat_one, Int.le_refl, Int.zero_le_ofNat, Int.reduceEq, Int.reduceNe, ne_eq, not_false_eq_true, u8_wrap, marksG_len, marks_len, bne_self_eq_false, take_map_len, tgL_byte, T.asArr, T.tg, tgL, indexAddrM, wk, wl, eq_self, isCall, callT, opM, S.ev, S.put, entryS, thawAL, thawA, RM.run, RM.bind, RM.ofOpt, allocs, Heap.ups, Heap.put, Heap.at, List.replicate, Nat.reduceAdd, Nat.reduceSub, ofConst, nilAs, if_false, if_true, binT, binTy, unT, guardT, quietK, reduceIte, boxM, allocM, loadM, storeM, fieldAddrM, lenT, extractT, subM, setOb, T.get, T.setp, T.offs, T.nw, nwL, T.cel, T.isNd, T.size, sizeL, TyI.agg, Ty.agg, Ty.isFn, zeroT, Nat.reduceLT, Nat.reduceEqDiff, sumT, kill]); (first | refine vpure_c hC1 (hK := ?_) | refine vpure_c hC2 (hK := ?_) | refine vpure_c hC3 (hK := ?_) | refine vpure_c hC4 (hK := ?_) | refine vpure_c hC5 (hK := ?_) | refine vpure_c hC6 (hK := ?_) | refine vpure_c hC7 (hK := ?_) | refine vpure_c hC8 (hK := ?_) | refine vpure_c hC9 (hK := ?_) | refine vpure_c hC10 (hK := ?_) | refine vpure_c hC11 (hK := ?_) | refine vpure_c hC12 (hK := ?_) | refine vpure_c hC13 (hK := ?_) | refine vpure_c hC14 (hK := ?_) | refine vpure_c (cx [] (hG1 _)) (hK := ?_) | refine vpure_c (cx [] (hG1 _ _)) (hK := ?_) | refine vpure_c (cx [] (hG1 _ _ _)) (hK := ?_) | refine vpure_c (cx [] (hG1 _ _ _ _)) (hK := ?_) | refine vpure_c (cx [] (hG2 _)) (hK := ?_) | refine vpure_c (cx [] (hG2 _ _)) (hK := ?_) | refine vpure_c (cx [] (hG2 _ _ _)) (hK := ?_) | refine vpure_c (cx [] (hG2 _ _ _ _)) (hK := ?_) | refine vpure_c (cx [] (hG3 _)) (hK := ?_) | refine vpure_c (cx [] (hG3 _ _)) (hK := ?_) | refine vpure_c (cx [] (hG3 _ _ _)) (hK := ?_) | refine vpure_c (cx [] (hG3 _ _ _ _)) (hK := ?_))) | (simp only [k8]; refine .inl ?_; refine ⟨fun hb => ?_, fun hb => ?_⟩ <;> (try replace hb := Bool.eq_false_iff.2 hb) <;> (first | exact absurd hb (by decide) | replace hk8 := hb))) <;> (simp only [k13, hk8, upT_g, dnT_g, nb_g, dnT_b, dnT_s, dnT_0, dnT_r, fx, fy, fz, wo, decide_true, decide_false, wz0, wz1, wz2, wz3, wz4, wz5, wz6, wz7, wz8, appM, Ty.isInt, capT, appendZM, buildM, setAll, plSt, plAr, mnmx, Int.reduceLT, vrec, List.drop_succ_cons, List.drop_zero, convertM, indexM, fieldM, Int.toNat_zero, Int.toNat_one, Int.le_refl, Int.zero_le_ofNat, Int.reduceEq, Int.reduceNe, ne_eq, not_false_eq_true, u8_wrap, marksG_len, marks_len, bne_self_eq_false, take_map_len, tgL_byte, T.asArr, T.tg, tgL, indexAddrM, wk, wl, eq_self, isCall, callT, opM, S.ev, S.put, entryS, thawAL, thawA, RM.run, RM.bind, RM.ofOpt, allocs, Heap.ups, Heap.put, Heap.at, List.replicate, Nat.reduceAdd, Nat.reduceSub, ofConst, nilAs, if_false, if_true, binT, binTy, unT, guardT, quietK, reduceIte, boxM, allocM, loadM, storeM, fieldAddrM, lenT, extractT, subM, setOb, T.get, T.setp, T.offs, T.nw, nwL, T.cel, T.isNd, T.size, sizeL, TyI.agg, Ty.agg, Ty.isFn, zeroT, Nat.reduceLT, Nat.reduceEqDiff, sumT, kill]; clear hk8; first | subst hy1 | (try simp only [thenS, blockS, if_true, if_false, Nat.reduceEqDiff, reduceIte]))) | (refine Chk.mk (by simp only [rdqs, rdq, k13, upT_g, dnT_g, nb_g, dnT_b, dnT_s, dnT_0, dnT_r, fx, fy, fz, wo, decide_true, decide_false, wz0, wz1, wz2, wz3, wz4, wz5, wz6, wz7, wz8, appM, Ty.isInt, capT, appendZM, buildM, setAll, plSt, plAr, mnmx, Int.reduceLT, vrec, List.drop_succ_cons, List.drop_zero, convertM, indexM, fieldM, Int.toNat_zero, Int.toNat_one, Int.le_refl, Int.zero_le_ofNat, Int.reduceEq, Int.reduceNe, ne_eq, not_false_eq_true, u8_wrap, marksG_len, marks_len, bne_self_eq_false, take_map_len, tgL_byte, T.asArr, T.tg, tgL, indexAddrM, wk, wl, eq_self, isCall, callT, opM, S.ev, S.put, entryS, thawAL, thawA, RM.run, RM.bind, RM.ofOpt, allocs, Heap.ups, Heap.put, Heap.at, List.replicate, Nat.reduceAdd, Nat.reduceSub, ofConst, nilAs, if_false, if_true, binT, binTy, unT, guardT, quietK, reduceIte, boxM, allocM, loadM, storeM, fieldAddrM, lenT, extractT, subM, setOb, T.get, T.setp, T.offs, T.nw, nwL, T.cel, T.isNd, T.size, sizeL, TyI.agg, Ty.agg, Ty.isFn, zeroT, Nat.reduceLT, Nat.reduceEqDiff, sumT, kill]; try trivial) ?_) | exact absurd trivial hb | exact absurd hb (by decide) | exact absurd hcc (by decide) | refine SW.seq ?_ | refine SW.block ?_ | (refine SW.cond rfl (fun hcc => ?_) (fun hcc => ?_)) | (refine SW.exit ?_; simp only [thenS, blockS, if_true, if_false, Nat.reduceEqDiff, reduceIte]) | (refine SW.skip ?_; simp only [thenS, blockS]) | exact SW.ret (RetQ.r hR) | (refine SW.ret (show RetQ _ _ _ _ _ _ _ from ⟨.inr rfl, [_], [1], [_], _, rfl, rfl, rfl, rfl, rfl, ?_⟩)) | (refine SW.ret (show RetQ _ _ _ _ _ _ _ from ⟨.inr rfl, [_, _], [0, 0], [_, _], _, rfl, rfl, rfl, rfl, rfl, ?_⟩)) | (refine SW.ret (show RetQ _ _ _ _ _ _ _ from ⟨.inr rfl, [_, _, _], [0, 0, 0], [_, _, _], _, rfl, rfl, rfl, rfl, rfl, ?_⟩)) | (refine SW.ret (show RetQ _ _ _ _ _ _ _ from ⟨.inr rfl, [_, _, _, _], [0, 0, 0, 0], [_, _, _, _], _, rfl, rfl, rfl, rfl, rfl, ?_⟩))) : A := k
end Q6

namespace Q6
open Go Go.Vm Go.Proofs
set_option maxHeartbeats 4000000
set_option synthInstance.maxSize 2000
set_option synthInstance.maxHeartbeats 400000
set_option maxRecDepth 10000
set_option linter.unusedSimpArgs false
set_option linter.unusedVariables false

theorem in_ok (a b c : Int) : CallR Try.prog 79 [.int .i64 a, .int .i64 b, .int .i64 c] [] (.bool (decide (a ≥ b) && decide (a ≤ c))) := by
  refine CallR.of_body (n := 15) (rs := [.tmp 6]) hY.ok Try.func79 rfl (by decide) rfl rfl rfl rfl (fun F => ?_)
  have fx := And.intro Y3 (Y4)
  have fy := Nat.add_zero
  refine goK ?_ ?_ ?_ ?_ ?_ ?_ ?_ ?_ ?_ ?_ ?_ ?_ ?_ ?_ ?_ ?_
  any_goals (first | exact True.intro | skip)
  all_goals (repeat (refine Wh.mk fun hcc => ?_))
  all_goals (first | rfl | ((try simp only [tupOf, fixEs]); (first | done | rfl | (simp_all []; done) | grind [])))
theorem l1In_ok (a b c : Int) : CallR Try.prog 75 [.int .i64 a, .int .i64 b, .int .i64 c] [] (.bool (decide (a ≥ b) && decide (a ≤ c))) := by
  refine CallR.of_body (n := 15) (rs := [.tmp 6]) hY.ok Try.func75 rfl (by decide) rfl rfl rfl rfl (fun F => ?_)
  have fx := And.intro Y3 (Y4)
  have fy := Nat.add_zero
  refine goK ?_ ?_ ?_ ?_ ?_ ?_ ?_ ?_ ?_ ?_ ?_ ?_ ?_ ?_ ?_ ?_
  any_goals (first | exact True.intro | skip)
  all_goals (repeat (refine Wh.mk fun hcc => ?_))
  all_goals (first | rfl | ((try simp only [tupOf, fixEs]); (first | done | rfl | (simp_all []; done) | grind [])))
theorem oid_ok (a : Int) : CallR Try.prog 83 [.int .i64 a] [] (.bool (decide (a ≥ 1) && decide (a ≤ 31))) := by
  refine CallR.of_body (n := 5) (rs := [.tmp 2]) hY.ok Try.func83 rfl (by decide) rfl rfl rfl rfl (fun F => ?_)
  have fx := And.intro Y3 (Y4)
  have hG1 := fun u1 u2 u3 => in_ok u1 u2 u3
  have fy := Nat.add_zero
  refine goK ?_ ?_ ?_ ?_ ?_ ?_ ?_ ?_ ?_ ?_ ?_ ?_ ?_ ?_ ?_ ?_
  any_goals (first | exact True.intro | skip)
  all_goals (repeat (refine Wh.mk fun hcc => ?_))
  all_goals (first | rfl | ((try simp only [tupOf, fixEs]); (first | done | rfl | (simp_all []; done) | grind [])))
end Q6

namespace Q6
open Go Go.Vm Go.Proofs
set_option maxHeartbeats 4000000
set_option synthInstance.maxSize 2000
set_option synthInstance.maxHeartbeats 400000
set_option maxRecDepth 10000
set_option linter.unusedSimpArgs false
set_option linter.unusedVariables false


    def intB (n : Int) : Bool := decide (n ≥ -1000000) && decide (n ≤ 1000000)
    def refB (n : Int) : Bool := decide (n ≥ 0) && decide (n ≤ 31)
    def objB (x : (Int × (List Int) × (List Int) × Unit)) : Bool := (decide (x.1 ≥ 1) && decide (x.1 ≤ 99)) && decide (x.2.1.length ≤ 5) && decide (x.2.2.1.length ≤ 5) && x.2.1.all intB && x.2.2.1.all refB
    def noObjB (x : (Int × (List Int) × (List Int) × Unit)) : Bool := decide (x.1 = 0) && decide (x.2.1.length = 0) && decide (x.2.2.1.length = 0)
    def slotB (x : (Bool × ((Int × (List Int) × (List Int) × Unit)) × Unit)) : Bool := if x.1 then objB x.2.1 else noObjB x.2.1
    def viewB (l : List (Bool × ((Int × (List Int) × (List Int) × Unit)) × Unit)) : Bool := decide (l.length = 32) && (match l with | [] => false | s :: _ => !s.1) && l.all slotB
    theorem len0 (l : List Int) : ((l.length : Int) == 0) = decide (l.length = 0) := by
      by_cases h : l.length = 0
      · simp [h]
      · have : ¬ (l.length : Int) = 0 := by omega
        rw [beq_eq_false_iff_ne.2 this]; simp [h]
    theorem len5 (l : List Int) : decide ((l.length : Int) > 5) = !decide (l.length ≤ 5) := by
      by_cases h : l.length ≤ 5
      · have : ¬ (l.length : Int) > 5 := by omega
        simp [h, this]
      · have : (l.length : Int) > 5 := by omega
        simp [h, this]
    
theorem obj1_ok (x : Int) : CallR Try.prog 169 [.int .i64 x] [] (.bool (!intB x)) := by
  refine CallR.of_body (n := 6) (rs := [.tmp 2]) hY.ok Try.func169 rfl (by decide) rfl rfl rfl rfl (fun F => ?_)
  have fx := And.intro Y3 (Y4)
  have hG1 := fun u1 u2 u3 => in_ok u1 u2 u3
  have fy := Nat.add_zero
  refine goK ?_ ?_ ?_ ?_ ?_ ?_ ?_ ?_ ?_ ?_ ?_ ?_ ?_ ?_ ?_ ?_
  any_goals (first | exact True.intro | skip)
  all_goals (repeat (refine Wh.mk fun hcc => ?_))
  all_goals (first | rfl | ((try simp only [tupOf, fixEs]); (first | done | rfl | (simp_all []; done) | grind [])))
theorem obj2_ok (x : Int) : CallR Try.prog 170 [.int .i64 x] [] (.bool (!refB x)) := by
  refine CallR.of_body (n := 6) (rs := [.tmp 2]) hY.ok Try.func170 rfl (by decide) rfl rfl rfl rfl (fun F => ?_)
  have fx := And.intro Y3 (Y4)
  have hG1 := fun u1 u2 u3 => in_ok u1 u2 u3
  have fy := Nat.add_zero
  refine goK ?_ ?_ ?_ ?_ ?_ ?_ ?_ ?_ ?_ ?_ ?_ ?_ ?_ ?_ ?_ ?_
  any_goals (first | exact True.intro | skip)
  all_goals (repeat (refine Wh.mk fun hcc => ?_))
  all_goals (first | rfl | ((try simp only [tupOf, fixEs]); (first | done | rfl | (simp_all []; done) | grind [])))
theorem idxInt_ok (l : List Int) (hl : Enc.lim 1048576 l) : CallR Try.prog 177 [.sl .b (l.map Enc.b), .fn 169 [] []] [] (.int .i64 (idxOf (fun x => !intB x) l)) := by
  refine CallR.of_body (n := 19) (rs := [.tmp 4]) hY.ok Try.func177 rfl (by decide) rfl rfl rfl rfl (fun F => ?_)
  have fx := And.intro Y3 (And.intro Y4 (And.intro Y34 (Y96)))
  have hl1 : l.length ≤ 1048576 := hl.1
  have fy := Nat.add_zero
  refine goN ?_ ?_ ?_ ?_ ?_ ?_ ?_ ?_ ?_ ?_ ?_ ?_ ?_ ?_ ?_ ?_
  any_goals (first | exact True.intro | skip)
  skip
  refine SW.loop (fun i : Nat => ⟨[.sl .b (l.map Enc.b), .fn 169 [] [], .undef, .undef, .undef, .undef, .undef, .int .i64 l.length, .int .i64 i, .undef, .undef, .undef, .undef, .undef, .undef, .undef, .undef, .undef, .undef], [[]]⟩)
    (fun n i => n = l.length - i ∧ i ≤ l.length ∧ ∀ j (h : j < l.length), j < i → (fun x => !intB x) l[j] = false) (n := l.length) (x := 0) (Norm.to 0 rfl (by simp [weakL])) ⟨rfl, Nat.zero_le _, fun j _ h => absurd h (Nat.not_lt_zero _)⟩ ?_
  rintro n i ⟨hn, hi, hp⟩
  have fy := Nat.add_zero
  refine goS ?_
  refine SW.cond rfl (fun hc => ?_) (fun hc => ?_)
  · have hlt : i < l.length := by simpa using hc
    have hg : (l.map Enc.b)[i]? = some (.int .i64 l[i]) := map_get Enc.b l i hlt
    have hC1 := cx [] (obj1_ok l[i])
    have fy := hg
    refine goK ?_ ?_ ?_ ?_ ?_ ?_ ?_ ?_ ?_ ?_ ?_ ?_ ?_ ?_ ?_ ?_
    any_goals (first | exact True.intro | skip)
    all_goals (repeat (refine Wh.mk fun hcc => ?_))
    · have hx := hcc
      have hx' : (fun x => !intB x) l[i] = true := by simpa using hx
      simp only [tupOf, fixEs, idxOf_eq (fun x => !intB x) l hlt hx' (fun j hj => hp j (by omega) hj)]
    · have hx := hcc
      have hx' : (fun x => !intB x) l[i] = false := by simpa using hx
      refine ⟨n - 1, i + 1, by omega, ⟨by omega, by omega, fun j hj hji => ?_⟩, ?_⟩
      · by_cases he : j = i
        · subst he; exact hx'
        · exact hp j hj (by omega)
      · rw [wrap64 _ (by omega) (by omega)]
        first | exact Norm.to 0 rfl (by simp [weakL]) | exact Norm.to 1 rfl (by simp [weakL]) | exact Norm.to 2 rfl (by simp [weakL])
  · have hge : i = l.length := by
      have : ¬ i < l.length := by simpa using hc
      omega
    have fy := Nat.add_zero
    refine goK ?_ ?_ ?_ ?_ ?_ ?_ ?_ ?_ ?_ ?_ ?_ ?_ ?_ ?_ ?_ ?_
    any_goals (first | exact True.intro | skip)
    all_goals (repeat (refine Wh.mk fun hcc => ?_))
    simp only [tupOf, fixEs, idxOf_none (fun x => !intB x) l (fun j hj => hp j hj (by omega))]
theorem anyInt_ok (l : List Int) (hl : Enc.lim 1048576 l) : CallR Try.prog 168 [.sl .b (l.map Enc.b), .fn 169 [] []] [] (.bool (l.any (fun x => !intB x))) := by
  refine CallR.of_body (n := 9) (rs := [.tmp 4]) hY.ok Try.func168 rfl (by decide) rfl rfl rfl rfl (fun F => ?_)
  have fx := And.intro Y3 (And.intro Y4 (And.intro Y34 (Y96)))
  have hC1 := cx [] (idxInt_ok l hl)
  have fy := Nat.add_zero
  refine goK ?_ ?_ ?_ ?_ ?_ ?_ ?_ ?_ ?_ ?_ ?_ ?_ ?_ ?_ ?_ ?_
  any_goals (first | exact True.intro | skip)
  all_goals (repeat (refine Wh.mk fun hcc => ?_))
  all_goals simp only [tupOf, fixEs, ge_iff_le, idx_any]
theorem idxRef_ok (l : List Int) (hl : Enc.lim 1048576 l) : CallR Try.prog 177 [.sl .b (l.map Enc.b), .fn 170 [] []] [] (.int .i64 (idxOf (fun x => !refB x) l)) := by
  refine CallR.of_body (n := 19) (rs := [.tmp 4]) hY.ok Try.func177 rfl (by decide) rfl rfl rfl rfl (fun F => ?_)
  have fx := And.intro Y3 (And.intro Y4 (And.intro Y34 (Y96)))
  have hl1 : l.length ≤ 1048576 := hl.1
  have fy := Nat.add_zero
  refine goN ?_ ?_ ?_ ?_ ?_ ?_ ?_ ?_ ?_ ?_ ?_ ?_ ?_ ?_ ?_ ?_
  any_goals (first | exact True.intro | skip)
  skip
  refine SW.loop (fun i : Nat => ⟨[.sl .b (l.map Enc.b), .fn 170 [] [], .undef, .undef, .undef, .undef, .undef, .int .i64 l.length, .int .i64 i, .undef, .undef, .undef, .undef, .undef, .undef, .undef, .undef, .undef, .undef], [[]]⟩)
    (fun n i => n = l.length - i ∧ i ≤ l.length ∧ ∀ j (h : j < l.length), j < i → (fun x => !refB x) l[j] = false) (n := l.length) (x := 0) (Norm.to 0 rfl (by simp [weakL])) ⟨rfl, Nat.zero_le _, fun j _ h => absurd h (Nat.not_lt_zero _)⟩ ?_
  rintro n i ⟨hn, hi, hp⟩
  have fy := Nat.add_zero
  refine goS ?_
  refine SW.cond rfl (fun hc => ?_) (fun hc => ?_)
  · have hlt : i < l.length := by simpa using hc
    have hg : (l.map Enc.b)[i]? = some (.int .i64 l[i]) := map_get Enc.b l i hlt
    have hC1 := cx [] (obj2_ok l[i])
    have fy := hg
    refine goK ?_ ?_ ?_ ?_ ?_ ?_ ?_ ?_ ?_ ?_ ?_ ?_ ?_ ?_ ?_ ?_
    any_goals (first | exact True.intro | skip)
    all_goals (repeat (refine Wh.mk fun hcc => ?_))
    · have hx := hcc
      have hx' : (fun x => !refB x) l[i] = true := by simpa using hx
      simp only [tupOf, fixEs, idxOf_eq (fun x => !refB x) l hlt hx' (fun j hj => hp j (by omega) hj)]
    · have hx := hcc
      have hx' : (fun x => !refB x) l[i] = false := by simpa using hx
      refine ⟨n - 1, i + 1, by omega, ⟨by omega, by omega, fun j hj hji => ?_⟩, ?_⟩
      · by_cases he : j = i
        · subst he; exact hx'
        · exact hp j hj (by omega)
      · rw [wrap64 _ (by omega) (by omega)]
        first | exact Norm.to 0 rfl (by simp [weakL]) | exact Norm.to 1 rfl (by simp [weakL]) | exact Norm.to 2 rfl (by simp [weakL])
  · have hge : i = l.length := by
      have : ¬ i < l.length := by simpa using hc
      omega
    have fy := Nat.add_zero
    refine goK ?_ ?_ ?_ ?_ ?_ ?_ ?_ ?_ ?_ ?_ ?_ ?_ ?_ ?_ ?_ ?_
    any_goals (first | exact True.intro | skip)
    all_goals (repeat (refine Wh.mk fun hcc => ?_))
    simp only [tupOf, fixEs, idxOf_none (fun x => !refB x) l (fun j hj => hp j hj (by omega))]
theorem anyRef_ok (l : List Int) (hl : Enc.lim 1048576 l) : CallR Try.prog 168 [.sl .b (l.map Enc.b), .fn 170 [] []] [] (.bool (l.any (fun x => !refB x))) := by
  refine CallR.of_body (n := 9) (rs := [.tmp 4]) hY.ok Try.func168 rfl (by decide) rfl rfl rfl rfl (fun F => ?_)
  have fx := And.intro Y3 (And.intro Y4 (And.intro Y34 (Y96)))
  have hC1 := cx [] (idxRef_ok l hl)
  have fy := Nat.add_zero
  refine goK ?_ ?_ ?_ ?_ ?_ ?_ ?_ ?_ ?_ ?_ ?_ ?_ ?_ ?_ ?_ ?_
  any_goals (first | exact True.intro | skip)
  all_goals (repeat (refine Wh.mk fun hcc => ?_))
  all_goals simp only [tupOf, fixEs, ge_iff_le, idx_any]
theorem noObj_ok (x : (Int × (List Int) × (List Int) × Unit)) : CallR Try.prog 140 [.nd [.int .i64 x.1, .sl .b (x.2.1.map Enc.b), .sl .b (x.2.2.1.map Enc.b)]] [] (.bool (noObjB x)) := by
  refine CallR.of_body (n := 18) (rs := [.tmp 2]) hY.ok Try.func140 rfl (by decide) rfl rfl rfl rfl (fun F => ?_)
  have fx := And.intro Y1 (And.intro Y2 (And.intro Y3 (And.intro Y4 (And.intro Y34 (Y36)))))
  have fy := Nat.add_zero
  refine goK ?_ ?_ ?_ ?_ ?_ ?_ ?_ ?_ ?_ ?_ ?_ ?_ ?_ ?_ ?_ ?_
  any_goals (first | exact True.intro | skip)
  all_goals (repeat (refine Wh.mk fun hcc => ?_))
  all_goals (first | rfl | ((try simp only [tupOf, fixEs]); (first | done | rfl | (simp_all [noObjB, len0]; done) | grind [noObjB, len0])))
theorem noSlot_ok (x : (Bool × ((Int × (List Int) × (List Int) × Unit)) × Unit)) : CallR Try.prog 80 [.nd [.bool x.1, .nd [.int .i64 x.2.1.1, .sl .b (x.2.1.2.1.map Enc.b), .sl .b (x.2.1.2.2.1.map Enc.b)]]] [] (.bool (!x.1 && noObjB x.2.1)) := by
  refine CallR.of_body (n := 11) (rs := [.tmp 2]) hY.ok Try.func80 rfl (by decide) rfl rfl rfl rfl (fun F => ?_)
  have fx := And.intro Y1 (And.intro Y3 (And.intro Y4 (And.intro Y34 (And.intro Y36 (Y38)))))
  have hC1 := cx [] (noObj_ok x.2.1)
  have fy := Nat.add_zero
  refine goK ?_ ?_ ?_ ?_ ?_ ?_ ?_ ?_ ?_ ?_ ?_ ?_ ?_ ?_ ?_ ?_
  any_goals (first | exact True.intro | skip)
  all_goals (repeat (refine Wh.mk fun hcc => ?_))
  all_goals (first | rfl | ((try simp only [tupOf, fixEs]); (first | done | rfl | (simp_all []; done) | grind [])))
end Q6

namespace Q6
open Go Go.Vm Go.Proofs
set_option maxHeartbeats 4000000
set_option synthInstance.maxSize 2000
set_option synthInstance.maxHeartbeats 400000
set_option maxRecDepth 10000
set_option linter.unusedSimpArgs false
set_option linter.unusedVariables false

theorem implObjOk_ok (x : (Int × (List Int) × (List Int) × Unit)) (hx : Enc.lim 1048576 x) : CallR Try.prog 141 [.nd [.int .i64 x.1, .sl .b (x.2.1.map Enc.b), .sl .b (x.2.2.1.map Enc.b)]] [] (.bool (objB x)) := by
  refine CallR.of_body (n := 29) (rs := [.tmp 2]) hY.ok Try.func141 rfl (by decide) rfl rfl rfl rfl (fun F => ?_)
  have fx := And.intro Y1 (And.intro Y2 (And.intro Y3 (And.intro Y4 (And.intro Y34 (And.intro Y36 (Y96))))))
  have hG1 := fun u1 u2 u3 => in_ok u1 u2 u3
  have hC1 := cx [] (anyInt_ok x.2.1 hx.2.1)
  have hC2 := cx [] (anyRef_ok x.2.2.1 hx.2.2.1)
  have fy := len5
  refine goK ?_ ?_ ?_ ?_ ?_ ?_ ?_ ?_ ?_ ?_ ?_ ?_ ?_ ?_ ?_ ?_
  any_goals (first | exact True.intro | skip)
  all_goals (repeat (refine Wh.mk fun hcc => ?_))
  all_goals (first | rfl | ((try simp only [tupOf, fixEs]); (first | done | rfl | (simp_all [objB, len5, any_not]; done) | grind [objB, len5, any_not])))
theorem slotOk_ok (x : (Bool × ((Int × (List Int) × (List Int) × Unit)) × Unit)) (hx : Enc.lim 1048576 x) : CallR Try.prog 84 [.nd [.bool x.1, .nd [.int .i64 x.2.1.1, .sl .b (x.2.1.2.1.map Enc.b), .sl .b (x.2.1.2.2.1.map Enc.b)]]] [] (.bool (slotB x)) := by
  refine CallR.of_body (n := 11) (rs := [.tmp 2]) hY.ok Try.func84 rfl (by decide) rfl rfl rfl rfl (fun F => ?_)
  have fx := And.intro Y1 (And.intro Y3 (And.intro Y4 (And.intro Y34 (And.intro Y36 (Y38)))))
  have hC1 := cx [] (implObjOk_ok x.2.1 hx.2.1)
  have hC2 := cx [] (noObj_ok x.2.1)
  have fy := Nat.add_zero
  refine goK ?_ ?_ ?_ ?_ ?_ ?_ ?_ ?_ ?_ ?_ ?_ ?_ ?_ ?_ ?_ ?_
  any_goals (first | exact True.intro | skip)
  all_goals (repeat (refine Wh.mk fun hcc => ?_))
  all_goals (first | rfl | ((try simp only [tupOf, fixEs]); (first | done | rfl | (simp_all [slotB]; done) | grind [slotB])))
theorem view1_ok (x : (Bool × ((Int × (List Int) × (List Int) × Unit)) × Unit)) (hx : Enc.lim 1048576 x) : CallR Try.prog 132 [.nd [.bool x.1, .nd [.int .i64 x.2.1.1, .sl .b (x.2.1.2.1.map Enc.b), .sl .b (x.2.1.2.2.1.map Enc.b)]]] [] (.bool (!slotB x)) := by
  refine CallR.of_body (n := 6) (rs := [.tmp 2]) hY.ok Try.func132 rfl (by decide) rfl rfl rfl rfl (fun F => ?_)
  have fx := And.intro Y3 (And.intro Y4 (And.intro Y34 (And.intro Y36 (Y38))))
  have hC1 := cx [] (slotOk_ok x hx)
  have fy := Nat.add_zero
  refine goK ?_ ?_ ?_ ?_ ?_ ?_ ?_ ?_ ?_ ?_ ?_ ?_ ?_ ?_ ?_ ?_
  any_goals (first | exact True.intro | skip)
  all_goals (repeat (refine Wh.mk fun hcc => ?_))
  all_goals (first | rfl | ((try simp only [tupOf, fixEs]); (first | done | rfl | (simp_all []; done) | grind [])))
theorem idxSlot_ok (l : List ((Bool × ((Int × (List Int) × (List Int) × Unit)) × Unit))) (hl : Enc.lim 1048576 l) : CallR Try.prog 101 [.sl .b (l.map Enc.b), .fn 132 [] []] [] (.int .i64 (idxOf (fun x => !slotB x) l)) := by
  refine CallR.of_body (n := 19) (rs := [.tmp 4]) hY.ok Try.func101 rfl (by decide) rfl rfl rfl rfl (fun F => ?_)
  have fx := And.intro Y3 (And.intro Y4 (And.intro Y26 (And.intro Y34 (And.intro Y36 (And.intro Y38 (Y93))))))
  have hl1 : l.length ≤ 1048576 := hl.1
  have fy := Nat.add_zero
  refine goN ?_ ?_ ?_ ?_ ?_ ?_ ?_ ?_ ?_ ?_ ?_ ?_ ?_ ?_ ?_ ?_
  any_goals (first | exact True.intro | skip)
  skip
  refine SW.loop (fun i : Nat => ⟨[.sl .b (l.map Enc.b), .fn 132 [] [], .undef, .undef, .undef, .undef, .undef, .int .i64 l.length, .int .i64 i, .undef, .undef, .undef, .undef, .undef, .undef, .undef, .undef, .undef, .undef], [[]]⟩)
    (fun n i => n = l.length - i ∧ i ≤ l.length ∧ ∀ j (h : j < l.length), j < i → (fun x => !slotB x) l[j] = false) (n := l.length) (x := 0) (Norm.to 0 rfl (by simp [weakL])) ⟨rfl, Nat.zero_le _, fun j _ h => absurd h (Nat.not_lt_zero _)⟩ ?_
  rintro n i ⟨hn, hi, hp⟩
  have fy := Nat.add_zero
  refine goS ?_
  refine SW.cond rfl (fun hc => ?_) (fun hc => ?_)
  · have hlt : i < l.length := by simpa using hc
    have hg : (l.map Enc.b)[i]? = some (.nd [.bool l[i].1, .nd [.int .i64 l[i].2.1.1, .sl .b (l[i].2.1.2.1.map Enc.b), .sl .b (l[i].2.1.2.2.1.map Enc.b)]]) := map_get Enc.b l i hlt
    have hC1 := cx [] (view1_ok l[i] (hl.2 _ (List.getElem_mem hlt)))
    have fy := hg
    refine goK ?_ ?_ ?_ ?_ ?_ ?_ ?_ ?_ ?_ ?_ ?_ ?_ ?_ ?_ ?_ ?_
    any_goals (first | exact True.intro | skip)
    all_goals (repeat (refine Wh.mk fun hcc => ?_))
    · have hx := hcc
      have hx' : (fun x => !slotB x) l[i] = true := by simpa using hx
      simp only [tupOf, fixEs, idxOf_eq (fun x => !slotB x) l hlt hx' (fun j hj => hp j (by omega) hj)]
    · have hx := hcc
      have hx' : (fun x => !slotB x) l[i] = false := by simpa using hx
      refine ⟨n - 1, i + 1, by omega, ⟨by omega, by omega, fun j hj hji => ?_⟩, ?_⟩
      · by_cases he : j = i
        · subst he; exact hx'
        · exact hp j hj (by omega)
      · rw [wrap64 _ (by omega) (by omega)]
        first | exact Norm.to 0 rfl (by simp [weakL]) | exact Norm.to 1 rfl (by simp [weakL]) | exact Norm.to 2 rfl (by simp [weakL])
  · have hge : i = l.length := by
      have : ¬ i < l.length := by simpa using hc
      omega
    have fy := Nat.add_zero
    refine goK ?_ ?_ ?_ ?_ ?_ ?_ ?_ ?_ ?_ ?_ ?_ ?_ ?_ ?_ ?_ ?_
    any_goals (first | exact True.intro | skip)
    all_goals (repeat (refine Wh.mk fun hcc => ?_))
    simp only [tupOf, fixEs, idxOf_none (fun x => !slotB x) l (fun j hj => hp j hj (by omega))]
theorem anySlot_ok (l : List ((Bool × ((Int × (List Int) × (List Int) × Unit)) × Unit))) (hl : Enc.lim 1048576 l) : CallR Try.prog 95 [.sl .b (l.map Enc.b), .fn 132 [] []] [] (.bool (l.any (fun x => !slotB x))) := by
  refine CallR.of_body (n := 9) (rs := [.tmp 4]) hY.ok Try.func95 rfl (by decide) rfl rfl rfl rfl (fun F => ?_)
  have fx := And.intro Y3 (And.intro Y4 (And.intro Y26 (And.intro Y34 (And.intro Y36 (And.intro Y38 (Y93))))))
  have hC1 := cx [] (idxSlot_ok l hl)
  have fy := Nat.add_zero
  refine goK ?_ ?_ ?_ ?_ ?_ ?_ ?_ ?_ ?_ ?_ ?_ ?_ ?_ ?_ ?_ ?_
  any_goals (first | exact True.intro | skip)
  all_goals (repeat (refine Wh.mk fun hcc => ?_))
  all_goals simp only [tupOf, fixEs, ge_iff_le, idx_any]
theorem implViewOk_y (l : List ((Bool × ((Int × (List Int) × (List Int) × Unit)) × Unit))) (hl : Enc.lim 1048576 l) (h32 : l.length = 32) : CallR Try.prog 66 [.sl .b (l.map Enc.b)] [] (.bool (viewB l)) := by
  refine CallR.of_body (n := 17) (rs := [.tmp 2]) hY.ok Try.func66 rfl (by decide) rfl rfl rfl rfl (fun F => ?_)
  have fx := And.intro Y3 (And.intro Y4 (And.intro Y26 (And.intro Y34 (And.intro Y36 (And.intro Y38 (Y93))))))
  have hE : ((l.length : Int) == 32) = true := by simp [h32]
  have hlt : 0 < l.length := by omega
  have hI : (0 : Int) < (l.length : Int) := by omega
  have hg : (l.map Enc.b)[0]? = some (.nd [.bool l[0].1, .nd [.int .i64 l[0].2.1.1, .sl .b (l[0].2.1.2.1.map Enc.b), .sl .b (l[0].2.1.2.2.1.map Enc.b)]]) := map_get Enc.b l 0 hlt
  have hC1 := cx [] (noSlot_ok l[0])
  have hC2 := cx [] (anySlot_ok l hl)
  have fy := And.intro hE (And.intro hg (And.intro hI (hlt)))
  refine goK ?_ ?_ ?_ ?_ ?_ ?_ ?_ ?_ ?_ ?_ ?_ ?_ ?_ ?_ ?_ ?_
  any_goals (first | exact True.intro | skip)
  all_goals (repeat (refine Wh.mk fun hcc => ?_))
  all_goals (obtain ⟨s, l', rfl⟩ : ∃ s l', l = s :: l' := by cases l with | nil => simp at h32 | cons s l' => exact ⟨s, l', rfl⟩)
  all_goals (skip; try simp only [tupOf, fixEs]; first | trivial | (simp_all [viewB, any_not, slotB]; done) | grind [viewB, any_not, slotB])
theorem implViewOk_n (l : List ((Bool × ((Int × (List Int) × (List Int) × Unit)) × Unit))) (hl : Enc.lim 1048576 l) (h32 : ¬ l.length = 32) : CallR Try.prog 66 [.sl .b (l.map Enc.b)] [] (.bool (viewB l)) := by
  refine CallR.of_body (n := 17) (rs := [.tmp 2]) hY.ok Try.func66 rfl (by decide) rfl rfl rfl rfl (fun F => ?_)
  have fx := And.intro Y3 (And.intro Y4 (And.intro Y26 (And.intro Y34 (And.intro Y36 (And.intro Y38 (Y93))))))
  have hE : ((l.length : Int) == 32) = false := by 
    have : ¬ (l.length : Int) = 32 := by omega
    simp [this]
  have hC1 := cx [] (anySlot_ok l hl)
  have fy := hE
  refine goK ?_ ?_ ?_ ?_ ?_ ?_ ?_ ?_ ?_ ?_ ?_ ?_ ?_ ?_ ?_ ?_
  any_goals (first | exact True.intro | skip)
  all_goals (repeat (refine Wh.mk fun hcc => ?_))
  all_goals ((try simp only [tupOf, fixEs]); first | done | (simp_all [viewB]; done) | (exfalso; simp_all; done))
theorem implViewOk_ok (l : List ((Bool × ((Int × (List Int) × (List Int) × Unit)) × Unit))) (hl : Enc.lim 1048576 l) : CallR Try.prog 66 [.sl .b (l.map Enc.b)] [] (.bool (viewB l)) := by
  by_cases h : l.length = 32
  · exact implViewOk_y l hl h
  · exact implViewOk_n l hl h
end Q6

namespace Q6
open Go Go.Vm Go.Proofs
set_option maxHeartbeats 4000000
set_option synthInstance.maxSize 2000
set_option synthInstance.maxHeartbeats 400000
set_option maxRecDepth 10000
set_option linter.unusedSimpArgs false
set_option linter.unusedVariables false

theorem specObjOk_ok (x : (Int × (List Int) × (List Int) × Unit)) (hx : Enc.lim 1048576 x) : CallR Try.prog 127 [.nd [.int .i64 x.1, .sl .b (x.2.1.map Enc.b), .sl .b (x.2.2.1.map Enc.b)]] [] (.bool (objB x)) := by
  refine CallR.of_body (n := 49) (rs := [.tmp 2]) hY.ok Try.func127 rfl (by decide) rfl rfl rfl rfl (fun F => ?_)
  have fx := And.intro Y1 (And.intro Y2 (And.intro Y3 (And.intro Y4 (And.intro Y34 (Y36)))))
  have hl1 : x.2.1.length ≤ 1048576 := hx.2.1.1
  have hl2 : x.2.2.1.length ≤ 1048576 := hx.2.2.1.1
  have hG1 := fun u1 u2 u3 => l1In_ok u1 u2 u3
  have fy := len5
  refine goN ?_ ?_ ?_ ?_ ?_ ?_ ?_ ?_ ?_ ?_ ?_ ?_ ?_ ?_ ?_ ?_
  any_goals (first | exact True.intro | skip)
  skip
  refine SW.cond rfl (fun hc => ?_) (fun hc => ?_)
  · have hno : objB x = false := by
      unfold objB; revert hc
      cases (decide (x.1 ≥ 1) && decide (x.1 ≤ 99)) <;> cases decide (x.2.1.length ≤ 5) <;> cases decide (x.2.2.1.length ≤ 5) <;> simp
    have fy := len5
    refine goK ?_ ?_ ?_ ?_ ?_ ?_ ?_ ?_ ?_ ?_ ?_ ?_ ?_ ?_ ?_ ?_
    any_goals (first | exact True.intro | skip)
    all_goals (repeat (refine Wh.mk fun hcc => ?_))
    simp only [tupOf, fixEs, hno]
  have hy : ((decide (x.1 ≥ 1) && decide (x.1 ≤ 99)) && decide (x.2.1.length ≤ 5) && decide (x.2.2.1.length ≤ 5)) = true := by
    revert hc
    cases (decide (x.1 ≥ 1) && decide (x.1 ≤ 99)) <;> cases decide (x.2.1.length ≤ 5) <;> cases decide (x.2.2.1.length ≤ 5) <;> simp
  have hobj : objB x = (x.2.1.all intB && x.2.2.1.all refB) := by unfold objB; rw [hy]; simp
  have fy := len5
  refine goN ?_ ?_ ?_ ?_ ?_ ?_ ?_ ?_ ?_ ?_ ?_ ?_ ?_ ?_ ?_ ?_
  any_goals (first | exact True.intro | skip)
  skip
  refine SW.loop (fun i : Nat => ⟨[.nd [.int .i64 x.1, .sl .b (x.2.1.map Enc.b), .sl .b (x.2.2.1.map Enc.b)], .ptr 1 0 [] 0, .undef, .int .i64 i, .undef, .undef, .undef, .undef, .undef, .undef, .undef, .undef, .undef, .undef, .undef, .undef, .undef, .undef, .undef, .undef, .undef, .undef, .undef, .undef, .undef, .undef, .undef, .undef, .undef, .undef, .undef, .undef, .undef, .undef, .undef, .undef, .undef, .undef, .undef, .undef, .undef, .undef, .undef, .undef, .undef, .undef, .undef, .undef, .undef], [[], [.var (.nd [.int .i64 x.1, .sl .b (x.2.1.map Enc.b), .sl .b (x.2.2.1.map Enc.b)])]]⟩)
    (fun n i => n = x.2.1.length - i ∧ i ≤ x.2.1.length ∧ ∀ j (h : j < x.2.1.length), j < i → (intB) x.2.1[j] = true) (n := x.2.1.length) (x := 0) (by first | exact Norm.to 0 rfl (by simp [weakL]) | exact Norm.to 1 rfl (by simp [weakL]) | exact Norm.to 2 rfl (by simp [weakL])) ⟨rfl, Nat.zero_le _, fun j _ h => absurd h (Nat.not_lt_zero _)⟩ ?_
  rintro n i ⟨hn, hi, hp⟩
  have fy := len5
  refine goS ?_
  refine SW.cond rfl (fun hci => ?_) (fun hci => ?_)
  · skip
    have hlti : i < x.2.1.length := by simpa using hci
    have hltIi : (i : Int) < (x.2.1.length : Int) := by omega
    have hg : (x.2.1.map Enc.b)[i]? = some (.int .i64 x.2.1[i]) := map_get Enc.b x.2.1 i hlti
    have hG1 := fun u1 u2 u3 => l1In_ok u1 u2 u3
    have fy := hg
    refine goK ?_ ?_ ?_ ?_ ?_ ?_ ?_ ?_ ?_ ?_ ?_ ?_ ?_ ?_ ?_ ?_
    any_goals (first | exact True.intro | skip)
    all_goals (repeat (refine Wh.mk fun hcc => ?_))
    · have hx' : intB x.2.1[i] = false := by have h9 : (!intB x.2.1[i]) = true := hcc; simpa using h9
      have hno : x.2.1.all (intB) = false := all_not _ _ i hlti hx'
      simp [tupOf, fixEs, hobj, hno]
    · have hx' : intB x.2.1[i] = true := by simpa [intB] using hcc
      refine ⟨n - 1, i + 1, by omega, ⟨by omega, by omega, fun j hj hji => ?_⟩, ?_⟩
      · by_cases he : j = i
        · subst he; exact hx'
        · exact hp j hj (by omega)
      · rw [wrap64 _ (by omega) (by omega)]
        first | exact Norm.to 0 rfl (by simp [weakL]) | exact Norm.to 1 rfl (by simp [weakL]) | exact Norm.to 2 rfl (by simp [weakL]) | exact Norm.to 3 rfl (by simp [weakL])
  · skip
    have hgei : i = x.2.1.length := by
      have : ¬ i < x.2.1.length := by simpa using hci
      omega
    have hall : x.2.1.all (intB) = true := all_of _ _ (fun j hj => hp j hj (by omega))
    have fy := len5
    refine goN ?_ ?_ ?_ ?_ ?_ ?_ ?_ ?_ ?_ ?_ ?_ ?_ ?_ ?_ ?_ ?_
    any_goals (first | exact True.intro | skip)
    skip
    refine SW.loop (fun k : Nat => ⟨[.nd [.int .i64 x.1, .sl .b (x.2.1.map Enc.b), .sl .b (x.2.2.1.map Enc.b)], .ptr 1 0 [] 0, .undef, .undef, .int .i64 k, .undef, .undef, .undef, .undef, .undef, .undef, .undef, .undef, .undef, .undef, .undef, .undef, .undef, .undef, .undef, .undef, .undef, .undef, .undef, .undef, .undef, .undef, .undef, .undef, .undef, .undef, .undef, .undef, .undef, .undef, .undef, .undef, .undef, .undef, .undef, .undef, .undef, .undef, .undef, .undef, .undef, .undef, .undef, .undef], [[], [.var (.nd [.int .i64 x.1, .sl .b (x.2.1.map Enc.b), .sl .b (x.2.2.1.map Enc.b)])]]⟩)
      (fun m k => m = x.2.2.1.length - k ∧ k ≤ x.2.2.1.length ∧ ∀ j (h : j < x.2.2.1.length), j < k → (refB) x.2.2.1[j] = true) (n := x.2.2.1.length) (x := 0) (by first | exact Norm.to 0 rfl (by simp [weakL]) | exact Norm.to 1 rfl (by simp [weakL]) | exact Norm.to 2 rfl (by simp [weakL])) ⟨rfl, Nat.zero_le _, fun j _ h => absurd h (Nat.not_lt_zero _)⟩ ?_
    rintro m k ⟨hm, hk, hq⟩
    have fy := len5
    refine goS ?_
    refine SW.cond rfl (fun hck => ?_) (fun hck => ?_)
    · skip
      have hltk : k < x.2.2.1.length := by simpa using hck
      have hltIk : (k : Int) < (x.2.2.1.length : Int) := by omega
      have hg2 : (x.2.2.1.map Enc.b)[k]? = some (.int .i64 x.2.2.1[k]) := map_get Enc.b x.2.2.1 k hltk
      have hG1 := fun u1 u2 u3 => l1In_ok u1 u2 u3
      have fy := hg2
      refine goK ?_ ?_ ?_ ?_ ?_ ?_ ?_ ?_ ?_ ?_ ?_ ?_ ?_ ?_ ?_ ?_
      any_goals (first | exact True.intro | skip)
      all_goals (repeat (refine Wh.mk fun hcc => ?_))
      · have hx' : refB x.2.2.1[k] = false := by have h9 : (!refB x.2.2.1[k]) = true := hcc; simpa using h9
        have hno : x.2.2.1.all (refB) = false := all_not _ _ k hltk hx'
        simp [tupOf, fixEs, hobj, hno]
      · have hx' : refB x.2.2.1[k] = true := by simpa [refB] using hcc
        refine ⟨m - 1, k + 1, by omega, ⟨by omega, by omega, fun j hj hji => ?_⟩, ?_⟩
        · by_cases he : j = k
          · subst he; exact hx'
          · exact hq j hj (by omega)
        · rw [wrap64 _ (by omega) (by omega)]
          first | exact Norm.to 0 rfl (by simp [weakL]) | exact Norm.to 1 rfl (by simp [weakL]) | exact Norm.to 2 rfl (by simp [weakL]) | exact Norm.to 3 rfl (by simp [weakL])
    · skip
      have hgek : k = x.2.2.1.length := by
        have : ¬ k < x.2.2.1.length := by simpa using hck
        omega
      have hall2 : x.2.2.1.all (refB) = true := all_of _ _ (fun j hj => hq j hj (by omega))
      have fy := len5
      refine goK ?_ ?_ ?_ ?_ ?_ ?_ ?_ ?_ ?_ ?_ ?_ ?_ ?_ ?_ ?_ ?_
      any_goals (first | exact True.intro | skip)
      all_goals (repeat (refine Wh.mk fun hcc => ?_))
      simp [tupOf, fixEs, hobj, hall, hall2]
theorem l3Slot_ok (x : (Bool × ((Int × (List Int) × (List Int) × Unit)) × Unit)) (hx : Enc.lim 1048576 x) : CallR Try.prog 76 [.nd [.bool x.1, .nd [.int .i64 x.2.1.1, .sl .b (x.2.1.2.1.map Enc.b), .sl .b (x.2.1.2.2.1.map Enc.b)]]] [] (.bool (slotB x)) := by
  refine CallR.of_body (n := 26) (rs := [.tmp 2]) hY.ok Try.func76 rfl (by decide) rfl rfl rfl rfl (fun F => ?_)
  have fx := And.intro Y1 (And.intro Y2 (And.intro Y3 (And.intro Y4 (And.intro Y34 (And.intro Y36 (Y38))))))
  have hC1 := cx [] (specObjOk_ok x.2.1 hx.2.1)
  have fy := Nat.add_zero
  refine goK ?_ ?_ ?_ ?_ ?_ ?_ ?_ ?_ ?_ ?_ ?_ ?_ ?_ ?_ ?_ ?_
  any_goals (first | exact True.intro | skip)
  all_goals (repeat (refine Wh.mk fun hcc => ?_))
  all_goals (first | rfl | ((try simp only [tupOf, fixEs]); (first | done | rfl | (simp_all [slotB, noObjB, len0]; done) | grind [slotB, noObjB, len0])))
end Q6

namespace Q6
open Go Go.Vm Go.Proofs
set_option maxHeartbeats 4000000
set_option synthInstance.maxSize 2000
set_option synthInstance.maxHeartbeats 400000
set_option maxRecDepth 10000
set_option linter.unusedSimpArgs false
set_option linter.unusedVariables false

theorem laws_eqByteS_ok (l m : List UInt8) (hl : Enc.lim 1048576 l) : CallR Try.prog 15 [.sl .b (l.map Enc.b), .sl .b (m.map Enc.b)] [] (.bool (decide (l = m))) := by
  refine CallR.of_body (n := 26) (rs := [.tmp 4]) hY.ok Try.func15 rfl (by decide) rfl rfl rfl rfl (fun F => ?_)
  have fx := And.intro Y3 (And.intro Y4 (And.intro Y5 (Y24)))
  have hl1 : l.length ≤ 1048576 := hl.1
  have fy := Nat.add_zero
  refine goS ?_
  refine SW.cond rfl (fun hc => ?_) (fun hc => ?_)
  · have hne : ¬ l = m := by intro e; subst e; simp at hc
    have fy := Nat.add_zero
    refine goK ?_ ?_ ?_ ?_ ?_ ?_ ?_ ?_ ?_ ?_ ?_ ?_ ?_ ?_ ?_ ?_
    any_goals (first | exact True.intro | skip)
    all_goals (repeat (refine Wh.mk fun hcc => ?_))
    simp [tupOf, fixEs, hne]
  have hlen : l.length = m.length := by have : (l.length : Int) = m.length := by simpa using hc
                                        omega
  refine SW.skip ?_
  simp only [thenS]
  have fy := Nat.add_zero
  refine goN ?_ ?_ ?_ ?_ ?_ ?_ ?_ ?_ ?_ ?_ ?_ ?_ ?_ ?_ ?_ ?_
  any_goals (first | exact True.intro | skip)
  skip
  refine SW.loop (fun i : Nat => ⟨[.sl .b (l.map Enc.b), .sl .b (m.map Enc.b), .undef, .undef, .undef, .int .i64 i, .undef, .undef, .undef, .undef, .undef, .undef, .undef, .undef, .undef, .undef, .undef, .undef, .undef, .undef, .undef, .undef, .undef, .undef, .undef, .undef], [[]]⟩)
    (fun n i => n = l.length - i ∧ i ≤ l.length ∧ ∀ j (h : j < l.length), j < i → l[j] = m[j]'(by omega)) (n := l.length) (x := 0) (Norm.to 0 rfl (by simp [weakL])) ⟨rfl, Nat.zero_le _, fun j _ h => absurd h (Nat.not_lt_zero _)⟩ ?_
  rintro n i ⟨hn, hi, hp⟩
  have fy := Nat.add_zero
  refine goS ?_
  refine SW.cond rfl (fun hc => ?_) (fun hc => ?_)
  · have hlt : i < l.length := by simpa using hc
    have hlt' : i < m.length := by omega
    have hgl : (l.map Enc.b)[i]? = some (.int .u8 (l[i].toNat : Int)) := map_get Enc.b l i hlt
    have hgm : (m.map Enc.b)[i]? = some (.int .u8 (m[i].toNat : Int)) := map_get Enc.b m i hlt'
    have fy := And.intro hgl (hgm)
    refine goK ?_ ?_ ?_ ?_ ?_ ?_ ?_ ?_ ?_ ?_ ?_ ?_ ?_ ?_ ?_ ?_
    any_goals (first | exact True.intro | skip)
    all_goals (repeat (refine Wh.mk fun hcc => ?_))
    · have hx := hcc
      have hne : ¬ l[i] = m[i] := by intro e; simp [e] at hx
      have hlm : ¬ l = m := by intro e; subst e; exact hne rfl
      simp [tupOf, fixEs, hlm]
    · have hx := hcc
      have hx' : l[i] = m[i] := by first | (simpa using hx; done) | (apply UInt8.toNat_inj.1; simp at hx; omega)
      refine ⟨n - 1, i + 1, by omega, ⟨by omega, by omega, fun j hj hji => ?_⟩, ?_⟩
      · by_cases he : j = i
        · subst he; exact hx'
        · exact hp j hj (by omega)
      · rw [wrap64 _ (by omega) (by omega)]
        first | exact Norm.to 0 rfl (by simp [weakL]) | exact Norm.to 1 rfl (by simp [weakL])
  · have hge : i = l.length := by
      have : ¬ i < l.length := by simpa using hc
      omega
    have hlm : l = m := List.ext_getElem hlen fun j h1 h2 => hp j h1 (by omega)
    have fy := Nat.add_zero
    refine goK ?_ ?_ ?_ ?_ ?_ ?_ ?_ ?_ ?_ ?_ ?_ ?_ ?_ ?_ ?_ ?_
    any_goals (first | exact True.intro | skip)
    all_goals (repeat (refine Wh.mk fun hcc => ?_))
    simp [tupOf, fixEs, hlm]
theorem laws_eqIntS_ok (l m : List Int) (hl : Enc.lim 1048576 l) : CallR Try.prog 167 [.sl .b (l.map Enc.b), .sl .b (m.map Enc.b)] [] (.bool (decide (l = m))) := by
  refine CallR.of_body (n := 26) (rs := [.tmp 4]) hY.ok Try.func167 rfl (by decide) rfl rfl rfl rfl (fun F => ?_)
  have fx := And.intro Y3 (And.intro Y4 (Y34))
  have hl1 : l.length ≤ 1048576 := hl.1
  have fy := Nat.add_zero
  refine goS ?_
  refine SW.cond rfl (fun hc => ?_) (fun hc => ?_)
  · have hne : ¬ l = m := by intro e; subst e; simp at hc
    have fy := Nat.add_zero
    refine goK ?_ ?_ ?_ ?_ ?_ ?_ ?_ ?_ ?_ ?_ ?_ ?_ ?_ ?_ ?_ ?_
    any_goals (first | exact True.intro | skip)
    all_goals (repeat (refine Wh.mk fun hcc => ?_))
    simp [tupOf, fixEs, hne]
  have hlen : l.length = m.length := by have : (l.length : Int) = m.length := by simpa using hc
                                        omega
  refine SW.skip ?_
  simp only [thenS]
  have fy := Nat.add_zero
  refine goN ?_ ?_ ?_ ?_ ?_ ?_ ?_ ?_ ?_ ?_ ?_ ?_ ?_ ?_ ?_ ?_
  any_goals (first | exact True.intro | skip)
  skip
  refine SW.loop (fun i : Nat => ⟨[.sl .b (l.map Enc.b), .sl .b (m.map Enc.b), .undef, .undef, .undef, .int .i64 i, .undef, .undef, .undef, .undef, .undef, .undef, .undef, .undef, .undef, .undef, .undef, .undef, .undef, .undef, .undef, .undef, .undef, .undef, .undef, .undef], [[]]⟩)
    (fun n i => n = l.length - i ∧ i ≤ l.length ∧ ∀ j (h : j < l.length), j < i → l[j] = m[j]'(by omega)) (n := l.length) (x := 0) (Norm.to 0 rfl (by simp [weakL])) ⟨rfl, Nat.zero_le _, fun j _ h => absurd h (Nat.not_lt_zero _)⟩ ?_
  rintro n i ⟨hn, hi, hp⟩
  have fy := Nat.add_zero
  refine goS ?_
  refine SW.cond rfl (fun hc => ?_) (fun hc => ?_)
  · have hlt : i < l.length := by simpa using hc
    have hlt' : i < m.length := by omega
    have hgl : (l.map Enc.b)[i]? = some (.int .i64 l[i]) := map_get Enc.b l i hlt
    have hgm : (m.map Enc.b)[i]? = some (.int .i64 m[i]) := map_get Enc.b m i hlt'
    have fy := And.intro hgl (hgm)
    refine goK ?_ ?_ ?_ ?_ ?_ ?_ ?_ ?_ ?_ ?_ ?_ ?_ ?_ ?_ ?_ ?_
    any_goals (first | exact True.intro | skip)
    all_goals (repeat (refine Wh.mk fun hcc => ?_))
    · have hx := hcc
      have hne : ¬ l[i] = m[i] := by intro e; simp [e] at hx
      have hlm : ¬ l = m := by intro e; subst e; exact hne rfl
      simp [tupOf, fixEs, hlm]
    · have hx := hcc
      have hx' : l[i] = m[i] := by first | (simpa using hx; done) | (apply UInt8.toNat_inj.1; simp at hx; omega)
      refine ⟨n - 1, i + 1, by omega, ⟨by omega, by omega, fun j hj hji => ?_⟩, ?_⟩
      · by_cases he : j = i
        · subst he; exact hx'
        · exact hp j hj (by omega)
      · rw [wrap64 _ (by omega) (by omega)]
        first | exact Norm.to 0 rfl (by simp [weakL]) | exact Norm.to 1 rfl (by simp [weakL])
  · have hge : i = l.length := by
      have : ¬ i < l.length := by simpa using hc
      omega
    have hlm : l = m := List.ext_getElem hlen fun j h1 h2 => hp j h1 (by omega)
    have fy := Nat.add_zero
    refine goK ?_ ?_ ?_ ?_ ?_ ?_ ?_ ?_ ?_ ?_ ?_ ?_ ?_ ?_ ?_ ?_
    any_goals (first | exact True.intro | skip)
    all_goals (repeat (refine Wh.mk fun hcc => ?_))
    simp [tupOf, fixEs, hlm]
theorem laws_eqObj_ok (x y : (Int × (List Int) × (List Int) × Unit)) (hx : Enc.lim 1048576 x) : CallR Try.prog 136 [.nd [.int .i64 x.1, .sl .b (x.2.1.map Enc.b), .sl .b (x.2.2.1.map Enc.b)], .nd [.int .i64 y.1, .sl .b (y.2.1.map Enc.b), .sl .b (y.2.2.1.map Enc.b)]] [] (.bool (decide (x = y))) := by
  refine CallR.of_body (n := 22) (rs := [.tmp 4]) hY.ok Try.func136 rfl (by decide) rfl rfl rfl rfl (fun F => ?_)
  have fx := And.intro Y1 (And.intro Y2 (And.intro Y3 (And.intro Y4 (And.intro Y34 (Y36)))))
  have key : x = y ↔ (x.1 = y.1 ∧ x.2.1 = y.2.1 ∧ x.2.2.1 = y.2.2.1) :=
    ⟨fun h => by subst h; simp, fun h => Prod.ext h.1 (Prod.ext h.2.1 (Prod.ext h.2.2 rfl))⟩
  have hC1 := cx [] (laws_eqIntS_ok x.2.1 y.2.1 hx.2.1)
  have hC2 := cx [] (laws_eqIntS_ok x.2.2.1 y.2.2.1 hx.2.2.1)
  have fy := Nat.add_zero
  refine goK ?_ ?_ ?_ ?_ ?_ ?_ ?_ ?_ ?_ ?_ ?_ ?_ ?_ ?_ ?_ ?_
  any_goals (first | exact True.intro | skip)
  all_goals (repeat (refine Wh.mk fun hcc => ?_))
  all_goals simp only [tupOf, fixEs, key]
  all_goals simp_all
theorem laws_eqSlot_ok (x y : (Bool × ((Int × (List Int) × (List Int) × Unit)) × Unit)) (hx : Enc.lim 1048576 x) : CallR Try.prog 71 [.nd [.bool x.1, .nd [.int .i64 x.2.1.1, .sl .b (x.2.1.2.1.map Enc.b), .sl .b (x.2.1.2.2.1.map Enc.b)]], .nd [.bool y.1, .nd [.int .i64 y.2.1.1, .sl .b (y.2.1.2.1.map Enc.b), .sl .b (y.2.1.2.2.1.map Enc.b)]]] [] (.bool (decide (x = y))) := by
  refine CallR.of_body (n := 16) (rs := [.tmp 4]) hY.ok Try.func71 rfl (by decide) rfl rfl rfl rfl (fun F => ?_)
  have fx := And.intro Y1 (And.intro Y3 (And.intro Y4 (And.intro Y34 (And.intro Y36 (Y38)))))
  have key : x = y ↔ (x.1 = y.1 ∧ x.2.1 = y.2.1) :=
    ⟨fun h => by subst h; simp, fun h => Prod.ext h.1 (Prod.ext h.2 rfl)⟩
  have hC1 := cx [] (laws_eqObj_ok x.2.1 y.2.1 hx.2.1)
  have fy := Nat.add_zero
  refine goK ?_ ?_ ?_ ?_ ?_ ?_ ?_ ?_ ?_ ?_ ?_ ?_ ?_ ?_ ?_ ?_
  any_goals (first | exact True.intro | skip)
  all_goals (repeat (refine Wh.mk fun hcc => ?_))
  all_goals simp only [tupOf, fixEs, key]
  all_goals simp_all
theorem laws_eqSlotS_ok (l m : List ((Bool × ((Int × (List Int) × (List Int) × Unit)) × Unit))) (hl : Enc.lim 1048576 l) : CallR Try.prog 16 [.sl .b (l.map Enc.b), .sl .b (m.map Enc.b)] [] (.bool (decide (l = m))) := by
  refine CallR.of_body (n := 27) (rs := [.tmp 4]) hY.ok Try.func16 rfl (by decide) rfl rfl rfl rfl (fun F => ?_)
  have fx := And.intro Y3 (And.intro Y4 (And.intro Y26 (And.intro Y34 (And.intro Y36 (Y38)))))
  have hl1 : l.length ≤ 1048576 := hl.1
  have fy := Nat.add_zero
  refine goS ?_
  refine SW.cond rfl (fun hc => ?_) (fun hc => ?_)
  · have hne : ¬ l = m := by intro e; subst e; simp at hc
    have fy := Nat.add_zero
    refine goK ?_ ?_ ?_ ?_ ?_ ?_ ?_ ?_ ?_ ?_ ?_ ?_ ?_ ?_ ?_ ?_
    any_goals (first | exact True.intro | skip)
    all_goals (repeat (refine Wh.mk fun hcc => ?_))
    simp [tupOf, fixEs, hne]
  have hlen : l.length = m.length := by have : (l.length : Int) = m.length := by simpa using hc
                                        omega
  refine SW.skip ?_
  simp only [thenS]
  have fy := Nat.add_zero
  refine goN ?_ ?_ ?_ ?_ ?_ ?_ ?_ ?_ ?_ ?_ ?_ ?_ ?_ ?_ ?_ ?_
  any_goals (first | exact True.intro | skip)
  skip
  refine SW.loop (fun i : Nat => ⟨[.sl .b (l.map Enc.b), .sl .b (m.map Enc.b), .undef, .undef, .undef, .int .i64 i, .undef, .undef, .undef, .undef, .undef, .undef, .undef, .undef, .undef, .undef, .undef, .undef, .undef, .undef, .undef, .undef, .undef, .undef, .undef, .undef, .undef], [[]]⟩)
    (fun n i => n = l.length - i ∧ i ≤ l.length ∧ ∀ j (h : j < l.length), j < i → l[j] = m[j]'(by omega)) (n := l.length) (x := 0) (Norm.to 0 rfl (by simp [weakL])) ⟨rfl, Nat.zero_le _, fun j _ h => absurd h (Nat.not_lt_zero _)⟩ ?_
  rintro n i ⟨hn, hi, hp⟩
  have fy := Nat.add_zero
  refine goS ?_
  refine SW.cond rfl (fun hc => ?_) (fun hc => ?_)
  · have hlt : i < l.length := by simpa using hc
    have hlt' : i < m.length := by omega
    have hgl : (l.map Enc.b)[i]? = some (.nd [.bool l[i].1, .nd [.int .i64 l[i].2.1.1, .sl .b (l[i].2.1.2.1.map Enc.b), .sl .b (l[i].2.1.2.2.1.map Enc.b)]]) := map_get Enc.b l i hlt
    have hgm : (m.map Enc.b)[i]? = some (.nd [.bool m[i].1, .nd [.int .i64 m[i].2.1.1, .sl .b (m[i].2.1.2.1.map Enc.b), .sl .b (m[i].2.1.2.2.1.map Enc.b)]]) := map_get Enc.b m i hlt'
    have hC1 := cx [] (laws_eqSlot_ok l[i] m[i] (hl.2 _ (List.getElem_mem hlt)))
    have fy := And.intro hgl (hgm)
    refine goK ?_ ?_ ?_ ?_ ?_ ?_ ?_ ?_ ?_ ?_ ?_ ?_ ?_ ?_ ?_ ?_
    any_goals (first | exact True.intro | skip)
    all_goals (repeat (refine Wh.mk fun hcc => ?_))
    · have hx := hcc
      have hne : ¬ l[i] = m[i] := by intro e; simp [e] at hx
      have hlm : ¬ l = m := by intro e; subst e; exact hne rfl
      simp [tupOf, fixEs, hlm]
    · have hx := hcc
      have hx' : l[i] = m[i] := by first | (simpa using hx; done) | (apply UInt8.toNat_inj.1; simp at hx; omega)
      refine ⟨n - 1, i + 1, by omega, ⟨by omega, by omega, fun j hj hji => ?_⟩, ?_⟩
      · by_cases he : j = i
        · subst he; exact hx'
        · exact hp j hj (by omega)
      · rw [wrap64 _ (by omega) (by omega)]
        first | exact Norm.to 0 rfl (by simp [weakL]) | exact Norm.to 1 rfl (by simp [weakL])
  · have hge : i = l.length := by
      have : ¬ i < l.length := by simpa using hc
      omega
    have hlm : l = m := List.ext_getElem hlen fun j h1 h2 => hp j h1 (by omega)
    have fy := Nat.add_zero
    refine goK ?_ ?_ ?_ ?_ ?_ ?_ ?_ ?_ ?_ ?_ ?_ ?_ ?_ ?_ ?_ ?_
    any_goals (first | exact True.intro | skip)
    all_goals (repeat (refine Wh.mk fun hcc => ?_))
    simp [tupOf, fixEs, hlm]
end Q6

namespace Q6
open Go Go.Vm Go.Proofs
set_option maxHeartbeats 4000000
set_option synthInstance.maxSize 2000
set_option synthInstance.maxHeartbeats 400000
set_option maxRecDepth 10000
set_option linter.unusedSimpArgs false
set_option linter.unusedVariables false


def rng (a b c : Int) : Bool := decide (a ≥ b) && decide (a ≤ c)
def noSlotB (s : SlotT) : Bool := !s.1 && noObjB s.2.1
/-- one of a RecCheck's transactions, with the one ahead of it -/
def liveB (lsn : Int) (p : Option LiveT) (x : LiveT) : Bool := (rng x.1 1 1000 && rng x.2.1 1 (lsn - 1)) && (match p with | none => true | some q => decide (q.1 < x.1))
def livesL (lsn : Int) : Option LiveT → List LiveT → Bool
  | _, [] => true
  | p, x :: l => liveB lsn p x && livesL lsn (some x) l
def livesB (l : List LiveT) (lsn : Int) : Bool := livesL lsn none l && decide (l.length ≤ 20)
def recB (r : RecT) : Bool :=
  rng r.1 1 1000000 &&
  (if r.2.2.2.1 = 6 then ((((decide (r.2.1 = 0) && decide (r.2.2.1 = 0)) && (decide (r.2.2.2.2.1 = 0) && noSlotB r.2.2.2.2.2.1 && noSlotB r.2.2.2.2.2.2.1)) && decide (r.2.2.2.2.2.2.2.1 = 0)) && livesB r.2.2.2.2.2.2.2.2.1 r.1)
   else (rng r.2.1 1 1000 && rng r.2.2.1 0 (r.1 - 1) && decide (r.2.2.2.2.2.2.2.2.1.length = 0)) &&
    (if r.2.2.2.1 = 1 then rng r.2.2.2.2.1 1 31 && slotB r.2.2.2.2.2.1 && slotB r.2.2.2.2.2.2.1 && decide (r.2.2.2.2.2.2.2.1 = 0)
     else if r.2.2.2.1 = 4 then rng r.2.2.2.2.1 1 31 && noSlotB r.2.2.2.2.2.1 && slotB r.2.2.2.2.2.2.1 && rng r.2.2.2.2.2.2.2.1 0 (r.1 - 1)
     else if r.2.2.2.1 = 2 ∨ r.2.2.2.1 = 3 ∨ r.2.2.2.1 = 5 then (decide (r.2.2.2.2.1 = 0) && noSlotB r.2.2.2.2.2.1 && noSlotB r.2.2.2.2.2.2.1) && decide (r.2.2.2.2.2.2.2.1 = 0)
     else false))

theorem inR_ok (a b c : Int) : CallR Try.prog 79 [.int .i64 a, .int .i64 b, .int .i64 c] [] (.bool (rng a b c)) := in_ok a b c
theorem l1InR_ok (a b c : Int) : CallR Try.prog 75 [.int .i64 a, .int .i64 b, .int .i64 c] [] (.bool (rng a b c)) := l1In_ok a b c
theorem isTx_ok (a : Int) : CallR Try.prog 82 [.int .i64 a] [] (.bool (rng a 1 1000)) := by
  refine CallR.of_body (n := 5) (rs := [.tmp 2]) hY.ok Try.func82 rfl (by decide) rfl rfl rfl rfl (fun F => ?_)
  have fx := And.intro Y3 (Y4)
  have hG1 := fun u1 u2 u3 => in_ok u1 u2 u3
  have fy := Nat.add_zero
  refine goK ?_ ?_ ?_ ?_ ?_ ?_ ?_ ?_ ?_ ?_ ?_ ?_ ?_ ?_ ?_ ?_
  any_goals (first | exact True.intro | skip)
  all_goals (repeat (refine Wh.mk fun hcc => ?_))
  all_goals (first | rfl | ((try simp only [tupOf, fixEs]); (first | done | rfl | (simp_all []; done) | grind [])))
theorem spec_l2SameInts_ok (l m : List Int) (hl : Enc.lim 1048576 l) : CallR Try.prog 152 [.sl .b (l.map Enc.b), .sl .b (m.map Enc.b)] [] (.bool (decide (l = m))) := by
  refine CallR.of_body (n := 26) (rs := [.tmp 4]) hY.ok Try.func152 rfl (by decide) rfl rfl rfl rfl (fun F => ?_)
  have fx := And.intro Y3 (And.intro Y4 (Y34))
  have hl1 : l.length ≤ 1048576 := hl.1
  have fy := Nat.add_zero
  refine goS ?_
  refine SW.cond rfl (fun hc => ?_) (fun hc => ?_)
  · have hne : ¬ l = m := by intro e; subst e; simp at hc
    have fy := Nat.add_zero
    refine goK ?_ ?_ ?_ ?_ ?_ ?_ ?_ ?_ ?_ ?_ ?_ ?_ ?_ ?_ ?_ ?_
    any_goals (first | exact True.intro | skip)
    all_goals (repeat (refine Wh.mk fun hcc => ?_))
    simp [tupOf, fixEs, hne]
  have hlen : l.length = m.length := by have : (l.length : Int) = m.length := by simpa using hc
                                        omega
  refine SW.skip ?_
  simp only [thenS]
  have fy := Nat.add_zero
  refine goN ?_ ?_ ?_ ?_ ?_ ?_ ?_ ?_ ?_ ?_ ?_ ?_ ?_ ?_ ?_ ?_
  any_goals (first | exact True.intro | skip)
  skip
  refine SW.loop (fun i : Nat => ⟨[.sl .b (l.map Enc.b), .sl .b (m.map Enc.b), .undef, .undef, .undef, .int .i64 i, .undef, .undef, .undef, .undef, .undef, .undef, .undef, .undef, .undef, .undef, .undef, .undef, .undef, .undef, .undef, .undef, .undef, .undef, .undef, .undef], [[]]⟩)
    (fun n i => n = l.length - i ∧ i ≤ l.length ∧ ∀ j (h : j < l.length), j < i → l[j] = m[j]'(by omega)) (n := l.length) (x := 0) (Norm.to 0 rfl (by simp [weakL])) ⟨rfl, Nat.zero_le _, fun j _ h => absurd h (Nat.not_lt_zero _)⟩ ?_
  rintro n i ⟨hn, hi, hp⟩
  have fy := Nat.add_zero
  refine goS ?_
  refine SW.cond rfl (fun hc => ?_) (fun hc => ?_)
  · have hlt : i < l.length := by simpa using hc
    have hlt' : i < m.length := by omega
    have hgl : (l.map Enc.b)[i]? = some (.int .i64 l[i]) := map_get Enc.b l i hlt
    have hgm : (m.map Enc.b)[i]? = some (.int .i64 m[i]) := map_get Enc.b m i hlt'
    have fy := And.intro hgl (hgm)
    refine goK ?_ ?_ ?_ ?_ ?_ ?_ ?_ ?_ ?_ ?_ ?_ ?_ ?_ ?_ ?_ ?_
    any_goals (first | exact True.intro | skip)
    all_goals (repeat (refine Wh.mk fun hcc => ?_))
    · have hx := hcc
      have hne : ¬ l[i] = m[i] := by intro e; simp [e] at hx
      have hlm : ¬ l = m := by intro e; subst e; exact hne rfl
      simp [tupOf, fixEs, hlm]
    · have hx := hcc
      have hx' : l[i] = m[i] := by first | (simpa using hx; done) | (apply UInt8.toNat_inj.1; simp at hx; omega)
      refine ⟨n - 1, i + 1, by omega, ⟨by omega, by omega, fun j hj hji => ?_⟩, ?_⟩
      · by_cases he : j = i
        · subst he; exact hx'
        · exact hp j hj (by omega)
      · rw [wrap64 _ (by omega) (by omega)]
        first | exact Norm.to 0 rfl (by simp [weakL]) | exact Norm.to 1 rfl (by simp [weakL])
  · have hge : i = l.length := by
      have : ¬ i < l.length := by simpa using hc
      omega
    have hlm : l = m := List.ext_getElem hlen fun j h1 h2 => hp j h1 (by omega)
    have fy := Nat.add_zero
    refine goK ?_ ?_ ?_ ?_ ?_ ?_ ?_ ?_ ?_ ?_ ?_ ?_ ?_ ?_ ?_ ?_
    any_goals (first | exact True.intro | skip)
    all_goals (repeat (refine Wh.mk fun hcc => ?_))
    simp [tupOf, fixEs, hlm]
theorem sSameObj_ok (x y : ObjT) (hx : Enc.lim 1048576 x) : CallR Try.prog 100 [.nd [.int .i64 x.1, .sl .b (x.2.1.map Enc.b), .sl .b (x.2.2.1.map Enc.b)], .nd [.int .i64 y.1, .sl .b (y.2.1.map Enc.b), .sl .b (y.2.2.1.map Enc.b)]] [] (.bool (decide (x = y))) := by
  refine CallR.of_body (n := 24) (rs := [.tmp 4]) hY.ok Try.func100 rfl (by decide) rfl rfl rfl rfl (fun F => ?_)
  have fx := And.intro Y1 (And.intro Y2 (And.intro Y3 (And.intro Y4 (And.intro Y34 (Y36)))))
  have hC1 := cx [] (spec_l2SameInts_ok x.2.1 y.2.1 hx.2.1)
  have hC2 := cx [] (spec_l2SameInts_ok x.2.2.1 y.2.2.1 hx.2.2.1)
  have fy := Nat.add_zero
  refine goK ?_ ?_ ?_ ?_ ?_ ?_ ?_ ?_ ?_ ?_ ?_ ?_ ?_ ?_ ?_ ?_
  any_goals (first | exact True.intro | skip)
  all_goals (repeat (refine Wh.mk fun hcc => ?_))
  all_goals (obtain ⟨a, b, c, ⟨⟩⟩ := x; obtain ⟨a', b', c', ⟨⟩⟩ := y; (try simp only [tupOf, fixEs]); by_cases h1 : a = a' <;> by_cases h2 : b = b' <;> by_cases h3 : c = c' <;> simp_all)
theorem sSameSlot_ok (x y : SlotT) (hx : Enc.lim 1048576 x) : CallR Try.prog 139 [.nd [.bool x.1, .nd [.int .i64 x.2.1.1, .sl .b (x.2.1.2.1.map Enc.b), .sl .b (x.2.1.2.2.1.map Enc.b)]], .nd [.bool y.1, .nd [.int .i64 y.2.1.1, .sl .b (y.2.1.2.1.map Enc.b), .sl .b (y.2.1.2.2.1.map Enc.b)]]] [] (.bool (decide (x = y))) := by
  refine CallR.of_body (n := 17) (rs := [.tmp 4]) hY.ok Try.func139 rfl (by decide) rfl rfl rfl rfl (fun F => ?_)
  have fx := And.intro Y1 (And.intro Y3 (And.intro Y4 (And.intro Y34 (And.intro Y36 (Y38)))))
  have hC1 := cx [] (sSameObj_ok x.2.1 y.2.1 hx.2.1)
  have fy := Nat.add_zero
  refine goK ?_ ?_ ?_ ?_ ?_ ?_ ?_ ?_ ?_ ?_ ?_ ?_ ?_ ?_ ?_ ?_
  any_goals (first | exact True.intro | skip)
  all_goals (repeat (refine Wh.mk fun hcc => ?_))
  all_goals (obtain ⟨a, b, ⟨⟩⟩ := x; obtain ⟨a', b', ⟨⟩⟩ := y; (try simp only [tupOf, fixEs]); by_cases h1 : a = a' <;> by_cases h2 : b = b' <;> simp_all)
end Q6
