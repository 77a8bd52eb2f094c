/- Shows what the parts of the program do that the claim reaches: a machine of values over the model, and the contracts of functions, for all arguments within the lengths that each theorem names. -/
import Derived.Test.YtlffogdkmdafiaaVm3
import Derived.Test.YtlffogdkmdafiaaRows
import Derived.Test.YtlffogdkmdafiaaVm4
set_option linter.all false

namespace Q1
open Go Go.Vm Go.Proofs
def tbl : List TyI := [
  ⟨.bad, 0, 0⟩,
  ⟨.fn, 1, 8⟩,
  ⟨.int .i64, 1, 8⟩,
  ⟨.int .i64, 1, 8⟩,
  ⟨.bool, 1, 1⟩,
  ⟨.int .u8, 1, 1⟩,
  ⟨.int .u8, 1, 1⟩,
  ⟨.st [(2, 0), (3, 1), (4, 2), (6, 3)], 4, 24⟩,
  ⟨.st [(2, 0), (3, 1), (4, 2), (6, 3)], 4, 24⟩,
  ⟨.str, 1, 16⟩,
  ⟨.str, 1, 16⟩,
  ⟨.str, 1, 16⟩,
  ⟨.int .u64, 1, 8⟩,
  ⟨.st [(9, 0), (12, 1)], 2, 24⟩,
  ⟨.st [(9, 0), (12, 1)], 2, 24⟩,
  ⟨.ptr 177, 1, 8⟩,
  ⟨.ptr 180, 1, 8⟩,
  ⟨.ptr 188, 1, 8⟩,
  ⟨.st [(17, 0)], 1, 8⟩,
  ⟨.st [(17, 0)], 1, 8⟩,
  ⟨.ifc, 1, 16⟩,
  ⟨.int .i32, 1, 4⟩,
  ⟨.sl 5, 1, 24⟩,
  ⟨.fn, 1, 8⟩,
  ⟨.sl 32, 1, 24⟩,
  ⟨.fn, 1, 8⟩,
  ⟨.fn, 1, 8⟩,
  ⟨.sl 3, 1, 24⟩,
  ⟨.fn, 1, 8⟩,
  ⟨.st [(3, 0), (27, 1), (27, 2)], 3, 56⟩,
  ⟨.st [(3, 0), (27, 1), (27, 2)], 3, 56⟩,
  ⟨.st [(4, 0), (30, 1)], 4, 64⟩,
  ⟨.st [(4, 0), (30, 1)], 4, 64⟩,
  ⟨.fn, 1, 8⟩,
  ⟨.fn, 1, 8⟩,
  ⟨.sl 90, 1, 24⟩,
  ⟨.fn, 1, 8⟩,
  ⟨.sl 4, 1, 24⟩,
  ⟨.bad, 0, 0⟩,
  ⟨.fn, 1, 8⟩,
  ⟨.fn, 1, 8⟩,
  ⟨.sl 103, 1, 24⟩,
  ⟨.fn, 1, 8⟩,
  ⟨.fn, 1, 8⟩,
  ⟨.fn, 1, 8⟩,
  ⟨.fn, 1, 8⟩,
  ⟨.fn, 1, 8⟩,
  ⟨.fn, 1, 8⟩,
  ⟨.fn, 1, 8⟩,
  ⟨.fn, 1, 8⟩,
  ⟨.fn, 1, 8⟩,
  ⟨.bad, 0, 0⟩,
  ⟨.fn, 1, 8⟩,
  ⟨.fn, 1, 8⟩,
  ⟨.fn, 1, 8⟩,
  ⟨.fn, 1, 8⟩,
  ⟨.fn, 1, 8⟩,
  ⟨.sl 66, 1, 24⟩,
  ⟨.st [(57, 0), (57, 1)], 2, 48⟩,
  ⟨.st [(57, 0), (57, 1)], 2, 48⟩,
  ⟨.bad, 0, 0⟩,
  ⟨.fn, 1, 8⟩,
  ⟨.bad, 0, 0⟩,
  ⟨.fn, 1, 8⟩,
  ⟨.fn, 1, 8⟩,
  ⟨.st [(3, 0), (3, 1), (3, 2)], 3, 24⟩,
  ⟨.st [(3, 0), (3, 1), (3, 2)], 3, 24⟩,
  ⟨.fn, 1, 8⟩,
  ⟨.fn, 1, 8⟩,
  ⟨.fn, 1, 8⟩,
  ⟨.fn, 1, 8⟩,
  ⟨.fn, 1, 8⟩,
  ⟨.sl 166, 1, 24⟩,
  ⟨.st [(72, 0), (72, 1)], 2, 48⟩,
  ⟨.st [(72, 0), (72, 1)], 2, 48⟩,
  ⟨.fn, 1, 8⟩,
  ⟨.bad, 0, 0⟩,
  ⟨.fn, 1, 8⟩,
  ⟨.fn, 1, 8⟩,
  ⟨.fn, 1, 8⟩,
  ⟨.fn, 1, 8⟩,
  ⟨.fn, 1, 8⟩,
  ⟨.fn, 1, 8⟩,
  ⟨.fn, 1, 8⟩,
  ⟨.ptr 145, 1, 8⟩,
  ⟨.fn, 1, 8⟩,
  ⟨.fn, 1, 8⟩,
  ⟨.fn, 1, 8⟩,
  ⟨.fn, 1, 8⟩,
  ⟨.fn, 1, 8⟩,
  ⟨.ar 2 3, 2, 16⟩,
  ⟨.fn, 1, 8⟩,
  ⟨.ptr 94, 1, 8⟩,
  ⟨.st [(24, 0), (37, 1), (27, 2), (3, 3), (4, 4)], 5, 88⟩,
  ⟨.st [(24, 0), (37, 1), (27, 2), (3, 3), (4, 4)], 5, 88⟩,
  ⟨.fn, 1, 8⟩,
  ⟨.fn, 1, 8⟩,
  ⟨.fn, 1, 8⟩,
  ⟨.fn, 1, 8⟩,
  ⟨.fn, 1, 8⟩,
  ⟨.fn, 1, 8⟩,
  ⟨.st [(3, 0), (27, 1), (27, 2)], 3, 56⟩,
  ⟨.st [(4, 0), (101, 1)], 4, 64⟩,
  ⟨.st [(4, 0), (101, 1)], 4, 64⟩,
  ⟨.fn, 1, 8⟩,
  ⟨.fn, 1, 8⟩,
  ⟨.fn, 1, 8⟩,
  ⟨.fn, 1, 8⟩,
  ⟨.ptr 110, 1, 8⟩,
  ⟨.st [(22, 0), (3, 1), (4, 2)], 3, 40⟩,
  ⟨.st [(22, 0), (3, 1), (4, 2)], 3, 40⟩,
  ⟨.fn, 1, 8⟩,
  ⟨.fn, 1, 8⟩,
  ⟨.fn, 1, 8⟩,
  ⟨.fn, 1, 8⟩,
  ⟨.ptr 117, 1, 8⟩,
  ⟨.st [(22, 0), (3, 1), (4, 2)], 3, 40⟩,
  ⟨.st [(22, 0), (3, 1), (4, 2)], 3, 40⟩,
  ⟨.fn, 1, 8⟩,
  ⟨.fn, 1, 8⟩,
  ⟨.fn, 1, 8⟩,
  ⟨.fn, 1, 8⟩,
  ⟨.fn, 1, 8⟩,
  ⟨.fn, 1, 8⟩,
  ⟨.fn, 1, 8⟩,
  ⟨.fn, 1, 8⟩,
  ⟨.fn, 1, 8⟩,
  ⟨.fn, 1, 8⟩,
  ⟨.fn, 1, 8⟩,
  ⟨.fn, 1, 8⟩,
  ⟨.fn, 1, 8⟩,
  ⟨.fn, 1, 8⟩,
  ⟨.ptr 59, 1, 8⟩,
  ⟨.fn, 1, 8⟩,
  ⟨.fn, 1, 8⟩,
  ⟨.fn, 1, 8⟩,
  ⟨.fn, 1, 8⟩,
  ⟨.fn, 1, 8⟩,
  ⟨.fn, 1, 8⟩,
  ⟨.fn, 1, 8⟩,
  ⟨.fn, 1, 8⟩,
  ⟨.fn, 1, 8⟩,
  ⟨.fn, 1, 8⟩,
  ⟨.fn, 1, 8⟩,
  ⟨.st [(22, 0), (3, 1), (3, 2)], 3, 40⟩,
  ⟨.st [(22, 0), (3, 1), (3, 2)], 3, 40⟩,
  ⟨.fn, 1, 8⟩,
  ⟨.fn, 1, 8⟩,
  ⟨.fn, 1, 8⟩,
  ⟨.fn, 1, 8⟩,
  ⟨.fn, 1, 8⟩,
  ⟨.fn, 1, 8⟩,
  ⟨.bad, 0, 0⟩,
  ⟨.fn, 1, 8⟩,
  ⟨.fn, 1, 8⟩,
  ⟨.fn, 1, 8⟩,
  ⟨.fn, 1, 8⟩,
  ⟨.fn, 1, 8⟩,
  ⟨.fn, 1, 8⟩,
  ⟨.fn, 1, 8⟩,
  ⟨.int .u64, 1, 8⟩,
  ⟨.fn, 1, 8⟩,
  ⟨.fn, 1, 8⟩,
  ⟨.fn, 1, 8⟩,
  ⟨.fn, 1, 8⟩,
  ⟨.fn, 1, 8⟩,
  ⟨.st [(3, 0), (3, 1), (3, 2)], 3, 24⟩,
  ⟨.fn, 1, 8⟩,
  ⟨.fn, 1, 8⟩,
  ⟨.fn, 1, 8⟩,
  ⟨.fn, 1, 8⟩,
  ⟨.bad, 0, 0⟩,
  ⟨.fn, 1, 8⟩,
  ⟨.sl 22, 1, 24⟩,
  ⟨.int .u32, 1, 4⟩,
  ⟨.fn, 1, 8⟩,
  ⟨.st [(17, 0), (17, 1), (17, 2), (9, 3)], 4, 40⟩,
  ⟨.st [(17, 0), (17, 1), (17, 2), (9, 3)], 4, 40⟩,
  ⟨.bad, 0, 0⟩,
  ⟨.bad, 0, 0⟩,
  ⟨.bad, 0, 0⟩,
  ⟨.int .u8, 1, 1⟩,
  ⟨.int .u8, 1, 1⟩,
  ⟨.fn, 1, 8⟩,
  ⟨.ptr 5, 1, 8⟩,
  ⟨.int .i32, 1, 4⟩,
  ⟨.int .i32, 1, 4⟩,
  ⟨.bad, 0, 0⟩,
  ⟨.bad, 0, 0⟩,
  ⟨.bad, 0, 0⟩
]
def Y : TypeId → TyI := tblY tbl
theorem hY : TysW Try.prog Y := tysW_of (by kernel_rfl)
theorem Y1 : Y 1 = ⟨.fn, 1, 8⟩ := rfl
theorem Y2 : Y 2 = ⟨.int .i64, 1, 8⟩ := rfl
theorem Y3 : Y 3 = ⟨.int .i64, 1, 8⟩ := rfl
theorem Y4 : Y 4 = ⟨.bool, 1, 1⟩ := rfl
theorem Y5 : Y 5 = ⟨.int .u8, 1, 1⟩ := rfl
theorem Y6 : Y 6 = ⟨.int .u8, 1, 1⟩ := rfl
theorem Y7 : Y 7 = ⟨.st [(2, 0), (3, 1), (4, 2), (6, 3)], 4, 24⟩ := rfl
theorem Y8 : Y 8 = ⟨.st [(2, 0), (3, 1), (4, 2), (6, 3)], 4, 24⟩ := rfl
theorem Y9 : Y 9 = ⟨.str, 1, 16⟩ := rfl
theorem Y10 : Y 10 = ⟨.str, 1, 16⟩ := rfl
theorem Y11 : Y 11 = ⟨.str, 1, 16⟩ := rfl
theorem Y12 : Y 12 = ⟨.int .u64, 1, 8⟩ := rfl
theorem Y13 : Y 13 = ⟨.st [(9, 0), (12, 1)], 2, 24⟩ := rfl
theorem Y14 : Y 14 = ⟨.st [(9, 0), (12, 1)], 2, 24⟩ := rfl
theorem Y15 : Y 15 = ⟨.ptr 177, 1, 8⟩ := rfl
theorem Y16 : Y 16 = ⟨.ptr 180, 1, 8⟩ := rfl
theorem Y17 : Y 17 = ⟨.ptr 188, 1, 8⟩ := rfl
theorem Y18 : Y 18 = ⟨.st [(17, 0)], 1, 8⟩ := rfl
theorem Y19 : Y 19 = ⟨.st [(17, 0)], 1, 8⟩ := rfl
theorem Y20 : Y 20 = ⟨.ifc, 1, 16⟩ := rfl
theorem Y21 : Y 21 = ⟨.int .i32, 1, 4⟩ := rfl
theorem Y22 : Y 22 = ⟨.sl 5, 1, 24⟩ := rfl
theorem Y23 : Y 23 = ⟨.fn, 1, 8⟩ := rfl
theorem Y24 : Y 24 = ⟨.sl 32, 1, 24⟩ := rfl
theorem Y25 : Y 25 = ⟨.fn, 1, 8⟩ := rfl
theorem Y26 : Y 26 = ⟨.fn, 1, 8⟩ := rfl
theorem Y27 : Y 27 = ⟨.sl 3, 1, 24⟩ := rfl
theorem Y28 : Y 28 = ⟨.fn, 1, 8⟩ := rfl
theorem Y29 : Y 29 = ⟨.st [(3, 0), (27, 1), (27, 2)], 3, 56⟩ := rfl
theorem Y30 : Y 30 = ⟨.st [(3, 0), (27, 1), (27, 2)], 3, 56⟩ := rfl
theorem Y31 : Y 31 = ⟨.st [(4, 0), (30, 1)], 4, 64⟩ := rfl
theorem Y32 : Y 32 = ⟨.st [(4, 0), (30, 1)], 4, 64⟩ := rfl
theorem Y33 : Y 33 = ⟨.fn, 1, 8⟩ := rfl
theorem Y34 : Y 34 = ⟨.fn, 1, 8⟩ := rfl
theorem Y35 : Y 35 = ⟨.sl 90, 1, 24⟩ := rfl
theorem Y36 : Y 36 = ⟨.fn, 1, 8⟩ := rfl
theorem Y37 : Y 37 = ⟨.sl 4, 1, 24⟩ := rfl
theorem Y39 : Y 39 = ⟨.fn, 1, 8⟩ := rfl
theorem Y40 : Y 40 = ⟨.fn, 1, 8⟩ := rfl
theorem Y41 : Y 41 = ⟨.sl 103, 1, 24⟩ := rfl
theorem Y42 : Y 42 = ⟨.fn, 1, 8⟩ := rfl
theorem Y43 : Y 43 = ⟨.fn, 1, 8⟩ := rfl
theorem Y44 : Y 44 = ⟨.fn, 1, 8⟩ := rfl
theorem Y45 : Y 45 = ⟨.fn, 1, 8⟩ := rfl
theorem Y46 : Y 46 = ⟨.fn, 1, 8⟩ := rfl
theorem Y47 : Y 47 = ⟨.fn, 1, 8⟩ := rfl
theorem Y48 : Y 48 = ⟨.fn, 1, 8⟩ := rfl
theorem Y49 : Y 49 = ⟨.fn, 1, 8⟩ := rfl
theorem Y50 : Y 50 = ⟨.fn, 1, 8⟩ := rfl
theorem Y52 : Y 52 = ⟨.fn, 1, 8⟩ := rfl
theorem Y53 : Y 53 = ⟨.fn, 1, 8⟩ := rfl
theorem Y54 : Y 54 = ⟨.fn, 1, 8⟩ := rfl
theorem Y55 : Y 55 = ⟨.fn, 1, 8⟩ := rfl
theorem Y56 : Y 56 = ⟨.fn, 1, 8⟩ := rfl
theorem Y57 : Y 57 = ⟨.sl 66, 1, 24⟩ := rfl
theorem Y58 : Y 58 = ⟨.st [(57, 0), (57, 1)], 2, 48⟩ := rfl
theorem Y59 : Y 59 = ⟨.st [(57, 0), (57, 1)], 2, 48⟩ := rfl
theorem Y61 : Y 61 = ⟨.fn, 1, 8⟩ := rfl
theorem Y63 : Y 63 = ⟨.fn, 1, 8⟩ := rfl
theorem Y64 : Y 64 = ⟨.fn, 1, 8⟩ := rfl
theorem Y65 : Y 65 = ⟨.st [(3, 0), (3, 1), (3, 2)], 3, 24⟩ := rfl
theorem Y66 : Y 66 = ⟨.st [(3, 0), (3, 1), (3, 2)], 3, 24⟩ := rfl
theorem Y67 : Y 67 = ⟨.fn, 1, 8⟩ := rfl
theorem Y68 : Y 68 = ⟨.fn, 1, 8⟩ := rfl
theorem Y69 : Y 69 = ⟨.fn, 1, 8⟩ := rfl
theorem Y70 : Y 70 = ⟨.fn, 1, 8⟩ := rfl
theorem Y71 : Y 71 = ⟨.fn, 1, 8⟩ := rfl
theorem Y72 : Y 72 = ⟨.sl 166, 1, 24⟩ := rfl
theorem Y73 : Y 73 = ⟨.st [(72, 0), (72, 1)], 2, 48⟩ := rfl
theorem Y74 : Y 74 = ⟨.st [(72, 0), (72, 1)], 2, 48⟩ := rfl
theorem Y75 : Y 75 = ⟨.fn, 1, 8⟩ := rfl
theorem Y77 : Y 77 = ⟨.fn, 1, 8⟩ := rfl
theorem Y78 : Y 78 = ⟨.fn, 1, 8⟩ := rfl
theorem Y79 : Y 79 = ⟨.fn, 1, 8⟩ := rfl
theorem Y80 : Y 80 = ⟨.fn, 1, 8⟩ := rfl
theorem Y81 : Y 81 = ⟨.fn, 1, 8⟩ := rfl
theorem Y82 : Y 82 = ⟨.fn, 1, 8⟩ := rfl
theorem Y83 : Y 83 = ⟨.fn, 1, 8⟩ := rfl
theorem Y84 : Y 84 = ⟨.ptr 145, 1, 8⟩ := rfl
theorem Y85 : Y 85 = ⟨.fn, 1, 8⟩ := rfl
theorem Y86 : Y 86 = ⟨.fn, 1, 8⟩ := rfl
theorem Y87 : Y 87 = ⟨.fn, 1, 8⟩ := rfl
theorem Y88 : Y 88 = ⟨.fn, 1, 8⟩ := rfl
theorem Y89 : Y 89 = ⟨.fn, 1, 8⟩ := rfl
theorem Y90 : Y 90 = ⟨.ar 2 3, 2, 16⟩ := rfl
theorem Y91 : Y 91 = ⟨.fn, 1, 8⟩ := rfl
theorem Y92 : Y 92 = ⟨.ptr 94, 1, 8⟩ := rfl
theorem Y93 : Y 93 = ⟨.st [(24, 0), (37, 1), (27, 2), (3, 3), (4, 4)], 5, 88⟩ := rfl
theorem Y94 : Y 94 = ⟨.st [(24, 0), (37, 1), (27, 2), (3, 3), (4, 4)], 5, 88⟩ := rfl
theorem Y95 : Y 95 = ⟨.fn, 1, 8⟩ := rfl
theorem Y96 : Y 96 = ⟨.fn, 1, 8⟩ := rfl
theorem Y97 : Y 97 = ⟨.fn, 1, 8⟩ := rfl
theorem Y98 : Y 98 = ⟨.fn, 1, 8⟩ := rfl
theorem Y99 : Y 99 = ⟨.fn, 1, 8⟩ := rfl
theorem Y100 : Y 100 = ⟨.fn, 1, 8⟩ := rfl
theorem Y101 : Y 101 = ⟨.st [(3, 0), (27, 1), (27, 2)], 3, 56⟩ := rfl
theorem Y102 : Y 102 = ⟨.st [(4, 0), (101, 1)], 4, 64⟩ := rfl
theorem Y103 : Y 103 = ⟨.st [(4, 0), (101, 1)], 4, 64⟩ := rfl
theorem Y104 : Y 104 = ⟨.fn, 1, 8⟩ := rfl
theorem Y105 : Y 105 = ⟨.fn, 1, 8⟩ := rfl
theorem Y106 : Y 106 = ⟨.fn, 1, 8⟩ := rfl
theorem Y107 : Y 107 = ⟨.fn, 1, 8⟩ := rfl
theorem Y108 : Y 108 = ⟨.ptr 110, 1, 8⟩ := rfl
theorem Y109 : Y 109 = ⟨.st [(22, 0), (3, 1), (4, 2)], 3, 40⟩ := rfl
theorem Y110 : Y 110 = ⟨.st [(22, 0), (3, 1), (4, 2)], 3, 40⟩ := rfl
theorem Y111 : Y 111 = ⟨.fn, 1, 8⟩ := rfl
theorem Y112 : Y 112 = ⟨.fn, 1, 8⟩ := rfl
theorem Y113 : Y 113 = ⟨.fn, 1, 8⟩ := rfl
theorem Y114 : Y 114 = ⟨.fn, 1, 8⟩ := rfl
theorem Y115 : Y 115 = ⟨.ptr 117, 1, 8⟩ := rfl
theorem Y116 : Y 116 = ⟨.st [(22, 0), (3, 1), (4, 2)], 3, 40⟩ := rfl
theorem Y117 : Y 117 = ⟨.st [(22, 0), (3, 1), (4, 2)], 3, 40⟩ := rfl
theorem Y118 : Y 118 = ⟨.fn, 1, 8⟩ := rfl
theorem Y119 : Y 119 = ⟨.fn, 1, 8⟩ := rfl
theorem Y120 : Y 120 = ⟨.fn, 1, 8⟩ := rfl
theorem Y121 : Y 121 = ⟨.fn, 1, 8⟩ := rfl
theorem Y122 : Y 122 = ⟨.fn, 1, 8⟩ := rfl
theorem Y123 : Y 123 = ⟨.fn, 1, 8⟩ := rfl
theorem Y124 : Y 124 = ⟨.fn, 1, 8⟩ := rfl
theorem Y125 : Y 125 = ⟨.fn, 1, 8⟩ := rfl
theorem Y126 : Y 126 = ⟨.fn, 1, 8⟩ := rfl
theorem Y127 : Y 127 = ⟨.fn, 1, 8⟩ := rfl
theorem Y128 : Y 128 = ⟨.fn, 1, 8⟩ := rfl
theorem Y129 : Y 129 = ⟨.fn, 1, 8⟩ := rfl
theorem Y130 : Y 130 = ⟨.fn, 1, 8⟩ := rfl
theorem Y131 : Y 131 = ⟨.fn, 1, 8⟩ := rfl
theorem Y132 : Y 132 = ⟨.ptr 59, 1, 8⟩ := rfl
theorem Y133 : Y 133 = ⟨.fn, 1, 8⟩ := rfl
theorem Y134 : Y 134 = ⟨.fn, 1, 8⟩ := rfl
theorem Y135 : Y 135 = ⟨.fn, 1, 8⟩ := rfl
theorem Y136 : Y 136 = ⟨.fn, 1, 8⟩ := rfl
theorem Y137 : Y 137 = ⟨.fn, 1, 8⟩ := rfl
theorem Y138 : Y 138 = ⟨.fn, 1, 8⟩ := rfl
theorem Y139 : Y 139 = ⟨.fn, 1, 8⟩ := rfl
theorem Y140 : Y 140 = ⟨.fn, 1, 8⟩ := rfl
theorem Y141 : Y 141 = ⟨.fn, 1, 8⟩ := rfl
theorem Y142 : Y 142 = ⟨.fn, 1, 8⟩ := rfl
theorem Y143 : Y 143 = ⟨.fn, 1, 8⟩ := rfl
theorem Y144 : Y 144 = ⟨.st [(22, 0), (3, 1), (3, 2)], 3, 40⟩ := rfl
theorem Y145 : Y 145 = ⟨.st [(22, 0), (3, 1), (3, 2)], 3, 40⟩ := rfl
theorem Y146 : Y 146 = ⟨.fn, 1, 8⟩ := rfl
theorem Y147 : Y 147 = ⟨.fn, 1, 8⟩ := rfl
theorem Y148 : Y 148 = ⟨.fn, 1, 8⟩ := rfl
theorem Y149 : Y 149 = ⟨.fn, 1, 8⟩ := rfl
theorem Y150 : Y 150 = ⟨.fn, 1, 8⟩ := rfl
theorem Y151 : Y 151 = ⟨.fn, 1, 8⟩ := rfl
theorem Y153 : Y 153 = ⟨.fn, 1, 8⟩ := rfl
theorem Y154 : Y 154 = ⟨.fn, 1, 8⟩ := rfl
theorem Y155 : Y 155 = ⟨.fn, 1, 8⟩ := rfl
theorem Y156 : Y 156 = ⟨.fn, 1, 8⟩ := rfl
theorem Y157 : Y 157 = ⟨.fn, 1, 8⟩ := rfl
theorem Y158 : Y 158 = ⟨.fn, 1, 8⟩ := rfl
theorem Y159 : Y 159 = ⟨.fn, 1, 8⟩ := rfl
theorem Y160 : Y 160 = ⟨.int .u64, 1, 8⟩ := rfl
theorem Y161 : Y 161 = ⟨.fn, 1, 8⟩ := rfl
theorem Y162 : Y 162 = ⟨.fn, 1, 8⟩ := rfl
theorem Y163 : Y 163 = ⟨.fn, 1, 8⟩ := rfl
theorem Y164 : Y 164 = ⟨.fn, 1, 8⟩ := rfl
theorem Y165 : Y 165 = ⟨.fn, 1, 8⟩ := rfl
theorem Y166 : Y 166 = ⟨.st [(3, 0), (3, 1), (3, 2)], 3, 24⟩ := rfl
theorem Y167 : Y 167 = ⟨.fn, 1, 8⟩ := rfl
theorem Y168 : Y 168 = ⟨.fn, 1, 8⟩ := rfl
theorem Y169 : Y 169 = ⟨.fn, 1, 8⟩ := rfl
theorem Y170 : Y 170 = ⟨.fn, 1, 8⟩ := rfl
theorem Y172 : Y 172 = ⟨.fn, 1, 8⟩ := rfl
theorem Y173 : Y 173 = ⟨.sl 22, 1, 24⟩ := rfl
theorem Y174 : Y 174 = ⟨.int .u32, 1, 4⟩ := rfl
theorem Y175 : Y 175 = ⟨.fn, 1, 8⟩ := rfl
theorem Y176 : Y 176 = ⟨.st [(17, 0), (17, 1), (17, 2), (9, 3)], 4, 40⟩ := rfl
theorem Y177 : Y 177 = ⟨.st [(17, 0), (17, 1), (17, 2), (9, 3)], 4, 40⟩ := rfl
theorem Y181 : Y 181 = ⟨.int .u8, 1, 1⟩ := rfl
theorem Y182 : Y 182 = ⟨.int .u8, 1, 1⟩ := rfl
theorem Y183 : Y 183 = ⟨.fn, 1, 8⟩ := rfl
theorem Y184 : Y 184 = ⟨.ptr 5, 1, 8⟩ := rfl
theorem Y185 : Y 185 = ⟨.int .i32, 1, 4⟩ := rfl
theorem Y186 : Y 186 = ⟨.int .i32, 1, 4⟩ := rfl
end Q1

namespace Q1
open Go Go.Vm Go.Proofs
set_option maxHeartbeats 4000000
set_option synthInstance.maxSize 2000
set_option synthInstance.maxHeartbeats 400000
set_option maxRecDepth 10000
set_option linter.unusedSimpArgs false
set_option linter.unusedVariables false

theorem markInt_ok (l : List Int) (k : Int) (hl : l.length ≤ 1048576) (h0 : 0 ≤ k) (h1 : k ≤ 1125899906842624) : CallR Try.prog 34 [.io (.tup [.ow 1 (l.map Enc.o)]), .int .i64 k] [.tup [.ow 1 ((marks l.length k).map Enc.o)]] (.int .i64 (k + l.length)) := by
  refine CallR.of_body (n := 19) (rs := [.tmp 4]) hY.ok Try.func34 rfl (by decide) rfl rfl rfl rfl (fun F => ?_)
  repeat' first
    | ((have hk8 := Nat.add_zero); (first | refine SW.ops_seq hY fun y1 hy1 => ?_ | refine SW.ops hY ?_) <;> (simp only [hk8, T.asArr, T.tg, tgL, dnT, indexAddrM, wk, wl, eq_self, isCall, callT, opM, S.ev, S.put, entryS, thawAL, thawA, RM.run, RM.bind, RM.ofOpt, allocs, Heap.ups, Heap.put, Heap.at, List.replicate, Nat.reduceAdd, Nat.reduceSub, ofConst, nilAs, if_false, if_true, binT, binTy, unT, guardT, pickT, quietK, stripT, openT, reduceIte, boxM, allocM, loadM, storeM, fieldAddrM, lenT, extractT, subM, setOb, T.get, T.setp, T.offs, T.nw, nwL, T.cel, T.isNd, T.size, sizeL, TyI.agg, Ty.agg, Ty.isFn, zeroT, Nat.reduceLT, Nat.reduceEqDiff, sumT, kill, Y3, Y4, Y27]; clear hk8; first | subst hy1 | (try simp only [thenS, blockS, if_true, if_false, Nat.reduceEqDiff, reduceIte])))
    | exact absurd trivial hb
    | exact absurd hb (by decide)
    | exact absurd hcc (by decide)
    | refine SW.seq ?_
    | refine SW.block ?_
    | (refine SW.exit ?_; simp only [thenS, blockS, if_true, if_false, Nat.reduceEqDiff, reduceIte])
    | (refine SW.skip ?_; simp only [thenS, blockS])
  refine SW.loop (fun i : Nat => ⟨[.ref 0 0 0 l.length, .int .i64 (k + (i : Nat)), .undef, .undef, .undef, .int .i64 i, .undef, .undef, .undef, .undef, .undef, .undef, .undef, .undef, .undef, .undef, .undef, .undef, .undef], [[.arr 1 ((mixM l k i).map Enc.o) false]]⟩)
    (fun n i => n = l.length - i ∧ i ≤ l.length) (n := l.length) (x := 0) (Norm.re [0] (by decide) rfl (by simp [heapFits, rowFits, obFits, mix_zero]) (by simp [tmFits, T.ren])) ⟨rfl, Nat.zero_le _⟩ ?_
  rintro n i ⟨hn, hi⟩
  repeat' first
    | (refine SW.ops_seq hY fun y1 hy1 => ?_; simp only [T.asArr, T.tg, tgL, dnT, indexAddrM, wk, wl, eq_self, isCall, callT, opM, S.ev, S.put, entryS, thawAL, thawA, RM.run, RM.bind, RM.ofOpt, allocs, Heap.ups, Heap.put, Heap.at, List.replicate, Nat.reduceAdd, Nat.reduceSub, ofConst, nilAs, if_false, if_true, binT, binTy, unT, guardT, pickT, quietK, stripT, openT, reduceIte, boxM, allocM, loadM, storeM, fieldAddrM, lenT, extractT, subM, setOb, T.get, T.setp, T.offs, T.nw, nwL, T.cel, T.isNd, T.size, sizeL, TyI.agg, Ty.agg, Ty.isFn, zeroT, Nat.reduceLT, Nat.reduceEqDiff, sumT, kill, Y3, Y4, Y27]; subst hy1)
    | refine SW.seq ?_
  refine SW.cond rfl (fun hc => ?_) (fun hc => ?_)
  · have hlt : i < l.length := by simp at hc; omega
    have hltI : (i : Int) < (l.length : Int) := by omega
    have hg := mix_get l k i hlt
    have hs := mix_set l k i hlt
    repeat' first
      | ((have hk8 := Nat.add_zero); (first | refine SW.ops_seq hY fun y1 hy1 => ?_ | refine SW.ops hY ?_ | (simp only [k8]; refine ⟨fun hb => ?_, fun hb => ?_⟩ <;> (try replace hb := Bool.eq_false_iff.2 hb) <;> (first | exact absurd hb (by decide) | replace hk8 := hb))) <;> (simp only [hk8, hg, hs, hltI, Int.toNat_zero, Int.toNat_one, Int.le_refl, Int.zero_le_ofNat, Nat.zero_add, Int.toNat_natCast, T.asArr, T.tg, tgL, dnT, indexAddrM, wk, wl, eq_self, isCall, callT, opM, S.ev, S.put, entryS, thawAL, thawA, RM.run, RM.bind, RM.ofOpt, allocs, Heap.ups, Heap.put, Heap.at, List.replicate, Nat.reduceAdd, Nat.reduceSub, ofConst, nilAs, if_false, if_true, binT, binTy, unT, guardT, pickT, quietK, stripT, openT, reduceIte, boxM, allocM, loadM, storeM, fieldAddrM, lenT, extractT, subM, setOb, T.get, T.setp, T.offs, T.nw, nwL, T.cel, T.isNd, T.size, sizeL, TyI.agg, Ty.agg, Ty.isFn, zeroT, Nat.reduceLT, Nat.reduceEqDiff, sumT, kill, Y3, Y4, Y27]; clear hk8; first | subst hy1 | (try simp only [thenS, blockS, if_true, if_false, Nat.reduceEqDiff, reduceIte])))
      | exact absurd trivial hb
      | exact absurd hb (by decide)
      | exact absurd hcc (by decide)
      | refine SW.seq ?_
      | refine SW.block ?_
      | (refine SW.cond rfl (fun hcc => ?_) (fun hcc => ?_))
      | (refine SW.exit ?_; simp only [thenS, blockS, if_true, if_false, Nat.reduceEqDiff, reduceIte])
      | (refine SW.skip ?_; simp only [thenS, blockS])
    refine ⟨n - 1, i + 1, by omega, ⟨by omega, by omega⟩, ?_⟩
    rw [wrap64 _ (by omega) (by omega), wrap64 _ (by omega) (by omega), show k + (i : Int) + 1 = k + ((i + 1 : Nat) : Int) by omega]
    exact Norm.re [0] (by decide) rfl (by simp only [eq_self, heapFits, rowFits, obFits, List.getElem?_cons_zero, List.getElem?_cons_succ, renL_o, renL_b, true_and, and_true, and_self]) (by simp [tmFits, T.ren])
  · have hge : i = l.length := by
      have : ¬ i < l.length := by simp at hc; omega
      omega
    subst hge
    rw [mix_all]
    repeat' first
      | ((have hk8 := Nat.add_zero); (first | refine SW.ops_seq hY fun y1 hy1 => ?_ | refine SW.ops hY ?_ | (simp only [k8]; refine ⟨fun hb => ?_, fun hb => ?_⟩ <;> (try replace hb := Bool.eq_false_iff.2 hb) <;> (first | exact absurd hb (by decide) | replace hk8 := hb))) <;> (simp only [hk8, T.asArr, T.tg, tgL, dnT, indexAddrM, wk, wl, eq_self, isCall, callT, opM, S.ev, S.put, entryS, thawAL, thawA, RM.run, RM.bind, RM.ofOpt, allocs, Heap.ups, Heap.put, Heap.at, List.replicate, Nat.reduceAdd, Nat.reduceSub, ofConst, nilAs, if_false, if_true, binT, binTy, unT, guardT, pickT, quietK, stripT, openT, reduceIte, boxM, allocM, loadM, storeM, fieldAddrM, lenT, extractT, subM, setOb, T.get, T.setp, T.offs, T.nw, nwL, T.cel, T.isNd, T.size, sizeL, TyI.agg, Ty.agg, Ty.isFn, zeroT, Nat.reduceLT, Nat.reduceEqDiff, sumT, kill, Y3, Y4, Y27]; clear hk8; first | subst hy1 | (try simp only [thenS, blockS, if_true, if_false, Nat.reduceEqDiff, reduceIte])))
      | exact absurd trivial hb
      | exact absurd hb (by decide)
      | exact absurd hcc (by decide)
      | refine SW.seq ?_
      | refine SW.block ?_
      | (refine SW.cond rfl (fun hcc => ?_) (fun hcc => ?_))
      | (refine SW.exit ?_; simp only [thenS, blockS, if_true, if_false, Nat.reduceEqDiff, reduceIte])
      | (refine SW.skip ?_; simp only [thenS, blockS])
    refine SW.ret (show RetQ _ _ _ _ _ _ _ from ⟨.inr rfl, _, [0], [.int .i64 (k + l.length)], ?_, ⟨rfl, ?_, rfl, rfl, ?_, rfl⟩⟩)
    rotate_left
    · (simp [pass1, modeOf, giveS, giveSL, Heap.at, Heap.put, fixEs, ioAt, ioKs, ioM, ioT, thawA, thawAL, T.asArr, T.cel, T.clo, cloL, T.cloA, cloAL]; rfl)
    · simp [cloOL, T.cloO, T.asArr]
theorem heldInt_ok (n : Nat) (k : Int) (hl : n ≤ 1048576) (h0 : 0 ≤ k) (h1 : k ≤ 1125899906842624) : CallR Try.prog 35 [.sl .b ((marks n k).map Enc.b), .int .i64 k] [] (.int .i64 (k + n)) := by
  refine CallR.of_body (n := 21) (rs := [.tmp 4]) hY.ok Try.func35 rfl (by decide) rfl rfl rfl rfl (fun F => ?_)
  repeat' first
    | ((have hk8 := Nat.add_zero); (first | refine SW.ops_seq hY fun y1 hy1 => ?_ | refine SW.ops hY ?_) <;> (simp only [hk8, marks_len, T.asArr, T.tg, tgL, dnT, indexAddrM, wk, wl, eq_self, isCall, callT, opM, S.ev, S.put, entryS, thawAL, thawA, RM.run, RM.bind, RM.ofOpt, allocs, Heap.ups, Heap.put, Heap.at, List.replicate, Nat.reduceAdd, Nat.reduceSub, ofConst, nilAs, if_false, if_true, binT, binTy, unT, guardT, pickT, quietK, stripT, openT, reduceIte, boxM, allocM, loadM, storeM, fieldAddrM, lenT, extractT, subM, setOb, T.get, T.setp, T.offs, T.nw, nwL, T.cel, T.isNd, T.size, sizeL, TyI.agg, Ty.agg, Ty.isFn, zeroT, Nat.reduceLT, Nat.reduceEqDiff, sumT, kill, Y3, Y4, Y27]; clear hk8; first | subst hy1 | (try simp only [thenS, blockS, if_true, if_false, Nat.reduceEqDiff, reduceIte])))
    | exact absurd trivial hb
    | exact absurd hb (by decide)
    | exact absurd hcc (by decide)
    | refine SW.seq ?_
    | refine SW.block ?_
    | (refine SW.exit ?_; simp only [thenS, blockS, if_true, if_false, Nat.reduceEqDiff, reduceIte])
    | (refine SW.skip ?_; simp only [thenS, blockS])
  refine SW.loop (fun i : Nat => ⟨[.sl .b ((marks n k).map Enc.b), .int .i64 (k + (i : Nat)), .undef, .undef, .undef, .int .i64 i, .undef, .undef, .undef, .undef, .undef, .undef, .undef, .undef, .undef, .undef, .undef, .undef, .undef, .undef, .undef], [[]]⟩)
    (fun N i => N = n - i ∧ i ≤ n) (n := n) (x := 0) (Norm.to 0 rfl (by simp [weakL])) ⟨rfl, Nat.zero_le _⟩ ?_
  rintro N i ⟨hn, hi⟩
  repeat' first
    | (refine SW.ops_seq hY fun y1 hy1 => ?_; simp only [marks_len, T.asArr, T.tg, tgL, dnT, indexAddrM, wk, wl, eq_self, isCall, callT, opM, S.ev, S.put, entryS, thawAL, thawA, RM.run, RM.bind, RM.ofOpt, allocs, Heap.ups, Heap.put, Heap.at, List.replicate, Nat.reduceAdd, Nat.reduceSub, ofConst, nilAs, if_false, if_true, binT, binTy, unT, guardT, pickT, quietK, stripT, openT, reduceIte, boxM, allocM, loadM, storeM, fieldAddrM, lenT, extractT, subM, setOb, T.get, T.setp, T.offs, T.nw, nwL, T.cel, T.isNd, T.size, sizeL, TyI.agg, Ty.agg, Ty.isFn, zeroT, Nat.reduceLT, Nat.reduceEqDiff, sumT, kill, Y3, Y4, Y27]; subst hy1)
    | refine SW.seq ?_
  refine SW.cond rfl (fun hc => ?_) (fun hc => ?_)
  · have hlt : i < n := by simp at hc; omega
    have hg : ((marks n k).map Enc.b)[i]? = some (T.int .i64 (k + i)) := by rw [map_get Enc.b _ i (by rw [marks_len]; exact hlt), marks_get n k i hlt]; rfl
    repeat' first
      | ((have hk8 := Nat.add_zero); (first | refine SW.ops_seq hY fun y1 hy1 => ?_ | refine SW.ops hY ?_ | (simp only [k8]; refine ⟨fun hb => ?_, fun hb => ?_⟩ <;> (try replace hb := Bool.eq_false_iff.2 hb) <;> (first | exact absurd hb (by decide) | replace hk8 := hb))) <;> (simp only [hk8, hg, marks_len, bne_self_eq_false, Int.toNat_zero, Int.toNat_one, Int.le_refl, Int.zero_le_ofNat, Nat.zero_add, Int.toNat_natCast, T.asArr, T.tg, tgL, dnT, indexAddrM, wk, wl, eq_self, isCall, callT, opM, S.ev, S.put, entryS, thawAL, thawA, RM.run, RM.bind, RM.ofOpt, allocs, Heap.ups, Heap.put, Heap.at, List.replicate, Nat.reduceAdd, Nat.reduceSub, ofConst, nilAs, if_false, if_true, binT, binTy, unT, guardT, pickT, quietK, stripT, openT, reduceIte, boxM, allocM, loadM, storeM, fieldAddrM, lenT, extractT, subM, setOb, T.get, T.setp, T.offs, T.nw, nwL, T.cel, T.isNd, T.size, sizeL, TyI.agg, Ty.agg, Ty.isFn, zeroT, Nat.reduceLT, Nat.reduceEqDiff, sumT, kill, Y3, Y4, Y27]; clear hk8; first | subst hy1 | (try simp only [thenS, blockS, if_true, if_false, Nat.reduceEqDiff, reduceIte])))
      | exact absurd trivial hb
      | exact absurd hb (by decide)
      | exact absurd hcc (by decide)
      | refine SW.seq ?_
      | refine SW.block ?_
      | (refine SW.cond rfl (fun hcc => ?_) (fun hcc => ?_))
      | (refine SW.exit ?_; simp only [thenS, blockS, if_true, if_false, Nat.reduceEqDiff, reduceIte])
      | (refine SW.skip ?_; simp only [thenS, blockS])
    all_goals first | (exfalso; simp at hcc; done) | skip
    refine ⟨N - 1, i + 1, by omega, ⟨by omega, by omega⟩, ?_⟩
    rw [wrap64 _ (by omega) (by omega), wrap64 _ (by omega) (by omega), show k + (i : Int) + 1 = k + ((i + 1 : Nat) : Int) by omega]
    exact Norm.to 0 rfl (by simp [weakL])
  · have hge : i = n := by
      have : ¬ i < n := by simp at hc; omega
      omega
    subst hge
    repeat' first
      | ((have hk8 := Nat.add_zero); (first | refine SW.ops_seq hY fun y1 hy1 => ?_ | refine SW.ops hY ?_ | (simp only [k8]; refine ⟨fun hb => ?_, fun hb => ?_⟩ <;> (try replace hb := Bool.eq_false_iff.2 hb) <;> (first | exact absurd hb (by decide) | replace hk8 := hb))) <;> (simp only [hk8, marks_len, T.asArr, T.tg, tgL, dnT, indexAddrM, wk, wl, eq_self, isCall, callT, opM, S.ev, S.put, entryS, thawAL, thawA, RM.run, RM.bind, RM.ofOpt, allocs, Heap.ups, Heap.put, Heap.at, List.replicate, Nat.reduceAdd, Nat.reduceSub, ofConst, nilAs, if_false, if_true, binT, binTy, unT, guardT, pickT, quietK, stripT, openT, reduceIte, boxM, allocM, loadM, storeM, fieldAddrM, lenT, extractT, subM, setOb, T.get, T.setp, T.offs, T.nw, nwL, T.cel, T.isNd, T.size, sizeL, TyI.agg, Ty.agg, Ty.isFn, zeroT, Nat.reduceLT, Nat.reduceEqDiff, sumT, kill, Y3, Y4, Y27]; clear hk8; first | subst hy1 | (try simp only [thenS, blockS, if_true, if_false, Nat.reduceEqDiff, reduceIte])))
      | exact absurd trivial hb
      | exact absurd hb (by decide)
      | exact absurd hcc (by decide)
      | refine SW.seq ?_
      | refine SW.block ?_
      | (refine SW.cond rfl (fun hcc => ?_) (fun hcc => ?_))
      | (refine SW.exit ?_; simp only [thenS, blockS, if_true, if_false, Nat.reduceEqDiff, reduceIte])
      | (refine SW.skip ?_; simp only [thenS, blockS])
      | refine SW.ret (show RetQ _ _ _ _ _ _ _ from ⟨.inr rfl, [_], [1], [_], _, rfl, rfl, rfl, rfl, rfl, ?_⟩)
    simp [tupOf, fixEs]
end Q1

namespace Q1
open Go Go.Vm

/-! ### what is reached: the plain law -/
abbrev SlotT := Bool × (Int × List Int × List Int × Unit) × Unit
def mrk (m : List Bool) (i : Nat) : Bool := m.getD i false
def hasA (v : List SlotT) (i : Nat) : Bool := match v[i]? with | some s => s.1 | none => false
def refsA (v : List SlotT) (i : Nat) : List Int := match v[i]? with | some s => s.2.1.2.2.1 | none => []

structure VOk (v : List SlotT) : Prop where
  len : v.length = 32
  z : hasA v 0 = false
  rf : ∀ i, ∀ r ∈ refsA v i, 0 ≤ r ∧ r ≤ 31
  rl : ∀ i, (refsA v i).length ≤ 5

inductive Rch (v : List SlotT) (root : Nat) : Nat → Prop
  | root : hasA v root = true → Rch v root root
  | step {x : Nat} {r : Int} : Rch v root x → r ∈ refsA v x → hasA v r.toNat = true → Rch v root r.toNat

open Classical in
noncomputable def reachL (v : List SlotT) (root : Nat) : List Bool := (List.range 32).map fun i => decide (Rch v root i)

theorem reachL_len (v : List SlotT) (root : Nat) : (reachL v root).length = 32 := by simp [reachL]

theorem mrk_set {m : List Bool} {i j : Nat} (hi : i < m.length) : mrk (m.set i true) j = true ↔ (j = i ∨ mrk m j = true) := by
  unfold mrk
  by_cases h : j = i
  · subst h; simp [hi]
  · simp [List.getElem?_set_ne (Ne.symm h), h]
theorem mrk_lt {m : List Bool} {i : Nat} (h : mrk m i = true) : i < m.length := by
  unfold mrk at h
  rcases Nat.lt_or_ge i m.length with h' | h'
  · exact h'
  · simp [List.getElem?_eq_none h'] at h
theorem cnt_set : ∀ {m : List Bool} {i : Nat}, i < m.length → mrk m i = false → (m.set i true).count false + 1 = m.count false
  | [], i, h, _ => by simp at h
  | b :: m, 0, _, h => by simp [mrk] at h; subst h; simp
  | b :: m, i + 1, h, h1 => by
    have := cnt_set (m := m) (i := i) (by simpa using h) (by simpa [mrk] using h1)
    simp only [List.set_cons_succ, List.count_cons]
    omega

theorem list_of_mrk {m : List Bool} {v : List SlotT} {root : Nat} (hl : m.length = 32) (h : ∀ i, mrk m i = true ↔ Rch v root i) : m = reachL v root := by
  refine List.ext_getElem (by rw [hl, reachL_len]) fun i h1 h2 => ?_
  have := h i
  simp only [mrk, List.getD_eq_getElem?_getD, List.getElem?_eq_getElem h1, Option.getD_some] at this
  simp only [reachL, List.getElem_map, List.getElem_range]
  by_cases hr : Rch v root i
  · simp [hr, this.2 hr]
  · have : ¬ m[i] = true := fun h' => hr (this.1 h')
    simp [hr, this]

/-- the impl's walk: marks, and what waits -/
structure JI (v : List SlotT) (root : Nat) (m : List Bool) (q : List Int) : Prop where
  ml : m.length = 32
  sound : ∀ i, mrk m i = true → Rch v root i
  qs : ∀ x ∈ q, 0 ≤ x ∧ x ≤ 31 ∧ (hasA v x.toNat = true → Rch v root x.toNat)
  cl : ∀ i, mrk m i = true → ∀ r ∈ refsA v i, hasA v r.toNat = true → mrk m r.toNat = true ∨ r ∈ q
  rt : hasA v root = true → mrk m root = true ∨ (root : Int) ∈ q

theorem mrk_rep (n i : Nat) : mrk (List.replicate n false) i = false := by
  unfold mrk
  simp only [List.getD_eq_getElem?_getD, List.getElem?_replicate]
  split <;> rfl
theorem JI.init {v : List SlotT} {root : Nat} (hr : root ≤ 31) : JI v root (List.replicate 32 false) [(root : Int)] where
  ml := by simp
  sound i h := by rw [mrk_rep] at h; cases h
  qs x hx := by
    simp at hx; subst hx
    exact ⟨by omega, by omega, fun h => by simpa using Rch.root (by simpa using h)⟩
  cl i h := by rw [mrk_rep] at h; cases h
  rt _ := .inr (by simp)

theorem JI.skip {v : List SlotT} (hv : VOk v) {root : Nat} {m : List Bool} {x : Int} {q : List Int} (h : JI v root m (x :: q)) (hx : x = 0 ∨ hasA v x.toNat = false ∨ mrk m x.toNat = true) : JI v root m q where
  ml := h.ml
  sound := h.sound
  qs y hy := h.qs y (by simp [hy])
  cl i hi r hr hh := by
    rcases h.cl i hi r hr hh with h' | h'
    · exact .inl h'
    · rcases List.mem_cons.1 h' with rfl | h'
      · rcases hx with rfl | hx | hx
        · have := hv.z; simp at hh; rw [this] at hh; cases hh
        · rw [hx] at hh; cases hh
        · exact .inl hx
      · exact .inr h'
  rt hh := by
    rcases h.rt hh with h' | h'
    · exact .inl h'
    · rcases List.mem_cons.1 h' with h' | h'
      · subst h'
        rcases hx with hx | hx | hx
        · have : root = 0 := by omega
          subst this
          have := hv.z; rw [this] at hh; cases hh
        · simp at hx; rw [hx] at hh; cases hh
        · exact .inl (by simpa using hx)
      · exact .inr h'

theorem JI.take {v : List SlotT} (hv : VOk v) {root : Nat} {m : List Bool} {x : Int} {q : List Int} (h : JI v root m (x :: q)) (hh : hasA v x.toNat = true) : JI v root (m.set x.toNat true) (q ++ refsA v x.toNat) := by
  obtain ⟨q1, q2, q3⟩ := h.qs x (by simp)
  have hlt : x.toNat < m.length := by rw [h.ml]; omega
  have hx := q3 hh
  refine ⟨by simp [h.ml], fun i hi => ?_, fun y hy => ?_, fun i hi r hr hr2 => ?_, fun hr => ?_⟩
  · rcases (mrk_set hlt).1 hi with rfl | hi
    · exact hx
    · exact h.sound i hi
  · rcases List.mem_append.1 hy with hy | hy
    · exact h.qs y (by simp [hy])
    · obtain ⟨a, b⟩ := hv.rf _ y hy
      exact ⟨a, b, fun h3 => Rch.step hx hy h3⟩
  · rcases (mrk_set hlt).1 hi with rfl | hi
    · exact .inr (by simp [hr])
    · rcases h.cl i hi r hr hr2 with h' | h'
      · exact .inl ((mrk_set hlt).2 (.inr h'))
      · rcases List.mem_cons.1 h' with rfl | h'
        · exact .inl ((mrk_set hlt).2 (.inl rfl))
        · exact .inr (by simp [h'])
  · rcases h.rt hr with h' | h'
    · exact .inl ((mrk_set hlt).2 (.inr h'))
    · rcases List.mem_cons.1 h' with h' | h'
      · exact .inl ((mrk_set hlt).2 (.inl (by omega)))
      · exact .inr (by simp [h'])

theorem JI.done {v : List SlotT} {root : Nat} {m : List Bool} (h : JI v root m []) : m = reachL v root := by
  refine list_of_mrk h.ml fun i => ⟨h.sound i, fun hr => ?_⟩
  induction hr with
  | root hh => rcases h.rt hh with h' | h'
               · exact h'
               · simp at h'
  | step _ hm hh ih => rcases h.cl _ ih _ hm hh with h' | h'
                       · exact h'
                       · simp at h'

/-- the reference's walk -/
structure JS (v : List SlotT) (root : Nat) (m : List Bool) (q : List Int) (k : Nat) : Prop where
  ml : m.length = 32
  kl : k ≤ q.length
  sound : ∀ i, mrk m i = true → Rch v root i ∧ (i : Int) ∈ q
  qs : ∀ x ∈ q, 0 ≤ x ∧ x ≤ 31 ∧ Rch v root x.toNat
  cl : ∀ j x, j < k → q[j]? = some x → ∀ r ∈ refsA v x.toNat, hasA v r.toNat = true → mrk m r.toNat = true
  rt : hasA v root = true → mrk m root = true

theorem JS.init {v : List SlotT} {root : Nat} (hr : root ≤ 31) (hh : hasA v root = true) : JS v root ((List.replicate 32 false).set root true) [(root : Int)] 0 := by
  have hlt : root < (List.replicate 32 false).length := by simp; omega
  refine ⟨by simp, by simp, fun i hi => ?_, fun x hx => ?_, fun j x hj => by omega, fun _ => (mrk_set hlt).2 (.inl rfl)⟩
  · rcases (mrk_set hlt).1 hi with rfl | hi
    · exact ⟨.root hh, by simp⟩
    · rw [mrk_rep] at hi; cases hi
  · simp at hx; subst hx
    exact ⟨by omega, by omega, by simpa using Rch.root hh⟩
theorem JS.none {v : List SlotT} {root : Nat} (hh : hasA v root = false) : JS v root (List.replicate 32 false) [] 0 :=
  ⟨by simp, by simp, fun i hi => (by rw [mrk_rep] at hi; cases hi), by simp, fun j x hj => by omega, fun h => (by rw [hh] at h; cases h)⟩

structure JS2 (v : List SlotT) (root : Nat) (m : List Bool) (q : List Int) (k : Nat) (x : Int) (i : Nat) : Prop where
  js : JS v root m q k
  at_ : q[k]? = some x
  il : i ≤ (refsA v x.toNat).length
  cl : ∀ j r, j < i → (refsA v x.toNat)[j]? = some r → hasA v r.toNat = true → mrk m r.toNat = true

theorem JS2.skip {v : List SlotT} {root : Nat} {m : List Bool} {q : List Int} {k i : Nat} {x r : Int} (h : JS2 v root m q k x i) (hr : (refsA v x.toNat)[i]? = some r) (hx : hasA v r.toNat = false ∨ mrk m r.toNat = true) : JS2 v root m q k x (i + 1) where
  js := h.js
  at_ := h.at_
  il := (List.getElem?_eq_some_iff.1 hr).1
  cl j r' hj hr' hh := by
    rcases Nat.lt_or_ge j i with h' | h'
    · exact h.cl j r' h' hr' hh
    · have : j = i := by omega
      subst this
      rw [hr] at hr'; cases hr'
      rcases hx with hx | hx
      · rw [hx] at hh; cases hh
      · exact hx

theorem JS2.push {v : List SlotT} (hv : VOk v) {root : Nat} {m : List Bool} {q : List Int} {k i : Nat} {x r : Int} (h : JS2 v root m q k x i) (hr : (refsA v x.toNat)[i]? = some r) (hh : hasA v r.toNat = true) : JS2 v root (m.set r.toNat true) (q ++ [r]) k x (i + 1) := by
  have hmem : r ∈ refsA v x.toNat := List.mem_of_getElem? hr
  obtain ⟨a, b⟩ := hv.rf _ r hmem
  have hlt : r.toNat < m.length := by rw [h.js.ml]; omega
  have hxq : x ∈ q := List.mem_of_getElem? h.at_
  have hR : Rch v root r.toNat := .step (h.js.qs x hxq).2.2 hmem hh
  have hk := (List.getElem?_eq_some_iff.1 h.at_).1
  refine ⟨⟨by simp [h.js.ml], by have := h.js.kl; simp; omega, fun i hi => ?_, fun y hy => ?_, fun j y hj hy r' hr' h3 => ?_, fun h3 => (mrk_set hlt).2 (.inr (h.js.rt h3))⟩, ?_, (List.getElem?_eq_some_iff.1 hr).1, fun j r' hj hr' h3 => ?_⟩
  · rcases (mrk_set hlt).1 hi with rfl | hi
    · exact ⟨hR, by simp; right; omega⟩
    · obtain ⟨c, d⟩ := h.js.sound i hi; exact ⟨c, by simp [d]⟩
  · rcases List.mem_append.1 hy with hy | hy
    · exact h.js.qs y hy
    · simp at hy; subst hy; exact ⟨a, b, hR⟩
  · rw [List.getElem?_append_left (by omega)] at hy
    exact (mrk_set hlt).2 (.inr (h.js.cl j y hj hy r' hr' h3))
  · rw [List.getElem?_append_left hk]; exact h.at_
  · rcases Nat.lt_or_ge j i with h' | h'
    · exact (mrk_set hlt).2 (.inr (h.cl j r' h' hr' h3))
    · have : j = i := by omega
      subst this
      rw [hr] at hr'; cases hr'
      exact (mrk_set hlt).2 (.inl rfl)

theorem JS2.next {v : List SlotT} {root : Nat} {m : List Bool} {q : List Int} {k : Nat} {x : Int} (h : JS2 v root m q k x (refsA v x.toNat).length) : JS v root m q (k + 1) where
  ml := h.js.ml
  kl := (List.getElem?_eq_some_iff.1 h.at_).1
  sound := h.js.sound
  qs := h.js.qs
  cl j y hj hy r hr hh := by
    rcases Nat.lt_or_ge j k with h' | h'
    · exact h.js.cl j y h' hy r hr hh
    · have : j = k := by omega
      subst this
      rw [h.at_] at hy; cases hy
      obtain ⟨i, hi, rfl⟩ := List.getElem_of_mem hr
      exact h.cl i _ hi (List.getElem?_eq_getElem hi) hh
  rt := h.js.rt

theorem JS.done {v : List SlotT} {root : Nat} {m : List Bool} {q : List Int} (h : JS v root m q q.length) : m = reachL v root := by
  refine list_of_mrk h.ml fun i => ⟨fun hi => (h.sound i hi).1, fun hr => ?_⟩
  induction hr with
  | root hh => exact h.rt hh
  | step _ hm hh ih =>
    obtain ⟨_, hq⟩ := h.sound _ ih
    obtain ⟨j, hj, he⟩ := List.getElem_of_mem hq
    exact h.cl j _ hj (by rw [List.getElem?_eq_getElem hj, he]) _ (by simpa using hm) hh
end Q1

namespace Q1
open Go Go.Vm Go.Proofs
set_option maxHeartbeats 4000000
set_option synthInstance.maxSize 2000
set_option synthInstance.maxHeartbeats 400000
set_option maxRecDepth 10000
set_option linter.unusedSimpArgs false
set_option linter.unusedVariables false


def slotCost (s : SlotT) : Int := 2 + s.2.1.2.1.length + s.2.1.2.2.1.length
def markK : List SlotT → Int → Int
  | [], k => k
  | s :: l, k => markK l (k + slotCost s)
theorem markK_take : ∀ (l : List SlotT) (k : Int) (i : Nat) (h : i < l.length), markK (l.take (i + 1)) k = markK (l.take i) k + slotCost l[i]
  | [], k, i, h => by simp at h
  | s :: l, k, 0, h => by simp [markK]
  | s :: l, k, i + 1, h => by
    simp only [List.take_succ_cons, markK, List.getElem_cons_succ]
    exact markK_take l _ i (by simpa using h)
theorem markSlotS_ok (l : List SlotT) (k : Int) (hl : Enc.lim 1048576 l) (h0 : 0 ≤ k) (h1 : k ≤ 1048576) : CallR Try.prog 29 [.ow 4 (l.map Enc.o), .int .i64 k] [] (.int .i64 (markK l k)) := by
  refine CallR.of_body (n := 46) (rs := [.tmp 4]) hY.ok Try.func29 rfl (by decide) rfl rfl rfl rfl (fun F => ?_)
  have hl1 : l.length ≤ 1048576 := hl.1
  repeat' first
    | ((have hk8 := Nat.add_zero); (first | refine SW.ops_seq hY fun y1 hy1 => ?_ | refine SW.ops hY ?_) <;> (simp only [hk8, T.asArr, T.tg, tgL, dnT, indexAddrM, wk, wl, eq_self, isCall, callT, opM, S.ev, S.put, entryS, thawAL, thawA, RM.run, RM.bind, RM.ofOpt, allocs, Heap.ups, Heap.put, Heap.at, List.replicate, Nat.reduceAdd, Nat.reduceSub, ofConst, nilAs, if_false, if_true, binT, binTy, unT, guardT, pickT, quietK, stripT, openT, reduceIte, boxM, allocM, loadM, storeM, fieldAddrM, lenT, extractT, subM, setOb, T.get, T.setp, T.offs, T.nw, nwL, T.cel, T.isNd, T.size, sizeL, TyI.agg, Ty.agg, Ty.isFn, zeroT, Nat.reduceLT, Nat.reduceEqDiff, sumT, kill, Y1, Y2, Y3, Y4, Y24, Y27, Y30, Y32]; clear hk8; first | subst hy1 | (try simp only [thenS, blockS, if_true, if_false, Nat.reduceEqDiff, reduceIte])))
    | exact absurd trivial hb
    | exact absurd hb (by decide)
    | exact absurd hcc (by decide)
    | refine SW.seq ?_
    | refine SW.block ?_
    | (refine SW.exit ?_; simp only [thenS, blockS, if_true, if_false, Nat.reduceEqDiff, reduceIte])
    | (refine SW.skip ?_; simp only [thenS, blockS])
  refine SW.loop (fun x : Nat × List SlotT × Int => ⟨[.ref 0 0 0 l.length, .int .i64 x.2.2, .undef, .undef, .undef, .int .i64 x.1, .undef, .undef, .undef, .undef, .undef, .undef, .undef, .undef, .undef, .undef, .undef, .undef, .undef, .undef, .undef, .undef, .undef, .undef, .undef, .undef, .undef, .undef, .undef, .undef, .undef, .undef, .undef, .undef, .undef, .undef, .undef, .undef, .undef, .undef, .undef, .undef, .undef, .undef, .undef, .undef], [[.arr 4 (x.2.1.map Enc.o) false]]⟩)
    (fun n x => n = l.length - x.1 ∧ x.1 ≤ l.length ∧ x.2.1.length = l.length ∧ (∀ j (h : j < l.length) (h' : j < x.2.1.length), x.1 ≤ j → x.2.1[j] = l[j]) ∧ x.2.2 = markK (l.take x.1) k ∧ 0 ≤ x.2.2 ∧ x.2.2 ≤ 1048576 + x.1 * 2097154) (n := l.length) (x := (0, l, k)) (Norm.re [0] (by decide) rfl (by simp only [eq_self, heapFits, rowFits, obFits, List.getElem?_cons_zero, List.getElem?_cons_succ, renL_o, renL_b, true_and, and_true, and_self]) (by simp [tmFits, T.ren])) ⟨rfl, Nat.zero_le _, rfl, fun _ _ _ _ => rfl, rfl, h0, by simp only; omega⟩ ?_
  rintro n ⟨i, m, c⟩ ⟨hn, hi, hm, hsame, hc0, hc1, hc2⟩
  simp only at hn hi hm hsame hc0 hc1 hc2 ⊢
  repeat' first
    | (refine SW.ops_seq hY fun y1 hy1 => ?_; simp only [T.asArr, T.tg, tgL, dnT, indexAddrM, wk, wl, eq_self, isCall, callT, opM, S.ev, S.put, entryS, thawAL, thawA, RM.run, RM.bind, RM.ofOpt, allocs, Heap.ups, Heap.put, Heap.at, List.replicate, Nat.reduceAdd, Nat.reduceSub, ofConst, nilAs, if_false, if_true, binT, binTy, unT, guardT, pickT, quietK, stripT, openT, reduceIte, boxM, allocM, loadM, storeM, fieldAddrM, lenT, extractT, subM, setOb, T.get, T.setp, T.offs, T.nw, nwL, T.cel, T.isNd, T.size, sizeL, TyI.agg, Ty.agg, Ty.isFn, zeroT, Nat.reduceLT, Nat.reduceEqDiff, sumT, kill, Y1, Y2, Y3, Y4, Y24, Y27, Y30, Y32]; subst hy1)
    | refine SW.seq ?_
  refine SW.cond rfl (fun hc => ?_) (fun hc => ?_)
  · have hlt : i < l.length := by simp at hc; omega
    have hltm : i < m.length := by omega
    have hltI : (i : Int) < (l.length : Int) := by omega
    have hmi : m[i] = l[i] := hsame i hlt hltm (Nat.le_refl _)
    have hmb : (i : Int) * 2097154 ≤ 1048576 * 2097154 := by omega
    have hg : (m.map Enc.o)[i]? = some (.nd [.bool l[i].1, .nd [.int .i64 l[i].2.1.1, .ow 1 (l[i].2.1.2.1.map Enc.o), .ow 1 (l[i].2.1.2.2.1.map Enc.o)]]) := by rw [map_get Enc.o m i hltm, hmi]; rfl
    have hgs : ∀ X : T, ((m.map Enc.o).set i X)[i]? = some X := fun X => List.getElem?_set_self (by simpa using hltm)
    have hli := hl.2 l[i] (List.getElem_mem hlt)
    have hn1 : l[i].2.1.2.1.length ≤ 1048576 := hli.2.1.2.1.1
    have hn2 : l[i].2.1.2.2.1.length ≤ 1048576 := hli.2.1.2.2.1.1
    have hw1 : IntKind.i64.wrap (c + 1) = c + 1 := wrap64 _ (by omega) (by omega)
    have hw2 : IntKind.i64.wrap (c + 1 + 1) = c + 2 := by rw [wrap64 _ (by omega) (by omega)]; omega
    refine SW.skip ?_
    simp only [thenS]
    refine SW.seq ?_
    refine SW.block ?_
    refine SW.ops_seq hY fun y1 hy1 => ?_
    simp only [hg, hgs, hltI, hw1, hw2, List.set_set, Int.reduceEq, Int.reduceNe, ne_eq, not_false_eq_true, Int.toNat_zero, Int.toNat_one, Int.le_refl, Int.zero_le_ofNat, Nat.zero_add, Int.toNat_natCast, T.asArr, T.tg, tgL, dnT, indexAddrM, wk, wl, eq_self, isCall, callT, opM, S.ev, S.put, entryS, thawAL, thawA, RM.run, RM.bind, RM.ofOpt, allocs, Heap.ups, Heap.put, Heap.at, List.replicate, Nat.reduceAdd, Nat.reduceSub, ofConst, nilAs, if_false, if_true, binT, binTy, unT, guardT, pickT, quietK, stripT, openT, reduceIte, boxM, allocM, loadM, storeM, fieldAddrM, lenT, extractT, subM, setOb, T.get, T.setp, T.offs, T.nw, nwL, T.cel, T.isNd, T.size, sizeL, TyI.agg, Ty.agg, Ty.isFn, zeroT, Nat.reduceLT, Nat.reduceEqDiff, sumT, kill, Y1, Y2, Y3, Y4, Y24, Y27, Y30, Y32]
    subst hy1
    refine SW.ops_seq hY fun y1 hy1 => ?_
    simp only [hg, hgs, hltI, hw1, hw2, List.set_set, Int.reduceEq, Int.reduceNe, ne_eq, not_false_eq_true, Int.toNat_zero, Int.toNat_one, Int.le_refl, Int.zero_le_ofNat, Nat.zero_add, Int.toNat_natCast, T.asArr, T.tg, tgL, dnT, indexAddrM, wk, wl, eq_self, isCall, callT, opM, S.ev, S.put, entryS, thawAL, thawA, RM.run, RM.bind, RM.ofOpt, allocs, Heap.ups, Heap.put, Heap.at, List.replicate, Nat.reduceAdd, Nat.reduceSub, ofConst, nilAs, if_false, if_true, binT, binTy, unT, guardT, pickT, quietK, stripT, openT, reduceIte, boxM, allocM, loadM, storeM, fieldAddrM, lenT, extractT, subM, setOb, T.get, T.setp, T.offs, T.nw, nwL, T.cel, T.isNd, T.size, sizeL, TyI.agg, Ty.agg, Ty.isFn, zeroT, Nat.reduceLT, Nat.reduceEqDiff, sumT, kill, Y1, Y2, Y3, Y4, Y24, Y27, Y30, Y32]
    subst hy1
    refine SW.ops_seq hY fun y1 hy1 => ?_
    simp only [hg, hgs, hltI, hw1, hw2, List.set_set, Int.reduceEq, Int.reduceNe, ne_eq, not_false_eq_true, Int.toNat_zero, Int.toNat_one, Int.le_refl, Int.zero_le_ofNat, Nat.zero_add, Int.toNat_natCast, T.asArr, T.tg, tgL, dnT, indexAddrM, wk, wl, eq_self, isCall, callT, opM, S.ev, S.put, entryS, thawAL, thawA, RM.run, RM.bind, RM.ofOpt, allocs, Heap.ups, Heap.put, Heap.at, List.replicate, Nat.reduceAdd, Nat.reduceSub, ofConst, nilAs, if_false, if_true, binT, binTy, unT, guardT, pickT, quietK, stripT, openT, reduceIte, boxM, allocM, loadM, storeM, fieldAddrM, lenT, extractT, subM, setOb, T.get, T.setp, T.offs, T.nw, nwL, T.cel, T.isNd, T.size, sizeL, TyI.agg, Ty.agg, Ty.isFn, zeroT, Nat.reduceLT, Nat.reduceEqDiff, sumT, kill, Y1, Y2, Y3, Y4, Y24, Y27, Y30, Y32]
    subst hy1
    refine SW.ops_seq hY fun y1 hy1 => ?_
    simp only [hg, hgs, hltI, hw1, hw2, List.set_set, Int.reduceEq, Int.reduceNe, ne_eq, not_false_eq_true, Int.toNat_zero, Int.toNat_one, Int.le_refl, Int.zero_le_ofNat, Nat.zero_add, Int.toNat_natCast, T.asArr, T.tg, tgL, dnT, indexAddrM, wk, wl, eq_self, isCall, callT, opM, S.ev, S.put, entryS, thawAL, thawA, RM.run, RM.bind, RM.ofOpt, allocs, Heap.ups, Heap.put, Heap.at, List.replicate, Nat.reduceAdd, Nat.reduceSub, ofConst, nilAs, if_false, if_true, binT, binTy, unT, guardT, pickT, quietK, stripT, openT, reduceIte, boxM, allocM, loadM, storeM, fieldAddrM, lenT, extractT, subM, setOb, T.get, T.setp, T.offs, T.nw, nwL, T.cel, T.isNd, T.size, sizeL, TyI.agg, Ty.agg, Ty.isFn, zeroT, Nat.reduceLT, Nat.reduceEqDiff, sumT, kill, Y1, Y2, Y3, Y4, Y24, Y27, Y30, Y32]
    subst hy1
    refine SW.norm (Norm.expel 0 0 i rfl (hgs _)) ?_
    simp only [thawA, thawAL, Heap.put, List.set_set, List.length_cons, List.length_nil, Nat.zero_add, Nat.add_zero, List.getElem?_cons_zero, List.set_cons_zero, List.cons_append, List.nil_append, List.length_map, Nat.reduceAdd]
    refine SW.ops_seq hY fun y1 hy1 => ?_
    simp only [hg, hgs, hltI, hw1, hw2, List.set_set, Int.reduceEq, Int.reduceNe, ne_eq, not_false_eq_true, Int.toNat_zero, Int.toNat_one, Int.le_refl, Int.zero_le_ofNat, Nat.zero_add, Int.toNat_natCast, T.asArr, T.tg, tgL, dnT, indexAddrM, wk, wl, eq_self, isCall, callT, opM, S.ev, S.put, entryS, thawAL, thawA, RM.run, RM.bind, RM.ofOpt, allocs, Heap.ups, Heap.put, Heap.at, List.replicate, Nat.reduceAdd, Nat.reduceSub, ofConst, nilAs, if_false, if_true, binT, binTy, unT, guardT, pickT, quietK, stripT, openT, reduceIte, boxM, allocM, loadM, storeM, fieldAddrM, lenT, extractT, subM, setOb, T.get, T.setp, T.offs, T.nw, nwL, T.cel, T.isNd, T.size, sizeL, TyI.agg, Ty.agg, Ty.isFn, zeroT, Nat.reduceLT, Nat.reduceEqDiff, sumT, kill, Y1, Y2, Y3, Y4, Y24, Y27, Y30, Y32]
    refine vcall_to [.ios] (markInt_ok l[i].2.1.2.1 (c + 2) hn1 (by omega) (by omega)) (by first | rfl | (simp [-List.map_set, -List.map_append, pass1, modeOf, giveS, giveSL, fixEs, Heap.at, Heap.put, T.cel, cloL, cloAL, T.cloA]; first | rfl | exact ⟨rfl, rfl, rfl⟩)) (by first | rfl | (simp [-List.map_set, -List.map_append, pass2, T.tg, tgL, upT, lendM, lendA, lendAL, elemsM, Heap.at, marks_len, subM, T.get, T.offs, RM.bind, RM.run]; done) | (simp [-List.map_set, -List.map_append, pass2, T.tg, tgL, upT, lendM, lendA, lendAL, elemsM, Heap.at, marks_len, subM, T.get, T.offs, RM.bind, RM.run]; rfl)) rfl (by first | rfl | (simp [-List.map_set, -List.map_append, fillB, T.cloO, T.clo, cloL, T.asArr, T.tg, tgL, dnT, obOf, Heap.at, Heap.put]; try rfl)) ?_
    simp only [hg, hgs, hltI, hw1, hw2, List.set_set, Int.reduceEq, Int.reduceNe, ne_eq, not_false_eq_true, Int.toNat_zero, Int.toNat_one, Int.le_refl, Int.zero_le_ofNat, Nat.zero_add, Int.toNat_natCast, T.asArr, T.tg, tgL, dnT, indexAddrM, wk, wl, eq_self, isCall, callT, opM, S.ev, S.put, entryS, thawAL, thawA, RM.run, RM.bind, RM.ofOpt, allocs, Heap.ups, Heap.put, Heap.at, List.replicate, Nat.reduceAdd, Nat.reduceSub, ofConst, nilAs, if_false, if_true, binT, binTy, unT, guardT, pickT, quietK, stripT, openT, reduceIte, boxM, allocM, loadM, storeM, fieldAddrM, lenT, extractT, subM, setOb, T.get, T.setp, T.offs, T.nw, nwL, T.cel, T.isNd, T.size, sizeL, TyI.agg, Ty.agg, Ty.isFn, zeroT, Nat.reduceLT, Nat.reduceEqDiff, sumT, kill, Y1, Y2, Y3, Y4, Y24, Y27, Y30, Y32]; try simp only [thenS, blockS, if_true, if_false, Nat.reduceEqDiff, reduceIte]
    subst hy1
    refine SW.ops hY ?_
    simp only [hg, hgs, hltI, hw1, hw2, List.set_set, Int.reduceEq, Int.reduceNe, ne_eq, not_false_eq_true, Int.toNat_zero, Int.toNat_one, Int.le_refl, Int.zero_le_ofNat, Nat.zero_add, Int.toNat_natCast, T.asArr, T.tg, tgL, dnT, indexAddrM, wk, wl, eq_self, isCall, callT, opM, S.ev, S.put, entryS, thawAL, thawA, RM.run, RM.bind, RM.ofOpt, allocs, Heap.ups, Heap.put, Heap.at, List.replicate, Nat.reduceAdd, Nat.reduceSub, ofConst, nilAs, if_false, if_true, binT, binTy, unT, guardT, pickT, quietK, stripT, openT, reduceIte, boxM, allocM, loadM, storeM, fieldAddrM, lenT, extractT, subM, setOb, T.get, T.setp, T.offs, T.nw, nwL, T.cel, T.isNd, T.size, sizeL, TyI.agg, Ty.agg, Ty.isFn, zeroT, Nat.reduceLT, Nat.reduceEqDiff, sumT, kill, Y1, Y2, Y3, Y4, Y24, Y27, Y30, Y32]
    refine vcall_to [.ios] (markInt_ok l[i].2.1.2.2.1 (c + 2 + l[i].2.1.2.1.length) hn2 (by omega) (by omega)) (by first | rfl | (simp [-List.map_set, -List.map_append, pass1, modeOf, giveS, giveSL, fixEs, Heap.at, Heap.put, T.cel, cloL, cloAL, T.cloA]; first | rfl | exact ⟨rfl, rfl, rfl⟩)) (by first | rfl | (simp [-List.map_set, -List.map_append, pass2, T.tg, tgL, upT, lendM, lendA, lendAL, elemsM, Heap.at, marks_len, subM, T.get, T.offs, RM.bind, RM.run]; done) | (simp [-List.map_set, -List.map_append, pass2, T.tg, tgL, upT, lendM, lendA, lendAL, elemsM, Heap.at, marks_len, subM, T.get, T.offs, RM.bind, RM.run]; rfl)) rfl (by first | rfl | (simp [-List.map_set, -List.map_append, fillB, T.cloO, T.clo, cloL, T.asArr, T.tg, tgL, dnT, obOf, Heap.at, Heap.put]; try rfl)) ?_
    simp only [hg, hgs, hltI, hw1, hw2, List.set_set, Int.reduceEq, Int.reduceNe, ne_eq, not_false_eq_true, Int.toNat_zero, Int.toNat_one, Int.le_refl, Int.zero_le_ofNat, Nat.zero_add, Int.toNat_natCast, T.asArr, T.tg, tgL, dnT, indexAddrM, wk, wl, eq_self, isCall, callT, opM, S.ev, S.put, entryS, thawAL, thawA, RM.run, RM.bind, RM.ofOpt, allocs, Heap.ups, Heap.put, Heap.at, List.replicate, Nat.reduceAdd, Nat.reduceSub, ofConst, nilAs, if_false, if_true, binT, binTy, unT, guardT, pickT, quietK, stripT, openT, reduceIte, boxM, allocM, loadM, storeM, fieldAddrM, lenT, extractT, subM, setOb, T.get, T.setp, T.offs, T.nw, nwL, T.cel, T.isNd, T.size, sizeL, TyI.agg, Ty.agg, Ty.isFn, zeroT, Nat.reduceLT, Nat.reduceEqDiff, sumT, kill, Y1, Y2, Y3, Y4, Y24, Y27, Y30, Y32]; try simp only [thenS, blockS, if_true, if_false, Nat.reduceEqDiff, reduceIte]
    repeat' first
      | ((have hk8 := Nat.add_zero); (first | refine SW.ops_seq hY fun y1 hy1 => ?_ | refine SW.ops hY ?_) <;> (simp only [hk8, hg, hgs, hltI, hw1, hw2, List.set_set, Int.reduceEq, Int.reduceNe, ne_eq, not_false_eq_true, Int.toNat_zero, Int.toNat_one, Int.le_refl, Int.zero_le_ofNat, Nat.zero_add, Int.toNat_natCast, T.asArr, T.tg, tgL, dnT, indexAddrM, wk, wl, eq_self, isCall, callT, opM, S.ev, S.put, entryS, thawAL, thawA, RM.run, RM.bind, RM.ofOpt, allocs, Heap.ups, Heap.put, Heap.at, List.replicate, Nat.reduceAdd, Nat.reduceSub, ofConst, nilAs, if_false, if_true, binT, binTy, unT, guardT, pickT, quietK, stripT, openT, reduceIte, boxM, allocM, loadM, storeM, fieldAddrM, lenT, extractT, subM, setOb, T.get, T.setp, T.offs, T.nw, nwL, T.cel, T.isNd, T.size, sizeL, TyI.agg, Ty.agg, Ty.isFn, zeroT, Nat.reduceLT, Nat.reduceEqDiff, sumT, kill, Y1, Y2, Y3, Y4, Y24, Y27, Y30, Y32]; clear hk8; first | subst hy1 | (try simp only [thenS, blockS, if_true, if_false, Nat.reduceEqDiff, reduceIte])))
      | exact absurd trivial hb
      | exact absurd hb (by decide)
      | exact absurd hcc (by decide)
      | refine SW.seq ?_
      | refine SW.block ?_
      | (refine SW.exit ?_; simp only [thenS, blockS, if_true, if_false, Nat.reduceEqDiff, reduceIte])
      | (refine SW.skip ?_; simp only [thenS, blockS])
    rw [wrap64 _ (by omega) (by omega)]
    let s' : SlotT := (c.tmod 3 == 0, (c + 1, marks l[i].2.1.2.1.length (c + 2), marks l[i].2.1.2.2.1.length (c + 2 + l[i].2.1.2.1.length), ()), ())
    refine ⟨n - 1, (i + 1, m.set i s', c + 2 + l[i].2.1.2.1.length + l[i].2.1.2.2.1.length), by omega, ⟨by simp only; omega, by simp only; omega, by simp [hm], fun j h h' hij => ?_, ?_, by simp only; omega, by simp only; omega⟩, ?_⟩
    · simp only at hij h' ⊢
      rw [List.getElem_set_ne (by omega)]; exact hsame j h (by omega) (by omega)
    · simp only; rw [markK_take l k i hlt, ← hc0]; simp only [slotCost]; omega
    · refine Norm.trans (Norm.soakArr 0 0 i rfl (hgs _)) ?_
      refine Norm.re [0] (by decide) rfl ?_ (by simp [tmFits, T.ren])
      simp only [soakS, soakL, Heap.at, Heap.put, List.getElem?_cons_zero, List.getElem?_cons_succ, List.set_cons_zero, List.set_cons_succ, List.length_map, marks_len, and_self, if_true, List.set_set, heapFits, rowFits, obFits, renL_o, true_and, and_true]
      rw [List.map_set]; rfl
  · have hge : i = l.length := by
      have : ¬ i < l.length := by simp at hc; omega
      omega
    subst hge
    rw [List.take_length] at hc0
    repeat' first
      | ((have hk8 := Nat.add_zero); (first | refine SW.ops_seq hY fun y1 hy1 => ?_ | refine SW.ops hY ?_ | (simp only [k8]; refine ⟨fun hb => ?_, fun hb => ?_⟩ <;> (try replace hb := Bool.eq_false_iff.2 hb) <;> (first | exact absurd hb (by decide) | replace hk8 := hb))) <;> (simp only [hk8, T.asArr, T.tg, tgL, dnT, indexAddrM, wk, wl, eq_self, isCall, callT, opM, S.ev, S.put, entryS, thawAL, thawA, RM.run, RM.bind, RM.ofOpt, allocs, Heap.ups, Heap.put, Heap.at, List.replicate, Nat.reduceAdd, Nat.reduceSub, ofConst, nilAs, if_false, if_true, binT, binTy, unT, guardT, pickT, quietK, stripT, openT, reduceIte, boxM, allocM, loadM, storeM, fieldAddrM, lenT, extractT, subM, setOb, T.get, T.setp, T.offs, T.nw, nwL, T.cel, T.isNd, T.size, sizeL, TyI.agg, Ty.agg, Ty.isFn, zeroT, Nat.reduceLT, Nat.reduceEqDiff, sumT, kill, Y1, Y2, Y3, Y4, Y24, Y27, Y30, Y32]; clear hk8; first | subst hy1 | (try simp only [thenS, blockS, if_true, if_false, Nat.reduceEqDiff, reduceIte])))
      | exact absurd trivial hb
      | exact absurd hb (by decide)
      | exact absurd hcc (by decide)
      | refine SW.seq ?_
      | refine SW.block ?_
      | (refine SW.cond rfl (fun hcc => ?_) (fun hcc => ?_))
      | (refine SW.exit ?_; simp only [thenS, blockS, if_true, if_false, Nat.reduceEqDiff, reduceIte])
      | (refine SW.skip ?_; simp only [thenS, blockS])
      | refine SW.ret (show RetQ _ _ _ _ _ _ _ from ⟨.inr rfl, [_], [1], [_], _, rfl, rfl, rfl, rfl, rfl, ?_⟩)
    simp [tupOf, fixEs, hc0]
end Q1

namespace Q1
open Go Go.Vm Go.Proofs
set_option maxHeartbeats 4000000
set_option synthInstance.maxSize 2000
set_option synthInstance.maxHeartbeats 400000
set_option maxRecDepth 10000
set_option linter.unusedSimpArgs false
set_option linter.unusedVariables false

theorem laws_toIntS_ok (l : List Int) (hl : Enc.lim 1048576 l) : CallR Try.prog 178 [.sl .b (l.map Enc.b)] [] (.ow 1 (l.map Enc.o)) := by
  refine CallR.of_body (n := 22) (rs := [.tmp 2]) hY.ok Try.func178 rfl (by decide) rfl rfl rfl rfl (fun F => ?_)
  have hl1 : l.length ≤ 1048576 := hl.1
  repeat' first
    | ((have hk8 := Nat.add_zero); (first | refine SW.ops_seq hY fun y1 hy1 => ?_ | refine SW.ops hY ?_ | (simp only [k8]; refine ⟨fun hb => ?_, fun hb => ?_⟩ <;> (try replace hb := Bool.eq_false_iff.2 hb) <;> (first | exact absurd hb (by decide) | replace hk8 := hb))) <;> (simp only [hk8, mk_fill _ 27 l hl.1 (.int .i64 0) 1 8 _ Y27 Y3 rfl rfl (by decide), T.asArr, T.tg, tgL, dnT, indexAddrM, wk, wl, eq_self, isCall, callT, opM, S.ev, S.put, entryS, thawAL, thawA, RM.run, RM.bind, RM.ofOpt, allocs, Heap.ups, Heap.put, Heap.at, List.replicate, Nat.reduceAdd, Nat.reduceSub, ofConst, nilAs, if_false, if_true, binT, binTy, unT, guardT, pickT, quietK, stripT, openT, reduceIte, boxM, allocM, loadM, storeM, fieldAddrM, lenT, extractT, subM, setOb, T.get, T.setp, T.offs, T.nw, nwL, T.cel, T.isNd, T.size, sizeL, TyI.agg, Ty.agg, Ty.isFn, zeroT, Nat.reduceLT, Nat.reduceEqDiff, sumT, kill, Y3, Y4, Y27]; clear hk8; first | subst hy1 | (try simp only [thenS, blockS, if_true, if_false, Nat.reduceEqDiff, reduceIte])))
    | exact absurd trivial hb
    | exact absurd hb (by decide)
    | exact absurd hcc (by decide)
    | refine SW.seq ?_
    | refine SW.block ?_
    | (refine SW.exit ?_; simp only [thenS, blockS, if_true, if_false, Nat.reduceEqDiff, reduceIte])
    | (refine SW.skip ?_; simp only [thenS, blockS])
  refine SW.loop (fun i : Nat => ⟨[.sl .b (l.map Enc.b), .undef, .undef, .ref 1 0 0 l.length, .int .i64 i, .undef, .undef, .undef, .undef, .undef, .undef, .undef, .undef, .undef, .undef, .undef, .undef, .undef, .undef, .undef, .undef, .undef], [[], [.arr 1 (fillG (.int .i64 0) l i) false]]⟩)
    (fun n i => n = l.length - i ∧ i ≤ l.length) (n := l.length) (x := 0) (Norm.to 0 rfl (by simp [weakL])) ⟨rfl, Nat.zero_le _⟩ ?_
  rintro n i ⟨hn, hi⟩
  repeat' first
    | (refine SW.ops_seq hY fun y1 hy1 => ?_; simp only [T.asArr, T.tg, tgL, dnT, indexAddrM, wk, wl, eq_self, isCall, callT, opM, S.ev, S.put, entryS, thawAL, thawA, RM.run, RM.bind, RM.ofOpt, allocs, Heap.ups, Heap.put, Heap.at, List.replicate, Nat.reduceAdd, Nat.reduceSub, ofConst, nilAs, if_false, if_true, binT, binTy, unT, guardT, pickT, quietK, stripT, openT, reduceIte, boxM, allocM, loadM, storeM, fieldAddrM, lenT, extractT, subM, setOb, T.get, T.setp, T.offs, T.nw, nwL, T.cel, T.isNd, T.size, sizeL, TyI.agg, Ty.agg, Ty.isFn, zeroT, Nat.reduceLT, Nat.reduceEqDiff, sumT, kill, Y3, Y4, Y27]; subst hy1)
    | refine SW.seq ?_
  refine SW.cond rfl (fun hc => ?_) (fun hc => ?_)
  · have hlt : i < l.length := by simpa using hc
    have hltI : (i : Int) < (l.length : Int) := by omega
    have hg : (l.map Enc.b)[i]? = some (.int .i64 l[i]) := map_get Enc.b l i hlt
    have hf : (fillG (.int .i64 0) l i)[i]? = some (.int .i64 0) := fill_get _ l i hlt
    have hfl : (fillG (.int .i64 0) l i).length = l.length := fill_len _ l i hi
    repeat' first
      | ((have hk8 := Nat.add_zero); (first | refine SW.ops_seq hY fun y1 hy1 => ?_ | refine SW.ops hY ?_ | (simp only [k8]; refine ⟨fun hb => ?_, fun hb => ?_⟩ <;> (try replace hb := Bool.eq_false_iff.2 hb) <;> (first | exact absurd hb (by decide) | replace hk8 := hb))) <;> (simp only [hk8, hg, hf, hfl, hltI, Nat.zero_add, T.asArr, T.tg, tgL, dnT, indexAddrM, wk, wl, eq_self, isCall, callT, opM, S.ev, S.put, entryS, thawAL, thawA, RM.run, RM.bind, RM.ofOpt, allocs, Heap.ups, Heap.put, Heap.at, List.replicate, Nat.reduceAdd, Nat.reduceSub, ofConst, nilAs, if_false, if_true, binT, binTy, unT, guardT, pickT, quietK, stripT, openT, reduceIte, boxM, allocM, loadM, storeM, fieldAddrM, lenT, extractT, subM, setOb, T.get, T.setp, T.offs, T.nw, nwL, T.cel, T.isNd, T.size, sizeL, TyI.agg, Ty.agg, Ty.isFn, zeroT, Nat.reduceLT, Nat.reduceEqDiff, sumT, kill, Y3, Y4, Y27]; clear hk8; first | subst hy1 | (try simp only [thenS, blockS, if_true, if_false, Nat.reduceEqDiff, reduceIte])))
      | exact absurd trivial hb
      | exact absurd hb (by decide)
      | exact absurd hcc (by decide)
      | refine SW.seq ?_
      | refine SW.block ?_
      | (refine SW.cond rfl (fun hcc => ?_) (fun hcc => ?_))
      | (refine SW.exit ?_; simp only [thenS, blockS, if_true, if_false, Nat.reduceEqDiff, reduceIte])
      | (refine SW.skip ?_; simp only [thenS, blockS])
    refine ⟨n - 1, i + 1, by omega, ⟨by omega, by omega⟩, ?_⟩
    rw [wrap64 _ (by omega) (by omega)]
    refine Norm.trans (Norm.fill (l := l) 1 0 rfl hlt (by first | rfl | (simp [soakS, soakL, Heap.at, Heap.put]; rfl))) ?_
    refine Norm.re [0, 1] (by decide) rfl ?_ (by simp [tmFits, T.ren])
    first | (simp [heapFits, rowFits, obFits, soakS, soakL, Heap.at, Heap.put]; exact renL_fill _ _ _ _ rfl) | exact ⟨trivial, ⟨rfl, rfl, renL_fill _ _ _ _ rfl⟩, trivial⟩
  · have hge : i = l.length := by
      have : ¬ i < l.length := by simpa using hc
      omega
    subst hge
    repeat' first
      | ((have hk8 := Nat.add_zero); (first | refine SW.ops_seq hY fun y1 hy1 => ?_ | refine SW.ops hY ?_ | (simp only [k8]; refine ⟨fun hb => ?_, fun hb => ?_⟩ <;> (try replace hb := Bool.eq_false_iff.2 hb) <;> (first | exact absurd hb (by decide) | replace hk8 := hb))) <;> (simp only [hk8, T.asArr, T.tg, tgL, dnT, indexAddrM, wk, wl, eq_self, isCall, callT, opM, S.ev, S.put, entryS, thawAL, thawA, RM.run, RM.bind, RM.ofOpt, allocs, Heap.ups, Heap.put, Heap.at, List.replicate, Nat.reduceAdd, Nat.reduceSub, ofConst, nilAs, if_false, if_true, binT, binTy, unT, guardT, pickT, quietK, stripT, openT, reduceIte, boxM, allocM, loadM, storeM, fieldAddrM, lenT, extractT, subM, setOb, T.get, T.setp, T.offs, T.nw, nwL, T.cel, T.isNd, T.size, sizeL, TyI.agg, Ty.agg, Ty.isFn, zeroT, Nat.reduceLT, Nat.reduceEqDiff, sumT, kill, Y3, Y4, Y27]; clear hk8; first | subst hy1 | (try simp only [thenS, blockS, if_true, if_false, Nat.reduceEqDiff, reduceIte])))
      | exact absurd trivial hb
      | exact absurd hb (by decide)
      | exact absurd hcc (by decide)
      | refine SW.seq ?_
      | refine SW.block ?_
      | (refine SW.cond rfl (fun hcc => ?_) (fun hcc => ?_))
      | (refine SW.exit ?_; simp only [thenS, blockS, if_true, if_false, Nat.reduceEqDiff, reduceIte])
      | (refine SW.skip ?_; simp only [thenS, blockS])
    refine SW.ret (show RetQ _ _ _ _ _ _ _ from ⟨.inr rfl, [.ref 1 0 0 l.length], [1], [.ow 1 (l.map Enc.o)], [[], [.gone]], ⟨rfl, ?_, rfl, ?_, rfl, rfl⟩⟩)
    · simp [pass1, modeOf, giveS, Heap.at, Heap.put, fill_all, fixEs, ioAt, ioKs, ioM, ioT, T.cel, T.clo, T.cloA, cloAL]
    · simp [cloL, T.clo, T.clP, clPL]
theorem laws_toObj_ok (x : (Int × (List Int) × (List Int) × Unit)) (hx : Enc.lim 1048576 x) : CallR Try.prog 145 [.nd [.int .i64 x.1, .sl .b (x.2.1.map Enc.b), .sl .b (x.2.2.1.map Enc.b)]] [] (.nd [.int .i64 x.1, .ow 1 (x.2.1.map Enc.o), .ow 1 (x.2.2.1.map Enc.o)]) := by
  refine CallR.of_body (n := 16) (rs := [.cell 2 30]) hY.ok Try.func145 rfl (by decide) rfl rfl rfl rfl (fun F => ?_)
  repeat' first
    | ((have hk8 := Nat.add_zero); (first | refine SW.ops_seq hY fun y1 hy1 => ?_ | refine SW.ops hY ?_ | refine vcall_to [] (laws_toIntS_ok x.2.1 hx.2.1) rfl (by first | rfl | (simp [pass2, T.tg, tgL, upT, lendM, lendA, lendAL, elemsM, Heap.at, RM.bind, RM.run]; done) | (simp [pass2, T.tg, tgL, upT, lendM, lendA, lendAL, elemsM, Heap.at, RM.bind, RM.run]; rfl)) (by first | rfl | simp [resClo, T.clo, cloL, T.clP, clPL]) rfl ?_ | refine vcall_to [] (laws_toIntS_ok x.2.2.1 hx.2.2.1) rfl (by first | rfl | (simp [pass2, T.tg, tgL, upT, lendM, lendA, lendAL, elemsM, Heap.at, RM.bind, RM.run]; done) | (simp [pass2, T.tg, tgL, upT, lendM, lendA, lendAL, elemsM, Heap.at, RM.bind, RM.run]; rfl)) (by first | rfl | simp [resClo, T.clo, cloL, T.clP, clPL]) rfl ?_ | (simp only [k8]; refine ⟨fun hb => ?_, fun hb => ?_⟩ <;> (try replace hb := Bool.eq_false_iff.2 hb) <;> (first | exact absurd hb (by decide) | replace hk8 := hb))) <;> (simp only [hk8, T.asArr, T.tg, tgL, dnT, indexAddrM, wk, wl, eq_self, isCall, callT, opM, S.ev, S.put, entryS, thawAL, thawA, RM.run, RM.bind, RM.ofOpt, allocs, Heap.ups, Heap.put, Heap.at, List.replicate, Nat.reduceAdd, Nat.reduceSub, ofConst, nilAs, if_false, if_true, binT, binTy, unT, guardT, pickT, quietK, stripT, openT, reduceIte, boxM, allocM, loadM, storeM, fieldAddrM, lenT, extractT, subM, setOb, T.get, T.setp, T.offs, T.nw, nwL, T.cel, T.isNd, T.size, sizeL, TyI.agg, Ty.agg, Ty.isFn, zeroT, Nat.reduceLT, Nat.reduceEqDiff, sumT, kill, Y1, Y2, Y3, Y27, Y30, Y101]; clear hk8; first | subst hy1 | (try simp only [thenS, blockS, if_true, if_false, Nat.reduceEqDiff, reduceIte])))
    | exact absurd trivial hb
    | exact absurd hb (by decide)
    | exact absurd hcc (by decide)
    | refine SW.seq ?_
    | refine SW.block ?_
    | (refine SW.cond rfl (fun hcc => ?_) (fun hcc => ?_))
    | (refine SW.exit ?_; simp only [thenS, blockS, if_true, if_false, Nat.reduceEqDiff, reduceIte])
    | (refine SW.skip ?_; simp only [thenS, blockS])
  refine SW.ret (show RetQ _ _ _ _ _ _ _ from ⟨.inr rfl, _, [0], [.nd [.int .i64 x.1, .ow 1 (x.2.1.map Enc.o), .ow 1 (x.2.2.1.map Enc.o)]], ?_, ⟨rfl, ?_, rfl, ?_, rfl, rfl⟩⟩)
  rotate_left
  · first | rfl | (simp [pass1, modeOf, giveS, giveSL, Heap.at, Heap.put, fixEs, ioAt, ioKs, ioM, ioT, T.cel, T.clo, cloL, T.cloA, cloAL]; rfl)
  · first | rfl | simp [cloL, T.clo, T.clP, clPL]
theorem laws_toSlot_ok (x : (Bool × ((Int × (List Int) × (List Int) × Unit)) × Unit)) (hx : Enc.lim 1048576 x) : CallR Try.prog 84 [.nd [.bool x.1, .nd [.int .i64 x.2.1.1, .sl .b (x.2.1.2.1.map Enc.b), .sl .b (x.2.1.2.2.1.map Enc.b)]]] [] (.nd [.bool x.1, .nd [.int .i64 x.2.1.1, .ow 1 (x.2.1.2.1.map Enc.o), .ow 1 (x.2.1.2.2.1.map Enc.o)]]) := by
  refine CallR.of_body (n := 12) (rs := [.cell 2 32]) hY.ok Try.func84 rfl (by decide) rfl rfl rfl rfl (fun F => ?_)
  repeat' first
    | ((have hk8 := Nat.add_zero); (first | refine SW.ops_seq hY fun y1 hy1 => ?_ | refine SW.ops hY ?_ | refine vcall_to [] (laws_toObj_ok x.2.1 hx.2.1) rfl (by first | rfl | (simp [pass2, T.tg, tgL, upT, lendM, lendA, lendAL, elemsM, Heap.at, RM.bind, RM.run]; done) | (simp [pass2, T.tg, tgL, upT, lendM, lendA, lendAL, elemsM, Heap.at, RM.bind, RM.run]; rfl)) (by first | rfl | simp [resClo, T.clo, cloL, T.clP, clPL]) rfl ?_ | (simp only [k8]; refine ⟨fun hb => ?_, fun hb => ?_⟩ <;> (try replace hb := Bool.eq_false_iff.2 hb) <;> (first | exact absurd hb (by decide) | replace hk8 := hb))) <;> (simp only [hk8, T.asArr, T.tg, tgL, dnT, indexAddrM, wk, wl, eq_self, isCall, callT, opM, S.ev, S.put, entryS, thawAL, thawA, RM.run, RM.bind, RM.ofOpt, allocs, Heap.ups, Heap.put, Heap.at, List.replicate, Nat.reduceAdd, Nat.reduceSub, ofConst, nilAs, if_false, if_true, binT, binTy, unT, guardT, pickT, quietK, stripT, openT, reduceIte, boxM, allocM, loadM, storeM, fieldAddrM, lenT, extractT, subM, setOb, T.get, T.setp, T.offs, T.nw, nwL, T.cel, T.isNd, T.size, sizeL, TyI.agg, Ty.agg, Ty.isFn, zeroT, Nat.reduceLT, Nat.reduceEqDiff, sumT, kill, Y1, Y3, Y4, Y27, Y30, Y32, Y101, Y103]; clear hk8; first | subst hy1 | (try simp only [thenS, blockS, if_true, if_false, Nat.reduceEqDiff, reduceIte])))
    | exact absurd trivial hb
    | exact absurd hb (by decide)
    | exact absurd hcc (by decide)
    | refine SW.seq ?_
    | refine SW.block ?_
    | (refine SW.cond rfl (fun hcc => ?_) (fun hcc => ?_))
    | (refine SW.exit ?_; simp only [thenS, blockS, if_true, if_false, Nat.reduceEqDiff, reduceIte])
    | (refine SW.skip ?_; simp only [thenS, blockS])
  refine SW.ret (show RetQ _ _ _ _ _ _ _ from ⟨.inr rfl, _, [0], [.nd [.bool x.1, .nd [.int .i64 x.2.1.1, .ow 1 (x.2.1.2.1.map Enc.o), .ow 1 (x.2.1.2.2.1.map Enc.o)]]], ?_, ⟨rfl, ?_, rfl, ?_, rfl, rfl⟩⟩)
  rotate_left
  · first | rfl | (simp [pass1, modeOf, giveS, giveSL, Heap.at, Heap.put, fixEs, ioAt, ioKs, ioM, ioT, T.cel, T.clo, cloL, T.cloA, cloAL]; rfl)
  · first | rfl | simp [cloL, T.clo, T.clP, clPL]
theorem laws_toSlotS_ok (l : List ((Bool × ((Int × (List Int) × (List Int) × Unit)) × Unit))) (hl : Enc.lim 1048576 l) : CallR Try.prog 26 [.sl .b (l.map Enc.b)] [] (.ow 4 (l.map Enc.o)) := by
  refine CallR.of_body (n := 23) (rs := [.tmp 2]) hY.ok Try.func26 rfl (by decide) rfl rfl rfl rfl (fun F => ?_)
  have hl1 : l.length ≤ 1048576 := hl.1
  repeat' first
    | ((have hk8 := Nat.add_zero); (first | refine SW.ops_seq hY fun y1 hy1 => ?_ | refine SW.ops hY ?_ | (simp only [k8]; refine ⟨fun hb => ?_, fun hb => ?_⟩ <;> (try replace hb := Bool.eq_false_iff.2 hb) <;> (first | exact absurd hb (by decide) | replace hk8 := hb))) <;> (simp only [hk8, mk_fill _ 24 l hl.1 (.nd [.bool false, .nd [.int .i64 0, .nils 1, .nils 1]]) 4 64 _ Y24 Y32 rfl rfl (by decide), T.asArr, T.tg, tgL, dnT, indexAddrM, wk, wl, eq_self, isCall, callT, opM, S.ev, S.put, entryS, thawAL, thawA, RM.run, RM.bind, RM.ofOpt, allocs, Heap.ups, Heap.put, Heap.at, List.replicate, Nat.reduceAdd, Nat.reduceSub, ofConst, nilAs, if_false, if_true, binT, binTy, unT, guardT, pickT, quietK, stripT, openT, reduceIte, boxM, allocM, loadM, storeM, fieldAddrM, lenT, extractT, subM, setOb, T.get, T.setp, T.offs, T.nw, nwL, T.cel, T.isNd, T.size, sizeL, TyI.agg, Ty.agg, Ty.isFn, zeroT, Nat.reduceLT, Nat.reduceEqDiff, sumT, kill, Y3, Y4, Y24, Y27, Y30, Y32, Y41, Y101, Y103]; clear hk8; first | subst hy1 | (try simp only [thenS, blockS, if_true, if_false, Nat.reduceEqDiff, reduceIte])))
    | exact absurd trivial hb
    | exact absurd hb (by decide)
    | exact absurd hcc (by decide)
    | refine SW.seq ?_
    | refine SW.block ?_
    | (refine SW.exit ?_; simp only [thenS, blockS, if_true, if_false, Nat.reduceEqDiff, reduceIte])
    | (refine SW.skip ?_; simp only [thenS, blockS])
  refine SW.loop (fun i : Nat => ⟨[.sl .b (l.map Enc.b), .undef, .undef, .ref 1 0 0 l.length, .int .i64 i, .undef, .undef, .undef, .undef, .undef, .undef, .undef, .undef, .undef, .undef, .undef, .undef, .undef, .undef, .undef, .undef, .undef, .undef], [[], [.arr 4 (fillG (.nd [.bool false, .nd [.int .i64 0, .nils 1, .nils 1]]) l i) false]]⟩)
    (fun n i => n = l.length - i ∧ i ≤ l.length) (n := l.length) (x := 0) (Norm.to 0 rfl (by simp [weakL])) ⟨rfl, Nat.zero_le _⟩ ?_
  rintro n i ⟨hn, hi⟩
  repeat' first
    | (refine SW.ops_seq hY fun y1 hy1 => ?_; simp only [T.asArr, T.tg, tgL, dnT, indexAddrM, wk, wl, eq_self, isCall, callT, opM, S.ev, S.put, entryS, thawAL, thawA, RM.run, RM.bind, RM.ofOpt, allocs, Heap.ups, Heap.put, Heap.at, List.replicate, Nat.reduceAdd, Nat.reduceSub, ofConst, nilAs, if_false, if_true, binT, binTy, unT, guardT, pickT, quietK, stripT, openT, reduceIte, boxM, allocM, loadM, storeM, fieldAddrM, lenT, extractT, subM, setOb, T.get, T.setp, T.offs, T.nw, nwL, T.cel, T.isNd, T.size, sizeL, TyI.agg, Ty.agg, Ty.isFn, zeroT, Nat.reduceLT, Nat.reduceEqDiff, sumT, kill, Y3, Y4, Y24, Y27, Y30, Y32, Y41, Y101, Y103]; subst hy1)
    | refine SW.seq ?_
  refine SW.cond rfl (fun hc => ?_) (fun hc => ?_)
  · have hlt : i < l.length := by simpa using hc
    have hltI : (i : Int) < (l.length : Int) := by omega
    have hg : (l.map Enc.b)[i]? = some (.nd [.bool l[i].1, .nd [.int .i64 l[i].2.1.1, .sl .b (l[i].2.1.2.1.map Enc.b), .sl .b (l[i].2.1.2.2.1.map Enc.b)]]) := map_get Enc.b l i hlt
    have hf : (fillG (.nd [.bool false, .nd [.int .i64 0, .nils 1, .nils 1]]) l i)[i]? = some (.nd [.bool false, .nd [.int .i64 0, .nils 1, .nils 1]]) := fill_get _ l i hlt
    have hfl : (fillG (.nd [.bool false, .nd [.int .i64 0, .nils 1, .nils 1]]) l i).length = l.length := fill_len _ l i hi
    repeat' first
      | ((have hk8 := Nat.add_zero); (first | refine SW.ops_seq hY fun y1 hy1 => ?_ | refine SW.ops hY ?_ | refine vcall_to [] (laws_toSlot_ok l[i] (hl.2 _ (List.getElem_mem hlt))) rfl (by first | rfl | (simp [pass2, T.tg, tgL, upT, lendM, lendA, lendAL, elemsM, Heap.at, RM.bind, RM.run]; done) | (simp [pass2, T.tg, tgL, upT, lendM, lendA, lendAL, elemsM, Heap.at, RM.bind, RM.run]; rfl)) (by first | rfl | simp [resClo, T.clo, cloL, T.clP, clPL]) rfl ?_ | (simp only [k8]; refine ⟨fun hb => ?_, fun hb => ?_⟩ <;> (try replace hb := Bool.eq_false_iff.2 hb) <;> (first | exact absurd hb (by decide) | replace hk8 := hb))) <;> (simp only [hk8, hg, hf, hfl, hltI, Nat.zero_add, T.asArr, T.tg, tgL, dnT, indexAddrM, wk, wl, eq_self, isCall, callT, opM, S.ev, S.put, entryS, thawAL, thawA, RM.run, RM.bind, RM.ofOpt, allocs, Heap.ups, Heap.put, Heap.at, List.replicate, Nat.reduceAdd, Nat.reduceSub, ofConst, nilAs, if_false, if_true, binT, binTy, unT, guardT, pickT, quietK, stripT, openT, reduceIte, boxM, allocM, loadM, storeM, fieldAddrM, lenT, extractT, subM, setOb, T.get, T.setp, T.offs, T.nw, nwL, T.cel, T.isNd, T.size, sizeL, TyI.agg, Ty.agg, Ty.isFn, zeroT, Nat.reduceLT, Nat.reduceEqDiff, sumT, kill, Y3, Y4, Y24, Y27, Y30, Y32, Y41, Y101, Y103]; clear hk8; first | subst hy1 | (try simp only [thenS, blockS, if_true, if_false, Nat.reduceEqDiff, reduceIte])))
      | exact absurd trivial hb
      | exact absurd hb (by decide)
      | exact absurd hcc (by decide)
      | refine SW.seq ?_
      | refine SW.block ?_
      | (refine SW.cond rfl (fun hcc => ?_) (fun hcc => ?_))
      | (refine SW.exit ?_; simp only [thenS, blockS, if_true, if_false, Nat.reduceEqDiff, reduceIte])
      | (refine SW.skip ?_; simp only [thenS, blockS])
    refine ⟨n - 1, i + 1, by omega, ⟨by omega, by omega⟩, ?_⟩
    rw [wrap64 _ (by omega) (by omega)]
    refine Norm.trans (Norm.fill (l := l) 1 0 rfl hlt (by first | rfl | (simp [soakS, soakL, Heap.at, Heap.put]; rfl))) ?_
    refine Norm.re [0, 1] (by decide) rfl ?_ (by simp [tmFits, T.ren])
    first | (simp [heapFits, rowFits, obFits, soakS, soakL, Heap.at, Heap.put]; exact renL_fill _ _ _ _ rfl) | exact ⟨trivial, ⟨rfl, rfl, renL_fill _ _ _ _ rfl⟩, trivial⟩
  · have hge : i = l.length := by
      have : ¬ i < l.length := by simpa using hc
      omega
    subst hge
    repeat' first
      | ((have hk8 := Nat.add_zero); (first | refine SW.ops_seq hY fun y1 hy1 => ?_ | refine SW.ops hY ?_ | (simp only [k8]; refine ⟨fun hb => ?_, fun hb => ?_⟩ <;> (try replace hb := Bool.eq_false_iff.2 hb) <;> (first | exact absurd hb (by decide) | replace hk8 := hb))) <;> (simp only [hk8, T.asArr, T.tg, tgL, dnT, indexAddrM, wk, wl, eq_self, isCall, callT, opM, S.ev, S.put, entryS, thawAL, thawA, RM.run, RM.bind, RM.ofOpt, allocs, Heap.ups, Heap.put, Heap.at, List.replicate, Nat.reduceAdd, Nat.reduceSub, ofConst, nilAs, if_false, if_true, binT, binTy, unT, guardT, pickT, quietK, stripT, openT, reduceIte, boxM, allocM, loadM, storeM, fieldAddrM, lenT, extractT, subM, setOb, T.get, T.setp, T.offs, T.nw, nwL, T.cel, T.isNd, T.size, sizeL, TyI.agg, Ty.agg, Ty.isFn, zeroT, Nat.reduceLT, Nat.reduceEqDiff, sumT, kill, Y3, Y4, Y24, Y27, Y30, Y32, Y41, Y101, Y103]; clear hk8; first | subst hy1 | (try simp only [thenS, blockS, if_true, if_false, Nat.reduceEqDiff, reduceIte])))
      | exact absurd trivial hb
      | exact absurd hb (by decide)
      | exact absurd hcc (by decide)
      | refine SW.seq ?_
      | refine SW.block ?_
      | (refine SW.cond rfl (fun hcc => ?_) (fun hcc => ?_))
      | (refine SW.exit ?_; simp only [thenS, blockS, if_true, if_false, Nat.reduceEqDiff, reduceIte])
      | (refine SW.skip ?_; simp only [thenS, blockS])
    refine SW.ret (show RetQ _ _ _ _ _ _ _ from ⟨.inr rfl, [.ref 1 0 0 l.length], [4], [.ow 4 (l.map Enc.o)], [[], [.gone]], ⟨rfl, ?_, rfl, ?_, rfl, rfl⟩⟩)
    · simp [pass1, modeOf, giveS, Heap.at, Heap.put, fill_all, fixEs, ioAt, ioKs, ioM, ioT, T.cel, T.clo, T.cloA, cloAL]
    · simp [cloL, T.clo, T.clP, clPL]
end Q1

namespace Q1
open Go Go.Vm Go.Proofs
set_option maxHeartbeats 4000000
set_option synthInstance.maxSize 2000
set_option synthInstance.maxHeartbeats 400000
set_option maxRecDepth 10000
set_option linter.unusedSimpArgs false
set_option linter.unusedVariables false

theorem laws_szIntS_ok (l : List Int) (b : Int) (hl : Enc.lim maxLen l) (h0 : 0 ≤ b) (h1 : b ≤ 1048576) : CallR Try.prog 177 [.sl .b (l.map Enc.b), .int .i64 b] [] (.int .i64 (Enc.sz l b)) := by
  refine CallR.of_body (n := 12) (rs := [.tmp 4]) hY.ok Try.func177 rfl (by decide) rfl rfl rfl rfl (fun F => ?_)
  have hm : l.length ≤ 9223372036854775807 := hl.1
  have hw : IntKind.i64.wrap (b - l.length) = b - l.length := wrap64 _ (by omega) (by omega)
  repeat' first
    | ((have hk8 := Nat.add_zero); (first | refine SW.ops_seq hY fun y1 hy1 => ?_ | refine SW.ops hY ?_) <;> (simp only [hk8, hw, T.asArr, T.tg, tgL, dnT, indexAddrM, wk, wl, eq_self, isCall, callT, opM, S.ev, S.put, entryS, thawAL, thawA, RM.run, RM.bind, RM.ofOpt, allocs, Heap.ups, Heap.put, Heap.at, List.replicate, Nat.reduceAdd, Nat.reduceSub, ofConst, nilAs, if_false, if_true, binT, binTy, unT, guardT, pickT, quietK, stripT, openT, reduceIte, boxM, allocM, loadM, storeM, fieldAddrM, lenT, extractT, subM, setOb, T.get, T.setp, T.offs, T.nw, nwL, T.cel, T.isNd, T.size, sizeL, TyI.agg, Ty.agg, Ty.isFn, zeroT, Nat.reduceLT, Nat.reduceEqDiff, sumT, kill, Y3, Y4, Y27]; clear hk8; first | subst hy1 | (try simp only [thenS, blockS, if_true, if_false, Nat.reduceEqDiff, reduceIte])))
    | exact absurd trivial hb
    | exact absurd hb (by decide)
    | exact absurd hcc (by decide)
    | refine SW.seq ?_
    | refine SW.block ?_
    | (refine SW.exit ?_; simp only [thenS, blockS, if_true, if_false, Nat.reduceEqDiff, reduceIte])
  refine SW.cond rfl (fun hc => ?_) (fun hc => ?_)
  · have hc' : b - (l.length : Int) < 0 := by simpa using hc
    repeat' first
      | ((have hk8 := Nat.add_zero); (first | refine SW.ops_seq hY fun y1 hy1 => ?_ | refine SW.ops hY ?_ | (simp only [k8]; refine ⟨fun hb => ?_, fun hb => ?_⟩ <;> (try replace hb := Bool.eq_false_iff.2 hb) <;> (first | exact absurd hb (by decide) | replace hk8 := hb))) <;> (simp only [hk8, hw, T.asArr, T.tg, tgL, dnT, indexAddrM, wk, wl, eq_self, isCall, callT, opM, S.ev, S.put, entryS, thawAL, thawA, RM.run, RM.bind, RM.ofOpt, allocs, Heap.ups, Heap.put, Heap.at, List.replicate, Nat.reduceAdd, Nat.reduceSub, ofConst, nilAs, if_false, if_true, binT, binTy, unT, guardT, pickT, quietK, stripT, openT, reduceIte, boxM, allocM, loadM, storeM, fieldAddrM, lenT, extractT, subM, setOb, T.get, T.setp, T.offs, T.nw, nwL, T.cel, T.isNd, T.size, sizeL, TyI.agg, Ty.agg, Ty.isFn, zeroT, Nat.reduceLT, Nat.reduceEqDiff, sumT, kill, Y3, Y4, Y27]; clear hk8; first | subst hy1 | (try simp only [thenS, blockS, if_true, if_false, Nat.reduceEqDiff, reduceIte])))
      | exact absurd trivial hb
      | exact absurd hb (by decide)
      | exact absurd hcc (by decide)
      | refine SW.seq ?_
      | refine SW.block ?_
      | (refine SW.cond rfl (fun hcc => ?_) (fun hcc => ?_))
      | (refine SW.exit ?_; simp only [thenS, blockS, if_true, if_false, Nat.reduceEqDiff, reduceIte])
      | (refine SW.skip ?_; simp only [thenS, blockS])
      | refine SW.ret (show RetQ _ _ _ _ _ _ _ from ⟨.inr rfl, [_], [1], [_], _, rfl, rfl, rfl, rfl, rfl, ?_⟩)
    all_goals (simp only [tupOf, fixEs, sz_list, if_pos hc'])
  have hn : ¬ b - (l.length : Int) < 0 := by simpa using hc
  repeat' first
    | ((have hk8 := Nat.add_zero); (first | refine SW.ops_seq hY fun y1 hy1 => ?_ | refine SW.ops hY ?_ | (simp only [k8]; refine ⟨fun hb => ?_, fun hb => ?_⟩ <;> (try replace hb := Bool.eq_false_iff.2 hb) <;> (first | exact absurd hb (by decide) | replace hk8 := hb))) <;> (simp only [hk8, hw, T.asArr, T.tg, tgL, dnT, indexAddrM, wk, wl, eq_self, isCall, callT, opM, S.ev, S.put, entryS, thawAL, thawA, RM.run, RM.bind, RM.ofOpt, allocs, Heap.ups, Heap.put, Heap.at, List.replicate, Nat.reduceAdd, Nat.reduceSub, ofConst, nilAs, if_false, if_true, binT, binTy, unT, guardT, pickT, quietK, stripT, openT, reduceIte, boxM, allocM, loadM, storeM, fieldAddrM, lenT, extractT, subM, setOb, T.get, T.setp, T.offs, T.nw, nwL, T.cel, T.isNd, T.size, sizeL, TyI.agg, Ty.agg, Ty.isFn, zeroT, Nat.reduceLT, Nat.reduceEqDiff, sumT, kill, Y3, Y4, Y27]; clear hk8; first | subst hy1 | (try simp only [thenS, blockS, if_true, if_false, Nat.reduceEqDiff, reduceIte])))
    | exact absurd trivial hb
    | exact absurd hb (by decide)
    | exact absurd hcc (by decide)
    | refine SW.seq ?_
    | refine SW.block ?_
    | (refine SW.cond rfl (fun hcc => ?_) (fun hcc => ?_))
    | (refine SW.exit ?_; simp only [thenS, blockS, if_true, if_false, Nat.reduceEqDiff, reduceIte])
    | (refine SW.skip ?_; simp only [thenS, blockS])
    | refine SW.ret (show RetQ _ _ _ _ _ _ _ from ⟨.inr rfl, [_], [1], [_], _, rfl, rfl, rfl, rfl, rfl, ?_⟩)
  all_goals (simp only [tupOf, fixEs, sz_list, if_neg hn]; rfl)
theorem laws_szObj_ok (x : (Int × (List Int) × (List Int) × Unit)) (b : Int) (hx : Enc.lim maxLen x) (h0 : 0 ≤ b) (h1 : b ≤ 1048576) : CallR Try.prog 143 [.nd [.int .i64 x.1, .sl .b (x.2.1.map Enc.b), .sl .b (x.2.2.1.map Enc.b)], .int .i64 b] [] (.int .i64 (Enc.sz x b)) := by
  refine CallR.of_body (n := 18) (rs := [.tmp 4]) hY.ok Try.func143 rfl (by decide) rfl rfl rfl rfl (fun F => ?_)
  repeat' first
    | ((have hk8 := Nat.add_zero); (first | refine SW.ops_seq hY fun y1 hy1 => ?_ | refine SW.ops hY ?_ | refine vcall_to [] (laws_szIntS_ok x.2.1 b hx.2.1 h0 h1) rfl (by first | rfl | (simp [pass2, T.tg, tgL, upT, lendM, lendA, lendAL, elemsM, Heap.at, RM.bind, RM.run]; done) | (simp [pass2, T.tg, tgL, upT, lendM, lendA, lendAL, elemsM, Heap.at, RM.bind, RM.run]; rfl)) (by first | rfl | simp [resClo, T.clo, cloL, T.clP, clPL]) rfl ?_) <;> (simp only [hk8, T.asArr, T.tg, tgL, dnT, indexAddrM, wk, wl, eq_self, isCall, callT, opM, S.ev, S.put, entryS, thawAL, thawA, RM.run, RM.bind, RM.ofOpt, allocs, Heap.ups, Heap.put, Heap.at, List.replicate, Nat.reduceAdd, Nat.reduceSub, ofConst, nilAs, if_false, if_true, binT, binTy, unT, guardT, pickT, quietK, stripT, openT, reduceIte, boxM, allocM, loadM, storeM, fieldAddrM, lenT, extractT, subM, setOb, T.get, T.setp, T.offs, T.nw, nwL, T.cel, T.isNd, T.size, sizeL, TyI.agg, Ty.agg, Ty.isFn, zeroT, Nat.reduceLT, Nat.reduceEqDiff, sumT, kill, Y1, Y2, Y3, Y4, Y27, Y101]; clear hk8; first | subst hy1 | (try simp only [thenS, blockS, if_true, if_false, Nat.reduceEqDiff, reduceIte])))
    | exact absurd trivial hb
    | exact absurd hb (by decide)
    | exact absurd hcc (by decide)
    | refine SW.seq ?_
    | refine SW.block ?_
    | (refine SW.exit ?_; simp only [thenS, blockS, if_true, if_false, Nat.reduceEqDiff, reduceIte])
    | (refine SW.skip ?_; simp only [thenS, blockS])
  refine SW.cond rfl (fun hc0 => ?_) (fun hc0 => ?_)
  · have hc0' : Enc.sz x.2.1 b < 0 := by simpa using hc0
    repeat' first
      | ((have hk8 := Nat.add_zero); (first | refine SW.ops_seq hY fun y1 hy1 => ?_ | refine SW.ops hY ?_ | (simp only [k8]; refine ⟨fun hb => ?_, fun hb => ?_⟩ <;> (try replace hb := Bool.eq_false_iff.2 hb) <;> (first | exact absurd hb (by decide) | replace hk8 := hb))) <;> (simp only [hk8, T.asArr, T.tg, tgL, dnT, indexAddrM, wk, wl, eq_self, isCall, callT, opM, S.ev, S.put, entryS, thawAL, thawA, RM.run, RM.bind, RM.ofOpt, allocs, Heap.ups, Heap.put, Heap.at, List.replicate, Nat.reduceAdd, Nat.reduceSub, ofConst, nilAs, if_false, if_true, binT, binTy, unT, guardT, pickT, quietK, stripT, openT, reduceIte, boxM, allocM, loadM, storeM, fieldAddrM, lenT, extractT, subM, setOb, T.get, T.setp, T.offs, T.nw, nwL, T.cel, T.isNd, T.size, sizeL, TyI.agg, Ty.agg, Ty.isFn, zeroT, Nat.reduceLT, Nat.reduceEqDiff, sumT, kill, Y1, Y2, Y3, Y4, Y27, Y101]; clear hk8; first | subst hy1 | (try simp only [thenS, blockS, if_true, if_false, Nat.reduceEqDiff, reduceIte])))
      | exact absurd trivial hb
      | exact absurd hb (by decide)
      | exact absurd hcc (by decide)
      | refine SW.seq ?_
      | refine SW.block ?_
      | (refine SW.cond rfl (fun hcc => ?_) (fun hcc => ?_))
      | (refine SW.exit ?_; simp only [thenS, blockS, if_true, if_false, Nat.reduceEqDiff, reduceIte])
      | (refine SW.skip ?_; simp only [thenS, blockS])
      | refine SW.ret (show RetQ _ _ _ _ _ _ _ from ⟨.inr rfl, [_], [1], [_], _, rfl, rfl, rfl, rfl, rfl, ?_⟩)
    all_goals (have hv : Enc.sz x b = -1 := by show EncL.sz x b = -1; simp [szl_prod, szl_unit, flat_int, flat_bool, flat_list, flat_prod, flatl_prod, flatl_unit, hc0'])
    all_goals simp only [tupOf, fixEs, hv]
  have hn0 : ¬ Enc.sz x.2.1 b < 0 := by simpa using hc0
  have h0_1 : 0 ≤ Enc.sz x.2.1 b := by omega
  have h1_1 : Enc.sz x.2.1 b ≤ 1048576 := by have := Enc.szLe x.2.1 b h0; omega
  repeat' first
    | ((have hk8 := Nat.add_zero); (first | refine SW.ops_seq hY fun y1 hy1 => ?_ | refine SW.ops hY ?_ | refine vcall_to [] (laws_szIntS_ok x.2.2.1 (Enc.sz x.2.1 b) hx.2.2.1 h0_1 h1_1) rfl (by first | rfl | (simp [pass2, T.tg, tgL, upT, lendM, lendA, lendAL, elemsM, Heap.at, RM.bind, RM.run]; done) | (simp [pass2, T.tg, tgL, upT, lendM, lendA, lendAL, elemsM, Heap.at, RM.bind, RM.run]; rfl)) (by first | rfl | simp [resClo, T.clo, cloL, T.clP, clPL]) rfl ?_) <;> (simp only [hk8, T.asArr, T.tg, tgL, dnT, indexAddrM, wk, wl, eq_self, isCall, callT, opM, S.ev, S.put, entryS, thawAL, thawA, RM.run, RM.bind, RM.ofOpt, allocs, Heap.ups, Heap.put, Heap.at, List.replicate, Nat.reduceAdd, Nat.reduceSub, ofConst, nilAs, if_false, if_true, binT, binTy, unT, guardT, pickT, quietK, stripT, openT, reduceIte, boxM, allocM, loadM, storeM, fieldAddrM, lenT, extractT, subM, setOb, T.get, T.setp, T.offs, T.nw, nwL, T.cel, T.isNd, T.size, sizeL, TyI.agg, Ty.agg, Ty.isFn, zeroT, Nat.reduceLT, Nat.reduceEqDiff, sumT, kill, Y1, Y2, Y3, Y4, Y27, Y101]; clear hk8; first | subst hy1 | (try simp only [thenS, blockS, if_true, if_false, Nat.reduceEqDiff, reduceIte])))
    | exact absurd trivial hb
    | exact absurd hb (by decide)
    | exact absurd hcc (by decide)
    | refine SW.seq ?_
    | refine SW.block ?_
    | (refine SW.exit ?_; simp only [thenS, blockS, if_true, if_false, Nat.reduceEqDiff, reduceIte])
    | (refine SW.skip ?_; simp only [thenS, blockS])
  refine SW.cond rfl (fun hc1 => ?_) (fun hc1 => ?_)
  · have hc1' : Enc.sz x.2.2.1 (Enc.sz x.2.1 b) < 0 := by simpa using hc1
    repeat' first
      | ((have hk8 := Nat.add_zero); (first | refine SW.ops_seq hY fun y1 hy1 => ?_ | refine SW.ops hY ?_ | (simp only [k8]; refine ⟨fun hb => ?_, fun hb => ?_⟩ <;> (try replace hb := Bool.eq_false_iff.2 hb) <;> (first | exact absurd hb (by decide) | replace hk8 := hb))) <;> (simp only [hk8, T.asArr, T.tg, tgL, dnT, indexAddrM, wk, wl, eq_self, isCall, callT, opM, S.ev, S.put, entryS, thawAL, thawA, RM.run, RM.bind, RM.ofOpt, allocs, Heap.ups, Heap.put, Heap.at, List.replicate, Nat.reduceAdd, Nat.reduceSub, ofConst, nilAs, if_false, if_true, binT, binTy, unT, guardT, pickT, quietK, stripT, openT, reduceIte, boxM, allocM, loadM, storeM, fieldAddrM, lenT, extractT, subM, setOb, T.get, T.setp, T.offs, T.nw, nwL, T.cel, T.isNd, T.size, sizeL, TyI.agg, Ty.agg, Ty.isFn, zeroT, Nat.reduceLT, Nat.reduceEqDiff, sumT, kill, Y1, Y2, Y3, Y4, Y27, Y101]; clear hk8; first | subst hy1 | (try simp only [thenS, blockS, if_true, if_false, Nat.reduceEqDiff, reduceIte])))
      | exact absurd trivial hb
      | exact absurd hb (by decide)
      | exact absurd hcc (by decide)
      | refine SW.seq ?_
      | refine SW.block ?_
      | (refine SW.cond rfl (fun hcc => ?_) (fun hcc => ?_))
      | (refine SW.exit ?_; simp only [thenS, blockS, if_true, if_false, Nat.reduceEqDiff, reduceIte])
      | (refine SW.skip ?_; simp only [thenS, blockS])
      | refine SW.ret (show RetQ _ _ _ _ _ _ _ from ⟨.inr rfl, [_], [1], [_], _, rfl, rfl, rfl, rfl, rfl, ?_⟩)
    all_goals (have hv : Enc.sz x b = -1 := by show EncL.sz x b = -1; simp [szl_prod, szl_unit, flat_int, flat_bool, flat_list, flat_prod, flatl_prod, flatl_unit, hn0, hc1'])
    all_goals simp only [tupOf, fixEs, hv]
  have hn1 : ¬ Enc.sz x.2.2.1 (Enc.sz x.2.1 b) < 0 := by simpa using hc1
  have h0_2 : 0 ≤ Enc.sz x.2.2.1 (Enc.sz x.2.1 b) := by omega
  have h1_2 : Enc.sz x.2.2.1 (Enc.sz x.2.1 b) ≤ 1048576 := by have := Enc.szLe x.2.2.1 (Enc.sz x.2.1 b) h0_1; omega
  repeat' first
    | ((have hk8 := Nat.add_zero); (first | refine SW.ops_seq hY fun y1 hy1 => ?_ | refine SW.ops hY ?_ | (simp only [k8]; refine ⟨fun hb => ?_, fun hb => ?_⟩ <;> (try replace hb := Bool.eq_false_iff.2 hb) <;> (first | exact absurd hb (by decide) | replace hk8 := hb))) <;> (simp only [hk8, T.asArr, T.tg, tgL, dnT, indexAddrM, wk, wl, eq_self, isCall, callT, opM, S.ev, S.put, entryS, thawAL, thawA, RM.run, RM.bind, RM.ofOpt, allocs, Heap.ups, Heap.put, Heap.at, List.replicate, Nat.reduceAdd, Nat.reduceSub, ofConst, nilAs, if_false, if_true, binT, binTy, unT, guardT, pickT, quietK, stripT, openT, reduceIte, boxM, allocM, loadM, storeM, fieldAddrM, lenT, extractT, subM, setOb, T.get, T.setp, T.offs, T.nw, nwL, T.cel, T.isNd, T.size, sizeL, TyI.agg, Ty.agg, Ty.isFn, zeroT, Nat.reduceLT, Nat.reduceEqDiff, sumT, kill, Y1, Y2, Y3, Y4, Y27, Y101]; clear hk8; first | subst hy1 | (try simp only [thenS, blockS, if_true, if_false, Nat.reduceEqDiff, reduceIte])))
    | exact absurd trivial hb
    | exact absurd hb (by decide)
    | exact absurd hcc (by decide)
    | refine SW.seq ?_
    | refine SW.block ?_
    | (refine SW.cond rfl (fun hcc => ?_) (fun hcc => ?_))
    | (refine SW.exit ?_; simp only [thenS, blockS, if_true, if_false, Nat.reduceEqDiff, reduceIte])
    | (refine SW.skip ?_; simp only [thenS, blockS])
    | refine SW.ret (show RetQ _ _ _ _ _ _ _ from ⟨.inr rfl, [_], [1], [_], _, rfl, rfl, rfl, rfl, rfl, ?_⟩)
  all_goals (have hv : Enc.sz x b = (Enc.sz x.2.2.1 (Enc.sz x.2.1 b)) := by show EncL.sz x b = _; simp [szl_prod, szl_unit, flat_int, flat_bool, flat_list, flat_prod, flatl_prod, flatl_unit, hn0, hn1])
  all_goals simp only [tupOf, fixEs, hv]
theorem laws_szSlot_ok (x : (Bool × ((Int × (List Int) × (List Int) × Unit)) × Unit)) (b : Int) (hx : Enc.lim maxLen x) (h0 : 0 ≤ b) (h1 : b ≤ 1048576) : CallR Try.prog 82 [.nd [.bool x.1, .nd [.int .i64 x.2.1.1, .sl .b (x.2.1.2.1.map Enc.b), .sl .b (x.2.1.2.2.1.map Enc.b)]], .int .i64 b] [] (.int .i64 (Enc.sz x b)) := by
  refine CallR.of_body (n := 12) (rs := [.tmp 4]) hY.ok Try.func82 rfl (by decide) rfl rfl rfl rfl (fun F => ?_)
  repeat' first
    | ((have hk8 := Nat.add_zero); (first | refine SW.ops_seq hY fun y1 hy1 => ?_ | refine SW.ops hY ?_ | refine vcall_to [] (laws_szObj_ok x.2.1 b hx.2.1 h0 h1) rfl (by first | rfl | (simp [pass2, T.tg, tgL, upT, lendM, lendA, lendAL, elemsM, Heap.at, RM.bind, RM.run]; done) | (simp [pass2, T.tg, tgL, upT, lendM, lendA, lendAL, elemsM, Heap.at, RM.bind, RM.run]; rfl)) (by first | rfl | simp [resClo, T.clo, cloL, T.clP, clPL]) rfl ?_) <;> (simp only [hk8, T.asArr, T.tg, tgL, dnT, indexAddrM, wk, wl, eq_self, isCall, callT, opM, S.ev, S.put, entryS, thawAL, thawA, RM.run, RM.bind, RM.ofOpt, allocs, Heap.ups, Heap.put, Heap.at, List.replicate, Nat.reduceAdd, Nat.reduceSub, ofConst, nilAs, if_false, if_true, binT, binTy, unT, guardT, pickT, quietK, stripT, openT, reduceIte, boxM, allocM, loadM, storeM, fieldAddrM, lenT, extractT, subM, setOb, T.get, T.setp, T.offs, T.nw, nwL, T.cel, T.isNd, T.size, sizeL, TyI.agg, Ty.agg, Ty.isFn, zeroT, Nat.reduceLT, Nat.reduceEqDiff, sumT, kill, Y1, Y3, Y4, Y27, Y101, Y103]; clear hk8; first | subst hy1 | (try simp only [thenS, blockS, if_true, if_false, Nat.reduceEqDiff, reduceIte])))
    | exact absurd trivial hb
    | exact absurd hb (by decide)
    | exact absurd hcc (by decide)
    | refine SW.seq ?_
    | refine SW.block ?_
    | (refine SW.exit ?_; simp only [thenS, blockS, if_true, if_false, Nat.reduceEqDiff, reduceIte])
    | (refine SW.skip ?_; simp only [thenS, blockS])
  refine SW.cond rfl (fun hc0 => ?_) (fun hc0 => ?_)
  · have hc0' : Enc.sz x.2.1 b < 0 := by simpa using hc0
    repeat' first
      | ((have hk8 := Nat.add_zero); (first | refine SW.ops_seq hY fun y1 hy1 => ?_ | refine SW.ops hY ?_ | (simp only [k8]; refine ⟨fun hb => ?_, fun hb => ?_⟩ <;> (try replace hb := Bool.eq_false_iff.2 hb) <;> (first | exact absurd hb (by decide) | replace hk8 := hb))) <;> (simp only [hk8, T.asArr, T.tg, tgL, dnT, indexAddrM, wk, wl, eq_self, isCall, callT, opM, S.ev, S.put, entryS, thawAL, thawA, RM.run, RM.bind, RM.ofOpt, allocs, Heap.ups, Heap.put, Heap.at, List.replicate, Nat.reduceAdd, Nat.reduceSub, ofConst, nilAs, if_false, if_true, binT, binTy, unT, guardT, pickT, quietK, stripT, openT, reduceIte, boxM, allocM, loadM, storeM, fieldAddrM, lenT, extractT, subM, setOb, T.get, T.setp, T.offs, T.nw, nwL, T.cel, T.isNd, T.size, sizeL, TyI.agg, Ty.agg, Ty.isFn, zeroT, Nat.reduceLT, Nat.reduceEqDiff, sumT, kill, Y1, Y3, Y4, Y27, Y101, Y103]; clear hk8; first | subst hy1 | (try simp only [thenS, blockS, if_true, if_false, Nat.reduceEqDiff, reduceIte])))
      | exact absurd trivial hb
      | exact absurd hb (by decide)
      | exact absurd hcc (by decide)
      | refine SW.seq ?_
      | refine SW.block ?_
      | (refine SW.cond rfl (fun hcc => ?_) (fun hcc => ?_))
      | (refine SW.exit ?_; simp only [thenS, blockS, if_true, if_false, Nat.reduceEqDiff, reduceIte])
      | (refine SW.skip ?_; simp only [thenS, blockS])
      | refine SW.ret (show RetQ _ _ _ _ _ _ _ from ⟨.inr rfl, [_], [1], [_], _, rfl, rfl, rfl, rfl, rfl, ?_⟩)
    all_goals (have hv : Enc.sz x b = -1 := by show EncL.sz x b = -1; simp [szl_prod, szl_unit, flat_int, flat_bool, flat_list, flat_prod, flatl_prod, flatl_unit, hc0'])
    all_goals simp only [tupOf, fixEs, hv]
  have hn0 : ¬ Enc.sz x.2.1 b < 0 := by simpa using hc0
  have h0_1 : 0 ≤ Enc.sz x.2.1 b := by omega
  have h1_1 : Enc.sz x.2.1 b ≤ 1048576 := by have := Enc.szLe x.2.1 b h0; omega
  repeat' first
    | ((have hk8 := Nat.add_zero); (first | refine SW.ops_seq hY fun y1 hy1 => ?_ | refine SW.ops hY ?_ | (simp only [k8]; refine ⟨fun hb => ?_, fun hb => ?_⟩ <;> (try replace hb := Bool.eq_false_iff.2 hb) <;> (first | exact absurd hb (by decide) | replace hk8 := hb))) <;> (simp only [hk8, T.asArr, T.tg, tgL, dnT, indexAddrM, wk, wl, eq_self, isCall, callT, opM, S.ev, S.put, entryS, thawAL, thawA, RM.run, RM.bind, RM.ofOpt, allocs, Heap.ups, Heap.put, Heap.at, List.replicate, Nat.reduceAdd, Nat.reduceSub, ofConst, nilAs, if_false, if_true, binT, binTy, unT, guardT, pickT, quietK, stripT, openT, reduceIte, boxM, allocM, loadM, storeM, fieldAddrM, lenT, extractT, subM, setOb, T.get, T.setp, T.offs, T.nw, nwL, T.cel, T.isNd, T.size, sizeL, TyI.agg, Ty.agg, Ty.isFn, zeroT, Nat.reduceLT, Nat.reduceEqDiff, sumT, kill, Y1, Y3, Y4, Y27, Y101, Y103]; clear hk8; first | subst hy1 | (try simp only [thenS, blockS, if_true, if_false, Nat.reduceEqDiff, reduceIte])))
    | exact absurd trivial hb
    | exact absurd hb (by decide)
    | exact absurd hcc (by decide)
    | refine SW.seq ?_
    | refine SW.block ?_
    | (refine SW.cond rfl (fun hcc => ?_) (fun hcc => ?_))
    | (refine SW.exit ?_; simp only [thenS, blockS, if_true, if_false, Nat.reduceEqDiff, reduceIte])
    | (refine SW.skip ?_; simp only [thenS, blockS])
    | refine SW.ret (show RetQ _ _ _ _ _ _ _ from ⟨.inr rfl, [_], [1], [_], _, rfl, rfl, rfl, rfl, rfl, ?_⟩)
  all_goals (have hv : Enc.sz x b = (Enc.sz x.2.1 b) := by show EncL.sz x b = _; simp [szl_prod, szl_unit, flat_int, flat_bool, flat_list, flat_prod, flatl_prod, flatl_unit, hn0])
  all_goals simp only [tupOf, fixEs, hv]
theorem laws_szSlotS_ok (l : List ((Bool × ((Int × (List Int) × (List Int) × Unit)) × Unit))) (b : Int) (hl : Enc.lim maxLen l) (h0 : 0 ≤ b) (h1 : b ≤ 1048576) : CallR Try.prog 24 [.sl .b (l.map Enc.b), .int .i64 b] [] (.int .i64 (Enc.sz l b)) := by
  refine CallR.of_body (n := 27) (rs := [.tmp 4]) hY.ok Try.func24 rfl (by decide) rfl rfl rfl rfl (fun F => ?_)
  have hm : l.length ≤ 9223372036854775807 := hl.1
  have hw : IntKind.i64.wrap (b - l.length) = b - l.length := wrap64 _ (by omega) (by omega)
  repeat' first
    | ((have hk8 := Nat.add_zero); (first | refine SW.ops_seq hY fun y1 hy1 => ?_ | refine SW.ops hY ?_) <;> (simp only [hk8, hw, T.asArr, T.tg, tgL, dnT, indexAddrM, wk, wl, eq_self, isCall, callT, opM, S.ev, S.put, entryS, thawAL, thawA, RM.run, RM.bind, RM.ofOpt, allocs, Heap.ups, Heap.put, Heap.at, List.replicate, Nat.reduceAdd, Nat.reduceSub, ofConst, nilAs, if_false, if_true, binT, binTy, unT, guardT, pickT, quietK, stripT, openT, reduceIte, boxM, allocM, loadM, storeM, fieldAddrM, lenT, extractT, subM, setOb, T.get, T.setp, T.offs, T.nw, nwL, T.cel, T.isNd, T.size, sizeL, TyI.agg, Ty.agg, Ty.isFn, zeroT, Nat.reduceLT, Nat.reduceEqDiff, sumT, kill, Y3, Y4, Y27, Y41, Y101, Y103]; clear hk8; first | subst hy1 | (try simp only [thenS, blockS, if_true, if_false, Nat.reduceEqDiff, reduceIte])))
    | exact absurd trivial hb
    | exact absurd hb (by decide)
    | exact absurd hcc (by decide)
    | refine SW.seq ?_
    | refine SW.block ?_
    | (refine SW.exit ?_; simp only [thenS, blockS, if_true, if_false, Nat.reduceEqDiff, reduceIte])
  refine SW.cond rfl (fun hc => ?_) (fun hc => ?_)
  · have hc' : b - (l.length : Int) < 0 := by simpa using hc
    repeat' first
      | ((have hk8 := Nat.add_zero); (first | refine SW.ops_seq hY fun y1 hy1 => ?_ | refine SW.ops hY ?_ | (simp only [k8]; refine ⟨fun hb => ?_, fun hb => ?_⟩ <;> (try replace hb := Bool.eq_false_iff.2 hb) <;> (first | exact absurd hb (by decide) | replace hk8 := hb))) <;> (simp only [hk8, hw, T.asArr, T.tg, tgL, dnT, indexAddrM, wk, wl, eq_self, isCall, callT, opM, S.ev, S.put, entryS, thawAL, thawA, RM.run, RM.bind, RM.ofOpt, allocs, Heap.ups, Heap.put, Heap.at, List.replicate, Nat.reduceAdd, Nat.reduceSub, ofConst, nilAs, if_false, if_true, binT, binTy, unT, guardT, pickT, quietK, stripT, openT, reduceIte, boxM, allocM, loadM, storeM, fieldAddrM, lenT, extractT, subM, setOb, T.get, T.setp, T.offs, T.nw, nwL, T.cel, T.isNd, T.size, sizeL, TyI.agg, Ty.agg, Ty.isFn, zeroT, Nat.reduceLT, Nat.reduceEqDiff, sumT, kill, Y3, Y4, Y27, Y41, Y101, Y103]; clear hk8; first | subst hy1 | (try simp only [thenS, blockS, if_true, if_false, Nat.reduceEqDiff, reduceIte])))
      | exact absurd trivial hb
      | exact absurd hb (by decide)
      | exact absurd hcc (by decide)
      | refine SW.seq ?_
      | refine SW.block ?_
      | (refine SW.cond rfl (fun hcc => ?_) (fun hcc => ?_))
      | (refine SW.exit ?_; simp only [thenS, blockS, if_true, if_false, Nat.reduceEqDiff, reduceIte])
      | (refine SW.skip ?_; simp only [thenS, blockS])
      | refine SW.ret (show RetQ _ _ _ _ _ _ _ from ⟨.inr rfl, [_], [1], [_], _, rfl, rfl, rfl, rfl, rfl, ?_⟩)
    all_goals (simp only [tupOf, fixEs, sz_list, if_pos hc'])
  have hn : ¬ b - (l.length : Int) < 0 := by simpa using hc
  have hsz : Enc.sz l b = szFold l (b - l.length) := by rw [sz_list, if_neg hn]; rfl
  repeat' first
    | ((have hk8 := Nat.add_zero); (first | refine SW.ops_seq hY fun y1 hy1 => ?_ | refine SW.ops hY ?_) <;> (simp only [hk8, hw, T.asArr, T.tg, tgL, dnT, indexAddrM, wk, wl, eq_self, isCall, callT, opM, S.ev, S.put, entryS, thawAL, thawA, RM.run, RM.bind, RM.ofOpt, allocs, Heap.ups, Heap.put, Heap.at, List.replicate, Nat.reduceAdd, Nat.reduceSub, ofConst, nilAs, if_false, if_true, binT, binTy, unT, guardT, pickT, quietK, stripT, openT, reduceIte, boxM, allocM, loadM, storeM, fieldAddrM, lenT, extractT, subM, setOb, T.get, T.setp, T.offs, T.nw, nwL, T.cel, T.isNd, T.size, sizeL, TyI.agg, Ty.agg, Ty.isFn, zeroT, Nat.reduceLT, Nat.reduceEqDiff, sumT, kill, Y3, Y4, Y27, Y41, Y101, Y103]; clear hk8; first | subst hy1 | (try simp only [thenS, blockS, if_true, if_false, Nat.reduceEqDiff, reduceIte])))
    | exact absurd trivial hb
    | exact absurd hb (by decide)
    | exact absurd hcc (by decide)
    | refine SW.seq ?_
    | refine SW.block ?_
    | (refine SW.exit ?_; simp only [thenS, blockS, if_true, if_false, Nat.reduceEqDiff, reduceIte])
    | (refine SW.skip ?_; simp only [thenS, blockS])
  refine SW.loop (fun x : Nat × Int => ⟨[.sl .b (l.map Enc.b), .int .i64 x.2, .undef, .undef, .undef, .int .i64 x.1, .undef, .undef, .undef, .undef, .undef, .undef, .undef, .undef, .undef, .undef, .undef, .undef, .undef, .undef, .undef, .undef, .undef, .undef, .undef, .undef, .undef], [[]]⟩)
    (fun n x => n = l.length - x.1 ∧ x.1 ≤ l.length ∧ szFold (l.drop x.1) x.2 = szFold l (b - l.length) ∧ 0 ≤ x.2 ∧ x.2 ≤ 1048576) (n := l.length) (x := (0, b - l.length)) (Norm.to 0 rfl (by simp [weakL])) ⟨rfl, Nat.zero_le _, rfl, by omega, by omega⟩ ?_
  rintro n ⟨i, y⟩ ⟨hn', hi, hfd, hy0, hy1⟩
  simp only at hn' hi hfd hy0 hy1 ⊢
  repeat' first
    | (refine SW.ops_seq hY fun y1 hy1 => ?_; simp only [T.asArr, T.tg, tgL, dnT, indexAddrM, wk, wl, eq_self, isCall, callT, opM, S.ev, S.put, entryS, thawAL, thawA, RM.run, RM.bind, RM.ofOpt, allocs, Heap.ups, Heap.put, Heap.at, List.replicate, Nat.reduceAdd, Nat.reduceSub, ofConst, nilAs, if_false, if_true, binT, binTy, unT, guardT, pickT, quietK, stripT, openT, reduceIte, boxM, allocM, loadM, storeM, fieldAddrM, lenT, extractT, subM, setOb, T.get, T.setp, T.offs, T.nw, nwL, T.cel, T.isNd, T.size, sizeL, TyI.agg, Ty.agg, Ty.isFn, zeroT, Nat.reduceLT, Nat.reduceEqDiff, sumT, kill, Y3, Y4, Y27, Y41, Y101, Y103]; subst hy1)
    | refine SW.seq ?_
  refine SW.cond rfl (fun hc2 => ?_) (fun hc2 => ?_)
  · have hlt : i < l.length := by simpa using hc2
    have hg : (l.map Enc.b)[i]? = some (.nd [.bool l[i].1, .nd [.int .i64 l[i].2.1.1, .sl .b (l[i].2.1.2.1.map Enc.b), .sl .b (l[i].2.1.2.2.1.map Enc.b)]]) := map_get Enc.b l i hlt
    have hd : l.drop i = l[i] :: l.drop (i + 1) := List.drop_eq_getElem_cons hlt
    rw [hd] at hfd
    repeat' first
      | ((have hk8 := Nat.add_zero); (first | refine SW.ops_seq hY fun y1 hy1 => ?_ | refine SW.ops hY ?_ | refine vcall_to [] (laws_szSlot_ok l[i] y (hl.2 _ (List.getElem_mem hlt)) hy0 hy1) rfl (by first | rfl | (simp [pass2, T.tg, tgL, upT, lendM, lendA, lendAL, elemsM, Heap.at, RM.bind, RM.run]; done) | (simp [pass2, T.tg, tgL, upT, lendM, lendA, lendAL, elemsM, Heap.at, RM.bind, RM.run]; rfl)) (by first | rfl | simp [resClo, T.clo, cloL, T.clP, clPL]) rfl ?_ | (simp only [k8]; refine ⟨fun hb => ?_, fun hb => ?_⟩ <;> (try replace hb := Bool.eq_false_iff.2 hb) <;> (first | exact absurd hb (by decide) | replace hk8 := hb))) <;> (simp only [hk8, hg, T.asArr, T.tg, tgL, dnT, indexAddrM, wk, wl, eq_self, isCall, callT, opM, S.ev, S.put, entryS, thawAL, thawA, RM.run, RM.bind, RM.ofOpt, allocs, Heap.ups, Heap.put, Heap.at, List.replicate, Nat.reduceAdd, Nat.reduceSub, ofConst, nilAs, if_false, if_true, binT, binTy, unT, guardT, pickT, quietK, stripT, openT, reduceIte, boxM, allocM, loadM, storeM, fieldAddrM, lenT, extractT, subM, setOb, T.get, T.setp, T.offs, T.nw, nwL, T.cel, T.isNd, T.size, sizeL, TyI.agg, Ty.agg, Ty.isFn, zeroT, Nat.reduceLT, Nat.reduceEqDiff, sumT, kill, Y3, Y4, Y27, Y41, Y101, Y103]; clear hk8; first | subst hy1 | (try simp only [thenS, blockS, if_true, if_false, Nat.reduceEqDiff, reduceIte])))
      | exact absurd trivial hb
      | exact absurd hb (by decide)
      | exact absurd hcc (by decide)
      | refine SW.seq ?_
      | refine SW.block ?_
      | (refine SW.cond rfl (fun hcc => ?_) (fun hcc => ?_))
      | (refine SW.exit ?_; simp only [thenS, blockS, if_true, if_false, Nat.reduceEqDiff, reduceIte])
      | (refine SW.skip ?_; simp only [thenS, blockS])
      | refine SW.ret (show RetQ _ _ _ _ _ _ _ from ⟨.inr rfl, [_], [1], [_], _, rfl, rfl, rfl, rfl, rfl, ?_⟩)
    · have hx := hcc
      have hx' : Enc.sz l[i] y < 0 := by simpa using hx
      simp only [szFold, if_pos hx'] at hfd
      simp only [tupOf, fixEs, hsz, ← hfd]
    · have hx := hcc
      have hx' : ¬ Enc.sz l[i] y < 0 := by simpa using hx
      simp only [szFold, if_neg hx'] at hfd
      refine ⟨n - 1, (i + 1, Enc.sz l[i] y), by omega, ⟨by simp only; omega, by simp only; omega, hfd, by simp only; omega, by have := Enc.szLe l[i] y hy0; simp only; omega⟩, ?_⟩
      rw [wrap64 _ (by omega) (by omega)]
      first | exact Norm.to 0 rfl (by simp [weakL]) | exact Norm.to 1 rfl (by simp [weakL]) | exact Norm.to 2 rfl (by simp [weakL])
  · have hge : i = l.length := by
      have : ¬ i < l.length := by simpa using hc2
      omega
    rw [hge, List.drop_length] at hfd
    simp only [szFold] at hfd
    repeat' first
      | ((have hk8 := Nat.add_zero); (first | refine SW.ops_seq hY fun y1 hy1 => ?_ | refine SW.ops hY ?_ | (simp only [k8]; refine ⟨fun hb => ?_, fun hb => ?_⟩ <;> (try replace hb := Bool.eq_false_iff.2 hb) <;> (first | exact absurd hb (by decide) | replace hk8 := hb))) <;> (simp only [hk8, T.asArr, T.tg, tgL, dnT, indexAddrM, wk, wl, eq_self, isCall, callT, opM, S.ev, S.put, entryS, thawAL, thawA, RM.run, RM.bind, RM.ofOpt, allocs, Heap.ups, Heap.put, Heap.at, List.replicate, Nat.reduceAdd, Nat.reduceSub, ofConst, nilAs, if_false, if_true, binT, binTy, unT, guardT, pickT, quietK, stripT, openT, reduceIte, boxM, allocM, loadM, storeM, fieldAddrM, lenT, extractT, subM, setOb, T.get, T.setp, T.offs, T.nw, nwL, T.cel, T.isNd, T.size, sizeL, TyI.agg, Ty.agg, Ty.isFn, zeroT, Nat.reduceLT, Nat.reduceEqDiff, sumT, kill, Y3, Y4, Y27, Y41, Y101, Y103]; clear hk8; first | subst hy1 | (try simp only [thenS, blockS, if_true, if_false, Nat.reduceEqDiff, reduceIte])))
      | exact absurd trivial hb
      | exact absurd hb (by decide)
      | exact absurd hcc (by decide)
      | refine SW.seq ?_
      | refine SW.block ?_
      | (refine SW.cond rfl (fun hcc => ?_) (fun hcc => ?_))
      | (refine SW.exit ?_; simp only [thenS, blockS, if_true, if_false, Nat.reduceEqDiff, reduceIte])
      | (refine SW.skip ?_; simp only [thenS, blockS])
      | refine SW.ret (show RetQ _ _ _ _ _ _ _ from ⟨.inr rfl, [_], [1], [_], _, rfl, rfl, rfl, rfl, rfl, ?_⟩)
    simp only [tupOf, fixEs, hsz, ← hfd]
end Q1

namespace Q1
open Go Go.Vm Go.Proofs
set_option maxHeartbeats 4000000
set_option synthInstance.maxSize 2000
set_option synthInstance.maxHeartbeats 400000
set_option maxRecDepth 10000
set_option linter.unusedSimpArgs false
set_option linter.unusedVariables false

theorem mixed : Try.prog.follows .mixedOrders = true := by kernel_rfl
theorem in_ok (a b c : Int) : CallR Try.prog 72 [.int .i64 a, .int .i64 b, .int .i64 c] [] (.bool (decide (a ≥ b) && decide (a ≤ c))) := by
  refine CallR.of_body (n := 15) (rs := [.tmp 6]) hY.ok Try.func72 rfl (by decide) rfl rfl rfl rfl (fun F => ?_)
  repeat' first
    | ((have hk8 := Nat.add_zero); (first | refine SW.ops_seq hY fun y1 hy1 => ?_ | refine SW.ops hY ?_ | (simp only [k8]; refine ⟨fun hb => ?_, fun hb => ?_⟩ <;> (try replace hb := Bool.eq_false_iff.2 hb) <;> (first | exact absurd hb (by decide) | replace hk8 := hb))) <;> (simp only [hk8, T.asArr, T.tg, tgL, dnT, indexAddrM, wk, wl, eq_self, isCall, callT, opM, S.ev, S.put, entryS, thawAL, thawA, RM.run, RM.bind, RM.ofOpt, allocs, Heap.ups, Heap.put, Heap.at, List.replicate, Nat.reduceAdd, Nat.reduceSub, ofConst, nilAs, if_false, if_true, binT, binTy, unT, guardT, pickT, quietK, stripT, openT, reduceIte, boxM, allocM, loadM, storeM, fieldAddrM, lenT, extractT, subM, setOb, T.get, T.setp, T.offs, T.nw, nwL, T.cel, T.isNd, T.size, sizeL, TyI.agg, Ty.agg, Ty.isFn, zeroT, Nat.reduceLT, Nat.reduceEqDiff, sumT, kill, Y3, Y4]; clear hk8; first | subst hy1 | (try simp only [thenS, blockS, if_true, if_false, Nat.reduceEqDiff, reduceIte])))
    | exact absurd trivial hb
    | exact absurd hb (by decide)
    | exact absurd hcc (by decide)
    | refine SW.seq ?_
    | refine SW.block ?_
    | (refine SW.cond rfl (fun hcc => ?_) (fun hcc => ?_))
    | (refine SW.exit ?_; simp only [thenS, blockS, if_true, if_false, Nat.reduceEqDiff, reduceIte])
    | (refine SW.skip ?_; simp only [thenS, blockS])
    | refine SW.ret (show RetQ _ _ _ _ _ _ _ from ⟨.inr rfl, [_], [1], [_], _, rfl, rfl, rfl, rfl, rfl, ?_⟩)
  all_goals (simp only [tupOf, fixEs]; grind)
theorem l1In_ok (a b c : Int) : CallR Try.prog 118 [.int .i64 a, .int .i64 b, .int .i64 c] [] (.bool (decide (a ≥ b) && decide (a ≤ c))) := by
  refine CallR.of_body (n := 15) (rs := [.tmp 6]) hY.ok Try.func118 rfl (by decide) rfl rfl rfl rfl (fun F => ?_)
  repeat' first
    | ((have hk8 := Nat.add_zero); (first | refine SW.ops_seq hY fun y1 hy1 => ?_ | refine SW.ops hY ?_ | (simp only [k8]; refine ⟨fun hb => ?_, fun hb => ?_⟩ <;> (try replace hb := Bool.eq_false_iff.2 hb) <;> (first | exact absurd hb (by decide) | replace hk8 := hb))) <;> (simp only [hk8, T.asArr, T.tg, tgL, dnT, indexAddrM, wk, wl, eq_self, isCall, callT, opM, S.ev, S.put, entryS, thawAL, thawA, RM.run, RM.bind, RM.ofOpt, allocs, Heap.ups, Heap.put, Heap.at, List.replicate, Nat.reduceAdd, Nat.reduceSub, ofConst, nilAs, if_false, if_true, binT, binTy, unT, guardT, pickT, quietK, stripT, openT, reduceIte, boxM, allocM, loadM, storeM, fieldAddrM, lenT, extractT, subM, setOb, T.get, T.setp, T.offs, T.nw, nwL, T.cel, T.isNd, T.size, sizeL, TyI.agg, Ty.agg, Ty.isFn, zeroT, Nat.reduceLT, Nat.reduceEqDiff, sumT, kill, Y3, Y4]; clear hk8; first | subst hy1 | (try simp only [thenS, blockS, if_true, if_false, Nat.reduceEqDiff, reduceIte])))
    | exact absurd trivial hb
    | exact absurd hb (by decide)
    | exact absurd hcc (by decide)
    | refine SW.seq ?_
    | refine SW.block ?_
    | (refine SW.cond rfl (fun hcc => ?_) (fun hcc => ?_))
    | (refine SW.exit ?_; simp only [thenS, blockS, if_true, if_false, Nat.reduceEqDiff, reduceIte])
    | (refine SW.skip ?_; simp only [thenS, blockS])
    | refine SW.ret (show RetQ _ _ _ _ _ _ _ from ⟨.inr rfl, [_], [1], [_], _, rfl, rfl, rfl, rfl, rfl, ?_⟩)
  all_goals (simp only [tupOf, fixEs]; grind)
theorem oid_ok (a : Int) : CallR Try.prog 69 [.int .i64 a] [] (.bool (decide (a ≥ 1) && decide (a ≤ 31))) := by
  refine CallR.of_body (n := 5) (rs := [.tmp 2]) hY.ok Try.func69 rfl (by decide) rfl rfl rfl rfl (fun F => ?_)
  repeat' first
    | ((have hk8 := Nat.add_zero); (first | refine SW.ops_seq hY fun y1 hy1 => ?_ | refine SW.ops hY ?_ | refine vcall_to [] (in_ok _ _ _) rfl (by first | rfl | (simp [pass2, T.tg, tgL, upT, lendM, lendA, lendAL, elemsM, Heap.at, RM.bind, RM.run]; done) | (simp [pass2, T.tg, tgL, upT, lendM, lendA, lendAL, elemsM, Heap.at, RM.bind, RM.run]; rfl)) (by first | rfl | simp [resClo, T.clo, cloL, T.clP, clPL]) rfl ?_ | (simp only [k8]; refine ⟨fun hb => ?_, fun hb => ?_⟩ <;> (try replace hb := Bool.eq_false_iff.2 hb) <;> (first | exact absurd hb (by decide) | replace hk8 := hb))) <;> (simp only [hk8, T.asArr, T.tg, tgL, dnT, indexAddrM, wk, wl, eq_self, isCall, callT, opM, S.ev, S.put, entryS, thawAL, thawA, RM.run, RM.bind, RM.ofOpt, allocs, Heap.ups, Heap.put, Heap.at, List.replicate, Nat.reduceAdd, Nat.reduceSub, ofConst, nilAs, if_false, if_true, binT, binTy, unT, guardT, pickT, quietK, stripT, openT, reduceIte, boxM, allocM, loadM, storeM, fieldAddrM, lenT, extractT, subM, setOb, T.get, T.setp, T.offs, T.nw, nwL, T.cel, T.isNd, T.size, sizeL, TyI.agg, Ty.agg, Ty.isFn, zeroT, Nat.reduceLT, Nat.reduceEqDiff, sumT, kill, Y3, Y4]; clear hk8; first | subst hy1 | (try simp only [thenS, blockS, if_true, if_false, Nat.reduceEqDiff, reduceIte])))
    | exact absurd trivial hb
    | exact absurd hb (by decide)
    | exact absurd hcc (by decide)
    | refine SW.seq ?_
    | refine SW.block ?_
    | (refine SW.cond rfl (fun hcc => ?_) (fun hcc => ?_))
    | (refine SW.exit ?_; simp only [thenS, blockS, if_true, if_false, Nat.reduceEqDiff, reduceIte])
    | (refine SW.skip ?_; simp only [thenS, blockS])
    | refine SW.ret (show RetQ _ _ _ _ _ _ _ from ⟨.inr rfl, [_], [1], [_], _, rfl, rfl, rfl, rfl, rfl, ?_⟩)
  all_goals (simp only [tupOf, fixEs])
end Q1
