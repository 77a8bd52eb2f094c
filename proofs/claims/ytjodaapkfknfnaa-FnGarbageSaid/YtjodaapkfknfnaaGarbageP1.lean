/- Shows what the parts of the program do that the claim reaches: a machine of values over the model, and the contracts of functions, for all arguments within the lengths that each theorem names. -/
import Derived.Test.YtjodaapkfknfnaaGarbageV3
import Derived.Test.YtjodaapkfknfnaaRows
import Derived.Test.YtjodaapkfknfnaaGarbageV5
set_option linter.all false

namespace Q6
open Go Go.Vm Go.Proofs
def tbl : List TyI := [
  ⟨.bad, 0, 0⟩,
  ⟨.fn, 1, 8⟩,
  ⟨.int .i64, 1, 8⟩,
  ⟨.int .i64, 1, 8⟩,
  ⟨.bool, 1, 1⟩,
  ⟨.int .u8, 1, 1⟩,
  ⟨.int .u8, 1, 1⟩,
  ⟨.st [(2, 0), (3, 1), (4, 2), (6, 3)], 4, 24⟩,
  ⟨.st [(2, 0), (3, 1), (4, 2), (6, 3)], 4, 24⟩,
  ⟨.str, 1, 16⟩,
  ⟨.str, 1, 16⟩,
  ⟨.str, 1, 16⟩,
  ⟨.int .u64, 1, 8⟩,
  ⟨.st [(9, 0), (12, 1)], 2, 24⟩,
  ⟨.st [(9, 0), (12, 1)], 2, 24⟩,
  ⟨.ptr 238, 1, 8⟩,
  ⟨.ptr 241, 1, 8⟩,
  ⟨.ptr 251, 1, 8⟩,
  ⟨.st [(17, 0)], 1, 8⟩,
  ⟨.st [(17, 0)], 1, 8⟩,
  ⟨.ifc, 1, 16⟩,
  ⟨.int .i32, 1, 4⟩,
  ⟨.sl 5, 1, 24⟩,
  ⟨.fn, 1, 8⟩,
  ⟨.sl 37, 1, 24⟩,
  ⟨.fn, 1, 8⟩,
  ⟨.fn, 1, 8⟩,
  ⟨.sl 3, 1, 24⟩,
  ⟨.fn, 1, 8⟩,
  ⟨.sl 4, 1, 24⟩,
  ⟨.bad, 0, 0⟩,
  ⟨.fn, 1, 8⟩,
  ⟨.fn, 1, 8⟩,
  ⟨.fn, 1, 8⟩,
  ⟨.st [(3, 0), (27, 1), (27, 2)], 3, 56⟩,
  ⟨.st [(3, 0), (27, 1), (27, 2)], 3, 56⟩,
  ⟨.st [(4, 0), (35, 1)], 4, 64⟩,
  ⟨.st [(4, 0), (35, 1)], 4, 64⟩,
  ⟨.fn, 1, 8⟩,
  ⟨.sl 119, 1, 24⟩,
  ⟨.fn, 1, 8⟩,
  ⟨.sl 50, 1, 24⟩,
  ⟨.st [(41, 0), (41, 1)], 2, 48⟩,
  ⟨.st [(41, 0), (41, 1)], 2, 48⟩,
  ⟨.bad, 0, 0⟩,
  ⟨.fn, 1, 8⟩,
  ⟨.bad, 0, 0⟩,
  ⟨.fn, 1, 8⟩,
  ⟨.fn, 1, 8⟩,
  ⟨.st [(3, 0), (3, 1), (3, 2)], 3, 24⟩,
  ⟨.st [(3, 0), (3, 1), (3, 2)], 3, 24⟩,
  ⟨.fn, 1, 8⟩,
  ⟨.sl 184, 1, 24⟩,
  ⟨.st [(52, 0), (52, 1)], 2, 48⟩,
  ⟨.st [(52, 0), (52, 1)], 2, 48⟩,
  ⟨.fn, 1, 8⟩,
  ⟨.bad, 0, 0⟩,
  ⟨.fn, 1, 8⟩,
  ⟨.fn, 1, 8⟩,
  ⟨.fn, 1, 8⟩,
  ⟨.fn, 1, 8⟩,
  ⟨.fn, 1, 8⟩,
  ⟨.fn, 1, 8⟩,
  ⟨.fn, 1, 8⟩,
  ⟨.fn, 1, 8⟩,
  ⟨.st [(3, 0), (27, 1), (27, 2)], 3, 56⟩,
  ⟨.st [(4, 0), (65, 1)], 4, 64⟩,
  ⟨.st [(4, 0), (65, 1)], 4, 64⟩,
  ⟨.ar 4 67, 16, 256⟩,
  ⟨.st [(3, 0), (68, 1)], 17, 264⟩,
  ⟨.st [(3, 0), (68, 1)], 17, 264⟩,
  ⟨.ar 8 70, 136, 2112⟩,
  ⟨.sl 215, 1, 24⟩,
  ⟨.st [(72, 0), (3, 1)], 2, 32⟩,
  ⟨.st [(72, 0), (3, 1)], 2, 32⟩,
  ⟨.sl 218, 1, 24⟩,
  ⟨.st [(75, 0), (3, 1)], 2, 32⟩,
  ⟨.st [(75, 0), (3, 1)], 2, 32⟩,
  ⟨.sl 199, 1, 24⟩,
  ⟨.sl 201, 1, 24⟩,
  ⟨.st [(71, 0), (74, 136), (77, 138), (78, 140), (79, 141), (3, 142), (4, 143)], 144, 2240⟩,
  ⟨.st [(71, 0), (74, 136), (77, 138), (78, 140), (79, 141), (3, 142), (4, 143)], 144, 2240⟩,
  ⟨.fn, 1, 8⟩,
  ⟨.fn, 1, 8⟩,
  ⟨.ar 4 37, 16, 256⟩,
  ⟨.st [(3, 0), (84, 1)], 17, 264⟩,
  ⟨.st [(3, 0), (84, 1)], 17, 264⟩,
  ⟨.ar 8 86, 136, 2112⟩,
  ⟨.sl 192, 1, 24⟩,
  ⟨.st [(88, 0), (3, 1)], 2, 32⟩,
  ⟨.st [(88, 0), (3, 1)], 2, 32⟩,
  ⟨.sl 169, 1, 24⟩,
  ⟨.st [(91, 0), (3, 1)], 2, 32⟩,
  ⟨.st [(91, 0), (3, 1)], 2, 32⟩,
  ⟨.sl 197, 1, 24⟩,
  ⟨.sl 165, 1, 24⟩,
  ⟨.st [(87, 0), (90, 136), (93, 138), (94, 140), (95, 141), (3, 142), (4, 143)], 144, 2240⟩,
  ⟨.st [(87, 0), (90, 136), (93, 138), (94, 140), (95, 141), (3, 142), (4, 143)], 144, 2240⟩,
  ⟨.fn, 1, 8⟩,
  ⟨.fn, 1, 8⟩,
  ⟨.fn, 1, 8⟩,
  ⟨.fn, 1, 8⟩,
  ⟨.fn, 1, 8⟩,
  ⟨.fn, 1, 8⟩,
  ⟨.ptr 172, 1, 8⟩,
  ⟨.fn, 1, 8⟩,
  ⟨.fn, 1, 8⟩,
  ⟨.fn, 1, 8⟩,
  ⟨.fn, 1, 8⟩,
  ⟨.fn, 1, 8⟩,
  ⟨.fn, 1, 8⟩,
  ⟨.ptr 113, 1, 8⟩,
  ⟨.st [(24, 0), (29, 1), (27, 2), (3, 3), (4, 4)], 5, 88⟩,
  ⟨.st [(24, 0), (29, 1), (27, 2), (3, 3), (4, 4)], 5, 88⟩,
  ⟨.fn, 1, 8⟩,
  ⟨.fn, 1, 8⟩,
  ⟨.fn, 1, 8⟩,
  ⟨.fn, 1, 8⟩,
  ⟨.fn, 1, 8⟩,
  ⟨.ar 2 3, 2, 16⟩,
  ⟨.fn, 1, 8⟩,
  ⟨.fn, 1, 8⟩,
  ⟨.fn, 1, 8⟩,
  ⟨.fn, 1, 8⟩,
  ⟨.fn, 1, 8⟩,
  ⟨.fn, 1, 8⟩,
  ⟨.fn, 1, 8⟩,
  ⟨.fn, 1, 8⟩,
  ⟨.fn, 1, 8⟩,
  ⟨.fn, 1, 8⟩,
  ⟨.fn, 1, 8⟩,
  ⟨.ptr 43, 1, 8⟩,
  ⟨.fn, 1, 8⟩,
  ⟨.fn, 1, 8⟩,
  ⟨.fn, 1, 8⟩,
  ⟨.fn, 1, 8⟩,
  ⟨.fn, 1, 8⟩,
  ⟨.fn, 1, 8⟩,
  ⟨.fn, 1, 8⟩,
  ⟨.fn, 1, 8⟩,
  ⟨.fn, 1, 8⟩,
  ⟨.fn, 1, 8⟩,
  ⟨.fn, 1, 8⟩,
  ⟨.fn, 1, 8⟩,
  ⟨.fn, 1, 8⟩,
  ⟨.fn, 1, 8⟩,
  ⟨.fn, 1, 8⟩,
  ⟨.fn, 1, 8⟩,
  ⟨.fn, 1, 8⟩,
  ⟨.fn, 1, 8⟩,
  ⟨.fn, 1, 8⟩,
  ⟨.fn, 1, 8⟩,
  ⟨.fn, 1, 8⟩,
  ⟨.fn, 1, 8⟩,
  ⟨.fn, 1, 8⟩,
  ⟨.fn, 1, 8⟩,
  ⟨.fn, 1, 8⟩,
  ⟨.fn, 1, 8⟩,
  ⟨.fn, 1, 8⟩,
  ⟨.fn, 1, 8⟩,
  ⟨.fn, 1, 8⟩,
  ⟨.fn, 1, 8⟩,
  ⟨.fn, 1, 8⟩,
  ⟨.fn, 1, 8⟩,
  ⟨.st [(3, 0), (3, 1)], 2, 16⟩,
  ⟨.st [(3, 0), (3, 1)], 2, 16⟩,
  ⟨.fn, 1, 8⟩,
  ⟨.fn, 1, 8⟩,
  ⟨.st [(3, 0), (3, 1), (3, 2), (3, 3), (3, 4), (37, 5), (37, 9), (3, 13), (94, 14)], 15, 200⟩,
  ⟨.st [(3, 0), (3, 1), (3, 2), (3, 3), (3, 4), (37, 5), (37, 9), (3, 13), (94, 14)], 15, 200⟩,
  ⟨.fn, 1, 8⟩,
  ⟨.st [(22, 0), (3, 1), (3, 2)], 3, 40⟩,
  ⟨.st [(22, 0), (3, 1), (3, 2)], 3, 40⟩,
  ⟨.fn, 1, 8⟩,
  ⟨.fn, 1, 8⟩,
  ⟨.fn, 1, 8⟩,
  ⟨.fn, 1, 8⟩,
  ⟨.fn, 1, 8⟩,
  ⟨.fn, 1, 8⟩,
  ⟨.fn, 1, 8⟩,
  ⟨.fn, 1, 8⟩,
  ⟨.fn, 1, 8⟩,
  ⟨.fn, 1, 8⟩,
  ⟨.fn, 1, 8⟩,
  ⟨.st [(3, 0), (3, 1), (3, 2)], 3, 24⟩,
  ⟨.fn, 1, 8⟩,
  ⟨.fn, 1, 8⟩,
  ⟨.fn, 1, 8⟩,
  ⟨.fn, 1, 8⟩,
  ⟨.fn, 1, 8⟩,
  ⟨.fn, 1, 8⟩,
  ⟨.st [(3, 0), (86, 1), (4, 18), (4, 19)], 20, 280⟩,
  ⟨.st [(3, 0), (86, 1), (4, 18), (4, 19)], 20, 280⟩,
  ⟨.fn, 1, 8⟩,
  ⟨.fn, 1, 8⟩,
  ⟨.fn, 1, 8⟩,
  ⟨.st [(3, 0), (3, 1), (4, 2)], 3, 24⟩,
  ⟨.st [(3, 0), (3, 1), (4, 2)], 3, 24⟩,
  ⟨.fn, 1, 8⟩,
  ⟨.st [(3, 0), (3, 1), (4, 2)], 3, 24⟩,
  ⟨.fn, 1, 8⟩,
  ⟨.st [(3, 0), (3, 1)], 2, 16⟩,
  ⟨.fn, 1, 8⟩,
  ⟨.fn, 1, 8⟩,
  ⟨.fn, 1, 8⟩,
  ⟨.fn, 1, 8⟩,
  ⟨.fn, 1, 8⟩,
  ⟨.fn, 1, 8⟩,
  ⟨.fn, 1, 8⟩,
  ⟨.fn, 1, 8⟩,
  ⟨.fn, 1, 8⟩,
  ⟨.fn, 1, 8⟩,
  ⟨.fn, 1, 8⟩,
  ⟨.fn, 1, 8⟩,
  ⟨.st [(3, 0), (70, 1), (4, 18), (4, 19)], 20, 280⟩,
  ⟨.st [(3, 0), (70, 1), (4, 18), (4, 19)], 20, 280⟩,
  ⟨.fn, 1, 8⟩,
  ⟨.st [(3, 0), (3, 1), (3, 2), (3, 3), (3, 4), (67, 5), (67, 9), (3, 13), (78, 14)], 15, 200⟩,
  ⟨.st [(3, 0), (3, 1), (3, 2), (3, 3), (3, 4), (67, 5), (67, 9), (3, 13), (78, 14)], 15, 200⟩,
  ⟨.fn, 1, 8⟩,
  ⟨.fn, 1, 8⟩,
  ⟨.fn, 1, 8⟩,
  ⟨.fn, 1, 8⟩,
  ⟨.fn, 1, 8⟩,
  ⟨.fn, 1, 8⟩,
  ⟨.fn, 1, 8⟩,
  ⟨.fn, 1, 8⟩,
  ⟨.fn, 1, 8⟩,
  ⟨.fn, 1, 8⟩,
  ⟨.int .u64, 1, 8⟩,
  ⟨.fn, 1, 8⟩,
  ⟨.fn, 1, 8⟩,
  ⟨.fn, 1, 8⟩,
  ⟨.fn, 1, 8⟩,
  ⟨.fn, 1, 8⟩,
  ⟨.fn, 1, 8⟩,
  ⟨.fn, 1, 8⟩,
  ⟨.st [(17, 0), (17, 1), (17, 2), (9, 3)], 4, 40⟩,
  ⟨.st [(17, 0), (17, 1), (17, 2), (9, 3)], 4, 40⟩,
  ⟨.bad, 0, 0⟩,
  ⟨.bad, 0, 0⟩,
  ⟨.bad, 0, 0⟩,
  ⟨.fn, 1, 8⟩,
  ⟨.int .u32, 1, 4⟩,
  ⟨.int .u8, 1, 1⟩,
  ⟨.int .u8, 1, 1⟩,
  ⟨.fn, 1, 8⟩,
  ⟨.ptr 5, 1, 8⟩,
  ⟨.int .i32, 1, 4⟩,
  ⟨.int .i32, 1, 4⟩,
  ⟨.bad, 0, 0⟩,
  ⟨.bad, 0, 0⟩,
  ⟨.bad, 0, 0⟩
]
def Y : TypeId → TyI := tblY tbl
theorem hY : TysW Try.prog Y := tysW_of (by kernel_rfl)
theorem Y1 : Y 1 = ⟨.fn, 1, 8⟩ := rfl
theorem Y2 : Y 2 = ⟨.int .i64, 1, 8⟩ := rfl
theorem Y3 : Y 3 = ⟨.int .i64, 1, 8⟩ := rfl
theorem Y4 : Y 4 = ⟨.bool, 1, 1⟩ := rfl
theorem Y5 : Y 5 = ⟨.int .u8, 1, 1⟩ := rfl
theorem Y6 : Y 6 = ⟨.int .u8, 1, 1⟩ := rfl
theorem Y7 : Y 7 = ⟨.st [(2, 0), (3, 1), (4, 2), (6, 3)], 4, 24⟩ := rfl
theorem Y8 : Y 8 = ⟨.st [(2, 0), (3, 1), (4, 2), (6, 3)], 4, 24⟩ := rfl
theorem Y9 : Y 9 = ⟨.str, 1, 16⟩ := rfl
theorem Y10 : Y 10 = ⟨.str, 1, 16⟩ := rfl
theorem Y11 : Y 11 = ⟨.str, 1, 16⟩ := rfl
theorem Y12 : Y 12 = ⟨.int .u64, 1, 8⟩ := rfl
theorem Y13 : Y 13 = ⟨.st [(9, 0), (12, 1)], 2, 24⟩ := rfl
theorem Y14 : Y 14 = ⟨.st [(9, 0), (12, 1)], 2, 24⟩ := rfl
theorem Y15 : Y 15 = ⟨.ptr 238, 1, 8⟩ := rfl
theorem Y16 : Y 16 = ⟨.ptr 241, 1, 8⟩ := rfl
theorem Y17 : Y 17 = ⟨.ptr 251, 1, 8⟩ := rfl
theorem Y18 : Y 18 = ⟨.st [(17, 0)], 1, 8⟩ := rfl
theorem Y19 : Y 19 = ⟨.st [(17, 0)], 1, 8⟩ := rfl
theorem Y20 : Y 20 = ⟨.ifc, 1, 16⟩ := rfl
theorem Y21 : Y 21 = ⟨.int .i32, 1, 4⟩ := rfl
theorem Y22 : Y 22 = ⟨.sl 5, 1, 24⟩ := rfl
theorem Y23 : Y 23 = ⟨.fn, 1, 8⟩ := rfl
theorem Y24 : Y 24 = ⟨.sl 37, 1, 24⟩ := rfl
theorem Y25 : Y 25 = ⟨.fn, 1, 8⟩ := rfl
theorem Y26 : Y 26 = ⟨.fn, 1, 8⟩ := rfl
theorem Y27 : Y 27 = ⟨.sl 3, 1, 24⟩ := rfl
theorem Y28 : Y 28 = ⟨.fn, 1, 8⟩ := rfl
theorem Y29 : Y 29 = ⟨.sl 4, 1, 24⟩ := rfl
theorem Y31 : Y 31 = ⟨.fn, 1, 8⟩ := rfl
theorem Y32 : Y 32 = ⟨.fn, 1, 8⟩ := rfl
theorem Y33 : Y 33 = ⟨.fn, 1, 8⟩ := rfl
theorem Y34 : Y 34 = ⟨.st [(3, 0), (27, 1), (27, 2)], 3, 56⟩ := rfl
theorem Y35 : Y 35 = ⟨.st [(3, 0), (27, 1), (27, 2)], 3, 56⟩ := rfl
theorem Y36 : Y 36 = ⟨.st [(4, 0), (35, 1)], 4, 64⟩ := rfl
theorem Y37 : Y 37 = ⟨.st [(4, 0), (35, 1)], 4, 64⟩ := rfl
theorem Y38 : Y 38 = ⟨.fn, 1, 8⟩ := rfl
theorem Y39 : Y 39 = ⟨.sl 119, 1, 24⟩ := rfl
theorem Y40 : Y 40 = ⟨.fn, 1, 8⟩ := rfl
theorem Y41 : Y 41 = ⟨.sl 50, 1, 24⟩ := rfl
theorem Y42 : Y 42 = ⟨.st [(41, 0), (41, 1)], 2, 48⟩ := rfl
theorem Y43 : Y 43 = ⟨.st [(41, 0), (41, 1)], 2, 48⟩ := rfl
theorem Y45 : Y 45 = ⟨.fn, 1, 8⟩ := rfl
theorem Y47 : Y 47 = ⟨.fn, 1, 8⟩ := rfl
theorem Y48 : Y 48 = ⟨.fn, 1, 8⟩ := rfl
theorem Y49 : Y 49 = ⟨.st [(3, 0), (3, 1), (3, 2)], 3, 24⟩ := rfl
theorem Y50 : Y 50 = ⟨.st [(3, 0), (3, 1), (3, 2)], 3, 24⟩ := rfl
theorem Y51 : Y 51 = ⟨.fn, 1, 8⟩ := rfl
theorem Y52 : Y 52 = ⟨.sl 184, 1, 24⟩ := rfl
theorem Y53 : Y 53 = ⟨.st [(52, 0), (52, 1)], 2, 48⟩ := rfl
theorem Y54 : Y 54 = ⟨.st [(52, 0), (52, 1)], 2, 48⟩ := rfl
theorem Y55 : Y 55 = ⟨.fn, 1, 8⟩ := rfl
theorem Y57 : Y 57 = ⟨.fn, 1, 8⟩ := rfl
theorem Y58 : Y 58 = ⟨.fn, 1, 8⟩ := rfl
theorem Y59 : Y 59 = ⟨.fn, 1, 8⟩ := rfl
theorem Y60 : Y 60 = ⟨.fn, 1, 8⟩ := rfl
theorem Y61 : Y 61 = ⟨.fn, 1, 8⟩ := rfl
theorem Y62 : Y 62 = ⟨.fn, 1, 8⟩ := rfl
theorem Y63 : Y 63 = ⟨.fn, 1, 8⟩ := rfl
theorem Y64 : Y 64 = ⟨.fn, 1, 8⟩ := rfl
theorem Y65 : Y 65 = ⟨.st [(3, 0), (27, 1), (27, 2)], 3, 56⟩ := rfl
theorem Y66 : Y 66 = ⟨.st [(4, 0), (65, 1)], 4, 64⟩ := rfl
theorem Y67 : Y 67 = ⟨.st [(4, 0), (65, 1)], 4, 64⟩ := rfl
theorem Y68 : Y 68 = ⟨.ar 4 67, 16, 256⟩ := rfl
theorem Y69 : Y 69 = ⟨.st [(3, 0), (68, 1)], 17, 264⟩ := rfl
theorem Y70 : Y 70 = ⟨.st [(3, 0), (68, 1)], 17, 264⟩ := rfl
theorem Y71 : Y 71 = ⟨.ar 8 70, 136, 2112⟩ := rfl
theorem Y72 : Y 72 = ⟨.sl 215, 1, 24⟩ := rfl
theorem Y73 : Y 73 = ⟨.st [(72, 0), (3, 1)], 2, 32⟩ := rfl
theorem Y74 : Y 74 = ⟨.st [(72, 0), (3, 1)], 2, 32⟩ := rfl
theorem Y75 : Y 75 = ⟨.sl 218, 1, 24⟩ := rfl
theorem Y76 : Y 76 = ⟨.st [(75, 0), (3, 1)], 2, 32⟩ := rfl
theorem Y77 : Y 77 = ⟨.st [(75, 0), (3, 1)], 2, 32⟩ := rfl
theorem Y78 : Y 78 = ⟨.sl 199, 1, 24⟩ := rfl
theorem Y79 : Y 79 = ⟨.sl 201, 1, 24⟩ := rfl
theorem Y80 : Y 80 = ⟨.st [(71, 0), (74, 136), (77, 138), (78, 140), (79, 141), (3, 142), (4, 143)], 144, 2240⟩ := rfl
theorem Y81 : Y 81 = ⟨.st [(71, 0), (74, 136), (77, 138), (78, 140), (79, 141), (3, 142), (4, 143)], 144, 2240⟩ := rfl
theorem Y82 : Y 82 = ⟨.fn, 1, 8⟩ := rfl
theorem Y83 : Y 83 = ⟨.fn, 1, 8⟩ := rfl
theorem Y84 : Y 84 = ⟨.ar 4 37, 16, 256⟩ := rfl
theorem Y85 : Y 85 = ⟨.st [(3, 0), (84, 1)], 17, 264⟩ := rfl
theorem Y86 : Y 86 = ⟨.st [(3, 0), (84, 1)], 17, 264⟩ := rfl
theorem Y87 : Y 87 = ⟨.ar 8 86, 136, 2112⟩ := rfl
theorem Y88 : Y 88 = ⟨.sl 192, 1, 24⟩ := rfl
theorem Y89 : Y 89 = ⟨.st [(88, 0), (3, 1)], 2, 32⟩ := rfl
theorem Y90 : Y 90 = ⟨.st [(88, 0), (3, 1)], 2, 32⟩ := rfl
theorem Y91 : Y 91 = ⟨.sl 169, 1, 24⟩ := rfl
theorem Y92 : Y 92 = ⟨.st [(91, 0), (3, 1)], 2, 32⟩ := rfl
theorem Y93 : Y 93 = ⟨.st [(91, 0), (3, 1)], 2, 32⟩ := rfl
theorem Y94 : Y 94 = ⟨.sl 197, 1, 24⟩ := rfl
theorem Y95 : Y 95 = ⟨.sl 165, 1, 24⟩ := rfl
theorem Y96 : Y 96 = ⟨.st [(87, 0), (90, 136), (93, 138), (94, 140), (95, 141), (3, 142), (4, 143)], 144, 2240⟩ := rfl
theorem Y97 : Y 97 = ⟨.st [(87, 0), (90, 136), (93, 138), (94, 140), (95, 141), (3, 142), (4, 143)], 144, 2240⟩ := rfl
theorem Y98 : Y 98 = ⟨.fn, 1, 8⟩ := rfl
theorem Y99 : Y 99 = ⟨.fn, 1, 8⟩ := rfl
theorem Y100 : Y 100 = ⟨.fn, 1, 8⟩ := rfl
theorem Y101 : Y 101 = ⟨.fn, 1, 8⟩ := rfl
theorem Y102 : Y 102 = ⟨.fn, 1, 8⟩ := rfl
theorem Y103 : Y 103 = ⟨.fn, 1, 8⟩ := rfl
theorem Y104 : Y 104 = ⟨.ptr 172, 1, 8⟩ := rfl
theorem Y105 : Y 105 = ⟨.fn, 1, 8⟩ := rfl
theorem Y106 : Y 106 = ⟨.fn, 1, 8⟩ := rfl
theorem Y107 : Y 107 = ⟨.fn, 1, 8⟩ := rfl
theorem Y108 : Y 108 = ⟨.fn, 1, 8⟩ := rfl
theorem Y109 : Y 109 = ⟨.fn, 1, 8⟩ := rfl
theorem Y110 : Y 110 = ⟨.fn, 1, 8⟩ := rfl
theorem Y111 : Y 111 = ⟨.ptr 113, 1, 8⟩ := rfl
theorem Y112 : Y 112 = ⟨.st [(24, 0), (29, 1), (27, 2), (3, 3), (4, 4)], 5, 88⟩ := rfl
theorem Y113 : Y 113 = ⟨.st [(24, 0), (29, 1), (27, 2), (3, 3), (4, 4)], 5, 88⟩ := rfl
theorem Y114 : Y 114 = ⟨.fn, 1, 8⟩ := rfl
theorem Y115 : Y 115 = ⟨.fn, 1, 8⟩ := rfl
theorem Y116 : Y 116 = ⟨.fn, 1, 8⟩ := rfl
theorem Y117 : Y 117 = ⟨.fn, 1, 8⟩ := rfl
theorem Y118 : Y 118 = ⟨.fn, 1, 8⟩ := rfl
theorem Y119 : Y 119 = ⟨.ar 2 3, 2, 16⟩ := rfl
theorem Y120 : Y 120 = ⟨.fn, 1, 8⟩ := rfl
theorem Y121 : Y 121 = ⟨.fn, 1, 8⟩ := rfl
theorem Y122 : Y 122 = ⟨.fn, 1, 8⟩ := rfl
theorem Y123 : Y 123 = ⟨.fn, 1, 8⟩ := rfl
theorem Y124 : Y 124 = ⟨.fn, 1, 8⟩ := rfl
theorem Y125 : Y 125 = ⟨.fn, 1, 8⟩ := rfl
theorem Y126 : Y 126 = ⟨.fn, 1, 8⟩ := rfl
theorem Y127 : Y 127 = ⟨.fn, 1, 8⟩ := rfl
theorem Y128 : Y 128 = ⟨.fn, 1, 8⟩ := rfl
theorem Y129 : Y 129 = ⟨.fn, 1, 8⟩ := rfl
theorem Y130 : Y 130 = ⟨.fn, 1, 8⟩ := rfl
theorem Y131 : Y 131 = ⟨.ptr 43, 1, 8⟩ := rfl
theorem Y132 : Y 132 = ⟨.fn, 1, 8⟩ := rfl
theorem Y133 : Y 133 = ⟨.fn, 1, 8⟩ := rfl
theorem Y134 : Y 134 = ⟨.fn, 1, 8⟩ := rfl
theorem Y135 : Y 135 = ⟨.fn, 1, 8⟩ := rfl
theorem Y136 : Y 136 = ⟨.fn, 1, 8⟩ := rfl
theorem Y137 : Y 137 = ⟨.fn, 1, 8⟩ := rfl
theorem Y138 : Y 138 = ⟨.fn, 1, 8⟩ := rfl
theorem Y139 : Y 139 = ⟨.fn, 1, 8⟩ := rfl
theorem Y140 : Y 140 = ⟨.fn, 1, 8⟩ := rfl
theorem Y141 : Y 141 = ⟨.fn, 1, 8⟩ := rfl
theorem Y142 : Y 142 = ⟨.fn, 1, 8⟩ := rfl
theorem Y143 : Y 143 = ⟨.fn, 1, 8⟩ := rfl
theorem Y144 : Y 144 = ⟨.fn, 1, 8⟩ := rfl
theorem Y145 : Y 145 = ⟨.fn, 1, 8⟩ := rfl
theorem Y146 : Y 146 = ⟨.fn, 1, 8⟩ := rfl
theorem Y147 : Y 147 = ⟨.fn, 1, 8⟩ := rfl
theorem Y148 : Y 148 = ⟨.fn, 1, 8⟩ := rfl
theorem Y149 : Y 149 = ⟨.fn, 1, 8⟩ := rfl
theorem Y150 : Y 150 = ⟨.fn, 1, 8⟩ := rfl
theorem Y151 : Y 151 = ⟨.fn, 1, 8⟩ := rfl
theorem Y152 : Y 152 = ⟨.fn, 1, 8⟩ := rfl
theorem Y153 : Y 153 = ⟨.fn, 1, 8⟩ := rfl
theorem Y154 : Y 154 = ⟨.fn, 1, 8⟩ := rfl
theorem Y155 : Y 155 = ⟨.fn, 1, 8⟩ := rfl
theorem Y156 : Y 156 = ⟨.fn, 1, 8⟩ := rfl
theorem Y157 : Y 157 = ⟨.fn, 1, 8⟩ := rfl
theorem Y158 : Y 158 = ⟨.fn, 1, 8⟩ := rfl
theorem Y159 : Y 159 = ⟨.fn, 1, 8⟩ := rfl
theorem Y160 : Y 160 = ⟨.fn, 1, 8⟩ := rfl
theorem Y161 : Y 161 = ⟨.fn, 1, 8⟩ := rfl
theorem Y162 : Y 162 = ⟨.fn, 1, 8⟩ := rfl
theorem Y163 : Y 163 = ⟨.fn, 1, 8⟩ := rfl
theorem Y164 : Y 164 = ⟨.st [(3, 0), (3, 1)], 2, 16⟩ := rfl
theorem Y165 : Y 165 = ⟨.st [(3, 0), (3, 1)], 2, 16⟩ := rfl
theorem Y166 : Y 166 = ⟨.fn, 1, 8⟩ := rfl
theorem Y167 : Y 167 = ⟨.fn, 1, 8⟩ := rfl
theorem Y168 : Y 168 = ⟨.st [(3, 0), (3, 1), (3, 2), (3, 3), (3, 4), (37, 5), (37, 9), (3, 13), (94, 14)], 15, 200⟩ := rfl
theorem Y169 : Y 169 = ⟨.st [(3, 0), (3, 1), (3, 2), (3, 3), (3, 4), (37, 5), (37, 9), (3, 13), (94, 14)], 15, 200⟩ := rfl
theorem Y170 : Y 170 = ⟨.fn, 1, 8⟩ := rfl
theorem Y171 : Y 171 = ⟨.st [(22, 0), (3, 1), (3, 2)], 3, 40⟩ := rfl
theorem Y172 : Y 172 = ⟨.st [(22, 0), (3, 1), (3, 2)], 3, 40⟩ := rfl
theorem Y173 : Y 173 = ⟨.fn, 1, 8⟩ := rfl
theorem Y174 : Y 174 = ⟨.fn, 1, 8⟩ := rfl
theorem Y175 : Y 175 = ⟨.fn, 1, 8⟩ := rfl
theorem Y176 : Y 176 = ⟨.fn, 1, 8⟩ := rfl
theorem Y177 : Y 177 = ⟨.fn, 1, 8⟩ := rfl
theorem Y178 : Y 178 = ⟨.fn, 1, 8⟩ := rfl
theorem Y179 : Y 179 = ⟨.fn, 1, 8⟩ := rfl
theorem Y180 : Y 180 = ⟨.fn, 1, 8⟩ := rfl
theorem Y181 : Y 181 = ⟨.fn, 1, 8⟩ := rfl
theorem Y182 : Y 182 = ⟨.fn, 1, 8⟩ := rfl
theorem Y183 : Y 183 = ⟨.fn, 1, 8⟩ := rfl
theorem Y184 : Y 184 = ⟨.st [(3, 0), (3, 1), (3, 2)], 3, 24⟩ := rfl
theorem Y185 : Y 185 = ⟨.fn, 1, 8⟩ := rfl
theorem Y186 : Y 186 = ⟨.fn, 1, 8⟩ := rfl
theorem Y187 : Y 187 = ⟨.fn, 1, 8⟩ := rfl
theorem Y188 : Y 188 = ⟨.fn, 1, 8⟩ := rfl
theorem Y189 : Y 189 = ⟨.fn, 1, 8⟩ := rfl
theorem Y190 : Y 190 = ⟨.fn, 1, 8⟩ := rfl
theorem Y191 : Y 191 = ⟨.st [(3, 0), (86, 1), (4, 18), (4, 19)], 20, 280⟩ := rfl
theorem Y192 : Y 192 = ⟨.st [(3, 0), (86, 1), (4, 18), (4, 19)], 20, 280⟩ := rfl
theorem Y193 : Y 193 = ⟨.fn, 1, 8⟩ := rfl
theorem Y194 : Y 194 = ⟨.fn, 1, 8⟩ := rfl
theorem Y195 : Y 195 = ⟨.fn, 1, 8⟩ := rfl
theorem Y196 : Y 196 = ⟨.st [(3, 0), (3, 1), (4, 2)], 3, 24⟩ := rfl
theorem Y197 : Y 197 = ⟨.st [(3, 0), (3, 1), (4, 2)], 3, 24⟩ := rfl
theorem Y198 : Y 198 = ⟨.fn, 1, 8⟩ := rfl
theorem Y199 : Y 199 = ⟨.st [(3, 0), (3, 1), (4, 2)], 3, 24⟩ := rfl
theorem Y200 : Y 200 = ⟨.fn, 1, 8⟩ := rfl
theorem Y201 : Y 201 = ⟨.st [(3, 0), (3, 1)], 2, 16⟩ := rfl
theorem Y202 : Y 202 = ⟨.fn, 1, 8⟩ := rfl
theorem Y203 : Y 203 = ⟨.fn, 1, 8⟩ := rfl
theorem Y204 : Y 204 = ⟨.fn, 1, 8⟩ := rfl
theorem Y205 : Y 205 = ⟨.fn, 1, 8⟩ := rfl
theorem Y206 : Y 206 = ⟨.fn, 1, 8⟩ := rfl
theorem Y207 : Y 207 = ⟨.fn, 1, 8⟩ := rfl
theorem Y208 : Y 208 = ⟨.fn, 1, 8⟩ := rfl
theorem Y209 : Y 209 = ⟨.fn, 1, 8⟩ := rfl
theorem Y210 : Y 210 = ⟨.fn, 1, 8⟩ := rfl
theorem Y211 : Y 211 = ⟨.fn, 1, 8⟩ := rfl
theorem Y212 : Y 212 = ⟨.fn, 1, 8⟩ := rfl
theorem Y213 : Y 213 = ⟨.fn, 1, 8⟩ := rfl
theorem Y214 : Y 214 = ⟨.st [(3, 0), (70, 1), (4, 18), (4, 19)], 20, 280⟩ := rfl
theorem Y215 : Y 215 = ⟨.st [(3, 0), (70, 1), (4, 18), (4, 19)], 20, 280⟩ := rfl
theorem Y216 : Y 216 = ⟨.fn, 1, 8⟩ := rfl
theorem Y217 : Y 217 = ⟨.st [(3, 0), (3, 1), (3, 2), (3, 3), (3, 4), (67, 5), (67, 9), (3, 13), (78, 14)], 15, 200⟩ := rfl
theorem Y218 : Y 218 = ⟨.st [(3, 0), (3, 1), (3, 2), (3, 3), (3, 4), (67, 5), (67, 9), (3, 13), (78, 14)], 15, 200⟩ := rfl
theorem Y219 : Y 219 = ⟨.fn, 1, 8⟩ := rfl
theorem Y220 : Y 220 = ⟨.fn, 1, 8⟩ := rfl
theorem Y221 : Y 221 = ⟨.fn, 1, 8⟩ := rfl
theorem Y222 : Y 222 = ⟨.fn, 1, 8⟩ := rfl
theorem Y223 : Y 223 = ⟨.fn, 1, 8⟩ := rfl
theorem Y224 : Y 224 = ⟨.fn, 1, 8⟩ := rfl
theorem Y225 : Y 225 = ⟨.fn, 1, 8⟩ := rfl
theorem Y226 : Y 226 = ⟨.fn, 1, 8⟩ := rfl
theorem Y227 : Y 227 = ⟨.fn, 1, 8⟩ := rfl
theorem Y228 : Y 228 = ⟨.fn, 1, 8⟩ := rfl
theorem Y229 : Y 229 = ⟨.int .u64, 1, 8⟩ := rfl
theorem Y230 : Y 230 = ⟨.fn, 1, 8⟩ := rfl
theorem Y231 : Y 231 = ⟨.fn, 1, 8⟩ := rfl
theorem Y232 : Y 232 = ⟨.fn, 1, 8⟩ := rfl
theorem Y233 : Y 233 = ⟨.fn, 1, 8⟩ := rfl
theorem Y234 : Y 234 = ⟨.fn, 1, 8⟩ := rfl
theorem Y235 : Y 235 = ⟨.fn, 1, 8⟩ := rfl
theorem Y236 : Y 236 = ⟨.fn, 1, 8⟩ := rfl
theorem Y237 : Y 237 = ⟨.st [(17, 0), (17, 1), (17, 2), (9, 3)], 4, 40⟩ := rfl
theorem Y238 : Y 238 = ⟨.st [(17, 0), (17, 1), (17, 2), (9, 3)], 4, 40⟩ := rfl
theorem Y242 : Y 242 = ⟨.fn, 1, 8⟩ := rfl
theorem Y243 : Y 243 = ⟨.int .u32, 1, 4⟩ := rfl
theorem Y244 : Y 244 = ⟨.int .u8, 1, 1⟩ := rfl
theorem Y245 : Y 245 = ⟨.int .u8, 1, 1⟩ := rfl
theorem Y246 : Y 246 = ⟨.fn, 1, 8⟩ := rfl
theorem Y247 : Y 247 = ⟨.ptr 5, 1, 8⟩ := rfl
theorem Y248 : Y 248 = ⟨.int .i32, 1, 4⟩ := rfl
theorem Y249 : Y 249 = ⟨.int .i32, 1, 4⟩ := rfl
end Q6

namespace Q6
open Go Go.Vm Go.Proofs
theorem mixed : Try.prog.follows .mixedOrders = true := by kernel_rfl
theorem bs0_22 (own : Nat) : buildSliceM Y own 22 0 [] = .pure { v := .ref own 0 0 0, news := [.arr 1 [] false] } := build0 Y22 Y5 rfl (by decide)
theorem bs1_22 (own : Nat) (x : UInt8) : buildSliceM Y own 22 1 [(0, .int .u8 (x.toNat : Int))] = .pure { v := .ref own 0 0 1, news := [.arr 1 [.int .u8 (x.toNat : Int)] false] } := build1 Y22 Y5 rfl (by decide) rfl rfl rfl
theorem bs0_24 (own : Nat) : buildSliceM Y own 24 0 [] = .pure { v := .ref own 0 0 0, news := [.arr 4 [] false] } := build0 Y24 Y37 rfl (by decide)
theorem bs0_27 (own : Nat) : buildSliceM Y own 27 0 [] = .pure { v := .ref own 0 0 0, news := [.arr 1 [] false] } := build0 Y27 Y3 rfl (by decide)
theorem bs1_27 (own : Nat) (x : Int) : buildSliceM Y own 27 1 [(0, .int .i64 x)] = .pure { v := .ref own 0 0 1, news := [.arr 1 [.int .i64 x] false] } := build1 Y27 Y3 rfl (by decide) rfl rfl rfl
theorem bs0_29 (own : Nat) : buildSliceM Y own 29 0 [] = .pure { v := .ref own 0 0 0, news := [.arr 1 [] false] } := build0 Y29 Y4 rfl (by decide)
theorem bs1_29 (own : Nat) (x : Bool) : buildSliceM Y own 29 1 [(0, .bool x)] = .pure { v := .ref own 0 0 1, news := [.arr 1 [.bool x] false] } := build1 Y29 Y4 rfl (by decide) rfl rfl rfl
theorem bs0_39 (own : Nat) : buildSliceM Y own 39 0 [] = .pure { v := .ref own 0 0 0, news := [.arr 2 [] false] } := build0 Y39 Y119 rfl (by decide)
theorem bs1_39 (own : Nat) (x_0 : Int) (x_1 : Int) : buildSliceM Y own 39 1 [(0, .nd [.int .i64 x_0, .int .i64 x_1])] = .pure { v := .ref own 0 0 1, news := [.arr 2 [.nd [.int .i64 x_0, .int .i64 x_1]] false] } := build1 Y39 Y119 rfl (by decide) rfl rfl rfl
theorem bs0_41 (own : Nat) : buildSliceM Y own 41 0 [] = .pure { v := .ref own 0 0 0, news := [.arr 3 [] false] } := build0 Y41 Y50 rfl (by decide)
theorem bs1_41 (own : Nat) (x_0 : Int) (x_1 : Int) (x_2 : Int) : buildSliceM Y own 41 1 [(0, .nd [.int .i64 x_0, .int .i64 x_1, .int .i64 x_2])] = .pure { v := .ref own 0 0 1, news := [.arr 3 [.nd [.int .i64 x_0, .int .i64 x_1, .int .i64 x_2]] false] } := build1 Y41 Y50 rfl (by decide) rfl rfl rfl
theorem bs0_52 (own : Nat) : buildSliceM Y own 52 0 [] = .pure { v := .ref own 0 0 0, news := [.arr 3 [] false] } := build0 Y52 Y184 rfl (by decide)
theorem bs1_52 (own : Nat) (x_0 : Int) (x_1 : Int) (x_2 : Int) : buildSliceM Y own 52 1 [(0, .nd [.int .i64 x_0, .int .i64 x_1, .int .i64 x_2])] = .pure { v := .ref own 0 0 1, news := [.arr 3 [.nd [.int .i64 x_0, .int .i64 x_1, .int .i64 x_2]] false] } := build1 Y52 Y184 rfl (by decide) rfl rfl rfl
theorem bs0_72 (own : Nat) : buildSliceM Y own 72 0 [] = .pure { v := .ref own 0 0 0, news := [.arr 20 [] false] } := build0 Y72 Y215 rfl (by decide)
theorem bs0_75 (own : Nat) : buildSliceM Y own 75 0 [] = .pure { v := .ref own 0 0 0, news := [.arr 15 [] false] } := build0 Y75 Y218 rfl (by decide)
theorem bs0_78 (own : Nat) : buildSliceM Y own 78 0 [] = .pure { v := .ref own 0 0 0, news := [.arr 3 [] false] } := build0 Y78 Y199 rfl (by decide)
theorem bs1_78 (own : Nat) (x_0 : Int) (x_1 : Int) (x_2 : Bool) : buildSliceM Y own 78 1 [(0, .nd [.int .i64 x_0, .int .i64 x_1, .bool x_2])] = .pure { v := .ref own 0 0 1, news := [.arr 3 [.nd [.int .i64 x_0, .int .i64 x_1, .bool x_2]] false] } := build1 Y78 Y199 rfl (by decide) rfl rfl rfl
theorem bs0_79 (own : Nat) : buildSliceM Y own 79 0 [] = .pure { v := .ref own 0 0 0, news := [.arr 2 [] false] } := build0 Y79 Y201 rfl (by decide)
theorem bs1_79 (own : Nat) (x_0 : Int) (x_1 : Int) : buildSliceM Y own 79 1 [(0, .nd [.int .i64 x_0, .int .i64 x_1])] = .pure { v := .ref own 0 0 1, news := [.arr 2 [.nd [.int .i64 x_0, .int .i64 x_1]] false] } := build1 Y79 Y201 rfl (by decide) rfl rfl rfl
theorem bs0_88 (own : Nat) : buildSliceM Y own 88 0 [] = .pure { v := .ref own 0 0 0, news := [.arr 20 [] false] } := build0 Y88 Y192 rfl (by decide)
theorem bs0_91 (own : Nat) : buildSliceM Y own 91 0 [] = .pure { v := .ref own 0 0 0, news := [.arr 15 [] false] } := build0 Y91 Y169 rfl (by decide)
theorem bs0_94 (own : Nat) : buildSliceM Y own 94 0 [] = .pure { v := .ref own 0 0 0, news := [.arr 3 [] false] } := build0 Y94 Y197 rfl (by decide)
theorem bs1_94 (own : Nat) (x_0 : Int) (x_1 : Int) (x_2 : Bool) : buildSliceM Y own 94 1 [(0, .nd [.int .i64 x_0, .int .i64 x_1, .bool x_2])] = .pure { v := .ref own 0 0 1, news := [.arr 3 [.nd [.int .i64 x_0, .int .i64 x_1, .bool x_2]] false] } := build1 Y94 Y197 rfl (by decide) rfl rfl rfl
theorem bs0_95 (own : Nat) : buildSliceM Y own 95 0 [] = .pure { v := .ref own 0 0 0, news := [.arr 2 [] false] } := build0 Y95 Y165 rfl (by decide)
theorem bs1_95 (own : Nat) (x_0 : Int) (x_1 : Int) : buildSliceM Y own 95 1 [(0, .nd [.int .i64 x_0, .int .i64 x_1])] = .pure { v := .ref own 0 0 1, news := [.arr 2 [.nd [.int .i64 x_0, .int .i64 x_1]] false] } := build1 Y95 Y165 rfl (by decide) rfl rfl rfl
abbrev ObjT := (Int × (List Int) × (List Int) × Unit)
abbrev SlotT := (Bool × ((Int × (List Int) × (List Int) × Unit)) × Unit)
abbrev LiveT := (Int × Int × Bool × Unit)
abbrev RecT := (Int × Int × Int × Int × Int × ((Bool × ((Int × (List Int) × (List Int) × Unit)) × Unit)) × ((Bool × ((Int × (List Int) × (List Int) × Unit)) × Unit)) × Int × (List ((Int × Int × Bool × Unit))) × Unit)
abbrev PageT := (Int × ((((Bool × ((Int × (List Int) × (List Int) × Unit)) × Unit)) × ((Bool × ((Int × (List Int) × (List Int) × Unit)) × Unit)) × ((Bool × ((Int × (List Int) × (List Int) × Unit)) × Unit)) × ((Bool × ((Int × (List Int) × (List Int) × Unit)) × Unit)) × Unit)) × Unit)
end Q6

namespace Q6
open Go Go.Vm Go.Proofs
set_option maxHeartbeats 4000000
set_option synthInstance.maxSize 2000
set_option synthInstance.maxHeartbeats 400000
set_option maxRecDepth 10000
set_option linter.unusedSimpArgs false
set_option linter.unusedVariables false

theorem goK {A B1 B2 B3 B4 B5 B6 B7 B8 B9 B10 B11 B12 B13 B14 B15 B16 : Prop} (b1 : B1) (b2 : B2) (b3 : B3) (b4 : B4) (b5 : B5) (b6 : B6) (b7 : B7) (b8 : B8) (b9 : B9) (b10 : B10) (b11 : B11) (b12 : B12) (b13 : B13) (b14 : B14) (b15 : B15) (b16 : B16) (k : B1 →  B2 →  B3 →  B4 →  B5 →  B6 →  B7 →  B8 →  B9 →  B10 →  B11 →  B12 →  B13 →  B14 →  B15 →  B16 → A := by intro h1 h2 h3 h4 h5 h6 h7 h8 h9 h10 h11 h12 h13 h14 h15 h16; refine tw ?_ ?_; (focus (repeat' first | ((have hk8 := Nat.add_zero); (first | refine SW.ops_seq hY fun y1 hy1 => ?_ | refine SW.ops hY ?_ | refine SW.seq (SW.draw2x hD1 hY mixed (by kernel_rfl) ?_) | refine SW.draw2x hD1 hY mixed (by kernel_rfl) ?_ | refine SW.seq (SW.draw2x hD2 hY mixed (by kernel_rfl) ?_) | refine SW.draw2x hD2 hY mixed (by kernel_rfl) ?_ | refine SW.seq (SW.draw2x hD3 hY mixed (by kernel_rfl) ?_) | refine SW.draw2x hD3 hY mixed (by kernel_rfl) ?_ | refine SW.draw_seq hY mixed (by kernel_rfl) fun y1 hy1 => ?_ | refine SW.draw hY mixed (by kernel_rfl) ?_ | refine vcall_c hC1 (hK := ?_) | refine vcall_c hC2 (hK := ?_) | refine vcall_c hC3 (hK := ?_) | refine vcall_c hC4 (hK := ?_) | refine vcall_c hC5 (hK := ?_) | refine vcall_c hC6 (hK := ?_) | refine vcall_c hC7 (hK := ?_) | refine vcall_c hC8 (hK := ?_) | refine vcall_c hC9 (hK := ?_) | refine vcall_c hC10 (hK := ?_) | refine vcall_c hC11 (hK := ?_) | refine vcall_c hC12 (hK := ?_) | refine vcall_c hC13 (hK := ?_) | refine vcall_c hC14 (hK := ?_) | refine vcall_c (cx [] (hG1 _)) (hK := ?_) | refine vcall_c (cx [] (hG1 _ _)) (hK := ?_) | refine vcall_c (cx [] (hG1 _ _ _)) (hK := ?_) | refine vcall_c (cx [] (hG1 _ _ _ _)) (hK := ?_) | refine vcall_c (cx [] (hG2 _)) (hK := ?_) | refine vcall_c (cx [] (hG2 _ _)) (hK := ?_) | refine vcall_c (cx [] (hG2 _ _ _)) (hK := ?_) | refine vcall_c (cx [] (hG2 _ _ _ _)) (hK := ?_) | refine vcall_c (cx [] (hG3 _)) (hK := ?_) | refine vcall_c (cx [] (hG3 _ _)) (hK := ?_) | refine vcall_c (cx [] (hG3 _ _ _)) (hK := ?_) | refine vcall_c (cx [] (hG3 _ _ _ _)) (hK := ?_) | refine kgf ?_ | refine kgt ?_ | (refine k8p ?_; (simp only [k13, hk8, upT_g, dnT_g, nb_g, dnT_b, dnT_s, dnT_0, dnT_r, fx, fy, fz, wo, decide_true, decide_false, wz0, wz1, wz2, wz3, wz4, wz5, wz6, wz7, wz8, appM, Ty.isInt, capT, appendZM, buildM, setAll, plSt, plAr, mnmx, Int.reduceLT, vrec, List.drop_succ_cons, List.drop_zero, convertM, indexM, fieldM, Int.toNat_zero, Int.toNat_one, Int.le_refl, Int.zero_le_ofNat, Int.reduceEq, Int.reduceNe, ne_eq, not_false_eq_true, u8_wrap, marksG_len, marks_len, bne_self_eq_false, take_map_len, tgL_byte, T.asArr, T.tg, tgL, indexAddrM, wk, wl, eq_self, isCall, callT, opM, S.ev, S.put, entryS, thawAL, thawA, RM.run, RM.bind, RM.ofOpt, allocs, Heap.ups, Heap.put, Heap.at, List.replicate, Nat.reduceAdd, Nat.reduceSub, ofConst, nilAs, if_false, if_true, binT, binTy, unT, guardT, quietK, reduceIte, boxM, allocM, loadM, storeM, fieldAddrM, lenT, extractT, subM, setOb, T.get, T.setp, T.offs, T.nw, nwL, T.cel, T.isNd, T.size, sizeL, TyI.agg, Ty.agg, Ty.isFn, zeroT, Nat.reduceLT, Nat.reduceEqDiff, sumT, kill]); (first | refine vpure_c hC1 (hK := ?_) | refine vpure_c hC2 (hK := ?_) | refine vpure_c hC3 (hK := ?_) | refine vpure_c hC4 (hK := ?_) | refine vpure_c hC5 (hK := ?_) | refine vpure_c hC6 (hK := ?_) | refine vpure_c hC7 (hK := ?_) | refine vpure_c hC8 (hK := ?_) | refine vpure_c hC9 (hK := ?_) | refine vpure_c hC10 (hK := ?_) | refine vpure_c hC11 (hK := ?_) | refine vpure_c hC12 (hK := ?_) | refine vpure_c hC13 (hK := ?_) | refine vpure_c hC14 (hK := ?_) | refine vpure_c (cx [] (hG1 _)) (hK := ?_) | refine vpure_c (cx [] (hG1 _ _)) (hK := ?_) | refine vpure_c (cx [] (hG1 _ _ _)) (hK := ?_) | refine vpure_c (cx [] (hG1 _ _ _ _)) (hK := ?_) | refine vpure_c (cx [] (hG2 _)) (hK := ?_) | refine vpure_c (cx [] (hG2 _ _)) (hK := ?_) | refine vpure_c (cx [] (hG2 _ _ _)) (hK := ?_) | refine vpure_c (cx [] (hG2 _ _ _ _)) (hK := ?_) | refine vpure_c (cx [] (hG3 _)) (hK := ?_) | refine vpure_c (cx [] (hG3 _ _)) (hK := ?_) | refine vpure_c (cx [] (hG3 _ _ _)) (hK := ?_) | refine vpure_c (cx [] (hG3 _ _ _ _)) (hK := ?_))) | (simp only [k8]; refine .inl ?_; refine ⟨fun hb => ?_, fun hb => ?_⟩ <;> (try replace hb := Bool.eq_false_iff.2 hb) <;> (first | exact absurd hb (by decide) | replace hk8 := hb))) <;> (simp only [k13, hk8, upT_g, dnT_g, nb_g, dnT_b, dnT_s, dnT_0, dnT_r, fx, fy, fz, wo, decide_true, decide_false, wz0, wz1, wz2, wz3, wz4, wz5, wz6, wz7, wz8, appM, Ty.isInt, capT, appendZM, buildM, setAll, plSt, plAr, mnmx, Int.reduceLT, vrec, List.drop_succ_cons, List.drop_zero, convertM, indexM, fieldM, Int.toNat_zero, Int.toNat_one, Int.le_refl, Int.zero_le_ofNat, Int.reduceEq, Int.reduceNe, ne_eq, not_false_eq_true, u8_wrap, marksG_len, marks_len, bne_self_eq_false, take_map_len, tgL_byte, T.asArr, T.tg, tgL, indexAddrM, wk, wl, eq_self, isCall, callT, opM, S.ev, S.put, entryS, thawAL, thawA, RM.run, RM.bind, RM.ofOpt, allocs, Heap.ups, Heap.put, Heap.at, List.replicate, Nat.reduceAdd, Nat.reduceSub, ofConst, nilAs, if_false, if_true, binT, binTy, unT, guardT, quietK, reduceIte, boxM, allocM, loadM, storeM, fieldAddrM, lenT, extractT, subM, setOb, T.get, T.setp, T.offs, T.nw, nwL, T.cel, T.isNd, T.size, sizeL, TyI.agg, Ty.agg, Ty.isFn, zeroT, Nat.reduceLT, Nat.reduceEqDiff, sumT, kill]; clear hk8; first | subst hy1 | (try simp only [thenS, blockS, if_true, if_false, Nat.reduceEqDiff, reduceIte]))) | (refine Chk.mk (by simp only [rdqs, rdq, k13, upT_g, dnT_g, nb_g, dnT_b, dnT_s, dnT_0, dnT_r, fx, fy, fz, wo, decide_true, decide_false, wz0, wz1, wz2, wz3, wz4, wz5, wz6, wz7, wz8, appM, Ty.isInt, capT, appendZM, buildM, setAll, plSt, plAr, mnmx, Int.reduceLT, vrec, List.drop_succ_cons, List.drop_zero, convertM, indexM, fieldM, Int.toNat_zero, Int.toNat_one, Int.le_refl, Int.zero_le_ofNat, Int.reduceEq, Int.reduceNe, ne_eq, not_false_eq_true, u8_wrap, marksG_len, marks_len, bne_self_eq_false, take_map_len, tgL_byte, T.asArr, T.tg, tgL, indexAddrM, wk, wl, eq_self, isCall, callT, opM, S.ev, S.put, entryS, thawAL, thawA, RM.run, RM.bind, RM.ofOpt, allocs, Heap.ups, Heap.put, Heap.at, List.replicate, Nat.reduceAdd, Nat.reduceSub, ofConst, nilAs, if_false, if_true, binT, binTy, unT, guardT, quietK, reduceIte, boxM, allocM, loadM, storeM, fieldAddrM, lenT, extractT, subM, setOb, T.get, T.setp, T.offs, T.nw, nwL, T.cel, T.isNd, T.size, sizeL, TyI.agg, Ty.agg, Ty.isFn, zeroT, Nat.reduceLT, Nat.reduceEqDiff, sumT, kill]; try trivial) ?_) | exact absurd trivial hb | exact absurd hb (by decide) | exact absurd hcc (by decide) | refine SW.seq ?_ | refine SW.block ?_ | (refine SW.cond rfl (fun hcc => ?_) (fun hcc => ?_)) | (refine SW.exit ?_; simp only [thenS, blockS, if_true, if_false, Nat.reduceEqDiff, reduceIte]) | (refine SW.skip ?_; simp only [thenS, blockS]) | exact SW.ret (RetQ.r hR) | (refine SW.ret (show RetQ _ _ _ _ _ _ _ from ⟨.inr rfl, [_], [1], [_], _, rfl, rfl, rfl, rfl, rfl, ?_⟩)) | (refine SW.ret (show RetQ _ _ _ _ _ _ _ from ⟨.inr rfl, [_, _], [0, 0], [_, _], _, rfl, rfl, rfl, rfl, rfl, ?_⟩)) | (refine SW.ret (show RetQ _ _ _ _ _ _ _ from ⟨.inr rfl, [_, _, _], [0, 0, 0], [_, _, _], _, rfl, rfl, rfl, rfl, rfl, ?_⟩)) | (refine SW.ret (show RetQ _ _ _ _ _ _ _ from ⟨.inr rfl, [_, _, _, _], [0, 0, 0, 0], [_, _, _, _], _, rfl, rfl, rfl, rfl, rfl, ?_⟩)) | ((repeat (refine Wh.h ?_ hb; clear hb)); (repeat (refine Wh.h ?_ hcc; clear hcc)); (first | exact h1 | exact h2 | exact h3 | exact h4 | exact h5 | exact h6 | exact h7 | exact h8 | exact h9 | exact h10 | exact h11 | exact h12 | exact h13 | exact h14 | exact h15 | exact h16)))); (try (have hq : True := h1)); (try (have hq : True := h2)); (try (have hq : True := h3)); (try (have hq : True := h4)); (try (have hq : True := h5)); (try (have hq : True := h6)); (try (have hq : True := h7)); (try (have hq : True := h8)); (try (have hq : True := h9)); (try (have hq : True := h10)); (try (have hq : True := h11)); (try (have hq : True := h12)); (try (have hq : True := h13)); (try (have hq : True := h14)); (try (have hq : True := h15)); (try (have hq : True := h16)); exact True.intro) : A := k b1 b2 b3 b4 b5 b6 b7 b8 b9 b10 b11 b12 b13 b14 b15 b16
theorem goN {A B1 B2 B3 B4 B5 B6 B7 B8 B9 B10 B11 B12 B13 B14 B15 B16 : Prop} (b1 : B1) (b2 : B2) (b3 : B3) (b4 : B4) (b5 : B5) (b6 : B6) (b7 : B7) (b8 : B8) (b9 : B9) (b10 : B10) (b11 : B11) (b12 : B12) (b13 : B13) (b14 : B14) (b15 : B15) (b16 : B16) (k : B1 →  B2 →  B3 →  B4 →  B5 →  B6 →  B7 →  B8 →  B9 →  B10 →  B11 →  B12 →  B13 →  B14 →  B15 →  B16 → A := by intro h1 h2 h3 h4 h5 h6 h7 h8 h9 h10 h11 h12 h13 h14 h15 h16; refine tw ?_ ?_; (focus (repeat' first | ((have hk8 := Nat.add_zero); (first | refine SW.ops_seq hY fun y1 hy1 => ?_ | refine SW.ops hY ?_ | refine SW.seq (SW.draw2x hD1 hY mixed (by kernel_rfl) ?_) | refine SW.draw2x hD1 hY mixed (by kernel_rfl) ?_ | refine SW.seq (SW.draw2x hD2 hY mixed (by kernel_rfl) ?_) | refine SW.draw2x hD2 hY mixed (by kernel_rfl) ?_ | refine SW.seq (SW.draw2x hD3 hY mixed (by kernel_rfl) ?_) | refine SW.draw2x hD3 hY mixed (by kernel_rfl) ?_ | refine SW.draw_seq hY mixed (by kernel_rfl) fun y1 hy1 => ?_ | refine SW.draw hY mixed (by kernel_rfl) ?_ | refine vcall_c hC1 (hK := ?_) | refine vcall_c hC2 (hK := ?_) | refine vcall_c hC3 (hK := ?_) | refine vcall_c hC4 (hK := ?_) | refine vcall_c hC5 (hK := ?_) | refine vcall_c hC6 (hK := ?_) | refine vcall_c hC7 (hK := ?_) | refine vcall_c hC8 (hK := ?_) | refine vcall_c hC9 (hK := ?_) | refine vcall_c hC10 (hK := ?_) | refine vcall_c hC11 (hK := ?_) | refine vcall_c hC12 (hK := ?_) | refine vcall_c hC13 (hK := ?_) | refine vcall_c hC14 (hK := ?_) | refine vcall_c (cx [] (hG1 _)) (hK := ?_) | refine vcall_c (cx [] (hG1 _ _)) (hK := ?_) | refine vcall_c (cx [] (hG1 _ _ _)) (hK := ?_) | refine vcall_c (cx [] (hG1 _ _ _ _)) (hK := ?_) | refine vcall_c (cx [] (hG2 _)) (hK := ?_) | refine vcall_c (cx [] (hG2 _ _)) (hK := ?_) | refine vcall_c (cx [] (hG2 _ _ _)) (hK := ?_) | refine vcall_c (cx [] (hG2 _ _ _ _)) (hK := ?_) | refine vcall_c (cx [] (hG3 _)) (hK := ?_) | refine vcall_c (cx [] (hG3 _ _)) (hK := ?_) | refine vcall_c (cx [] (hG3 _ _ _)) (hK := ?_) | refine vcall_c (cx [] (hG3 _ _ _ _)) (hK := ?_) | refine kgf ?_ | refine kgt ?_ | (refine k8p ?_; (simp only [k13, hk8, upT_g, dnT_g, nb_g, dnT_b, dnT_s, dnT_0, dnT_r, fx, fy, fz, wo, decide_true, decide_false, wz0, wz1, wz2, wz3, wz4, wz5, wz6, wz7, wz8, appM, Ty.isInt, capT, appendZM, buildM, setAll, plSt, plAr, mnmx, Int.reduceLT, vrec, List.drop_succ_cons, List.drop_zero, convertM, indexM, fieldM, Int.toNat_zero, Int.toNat_one, Int.le_refl, Int.zero_le_ofNat, Int.reduceEq, Int.reduceNe, ne_eq, not_false_eq_true, u8_wrap, marksG_len, marks_len, bne_self_eq_false, take_map_len, tgL_byte, T.asArr, T.tg, tgL, indexAddrM, wk, wl, eq_self, isCall, callT, opM, S.ev, S.put, entryS, thawAL, thawA, RM.run, RM.bind, RM.ofOpt, allocs, Heap.ups, Heap.put, Heap.at, List.replicate, Nat.reduceAdd, Nat.reduceSub, ofConst, nilAs, if_false, if_true, binT, binTy, unT, guardT, quietK, reduceIte, boxM, allocM, loadM, storeM, fieldAddrM, lenT, extractT, subM, setOb, T.get, T.setp, T.offs, T.nw, nwL, T.cel, T.isNd, T.size, sizeL, TyI.agg, Ty.agg, Ty.isFn, zeroT, Nat.reduceLT, Nat.reduceEqDiff, sumT, kill]); (first | refine vpure_c hC1 (hK := ?_) | refine vpure_c hC2 (hK := ?_) | refine vpure_c hC3 (hK := ?_) | refine vpure_c hC4 (hK := ?_) | refine vpure_c hC5 (hK := ?_) | refine vpure_c hC6 (hK := ?_) | refine vpure_c hC7 (hK := ?_) | refine vpure_c hC8 (hK := ?_) | refine vpure_c hC9 (hK := ?_) | refine vpure_c hC10 (hK := ?_) | refine vpure_c hC11 (hK := ?_) | refine vpure_c hC12 (hK := ?_) | refine vpure_c hC13 (hK := ?_) | refine vpure_c hC14 (hK := ?_) | refine vpure_c (cx [] (hG1 _)) (hK := ?_) | refine vpure_c (cx [] (hG1 _ _)) (hK := ?_) | refine vpure_c (cx [] (hG1 _ _ _)) (hK := ?_) | refine vpure_c (cx [] (hG1 _ _ _ _)) (hK := ?_) | refine vpure_c (cx [] (hG2 _)) (hK := ?_) | refine vpure_c (cx [] (hG2 _ _)) (hK := ?_) | refine vpure_c (cx [] (hG2 _ _ _)) (hK := ?_) | refine vpure_c (cx [] (hG2 _ _ _ _)) (hK := ?_) | refine vpure_c (cx [] (hG3 _)) (hK := ?_) | refine vpure_c (cx [] (hG3 _ _)) (hK := ?_) | refine vpure_c (cx [] (hG3 _ _ _)) (hK := ?_) | refine vpure_c (cx [] (hG3 _ _ _ _)) (hK := ?_)))) <;> (simp only [k13, hk8, upT_g, dnT_g, nb_g, dnT_b, dnT_s, dnT_0, dnT_r, fx, fy, fz, wo, decide_true, decide_false, wz0, wz1, wz2, wz3, wz4, wz5, wz6, wz7, wz8, appM, Ty.isInt, capT, appendZM, buildM, setAll, plSt, plAr, mnmx, Int.reduceLT, vrec, List.drop_succ_cons, List.drop_zero, convertM, indexM, fieldM, Int.toNat_zero, Int.toNat_one, Int.le_refl, Int.zero_le_ofNat, Int.reduceEq, Int.reduceNe, ne_eq, not_false_eq_true, u8_wrap, marksG_len, marks_len, bne_self_eq_false, take_map_len, tgL_byte, T.asArr, T.tg, tgL, indexAddrM, wk, wl, eq_self, isCall, callT, opM, S.ev, S.put, entryS, thawAL, thawA, RM.run, RM.bind, RM.ofOpt, allocs, Heap.ups, Heap.put, Heap.at, List.replicate, Nat.reduceAdd, Nat.reduceSub, ofConst, nilAs, if_false, if_true, binT, binTy, unT, guardT, quietK, reduceIte, boxM, allocM, loadM, storeM, fieldAddrM, lenT, extractT, subM, setOb, T.get, T.setp, T.offs, T.nw, nwL, T.cel, T.isNd, T.size, sizeL, TyI.agg, Ty.agg, Ty.isFn, zeroT, Nat.reduceLT, Nat.reduceEqDiff, sumT, kill]; clear hk8; first | subst hy1 | (try simp only [thenS, blockS, if_true, if_false, Nat.reduceEqDiff, reduceIte]))) | (refine Chk.mk (by simp only [rdqs, rdq, k13, upT_g, dnT_g, nb_g, dnT_b, dnT_s, dnT_0, dnT_r, fx, fy, fz, wo, decide_true, decide_false, wz0, wz1, wz2, wz3, wz4, wz5, wz6, wz7, wz8, appM, Ty.isInt, capT, appendZM, buildM, setAll, plSt, plAr, mnmx, Int.reduceLT, vrec, List.drop_succ_cons, List.drop_zero, convertM, indexM, fieldM, Int.toNat_zero, Int.toNat_one, Int.le_refl, Int.zero_le_ofNat, Int.reduceEq, Int.reduceNe, ne_eq, not_false_eq_true, u8_wrap, marksG_len, marks_len, bne_self_eq_false, take_map_len, tgL_byte, T.asArr, T.tg, tgL, indexAddrM, wk, wl, eq_self, isCall, callT, opM, S.ev, S.put, entryS, thawAL, thawA, RM.run, RM.bind, RM.ofOpt, allocs, Heap.ups, Heap.put, Heap.at, List.replicate, Nat.reduceAdd, Nat.reduceSub, ofConst, nilAs, if_false, if_true, binT, binTy, unT, guardT, quietK, reduceIte, boxM, allocM, loadM, storeM, fieldAddrM, lenT, extractT, subM, setOb, T.get, T.setp, T.offs, T.nw, nwL, T.cel, T.isNd, T.size, sizeL, TyI.agg, Ty.agg, Ty.isFn, zeroT, Nat.reduceLT, Nat.reduceEqDiff, sumT, kill]; try trivial) ?_) | exact absurd trivial hb | exact absurd hb (by decide) | exact absurd hcc (by decide) | refine SW.seq ?_ | refine SW.block ?_ | (refine SW.exit ?_; simp only [thenS, blockS, if_true, if_false, Nat.reduceEqDiff, reduceIte]) | (refine SW.skip ?_; simp only [thenS, blockS]) | ((repeat (refine Wh.h ?_ hb; clear hb)); (repeat (refine Wh.h ?_ hcc; clear hcc)); (first | exact h1 | exact h2 | exact h3 | exact h4 | exact h5 | exact h6 | exact h7 | exact h8 | exact h9 | exact h10 | exact h11 | exact h12 | exact h13 | exact h14 | exact h15 | exact h16)))); (try (have hq : True := h1)); (try (have hq : True := h2)); (try (have hq : True := h3)); (try (have hq : True := h4)); (try (have hq : True := h5)); (try (have hq : True := h6)); (try (have hq : True := h7)); (try (have hq : True := h8)); (try (have hq : True := h9)); (try (have hq : True := h10)); (try (have hq : True := h11)); (try (have hq : True := h12)); (try (have hq : True := h13)); (try (have hq : True := h14)); (try (have hq : True := h15)); (try (have hq : True := h16)); exact True.intro) : A := k b1 b2 b3 b4 b5 b6 b7 b8 b9 b10 b11 b12 b13 b14 b15 b16
theorem goS {A B1 : Prop} (b1 : B1) (k : B1 → A := by intro h1; refine tw ?_ ?_; (focus (repeat' first | ((have hk8 := Nat.add_zero); (first | refine SW.ops_seq hY fun y1 hy1 => ?_) <;> (simp only [k13, hk8, upT_g, dnT_g, nb_g, dnT_b, dnT_s, dnT_0, dnT_r, fx, fy, fz, wo, decide_true, decide_false, wz0, wz1, wz2, wz3, wz4, wz5, wz6, wz7, wz8, appM, Ty.isInt, capT, appendZM, buildM, setAll, plSt, plAr, mnmx, Int.reduceLT, vrec, List.drop_succ_cons, List.drop_zero, convertM, indexM, fieldM, Int.toNat_zero, Int.toNat_one, Int.le_refl, Int.zero_le_ofNat, Int.reduceEq, Int.reduceNe, ne_eq, not_false_eq_true, u8_wrap, marksG_len, marks_len, bne_self_eq_false, take_map_len, tgL_byte, T.asArr, T.tg, tgL, indexAddrM, wk, wl, eq_self, isCall, callT, opM, S.ev, S.put, entryS, thawAL, thawA, RM.run, RM.bind, RM.ofOpt, allocs, Heap.ups, Heap.put, Heap.at, List.replicate, Nat.reduceAdd, Nat.reduceSub, ofConst, nilAs, if_false, if_true, binT, binTy, unT, guardT, quietK, reduceIte, boxM, allocM, loadM, storeM, fieldAddrM, lenT, extractT, subM, setOb, T.get, T.setp, T.offs, T.nw, nwL, T.cel, T.isNd, T.size, sizeL, TyI.agg, Ty.agg, Ty.isFn, zeroT, Nat.reduceLT, Nat.reduceEqDiff, sumT, kill]; clear hk8; first | subst hy1 | (try simp only [thenS, blockS, if_true, if_false, Nat.reduceEqDiff, reduceIte]))) | refine SW.seq ?_ | (exact h1))); (try (have hq : True := h1)); exact True.intro) : A := k b1
theorem goR {A B1 B2 B3 B4 B5 B6 B7 B8 B9 B10 B11 B12 B13 B14 B15 B16 : Prop} (b1 : B1) (b2 : B2) (b3 : B3) (b4 : B4) (b5 : B5) (b6 : B6) (b7 : B7) (b8 : B8) (b9 : B9) (b10 : B10) (b11 : B11) (b12 : B12) (b13 : B13) (b14 : B14) (b15 : B15) (b16 : B16) (k : B1 →  B2 →  B3 →  B4 →  B5 →  B6 →  B7 →  B8 →  B9 →  B10 →  B11 →  B12 →  B13 →  B14 →  B15 →  B16 → A := by intro h1 h2 h3 h4 h5 h6 h7 h8 h9 h10 h11 h12 h13 h14 h15 h16; refine tw ?_ ?_; (focus (repeat' first | ((have hk8 := Nat.add_zero); (first | refine SW.ops_seq hY fun y1 hy1 => ?_ | refine SW.ops hY ?_ | refine SW.seq (SW.draw2x hD1 hY mixed (by kernel_rfl) ?_) | refine SW.draw2x hD1 hY mixed (by kernel_rfl) ?_ | refine SW.seq (SW.draw2x hD2 hY mixed (by kernel_rfl) ?_) | refine SW.draw2x hD2 hY mixed (by kernel_rfl) ?_ | refine SW.seq (SW.draw2x hD3 hY mixed (by kernel_rfl) ?_) | refine SW.draw2x hD3 hY mixed (by kernel_rfl) ?_ | refine SW.draw_seq hY mixed (by kernel_rfl) fun y1 hy1 => ?_ | refine SW.draw hY mixed (by kernel_rfl) ?_ | refine vcall_c hC1 (hK := ?_) | refine vcall_c hC2 (hK := ?_) | refine vcall_c hC3 (hK := ?_) | refine vcall_c hC4 (hK := ?_) | refine vcall_c hC5 (hK := ?_) | refine vcall_c hC6 (hK := ?_) | refine vcall_c hC7 (hK := ?_) | refine vcall_c hC8 (hK := ?_) | refine vcall_c hC9 (hK := ?_) | refine vcall_c hC10 (hK := ?_) | refine vcall_c hC11 (hK := ?_) | refine vcall_c hC12 (hK := ?_) | refine vcall_c hC13 (hK := ?_) | refine vcall_c hC14 (hK := ?_) | refine vcall_c (cx [] (hG1 _)) (hK := ?_) | refine vcall_c (cx [] (hG1 _ _)) (hK := ?_) | refine vcall_c (cx [] (hG1 _ _ _)) (hK := ?_) | refine vcall_c (cx [] (hG1 _ _ _ _)) (hK := ?_) | refine vcall_c (cx [] (hG2 _)) (hK := ?_) | refine vcall_c (cx [] (hG2 _ _)) (hK := ?_) | refine vcall_c (cx [] (hG2 _ _ _)) (hK := ?_) | refine vcall_c (cx [] (hG2 _ _ _ _)) (hK := ?_) | refine vcall_c (cx [] (hG3 _)) (hK := ?_) | refine vcall_c (cx [] (hG3 _ _)) (hK := ?_) | refine vcall_c (cx [] (hG3 _ _ _)) (hK := ?_) | refine vcall_c (cx [] (hG3 _ _ _ _)) (hK := ?_) | refine kgf ?_ | refine kgt ?_ | (refine k8p ?_; (simp only [k13, hk8, upT_g, dnT_g, nb_g, dnT_b, dnT_s, dnT_0, dnT_r, fx, fy, fz, wo, decide_true, decide_false, wz0, wz1, wz2, wz3, wz4, wz5, wz6, wz7, wz8, appM, Ty.isInt, capT, appendZM, buildM, setAll, plSt, plAr, mnmx, Int.reduceLT, vrec, List.drop_succ_cons, List.drop_zero, convertM, indexM, fieldM, Int.toNat_zero, Int.toNat_one, Int.le_refl, Int.zero_le_ofNat, Int.reduceEq, Int.reduceNe, ne_eq, not_false_eq_true, u8_wrap, marksG_len, marks_len, bne_self_eq_false, take_map_len, tgL_byte, T.asArr, T.tg, tgL, indexAddrM, wk, wl, eq_self, isCall, callT, opM, S.ev, S.put, entryS, thawAL, thawA, RM.run, RM.bind, RM.ofOpt, allocs, Heap.ups, Heap.put, Heap.at, List.replicate, Nat.reduceAdd, Nat.reduceSub, ofConst, nilAs, if_false, if_true, binT, binTy, unT, guardT, quietK, reduceIte, boxM, allocM, loadM, storeM, fieldAddrM, lenT, extractT, subM, setOb, T.get, T.setp, T.offs, T.nw, nwL, T.cel, T.isNd, T.size, sizeL, TyI.agg, Ty.agg, Ty.isFn, zeroT, Nat.reduceLT, Nat.reduceEqDiff, sumT, kill]); (first | refine vpure_c hC1 (hK := ?_) | refine vpure_c hC2 (hK := ?_) | refine vpure_c hC3 (hK := ?_) | refine vpure_c hC4 (hK := ?_) | refine vpure_c hC5 (hK := ?_) | refine vpure_c hC6 (hK := ?_) | refine vpure_c hC7 (hK := ?_) | refine vpure_c hC8 (hK := ?_) | refine vpure_c hC9 (hK := ?_) | refine vpure_c hC10 (hK := ?_) | refine vpure_c hC11 (hK := ?_) | refine vpure_c hC12 (hK := ?_) | refine vpure_c hC13 (hK := ?_) | refine vpure_c hC14 (hK := ?_) | refine vpure_c (cx [] (hG1 _)) (hK := ?_) | refine vpure_c (cx [] (hG1 _ _)) (hK := ?_) | refine vpure_c (cx [] (hG1 _ _ _)) (hK := ?_) | refine vpure_c (cx [] (hG1 _ _ _ _)) (hK := ?_) | refine vpure_c (cx [] (hG2 _)) (hK := ?_) | refine vpure_c (cx [] (hG2 _ _)) (hK := ?_) | refine vpure_c (cx [] (hG2 _ _ _)) (hK := ?_) | refine vpure_c (cx [] (hG2 _ _ _ _)) (hK := ?_) | refine vpure_c (cx [] (hG3 _)) (hK := ?_) | refine vpure_c (cx [] (hG3 _ _)) (hK := ?_) | refine vpure_c (cx [] (hG3 _ _ _)) (hK := ?_) | refine vpure_c (cx [] (hG3 _ _ _ _)) (hK := ?_))) | (simp only [k8]; refine .inl ?_; refine ⟨fun hb => ?_, fun hb => ?_⟩ <;> (try replace hb := Bool.eq_false_iff.2 hb) <;> (first | exact absurd hb (by decide) | replace hk8 := hb))) <;> (simp only [k13, hk8, upT_g, dnT_g, nb_g, dnT_b, dnT_s, dnT_0, dnT_r, fx, fy, fz, wo, decide_true, decide_false, wz0, wz1, wz2, wz3, wz4, wz5, wz6, wz7, wz8, appM, Ty.isInt, capT, appendZM, buildM, setAll, plSt, plAr, mnmx, Int.reduceLT, vrec, List.drop_succ_cons, List.drop_zero, convertM, indexM, fieldM, Int.toNat_zero, Int.toNat_one, Int.le_refl, Int.zero_le_ofNat, Int.reduceEq, Int.reduceNe, ne_eq, not_false_eq_true, u8_wrap, marksG_len, marks_len, bne_self_eq_false, take_map_len, tgL_byte, T.asArr, T.tg, tgL, indexAddrM, wk, wl, eq_self, isCall, callT, opM, S.ev, S.put, entryS, thawAL, thawA, RM.run, RM.bind, RM.ofOpt, allocs, Heap.ups, Heap.put, Heap.at, List.replicate, Nat.reduceAdd, Nat.reduceSub, ofConst, nilAs, if_false, if_true, binT, binTy, unT, guardT, quietK, reduceIte, boxM, allocM, loadM, storeM, fieldAddrM, lenT, extractT, subM, setOb, T.get, T.setp, T.offs, T.nw, nwL, T.cel, T.isNd, T.size, sizeL, TyI.agg, Ty.agg, Ty.isFn, zeroT, Nat.reduceLT, Nat.reduceEqDiff, sumT, kill]; clear hk8; first | subst hy1 | (try simp only [thenS, blockS, if_true, if_false, Nat.reduceEqDiff, reduceIte]))) | (refine Chk.mk (by simp only [rdqs, rdq, k13, upT_g, dnT_g, nb_g, dnT_b, dnT_s, dnT_0, dnT_r, fx, fy, fz, wo, decide_true, decide_false, wz0, wz1, wz2, wz3, wz4, wz5, wz6, wz7, wz8, appM, Ty.isInt, capT, appendZM, buildM, setAll, plSt, plAr, mnmx, Int.reduceLT, vrec, List.drop_succ_cons, List.drop_zero, convertM, indexM, fieldM, Int.toNat_zero, Int.toNat_one, Int.le_refl, Int.zero_le_ofNat, Int.reduceEq, Int.reduceNe, ne_eq, not_false_eq_true, u8_wrap, marksG_len, marks_len, bne_self_eq_false, take_map_len, tgL_byte, T.asArr, T.tg, tgL, indexAddrM, wk, wl, eq_self, isCall, callT, opM, S.ev, S.put, entryS, thawAL, thawA, RM.run, RM.bind, RM.ofOpt, allocs, Heap.ups, Heap.put, Heap.at, List.replicate, Nat.reduceAdd, Nat.reduceSub, ofConst, nilAs, if_false, if_true, binT, binTy, unT, guardT, quietK, reduceIte, boxM, allocM, loadM, storeM, fieldAddrM, lenT, extractT, subM, setOb, T.get, T.setp, T.offs, T.nw, nwL, T.cel, T.isNd, T.size, sizeL, TyI.agg, Ty.agg, Ty.isFn, zeroT, Nat.reduceLT, Nat.reduceEqDiff, sumT, kill]; try trivial) ?_) | exact absurd trivial hb | exact absurd hb (by decide) | exact absurd hcc (by decide) | refine SW.seq ?_ | refine SW.block ?_ | (refine SW.cond rfl (fun hcc => ?_) (fun hcc => ?_)) | (refine SW.exit ?_; simp only [thenS, blockS, if_true, if_false, Nat.reduceEqDiff, reduceIte]) | (refine SW.skip ?_; simp only [thenS, blockS]) | ((repeat (refine Wh.h ?_ hb; clear hb)); (repeat (refine Wh.h ?_ hcc; clear hcc)); (first | exact h1 | exact h2 | exact h3 | exact h4 | exact h5 | exact h6 | exact h7 | exact h8 | exact h9 | exact h10 | exact h11 | exact h12 | exact h13 | exact h14 | exact h15 | exact h16)))); (try (have hq : True := h1)); (try (have hq : True := h2)); (try (have hq : True := h3)); (try (have hq : True := h4)); (try (have hq : True := h5)); (try (have hq : True := h6)); (try (have hq : True := h7)); (try (have hq : True := h8)); (try (have hq : True := h9)); (try (have hq : True := h10)); (try (have hq : True := h11)); (try (have hq : True := h12)); (try (have hq : True := h13)); (try (have hq : True := h14)); (try (have hq : True := h15)); (try (have hq : True := h16)); exact True.intro) : A := k b1 b2 b3 b4 b5 b6 b7 b8 b9 b10 b11 b12 b13 b14 b15 b16
theorem goU {A B1 B2 B3 B4 B5 B6 B7 B8 B9 B10 B11 B12 B13 B14 B15 B16 : Prop} (b1 : B1) (b2 : B2) (b3 : B3) (b4 : B4) (b5 : B5) (b6 : B6) (b7 : B7) (b8 : B8) (b9 : B9) (b10 : B10) (b11 : B11) (b12 : B12) (b13 : B13) (b14 : B14) (b15 : B15) (b16 : B16) (k : B1 →  B2 →  B3 →  B4 →  B5 →  B6 →  B7 →  B8 →  B9 →  B10 →  B11 →  B12 →  B13 →  B14 →  B15 →  B16 → A := by intro h1 h2 h3 h4 h5 h6 h7 h8 h9 h10 h11 h12 h13 h14 h15 h16; refine tw ?_ ?_; (focus (repeat' first | ((have hk8 := Nat.add_zero); (first | refine SW.ops_seq hY fun y1 hy1 => ?_ | refine SW.ops hY ?_ | refine SW.seq (SW.draw2x hD1 hY mixed (by kernel_rfl) ?_) | refine SW.draw2x hD1 hY mixed (by kernel_rfl) ?_ | refine SW.seq (SW.draw2x hD2 hY mixed (by kernel_rfl) ?_) | refine SW.draw2x hD2 hY mixed (by kernel_rfl) ?_ | refine SW.seq (SW.draw2x hD3 hY mixed (by kernel_rfl) ?_) | refine SW.draw2x hD3 hY mixed (by kernel_rfl) ?_ | refine SW.draw_seq hY mixed (by kernel_rfl) fun y1 hy1 => ?_ | refine SW.draw hY mixed (by kernel_rfl) ?_ | refine vcall_c hC1 (hK := ?_) | refine vcall_c hC2 (hK := ?_) | refine vcall_c hC3 (hK := ?_) | refine vcall_c hC4 (hK := ?_) | refine vcall_c hC5 (hK := ?_) | refine vcall_c hC6 (hK := ?_) | refine vcall_c hC7 (hK := ?_) | refine vcall_c hC8 (hK := ?_) | refine vcall_c hC9 (hK := ?_) | refine vcall_c hC10 (hK := ?_) | refine vcall_c hC11 (hK := ?_) | refine vcall_c hC12 (hK := ?_) | refine vcall_c hC13 (hK := ?_) | refine vcall_c hC14 (hK := ?_) | refine vcall_c (cx [] (hG1 _)) (hK := ?_) | refine vcall_c (cx [] (hG1 _ _)) (hK := ?_) | refine vcall_c (cx [] (hG1 _ _ _)) (hK := ?_) | refine vcall_c (cx [] (hG1 _ _ _ _)) (hK := ?_) | refine vcall_c (cx [] (hG2 _)) (hK := ?_) | refine vcall_c (cx [] (hG2 _ _)) (hK := ?_) | refine vcall_c (cx [] (hG2 _ _ _)) (hK := ?_) | refine vcall_c (cx [] (hG2 _ _ _ _)) (hK := ?_) | refine vcall_c (cx [] (hG3 _)) (hK := ?_) | refine vcall_c (cx [] (hG3 _ _)) (hK := ?_) | refine vcall_c (cx [] (hG3 _ _ _)) (hK := ?_) | refine vcall_c (cx [] (hG3 _ _ _ _)) (hK := ?_) | refine kgf ?_ | refine kgt ?_ | (refine k8p ?_; (simp only [k13, hk8, upT_g, dnT_g, nb_g, dnT_b, dnT_s, dnT_0, dnT_r, fx, fy, fz, wo, decide_true, decide_false, wz0, wz1, wz2, wz3, wz4, wz5, wz6, wz7, wz8, appM, Ty.isInt, capT, appendZM, buildM, setAll, plSt, plAr, mnmx, Int.reduceLT, vrec, List.drop_succ_cons, List.drop_zero, convertM, indexM, fieldM, Int.toNat_zero, Int.toNat_one, Int.le_refl, Int.zero_le_ofNat, Int.reduceEq, Int.reduceNe, ne_eq, not_false_eq_true, u8_wrap, marksG_len, marks_len, bne_self_eq_false, take_map_len, tgL_byte, T.asArr, T.tg, tgL, indexAddrM, wk, wl, eq_self, isCall, callT, opM, S.ev, S.put, entryS, thawAL, thawA, RM.run, RM.bind, RM.ofOpt, allocs, Heap.ups, Heap.put, Heap.at, List.replicate, Nat.reduceAdd, Nat.reduceSub, ofConst, nilAs, if_false, if_true, binT, binTy, unT, guardT, quietK, reduceIte, boxM, allocM, loadM, storeM, fieldAddrM, lenT, extractT, subM, setOb, T.get, T.setp, T.offs, T.nw, nwL, T.cel, T.isNd, T.size, sizeL, TyI.agg, Ty.agg, Ty.isFn, zeroT, Nat.reduceLT, Nat.reduceEqDiff, sumT, kill]); (first | refine vpure_c hC1 (hK := ?_) | refine vpure_c hC2 (hK := ?_) | refine vpure_c hC3 (hK := ?_) | refine vpure_c hC4 (hK := ?_) | refine vpure_c hC5 (hK := ?_) | refine vpure_c hC6 (hK := ?_) | refine vpure_c hC7 (hK := ?_) | refine vpure_c hC8 (hK := ?_) | refine vpure_c hC9 (hK := ?_) | refine vpure_c hC10 (hK := ?_) | refine vpure_c hC11 (hK := ?_) | refine vpure_c hC12 (hK := ?_) | refine vpure_c hC13 (hK := ?_) | refine vpure_c hC14 (hK := ?_) | refine vpure_c (cx [] (hG1 _)) (hK := ?_) | refine vpure_c (cx [] (hG1 _ _)) (hK := ?_) | refine vpure_c (cx [] (hG1 _ _ _)) (hK := ?_) | refine vpure_c (cx [] (hG1 _ _ _ _)) (hK := ?_) | refine vpure_c (cx [] (hG2 _)) (hK := ?_) | refine vpure_c (cx [] (hG2 _ _)) (hK := ?_) | refine vpure_c (cx [] (hG2 _ _ _)) (hK := ?_) | refine vpure_c (cx [] (hG2 _ _ _ _)) (hK := ?_) | refine vpure_c (cx [] (hG3 _)) (hK := ?_) | refine vpure_c (cx [] (hG3 _ _)) (hK := ?_) | refine vpure_c (cx [] (hG3 _ _ _)) (hK := ?_) | refine vpure_c (cx [] (hG3 _ _ _ _)) (hK := ?_))) | (simp only [k8]; refine .inl ?_; refine ⟨fun hb => ?_, fun hb => ?_⟩ <;> (try replace hb := Bool.eq_false_iff.2 hb) <;> (first | exact absurd hb (by decide) | replace hk8 := hb))) <;> (simp only [k13, hk8, upT_g, dnT_g, nb_g, dnT_b, dnT_s, dnT_0, dnT_r, fx, fy, fz, wo, decide_true, decide_false, wz0, wz1, wz2, wz3, wz4, wz5, wz6, wz7, wz8, appM, Ty.isInt, capT, appendZM, buildM, setAll, plSt, plAr, mnmx, Int.reduceLT, vrec, List.drop_succ_cons, List.drop_zero, convertM, indexM, fieldM, Int.toNat_zero, Int.toNat_one, Int.le_refl, Int.zero_le_ofNat, Int.reduceEq, Int.reduceNe, ne_eq, not_false_eq_true, u8_wrap, marksG_len, marks_len, bne_self_eq_false, take_map_len, tgL_byte, T.asArr, T.tg, tgL, indexAddrM, wk, wl, eq_self, isCall, callT, opM, S.ev, S.put, entryS, thawAL, thawA, RM.run, RM.bind, RM.ofOpt, allocs, Heap.ups, Heap.put, Heap.at, List.replicate, Nat.reduceAdd, Nat.reduceSub, ofConst, nilAs, if_false, if_true, binT, binTy, unT, guardT, quietK, reduceIte, boxM, allocM, loadM, storeM, fieldAddrM, lenT, extractT, subM, setOb, T.get, T.setp, T.offs, T.nw, nwL, T.cel, T.isNd, T.size, sizeL, TyI.agg, Ty.agg, Ty.isFn, zeroT, Nat.reduceLT, Nat.reduceEqDiff, sumT, kill]; clear hk8; first | subst hy1 | (try simp only [thenS, blockS, if_true, if_false, Nat.reduceEqDiff, reduceIte]))) | (refine Chk.mk (by simp only [rdqs, rdq, k13, upT_g, dnT_g, nb_g, dnT_b, dnT_s, dnT_0, dnT_r, fx, fy, fz, wo, decide_true, decide_false, wz0, wz1, wz2, wz3, wz4, wz5, wz6, wz7, wz8, appM, Ty.isInt, capT, appendZM, buildM, setAll, plSt, plAr, mnmx, Int.reduceLT, vrec, List.drop_succ_cons, List.drop_zero, convertM, indexM, fieldM, Int.toNat_zero, Int.toNat_one, Int.le_refl, Int.zero_le_ofNat, Int.reduceEq, Int.reduceNe, ne_eq, not_false_eq_true, u8_wrap, marksG_len, marks_len, bne_self_eq_false, take_map_len, tgL_byte, T.asArr, T.tg, tgL, indexAddrM, wk, wl, eq_self, isCall, callT, opM, S.ev, S.put, entryS, thawAL, thawA, RM.run, RM.bind, RM.ofOpt, allocs, Heap.ups, Heap.put, Heap.at, List.replicate, Nat.reduceAdd, Nat.reduceSub, ofConst, nilAs, if_false, if_true, binT, binTy, unT, guardT, quietK, reduceIte, boxM, allocM, loadM, storeM, fieldAddrM, lenT, extractT, subM, setOb, T.get, T.setp, T.offs, T.nw, nwL, T.cel, T.isNd, T.size, sizeL, TyI.agg, Ty.agg, Ty.isFn, zeroT, Nat.reduceLT, Nat.reduceEqDiff, sumT, kill]; try trivial) ?_) | exact absurd trivial hb | exact absurd hb (by decide) | exact absurd hcc (by decide) | refine SW.seq ?_ | refine SW.block ?_ | (refine SW.cond rfl (fun hcc => ?_) (fun hcc => ?_)) | (refine SW.exit ?_; simp only [thenS, blockS, if_true, if_false, Nat.reduceEqDiff, reduceIte]) | (refine SW.skip ?_; simp only [thenS, blockS]) | refine SWl.s ?_ | refine SW.loopN 9 ?_ | ((repeat (refine Wh.h ?_ hb; clear hb)); (repeat (refine Wh.h ?_ hcc; clear hcc)); (first | exact h1 | exact h2 | exact h3 | exact h4 | exact h5 | exact h6 | exact h7 | exact h8 | exact h9 | exact h10 | exact h11 | exact h12 | exact h13 | exact h14 | exact h15 | exact h16)))); (try (have hq : True := h1)); (try (have hq : True := h2)); (try (have hq : True := h3)); (try (have hq : True := h4)); (try (have hq : True := h5)); (try (have hq : True := h6)); (try (have hq : True := h7)); (try (have hq : True := h8)); (try (have hq : True := h9)); (try (have hq : True := h10)); (try (have hq : True := h11)); (try (have hq : True := h12)); (try (have hq : True := h13)); (try (have hq : True := h14)); (try (have hq : True := h15)); (try (have hq : True := h16)); exact True.intro) : A := k b1 b2 b3 b4 b5 b6 b7 b8 b9 b10 b11 b12 b13 b14 b15 b16
theorem goV {A B1 B2 B3 B4 B5 B6 B7 B8 B9 B10 B11 B12 B13 B14 B15 B16 : Prop} (b1 : B1) (b2 : B2) (b3 : B3) (b4 : B4) (b5 : B5) (b6 : B6) (b7 : B7) (b8 : B8) (b9 : B9) (b10 : B10) (b11 : B11) (b12 : B12) (b13 : B13) (b14 : B14) (b15 : B15) (b16 : B16) (k : B1 →  B2 →  B3 →  B4 →  B5 →  B6 →  B7 →  B8 →  B9 →  B10 →  B11 →  B12 →  B13 →  B14 →  B15 →  B16 → A := by intro h1 h2 h3 h4 h5 h6 h7 h8 h9 h10 h11 h12 h13 h14 h15 h16; refine tw ?_ ?_; (focus (repeat' first | ((have hk8 := Nat.add_zero); (first | refine SW.ops_seq hY fun y1 hy1 => ?_ | refine SW.ops hY ?_ | refine SW.seq (SW.draw2x hD1 hY mixed (by kernel_rfl) ?_) | refine SW.draw2x hD1 hY mixed (by kernel_rfl) ?_ | refine SW.seq (SW.draw2x hD2 hY mixed (by kernel_rfl) ?_) | refine SW.draw2x hD2 hY mixed (by kernel_rfl) ?_ | refine SW.seq (SW.draw2x hD3 hY mixed (by kernel_rfl) ?_) | refine SW.draw2x hD3 hY mixed (by kernel_rfl) ?_ | refine SW.draw_seq hY mixed (by kernel_rfl) fun y1 hy1 => ?_ | refine SW.draw hY mixed (by kernel_rfl) ?_ | refine vcall_c hC1 (hK := ?_) | refine vcall_c hC2 (hK := ?_) | refine vcall_c hC3 (hK := ?_) | refine vcall_c hC4 (hK := ?_) | refine vcall_c hC5 (hK := ?_) | refine vcall_c hC6 (hK := ?_) | refine vcall_c hC7 (hK := ?_) | refine vcall_c hC8 (hK := ?_) | refine vcall_c hC9 (hK := ?_) | refine vcall_c hC10 (hK := ?_) | refine vcall_c hC11 (hK := ?_) | refine vcall_c hC12 (hK := ?_) | refine vcall_c hC13 (hK := ?_) | refine vcall_c hC14 (hK := ?_) | refine vcall_c (cx [] (hG1 _)) (hK := ?_) | refine vcall_c (cx [] (hG1 _ _)) (hK := ?_) | refine vcall_c (cx [] (hG1 _ _ _)) (hK := ?_) | refine vcall_c (cx [] (hG1 _ _ _ _)) (hK := ?_) | refine vcall_c (cx [] (hG2 _)) (hK := ?_) | refine vcall_c (cx [] (hG2 _ _)) (hK := ?_) | refine vcall_c (cx [] (hG2 _ _ _)) (hK := ?_) | refine vcall_c (cx [] (hG2 _ _ _ _)) (hK := ?_) | refine vcall_c (cx [] (hG3 _)) (hK := ?_) | refine vcall_c (cx [] (hG3 _ _)) (hK := ?_) | refine vcall_c (cx [] (hG3 _ _ _)) (hK := ?_) | refine vcall_c (cx [] (hG3 _ _ _ _)) (hK := ?_) | refine kgf ?_ | refine kgt ?_ | (refine k8p ?_; (simp only [k13, hk8, upT_g, dnT_g, nb_g, dnT_b, dnT_s, dnT_0, dnT_r, fx, fy, fz, wo, decide_true, decide_false, wz0, wz1, wz2, wz3, wz4, wz5, wz6, wz7, wz8, appM, Ty.isInt, capT, appendZM, buildM, setAll, plSt, plAr, mnmx, Int.reduceLT, vrec, List.drop_succ_cons, List.drop_zero, convertM, indexM, fieldM, Int.toNat_zero, Int.toNat_one, Int.le_refl, Int.zero_le_ofNat, Int.reduceEq, Int.reduceNe, ne_eq, not_false_eq_true, u8_wrap, marksG_len, marks_len, bne_self_eq_false, take_map_len, tgL_byte, T.asArr, T.tg, tgL, indexAddrM, wk, wl, eq_self, isCall, callT, opM, S.ev, S.put, entryS, thawAL, thawA, RM.run, RM.bind, RM.ofOpt, allocs, Heap.ups, Heap.put, Heap.at, List.replicate, Nat.reduceAdd, Nat.reduceSub, ofConst, nilAs, if_false, if_true, binT, binTy, unT, guardT, quietK, reduceIte, boxM, allocM, loadM, storeM, fieldAddrM, lenT, extractT, subM, setOb, T.get, T.setp, T.offs, T.nw, nwL, T.cel, T.isNd, T.size, sizeL, TyI.agg, Ty.agg, Ty.isFn, zeroT, Nat.reduceLT, Nat.reduceEqDiff, sumT, kill]); (first | refine vpure_c hC1 (hK := ?_) | refine vpure_c hC2 (hK := ?_) | refine vpure_c hC3 (hK := ?_) | refine vpure_c hC4 (hK := ?_) | refine vpure_c hC5 (hK := ?_) | refine vpure_c hC6 (hK := ?_) | refine vpure_c hC7 (hK := ?_) | refine vpure_c hC8 (hK := ?_) | refine vpure_c hC9 (hK := ?_) | refine vpure_c hC10 (hK := ?_) | refine vpure_c hC11 (hK := ?_) | refine vpure_c hC12 (hK := ?_) | refine vpure_c hC13 (hK := ?_) | refine vpure_c hC14 (hK := ?_) | refine vpure_c (cx [] (hG1 _)) (hK := ?_) | refine vpure_c (cx [] (hG1 _ _)) (hK := ?_) | refine vpure_c (cx [] (hG1 _ _ _)) (hK := ?_) | refine vpure_c (cx [] (hG1 _ _ _ _)) (hK := ?_) | refine vpure_c (cx [] (hG2 _)) (hK := ?_) | refine vpure_c (cx [] (hG2 _ _)) (hK := ?_) | refine vpure_c (cx [] (hG2 _ _ _)) (hK := ?_) | refine vpure_c (cx [] (hG2 _ _ _ _)) (hK := ?_) | refine vpure_c (cx [] (hG3 _)) (hK := ?_) | refine vpure_c (cx [] (hG3 _ _)) (hK := ?_) | refine vpure_c (cx [] (hG3 _ _ _)) (hK := ?_) | refine vpure_c (cx [] (hG3 _ _ _ _)) (hK := ?_))) | (simp only [k8]; refine .inl ?_; refine ⟨fun hb => ?_, fun hb => ?_⟩ <;> (try replace hb := Bool.eq_false_iff.2 hb) <;> (first | exact absurd hb (by decide) | replace hk8 := hb))) <;> (simp only [k13, hk8, upT_g, dnT_g, nb_g, dnT_b, dnT_s, dnT_0, dnT_r, fx, fy, fz, wo, decide_true, decide_false, wz0, wz1, wz2, wz3, wz4, wz5, wz6, wz7, wz8, appM, Ty.isInt, capT, appendZM, buildM, setAll, plSt, plAr, mnmx, Int.reduceLT, vrec, List.drop_succ_cons, List.drop_zero, convertM, indexM, fieldM, Int.toNat_zero, Int.toNat_one, Int.le_refl, Int.zero_le_ofNat, Int.reduceEq, Int.reduceNe, ne_eq, not_false_eq_true, u8_wrap, marksG_len, marks_len, bne_self_eq_false, take_map_len, tgL_byte, T.asArr, T.tg, tgL, indexAddrM, wk, wl, eq_self, isCall, callT, opM, S.ev, S.put, entryS, thawAL, thawA, RM.run, RM.bind, RM.ofOpt, allocs, Heap.ups, Heap.put, Heap.at, List.replicate, Nat.reduceAdd, Nat.reduceSub, ofConst, nilAs, if_false, if_true, binT, binTy, unT, guardT, quietK, reduceIte, boxM, allocM, loadM, storeM, fieldAddrM, lenT, extractT, subM, setOb, T.get, T.setp, T.offs, T.nw, nwL, T.cel, T.isNd, T.size, sizeL, TyI.agg, Ty.agg, Ty.isFn, zeroT, Nat.reduceLT, Nat.reduceEqDiff, sumT, kill]; clear hk8; first | subst hy1 | (try simp only [thenS, blockS, if_true, if_false, Nat.reduceEqDiff, reduceIte]))) | (refine Chk.mk (by simp only [rdqs, rdq, k13, upT_g, dnT_g, nb_g, dnT_b, dnT_s, dnT_0, dnT_r, fx, fy, fz, wo, decide_true, decide_false, wz0, wz1, wz2, wz3, wz4, wz5, wz6, wz7, wz8, appM, Ty.isInt, capT, appendZM, buildM, setAll, plSt, plAr, mnmx, Int.reduceLT, vrec, List.drop_succ_cons, List.drop_zero, convertM, indexM, fieldM, Int.toNat_zero, Int.toNat_one, Int.le_refl, Int.zero_le_ofNat, Int.reduceEq, Int.reduceNe, ne_eq, not_false_eq_true, u8_wrap, marksG_len, marks_len, bne_self_eq_false, take_map_len, tgL_byte, T.asArr, T.tg, tgL, indexAddrM, wk, wl, eq_self, isCall, callT, opM, S.ev, S.put, entryS, thawAL, thawA, RM.run, RM.bind, RM.ofOpt, allocs, Heap.ups, Heap.put, Heap.at, List.replicate, Nat.reduceAdd, Nat.reduceSub, ofConst, nilAs, if_false, if_true, binT, binTy, unT, guardT, quietK, reduceIte, boxM, allocM, loadM, storeM, fieldAddrM, lenT, extractT, subM, setOb, T.get, T.setp, T.offs, T.nw, nwL, T.cel, T.isNd, T.size, sizeL, TyI.agg, Ty.agg, Ty.isFn, zeroT, Nat.reduceLT, Nat.reduceEqDiff, sumT, kill]; try trivial) ?_) | exact absurd trivial hb | exact absurd hb (by decide) | exact absurd hcc (by decide) | refine SW.seq ?_ | refine SW.block ?_ | (refine SW.cond rfl (fun hcc => ?_) (fun hcc => ?_)) | (refine SW.exit ?_; simp only [thenS, blockS, if_true, if_false, Nat.reduceEqDiff, reduceIte]) | (refine SW.skip ?_; simp only [thenS, blockS]) | exact SW.ret (RetQ.r hR) | (refine SW.ret (show RetQ _ _ _ _ _ _ _ from ⟨.inr rfl, [_], [1], [_], _, rfl, rfl, rfl, rfl, rfl, ?_⟩)) | (refine SW.ret (show RetQ _ _ _ _ _ _ _ from ⟨.inr rfl, [_, _], [0, 0], [_, _], _, rfl, rfl, rfl, rfl, rfl, ?_⟩)) | (refine SW.ret (show RetQ _ _ _ _ _ _ _ from ⟨.inr rfl, [_, _, _], [0, 0, 0], [_, _, _], _, rfl, rfl, rfl, rfl, rfl, ?_⟩)) | (refine SW.ret (show RetQ _ _ _ _ _ _ _ from ⟨.inr rfl, [_, _, _, _], [0, 0, 0, 0], [_, _, _, _], _, rfl, rfl, rfl, rfl, rfl, ?_⟩)) | refine SWl.s ?_ | refine SW.loopN 9 ?_ | ((repeat (refine Wh.h ?_ hb; clear hb)); (repeat (refine Wh.h ?_ hcc; clear hcc)); (first | exact h1 | exact h2 | exact h3 | exact h4 | exact h5 | exact h6 | exact h7 | exact h8 | exact h9 | exact h10 | exact h11 | exact h12 | exact h13 | exact h14 | exact h15 | exact h16)))); (try (have hq : True := h1)); (try (have hq : True := h2)); (try (have hq : True := h3)); (try (have hq : True := h4)); (try (have hq : True := h5)); (try (have hq : True := h6)); (try (have hq : True := h7)); (try (have hq : True := h8)); (try (have hq : True := h9)); (try (have hq : True := h10)); (try (have hq : True := h11)); (try (have hq : True := h12)); (try (have hq : True := h13)); (try (have hq : True := h14)); (try (have hq : True := h15)); (try (have hq : True := h16)); exact True.intro) : A := k b1 b2 b3 b4 b5 b6 b7 b8 b9 b10 b11 b12 b13 b14 b15 b16
theorem go0 {A : Prop} (k : A := by repeat' first | ((have hk8 := Nat.add_zero); (first | refine SW.ops_seq hY fun y1 hy1 => ?_ | refine SW.ops hY ?_ | refine SW.seq (SW.draw2x hD1 hY mixed (by kernel_rfl) ?_) | refine SW.draw2x hD1 hY mixed (by kernel_rfl) ?_ | refine SW.seq (SW.draw2x hD2 hY mixed (by kernel_rfl) ?_) | refine SW.draw2x hD2 hY mixed (by kernel_rfl) ?_ | refine SW.seq (SW.draw2x hD3 hY mixed (by kernel_rfl) ?_) | refine SW.draw2x hD3 hY mixed (by kernel_rfl) ?_ | refine SW.draw_seq hY mixed (by kernel_rfl) fun y1 hy1 => ?_ | refine SW.draw hY mixed (by kernel_rfl) ?_ | refine vcall_c hC1 (hK := ?_) | refine vcall_c hC2 (hK := ?_) | refine vcall_c hC3 (hK := ?_) | refine vcall_c hC4 (hK := ?_) | refine vcall_c hC5 (hK := ?_) | refine vcall_c hC6 (hK := ?_) | refine vcall_c hC7 (hK := ?_) | refine vcall_c hC8 (hK := ?_) | refine vcall_c hC9 (hK := ?_) | refine vcall_c hC10 (hK := ?_) | refine vcall_c hC11 (hK := ?_) | refine vcall_c hC12 (hK := ?_) | refine vcall_c hC13 (hK := ?_) | refine vcall_c hC14 (hK := ?_) | refine vcall_c (cx [] (hG1 _)) (hK := ?_) | refine vcall_c (cx [] (hG1 _ _)) (hK := ?_) | refine vcall_c (cx [] (hG1 _ _ _)) (hK := ?_) | refine vcall_c (cx [] (hG1 _ _ _ _)) (hK := ?_) | refine vcall_c (cx [] (hG2 _)) (hK := ?_) | refine vcall_c (cx [] (hG2 _ _)) (hK := ?_) | refine vcall_c (cx [] (hG2 _ _ _)) (hK := ?_) | refine vcall_c (cx [] (hG2 _ _ _ _)) (hK := ?_) | refine vcall_c (cx [] (hG3 _)) (hK := ?_) | refine vcall_c (cx [] (hG3 _ _)) (hK := ?_) | refine vcall_c (cx [] (hG3 _ _ _)) (hK := ?_) | refine vcall_c (cx [] (hG3 _ _ _ _)) (hK := ?_) | refine kgf ?_ | refine kgt ?_ | (refine k8p ?_; (simp only [k13, hk8, upT_g, dnT_g, nb_g, dnT_b, dnT_s, dnT_0, dnT_r, fx, fy, fz, wo, decide_true, decide_false, wz0, wz1, wz2, wz3, wz4, wz5, wz6, wz7, wz8, appM, Ty.isInt, capT, appendZM, buildM, setAll, plSt, plAr, mnmx, Int.reduceLT, vrec, List.drop_succ_cons, List.drop_zero, convertM, indexM, fieldM, Int.toNat_zero, Int.toNat_one, Int.le_refl, Int.zero_le_ofNat, Int.reduceEq, Int.reduceNe, ne_eq, not_false_eq_true, u8_wrap, marksG_len, marks_len, bne_self_eq_false, take_map_len, tgL_byte, T.asArr, T.tg, tgL, indexAddrM, wk, wl, eq_self, isCall, callT, opM, S.ev, S.put, entryS, thawAL, thawA, RM.run, RM.bind, RM.ofOpt, allocs, Heap.ups, Heap.put, Heap.at, List.replicate, Nat.reduceAdd, Nat.reduceSub, ofConst, nilAs, if_false, if_true, binT, binTy, unT, guardT, quietK, reduceIte, boxM, allocM, loadM, storeM, fieldAddrM, lenT, extractT, subM, setOb, T.get, T.setp, T.offs, T.nw, nwL, T.cel, T.isNd, T.size, sizeL, TyI.agg, Ty.agg, Ty.isFn, zeroT, Nat.reduceLT, Nat.reduceEqDiff, sumT, kill]); (first | refine vpure_c hC1 (hK := ?_) | refine vpure_c hC2 (hK := ?_) | refine vpure_c hC3 (hK := ?_) | refine vpure_c hC4 (hK := ?_) | refine vpure_c hC5 (hK := ?_) | refine vpure_c hC6 (hK := ?_) | refine vpure_c hC7 (hK := ?_) | refine vpure_c hC8 (hK := ?_) | refine vpure_c hC9 (hK := ?_) | refine vpure_c hC10 (hK := ?_) | refine vpure_c hC11 (hK := ?_) | refine vpure_c hC12 (hK := ?_) | refine vpure_c hC13 (hK := ?_) | refine vpure_c hC14 (hK := ?_) | refine vpure_c (cx [] (hG1 _)) (hK := ?_) | refine vpure_c (cx [] (hG1 _ _)) (hK := ?_) | refine vpure_c (cx [] (hG1 _ _ _)) (hK := ?_) | refine vpure_c (cx [] (hG1 _ _ _ _)) (hK := ?_) | refine vpure_c (cx [] (hG2 _)) (hK := ?_) | refine vpure_c (cx [] (hG2 _ _)) (hK := ?_) | refine vpure_c (cx [] (hG2 _ _ _)) (hK := ?_) | refine vpure_c (cx [] (hG2 _ _ _ _)) (hK := ?_) | refine vpure_c (cx [] (hG3 _)) (hK := ?_) | refine vpure_c (cx [] (hG3 _ _)) (hK := ?_) | refine vpure_c (cx [] (hG3 _ _ _)) (hK := ?_) | refine vpure_c (cx [] (hG3 _ _ _ _)) (hK := ?_))) | (simp only [k8]; refine .inl ?_; refine ⟨fun hb => ?_, fun hb => ?_⟩ <;> (try replace hb := Bool.eq_false_iff.2 hb) <;> (first | exact absurd hb (by decide) | replace hk8 := hb))) <;> (simp only [k13, hk8, upT_g, dnT_g, nb_g, dnT_b, dnT_s, dnT_0, dnT_r, fx, fy, fz, wo, decide_true, decide_false, wz0, wz1, wz2, wz3, wz4, wz5, wz6, wz7, wz8, appM, Ty.isInt, capT, appendZM, buildM, setAll, plSt, plAr, mnmx, Int.reduceLT, vrec, List.drop_succ_cons, List.drop_zero, convertM, indexM, fieldM, Int.toNat_zero, Int.toNat_one, Int.le_refl, Int.zero_le_ofNat, Int.reduceEq, Int.reduceNe, ne_eq, not_false_eq_true, u8_wrap, marksG_len, marks_len, bne_self_eq_false, take_map_len, tgL_byte, T.asArr, T.tg, tgL, indexAddrM, wk, wl, eq_self, isCall, callT, opM, S.ev, S.put, entryS, thawAL, thawA, RM.run, RM.bind, RM.ofOpt, allocs, Heap.ups, Heap.put, Heap.at, List.replicate, Nat.reduceAdd, Nat.reduceSub, ofConst, nilAs, if_false, if_true, binT, binTy, unT, guardT, quietK, reduceIte, boxM, allocM, loadM, storeM, fieldAddrM, lenT, extractT, subM, setOb, T.get, T.setp, T.offs, T.nw, nwL, T.cel, T.isNd, T.size, sizeL, TyI.agg, Ty.agg, Ty.isFn, zeroT, Nat.reduceLT, Nat.reduceEqDiff, sumT, kill]; clear hk8; first | subst hy1 | (try simp only [thenS, blockS, if_true, if_false, Nat.reduceEqDiff, reduceIte]))) | (refine Chk.mk (by simp only [rdqs, rdq, k13, upT_g, dnT_g, nb_g, dnT_b, dnT_s, dnT_0, dnT_r, fx, fy, fz, wo, decide_true, decide_false, wz0, wz1, wz2, wz3, wz4, wz5, wz6, wz7, wz8, appM, Ty.isInt, capT, appendZM, buildM, setAll, plSt, plAr, mnmx, Int.reduceLT, vrec, List.drop_succ_cons, List.drop_zero, convertM, indexM, fieldM, Int.toNat_zero, Int.toNat_one, Int.le_refl, Int.zero_le_ofNat, Int.reduceEq, Int.reduceNe, ne_eq, not_false_eq_true, u8_wrap, marksG_len, marks_len, bne_self_eq_false, take_map_len, tgL_byte, T.asArr, T.tg, tgL, indexAddrM, wk, wl, eq_self, isCall, callT, opM, S.ev, S.put, entryS, thawAL, thawA, RM.run, RM.bind, RM.ofOpt, allocs, Heap.ups, Heap.put, Heap.at, List.replicate, Nat.reduceAdd, Nat.reduceSub, ofConst, nilAs, if_false, if_true, binT, binTy, unT, guardT, quietK, reduceIte, boxM, allocM, loadM, storeM, fieldAddrM, lenT, extractT, subM, setOb, T.get, T.setp, T.offs, T.nw, nwL, T.cel, T.isNd, T.size, sizeL, TyI.agg, Ty.agg, Ty.isFn, zeroT, Nat.reduceLT, Nat.reduceEqDiff, sumT, kill]; try trivial) ?_) | exact absurd trivial hb | exact absurd hb (by decide) | exact absurd hcc (by decide) | refine SW.seq ?_ | refine SW.block ?_ | (refine SW.cond rfl (fun hcc => ?_) (fun hcc => ?_)) | (refine SW.exit ?_; simp only [thenS, blockS, if_true, if_false, Nat.reduceEqDiff, reduceIte]) | (refine SW.skip ?_; simp only [thenS, blockS]) | exact SW.ret (RetQ.r hR) | (refine SW.ret (show RetQ _ _ _ _ _ _ _ from ⟨.inr rfl, [_], [1], [_], _, rfl, rfl, rfl, rfl, rfl, ?_⟩)) | (refine SW.ret (show RetQ _ _ _ _ _ _ _ from ⟨.inr rfl, [_, _], [0, 0], [_, _], _, rfl, rfl, rfl, rfl, rfl, ?_⟩)) | (refine SW.ret (show RetQ _ _ _ _ _ _ _ from ⟨.inr rfl, [_, _, _], [0, 0, 0], [_, _, _], _, rfl, rfl, rfl, rfl, rfl, ?_⟩)) | (refine SW.ret (show RetQ _ _ _ _ _ _ _ from ⟨.inr rfl, [_, _, _, _], [0, 0, 0, 0], [_, _, _, _], _, rfl, rfl, rfl, rfl, rfl, ?_⟩))) : A := k
end Q6

namespace Q6
open Go Go.Vm Go.Proofs
set_option maxHeartbeats 4000000
set_option synthInstance.maxSize 2000
set_option synthInstance.maxHeartbeats 400000
set_option maxRecDepth 10000
set_option linter.unusedSimpArgs false
set_option linter.unusedVariables false

theorem in_ok (a b c : Int) : CallR Try.prog 54 [.int .i64 a, .int .i64 b, .int .i64 c] [] (.bool (decide (a ≥ b) && decide (a ≤ c))) := by
  refine CallR.of_body (n := 15) (rs := [.tmp 6]) hY.ok Try.func54 rfl (by decide) rfl rfl rfl rfl (fun F => ?_)
  have fx := And.intro Y3 (Y4)
  have fy := Nat.add_zero
  refine goK ?_ ?_ ?_ ?_ ?_ ?_ ?_ ?_ ?_ ?_ ?_ ?_ ?_ ?_ ?_ ?_
  any_goals (first | exact True.intro | skip)
  all_goals (repeat (refine Wh.mk fun hcc => ?_))
  all_goals (first | rfl | ((try simp only [tupOf, fixEs]); (first | done | rfl | (simp_all []; done) | grind [])))
theorem l1In_ok (a b c : Int) : CallR Try.prog 122 [.int .i64 a, .int .i64 b, .int .i64 c] [] (.bool (decide (a ≥ b) && decide (a ≤ c))) := by
  refine CallR.of_body (n := 15) (rs := [.tmp 6]) hY.ok Try.func122 rfl (by decide) rfl rfl rfl rfl (fun F => ?_)
  have fx := And.intro Y3 (Y4)
  have fy := Nat.add_zero
  refine goK ?_ ?_ ?_ ?_ ?_ ?_ ?_ ?_ ?_ ?_ ?_ ?_ ?_ ?_ ?_ ?_
  any_goals (first | exact True.intro | skip)
  all_goals (repeat (refine Wh.mk fun hcc => ?_))
  all_goals (first | rfl | ((try simp only [tupOf, fixEs]); (first | done | rfl | (simp_all []; done) | grind [])))
theorem oid_ok (a : Int) : CallR Try.prog 51 [.int .i64 a] [] (.bool (decide (a ≥ 1) && decide (a ≤ 31))) := by
  refine CallR.of_body (n := 5) (rs := [.tmp 2]) hY.ok Try.func51 rfl (by decide) rfl rfl rfl rfl (fun F => ?_)
  have fx := And.intro Y3 (Y4)
  have hG1 := fun u1 u2 u3 => in_ok u1 u2 u3
  have fy := Nat.add_zero
  refine goK ?_ ?_ ?_ ?_ ?_ ?_ ?_ ?_ ?_ ?_ ?_ ?_ ?_ ?_ ?_ ?_
  any_goals (first | exact True.intro | skip)
  all_goals (repeat (refine Wh.mk fun hcc => ?_))
  all_goals (first | rfl | ((try simp only [tupOf, fixEs]); (first | done | rfl | (simp_all []; done) | grind [])))
end Q6

namespace Go.By
open Go Go.Vm

/-! ### words -/
theorem bits64 : IntKind.i64.bits = 64 := rfl
theorem i64_and127 (a : Nat) (h : a < 2 ^ 63) : IntKind.i64.wrap ((BitVec.ofInt IntKind.i64.bits (a : Int) &&& BitVec.ofInt IntKind.i64.bits 127).toNat : Int) = ((a % 128 : Nat) : Int) := by
  have e : (BitVec.ofInt 64 (a : Int) &&& BitVec.ofInt 64 127).toNat = a % 128 := by
    rw [BitVec.toNat_and, show BitVec.ofInt 64 (127 : Int) = 127#64 from rfl, BitVec.ofInt_natCast, BitVec.toNat_ofNat, show (127#64).toNat = 2 ^ 7 - 1 from rfl, Nat.and_two_pow_sub_one_eq_mod]; omega
  rw [bits64, e, wrap64 _ (by omega) (by omega)]
theorem i64_or128 (a : Nat) (h : a < 128) : IntKind.i64.wrap ((BitVec.ofInt IntKind.i64.bits (a : Int) ||| BitVec.ofInt IntKind.i64.bits 128).toNat : Int) = ((a + 128 : Nat) : Int) := by
  have e : (BitVec.ofInt 64 (a : Int) ||| BitVec.ofInt 64 128).toNat = a + 128 := by
    rw [BitVec.toNat_or, show BitVec.ofInt 64 (128 : Int) = 128#64 from rfl, BitVec.ofInt_natCast, BitVec.toNat_ofNat, show (128#64).toNat = 2 ^ 7 * 1 from rfl, Nat.mod_eq_of_lt (by omega), Nat.or_comm, ← Nat.two_pow_add_eq_or_of_lt (by omega)]; omega
  rw [bits64, e, wrap64 _ (by omega) (by omega)]
theorem i64_shr7 (a : Nat) : ((a : Int)).fdiv (2 ^ (min (7 : Int).toNat IntKind.i64.bits)) = ((a / 128 : Nat) : Int) := by
  rw [bits64, show (min (7 : Int).toNat 64) = 7 from rfl, Int.fdiv_eq_ediv_of_nonneg _ (by decide)]
  simp
/-- a group laid upon those ahead of it -/
theorem i64_grp (n x k : Nat) (hn : n < 2 ^ (7 * k)) (hx : x < 128) (hk : k < 6) :
    IntKind.i64.wrap ((BitVec.ofInt IntKind.i64.bits (n : Int) ||| BitVec.ofInt IntKind.i64.bits (IntKind.i64.wrap ((x : Int) * 2 ^ (min (IntKind.i64.wrap (7 * (k : Int))).toNat IntKind.i64.bits)))).toNat : Int) = ((n + x * 2 ^ (7 * k) : Nat) : Int) := by
  have h7 : IntKind.i64.wrap (7 * (k : Int)) = ((7 * k : Nat) : Int) := by rw [wrap64 _ (by omega) (by omega)]; simp
  have hle : 2 ^ (7 * k) ≤ 2 ^ 35 := Nat.pow_le_pow_right (by decide) (by omega)
  have hxm : x * 2 ^ (7 * k) < 2 ^ 42 := by
    calc x * 2 ^ (7 * k) ≤ 127 * 2 ^ 35 := Nat.mul_le_mul (by omega) hle
      _ < 2 ^ 42 := by decide
  have hmin : min (((7 * k : Nat) : Int)).toNat IntKind.i64.bits = 7 * k := by rw [bits64, Int.toNat_natCast]; omega
  rw [h7, hmin]
  have e1 : (x : Int) * 2 ^ (7 * k) = ((x * 2 ^ (7 * k) : Nat) : Int) := by simp
  have hw : IntKind.i64.wrap ((x * 2 ^ (7 * k) : Nat) : Int) = ((x * 2 ^ (7 * k) : Nat) : Int) := wrap64 _ (by omega) (by omega)
  rw [e1, hw]
  have e : (BitVec.ofInt 64 (n : Int) ||| BitVec.ofInt 64 ((x * 2 ^ (7 * k) : Nat) : Int)).toNat = n + x * 2 ^ (7 * k) := by
    rw [BitVec.toNat_or, BitVec.ofInt_natCast, BitVec.ofInt_natCast, BitVec.toNat_ofNat, BitVec.toNat_ofNat, Nat.mod_eq_of_lt (by omega), Nat.mod_eq_of_lt (by omega), Nat.mul_comm x, Nat.or_comm, ← Nat.two_pow_add_eq_or_of_lt hn]; omega
  rw [bits64, e, wrap64 _ (by omega) (by omega)]

/-! ### a number's bytes -/
def M12 : Int := 1000000000000
def encN (m : Nat) : List UInt8 := if h : m ≤ 127 then [byt m] else byt ((m % 128 + 128 : Nat) : Int) :: encN (m / 128)
termination_by m
decreasing_by omega
theorem encN_lo {m : Nat} (h : m ≤ 127) : encN m = [byt m] := by rw [encN, dif_pos h]
theorem encN_hi {m : Nat} (h : ¬ m ≤ 127) : encN m = byt ((m % 128 + 128 : Nat) : Int) :: encN (m / 128) := by rw [encN, dif_neg h]
def zig (n : Int) : Nat := if n < 0 then (-2 * n - 1).toNat else (2 * n).toNat
def clampI (n : Int) : Int := if n > M12 then M12 else if n < -M12 then -M12 else n
def putI (n : Int) : List UInt8 := encN (zig (clampI n))
theorem clamp_le (n : Int) : -M12 ≤ clampI n ∧ clampI n ≤ M12 := by unfold clampI M12; split <;> (try split) <;> omega
theorem clamp_of {n : Int} (h0 : -M12 ≤ n) (h1 : n ≤ M12) : clampI n = n := by unfold clampI; rw [if_neg (by omega), if_neg (by omega)]
theorem zig_lt (n : Int) : zig (clampI n) < 2 ^ 42 := by
  have := clamp_le n
  unfold zig M12 at *; split <;> omega
theorem encN_len : ∀ (k m : Nat), m < 2 ^ (7 * (k + 1)) → (encN m).length ≤ k + 1
  | 0, m, h => by rw [encN_lo (by omega)]; simp
  | k + 1, m, h => by
    by_cases hm : m ≤ 127
    · rw [encN_lo hm]; simp
    · rw [encN_hi hm]
      have := encN_len k (m / 128) (by
        rw [Nat.div_lt_iff_lt_mul (by decide)]
        rw [show 7 * (k + 1 + 1) = 7 * (k + 1) + 7 by omega, Nat.pow_add] at h
        exact h)
      simp; omega
theorem putI_len (n : Int) : (putI n).length ≤ 6 := encN_len 5 _ (by have := zig_lt n; omega)

/-! ### and back -/
def dec : List UInt8 → Nat → Nat → Option (Nat × Nat)
  | [], _, _ => none
  | v :: l, k, acc => if 6 ≤ k then none else if v.toNat > 127 then dec l (k + 1) (acc + v.toNat % 128 * 2 ^ (7 * k)) else if v.toNat = 0 ∧ k ≠ 0 then none else some (acc + v.toNat % 128 * 2 ^ (7 * k), k + 1)
def unz (m : Nat) : Int := if m % 2 = 1 then -(((m + 1) / 2 : Nat) : Int) else ((m / 2 : Nat) : Int)
def okN (n : Int) : Bool := decide (n ≥ -M12) && decide (n ≤ M12)
def getR (l : List UInt8) (a : Nat) : Int × Nat × Bool :=
  match dec (l.drop a) 0 0 with
  | some x => if okN (unz x.1) = true then (unz x.1, a + x.2, true) else (0, 0, false)
  | none => (0, 0, false)

/-- the program's own walk: no end at six -/
def grp : List UInt8 → Nat → Nat → Bool → Nat × Nat × Bool × Bool
  | [], _, _, _ => (0, 0, false, true)
  | v :: l, k, n, g =>
    let n' := if k < 6 then n + v.toNat % 128 * 2 ^ (7 * k) else n
    let g' := if k < 6 then g else if v.toNat % 128 ≠ 0 then false else g
    if v.toNat > 127 then grp l (k + 1) n' g' else (n', k + 1, g' && (decide (v.toNat ≠ 0) || decide (k = 0)), false)

theorem grp_bad : ∀ (l : List UInt8) (k n : Nat) (g : Bool), 6 ≤ k → (grp l k n g).2.2.1 = false
  | [], _, _, _, _ => rfl
  | v :: l, k, n, g, h => by
    unfold grp
    simp only
    split
    · exact grp_bad l _ _ _ (by omega)
    · rename_i hv
      simp only
      rw [if_neg (by omega)]
      by_cases h0 : v.toNat = 0
      · simp [h0]; omega
      · have : v.toNat % 128 ≠ 0 := by omega
        rw [if_pos this]; simp
theorem grp_dec : ∀ (l : List UInt8) (k n : Nat), k ≤ 6 → (∀ x, dec l k n = some x → (grp l k n true).1 = x.1 ∧ (grp l k n true).2.1 = x.2 ∧ (grp l k n true).2.2.1 = true) ∧
    (dec l k n = none → (grp l k n true).2.2.1 = false)
  | [], _, _, _ => ⟨fun x h => (by simp [dec] at h), fun _ => rfl⟩
  | v :: l, k, n, hk => by
    by_cases h6 : 6 ≤ k
    · refine ⟨fun x h => ?_, fun _ => grp_bad _ _ _ _ h6⟩
      unfold dec at h; rw [if_pos h6] at h; cases h
    · have hk6 : k < 6 := by omega
      simp only [dec, grp, if_neg h6, if_pos hk6]
      by_cases hv : v.toNat > 127
      · rw [if_pos hv, if_pos hv]
        exact grp_dec l (k + 1) _ (by omega)
      · rw [if_neg hv, if_neg hv]
        by_cases h0 : v.toNat = 0 ∧ k ≠ 0
        · rw [if_pos h0]
          refine ⟨fun x h => (by cases h), fun _ => ?_⟩
          simp [h0.1, h0.2]
        · rw [if_neg h0]
          refine ⟨fun x h => ?_, fun h => (by cases h)⟩
          simp only [Option.some.injEq] at h; subst h
          refine ⟨rfl, rfl, ?_⟩
          simp; omega
theorem dec_lt : ∀ (l : List UInt8) (k n : Nat) {x : Nat × Nat}, n < 2 ^ (7 * k) → dec l k n = some x → x.1 < 2 ^ 42
  | [], _, _, _, _, h => by cases h
  | v :: l, k, n, x, hn, h => by
    unfold dec at h
    split at h
    · cases h
    · rename_i h6
      have hstep : n + v.toNat % 128 * 2 ^ (7 * k) < 2 ^ (7 * (k + 1)) := by
        have h1 : v.toNat % 128 * 2 ^ (7 * k) ≤ 127 * 2 ^ (7 * k) := Nat.mul_le_mul_right _ (by omega)
        rw [show 7 * (k + 1) = 7 * k + 7 by omega, Nat.pow_add]
        omega
      split at h
      · exact dec_lt l (k + 1) _ hstep h
      · split at h
        · cases h
        · simp only [Option.some.injEq] at h; subst h
          have : 2 ^ (7 * (k + 1)) ≤ 2 ^ 42 := Nat.pow_le_pow_right (by decide) (by omega)
          simp only; omega
theorem grp_big : ∀ (l : List UInt8) (k n : Nat) (g : Bool), 6 ≤ k → n < 2 ^ 42 → (grp l k n g).1 < 2 ^ 42
  | [], _, _, _, _, _ => by simp [grp]
  | v :: l, k, n, g, hk, hn => by
    have h6 : ¬ k < 6 := by omega
    simp only [grp, if_neg h6]
    split
    · exact grp_big l (k + 1) n _ (by omega) hn
    · exact hn
theorem grp_lt : ∀ (l : List UInt8) (k n : Nat) (g : Bool), k ≤ 6 → n < 2 ^ (7 * k) → (grp l k n g).1 < 2 ^ 42
  | [], _, _, _, _, _ => by simp [grp]
  | v :: l, k, n, g, hk, hn => by
    unfold grp
    simp only
    have hp : 2 ^ (7 * (k + 1)) ≤ 2 ^ 42 ∨ ¬ k < 6 := by
      by_cases h : k < 6
      · exact .inl (Nat.pow_le_pow_right (by decide) (by omega))
      · exact .inr h
    have hstep : n + v.toNat % 128 * 2 ^ (7 * k) < 2 ^ (7 * (k + 1)) := by
      have h1 : v.toNat % 128 * 2 ^ (7 * k) ≤ 127 * 2 ^ (7 * k) := Nat.mul_le_mul_right _ (by omega)
      rw [show 7 * (k + 1) = 7 * k + 7 by omega, Nat.pow_add]
      omega
    have h42 : 2 ^ (7 * k) ≤ 2 ^ 42 := Nat.pow_le_pow_right (by decide) (by omega)
    split
    · by_cases h : k < 6
      · rw [if_pos h, if_pos h]; exact grp_lt l (k + 1) _ _ (by omega) hstep
      · rw [if_neg h, if_neg h]
        have hk6 : k = 6 := by omega
        subst hk6
        exact grp_big l 7 n _ (by omega) hn
    · simp only
      by_cases h : k < 6
      · rw [if_pos h]; omega
      · rw [if_neg h]; omega

/-! ### the bytes of a number are the only ones -/
theorem byt_small {m : Nat} (h : m < 256) : (byt (m : Int)).toNat = m := by
  have := byt_nat (m : Int); omega
theorem dec_enc : ∀ (m k acc : Nat) (r : List UInt8), m < 2 ^ (42 - 7 * k) → k < 6 → (k ≠ 0 → m ≠ 0) → dec (encN m ++ r) k acc = some (acc + m * 2 ^ (7 * k), k + (encN m).length) := by
  intro m
  induction m using Nat.strongRecOn with
  | _ m ih =>
    intro k acc r hm hk h0
    by_cases h : m ≤ 127
    · rw [encN_lo h]
      have e : (byt (m : Int)).toNat = m := byt_small (by omega)
      simp only [List.cons_append, List.nil_append, dec, e]
      rw [if_neg (by omega), if_neg (by omega), if_neg (by intro hh; exact h0 hh.2 hh.1), Nat.mod_eq_of_lt (by omega)]; rfl
    · rw [encN_hi h]
      have e : (byt ((m % 128 + 128 : Nat) : Int)).toNat = m % 128 + 128 := byt_small (by omega)
      simp only [List.cons_append, dec, e]
      have hk5 : k < 5 := by
        rcases Nat.lt_or_ge k 5 with h' | h'
        · exact h'
        · exfalso
          have : k = 5 := by omega
          subst this; omega
      rw [if_neg (by omega), if_pos (by omega)]
      rw [ih (m / 128) (by omega) (k + 1) _ r (by
        rw [Nat.div_lt_iff_lt_mul (by decide)]
        have : 42 - 7 * k = (42 - 7 * (k + 1)) + 7 := by omega
        rw [this, Nat.pow_add] at hm
        exact hm) (by omega) (fun _ => by omega)]
      congr 1
      simp only [List.length_cons, Prod.mk.injEq]
      refine ⟨?_, by omega⟩
      have e1 : (m % 128 + 128) % 128 = m % 128 := by omega
      rw [e1, show 7 * (k + 1) = 7 + 7 * k by omega, Nat.pow_add, ← Nat.mul_assoc, Nat.add_assoc, ← Nat.add_mul]
      congr 2
      omega
theorem enc_dec : ∀ (l : List UInt8) (k acc : Nat) {x : Nat × Nat}, dec l k acc = some x → ∃ m r, l = encN m ++ r ∧ x.1 = acc + m * 2 ^ (7 * k) ∧ x.2 = k + (encN m).length ∧ (k ≠ 0 → m ≠ 0) ∧ m < 2 ^ (42 - 7 * k)
  | [], _, _, _, h => by cases h
  | v :: l, k, acc, x, h => by
    unfold dec at h
    split at h
    · cases h
    · rename_i h6
      have hv := v.toNat_lt
      split at h
      · rename_i hgt
        obtain ⟨m, r, rfl, h1, h2, h3, h4⟩ := enc_dec l (k + 1) _ h
        have hm0 := h3 (by omega)
        have hk5 : k < 5 := by
          rcases Nat.lt_or_ge k 5 with h' | h'
          · exact h'
          · exfalso
            have e : 42 - 7 * (k + 1) = 0 := by omega
            rw [e, Nat.pow_zero] at h4
            omega
        refine ⟨v.toNat % 128 + 128 * m, r, ?_, ?_, ?_, fun _ => by omega, ?_⟩
        · rw [encN_hi (m := v.toNat % 128 + 128 * m) (by omega)]
          have e1 : (v.toNat % 128 + 128 * m) % 128 + 128 = v.toNat := by omega
          have e2 : (v.toNat % 128 + 128 * m) / 128 = m := by omega
          rw [e1, e2, byt_of]; rfl
        · rw [h1, Nat.add_mul, show 7 * (k + 1) = 7 + 7 * k by omega, Nat.pow_add, ← Nat.mul_assoc, Nat.mul_comm m, show (2 : Nat) ^ 7 = 128 from rfl]; omega
        · rw [h2, encN_hi (m := v.toNat % 128 + 128 * m) (by omega)]
          have e2 : (v.toNat % 128 + 128 * m) / 128 = m := by omega
          rw [e2]; simp; omega
        · have e : 42 - 7 * k = (42 - 7 * (k + 1)) + 7 := by omega
          rw [e, Nat.pow_add]
          omega
      · split at h
        · cases h
        · rename_i h7 h8
          simp only [Option.some.injEq] at h; subst h
          have hvl : v.toNat ≤ 127 := by omega
          refine ⟨v.toNat, l, ?_, ?_, ?_, fun hk hz => h8 ⟨hz, hk⟩, ?_⟩
          · rw [encN_lo hvl, byt_of]; rfl
          · simp only; rw [Nat.mod_eq_of_lt (by omega)]
          · rw [encN_lo hvl]; rfl
          · have : 2 ^ 7 ≤ 2 ^ (42 - 7 * k) := Nat.pow_le_pow_right (by decide) (by omega)
            omega

theorem unz_zig {n : Int} : unz (zig n) = n := by
  unfold unz zig; split <;> split <;> omega
theorem zig_unz {m : Nat} : zig (unz m) = m := by
  unfold unz zig; split <;> split <;> omega

/-- a number taken off the front -/
def pI (l : List UInt8) : Option (Int × List UInt8) := match dec l 0 0 with
  | some x => if okN (unz x.1) = true then some (unz x.1, l.drop x.2) else none
  | none => none
theorem okN_iff {n : Int} : okN n = true ↔ -M12 ≤ n ∧ n ≤ M12 := by unfold okN; simp
theorem pI_put (n : Int) (h : okN n = true) (r : List UInt8) : pI (putI n ++ r) = some (n, r) := by
  have hc := clamp_of (okN_iff.1 h).1 (okN_iff.1 h).2
  have hz := zig_lt n
  unfold pI putI
  rw [hc] at hz ⊢
  rw [dec_enc (zig n) 0 0 r (by simpa using hz) (by decide) (fun h => absurd rfl h)]
  simp only [Nat.zero_add, Nat.mul_zero, Nat.pow_zero, Nat.mul_one, unz_zig, h, if_true, List.drop_left]
theorem pI_inv {l r : List UInt8} {n : Int} (h : pI l = some (n, r)) : l = putI n ++ r ∧ okN n = true := by
  unfold pI at h
  split at h
  · rename_i x hx
    split at h
    · rename_i hok
      simp only [Option.some.injEq, Prod.mk.injEq] at h
      obtain ⟨rfl, rfl⟩ := h
      obtain ⟨m, r, rfl, h1, h2, _, _⟩ := enc_dec l 0 0 hx
      refine ⟨?_, hok⟩
      simp only [Nat.zero_add, Nat.mul_zero, Nat.pow_zero, Nat.mul_one] at h1 h2
      rw [h2, List.drop_left]
      unfold putI
      rw [clamp_of (okN_iff.1 hok).1 (okN_iff.1 hok).2, zig_unz, h1]
    · cases h
  · cases h
theorem getR_pI (l : List UInt8) (a : Nat) (ha : a ≤ l.length) : getR l a = match pI (l.drop a) with
    | some x => (x.1, l.length - x.2.length, true)
    | none => (0, 0, false) := by
  unfold getR pI
  cases hd : dec (l.drop a) 0 0 with
  | none => rfl
  | some x =>
    simp only
    split
    · obtain ⟨m, r, hl, h1, h2, _, _⟩ := enc_dec _ 0 0 hd
      simp only [Prod.mk.injEq, and_true, true_and]
      have : (l.drop a).length = x.2 + ((l.drop a).drop x.2).length := by
        rw [List.length_drop (i := x.2)]
        have : x.2 ≤ (l.drop a).length := by rw [hl, h2]; simp
        omega
      rw [List.length_drop (i := a)] at this
      omega
    · rfl
end Go.By

namespace Q6
open Go Go.Vm Go.Proofs
set_option maxHeartbeats 4000000
set_option synthInstance.maxSize 2000
set_option synthInstance.maxHeartbeats 400000
set_option maxRecDepth 10000
set_option linter.unusedSimpArgs false
set_option linter.unusedVariables false

open Go.By

/-! ### draws: a cursor, and what comes of it -/
def xr (a b : Int) : Int := IntKind.i64.wrap ((BitVec.ofInt IntKind.i64.bits a ^^^ BitVec.ofInt IntKind.i64.bits b).toNat : Int)
def an (a b : Int) : Int := IntKind.i64.wrap ((BitVec.ofInt IntKind.i64.bits a &&& BitVec.ofInt IntKind.i64.bits b).toNat : Int)
def sr (a k : Int) : Int := a.fdiv (2 ^ (min k.toNat IntKind.i64.bits))
theorem xr_eq (a b : Int) : IntKind.i64.wrap ((BitVec.ofInt IntKind.i64.bits a ^^^ BitVec.ofInt IntKind.i64.bits b).toNat : Int) = xr a b := rfl
theorem an_eq (a b : Int) : IntKind.i64.wrap ((BitVec.ofInt IntKind.i64.bits a &&& BitVec.ofInt IntKind.i64.bits b).toNat : Int) = an a b := rfl
theorem sr_eq (a k : Int) : a.fdiv (2 ^ (min k.toNat IntKind.i64.bits)) = sr a k := rfl
theorem an_rng (a : Int) (b : Nat) (hb : b < 2 ^ 62) : 0 ≤ an a b ∧ an a b ≤ b := by
  unfold an
  have h : (BitVec.ofInt IntKind.i64.bits a &&& BitVec.ofInt IntKind.i64.bits (b : Int)).toNat ≤ b := by
    rw [BitVec.toNat_and]
    refine Nat.le_trans Nat.and_le_right ?_
    rw [show IntKind.i64.bits = 64 from rfl, BitVec.ofInt_natCast, BitVec.toNat_ofNat]
    exact Nat.mod_le _ _
  rw [wrap64 _ (by omega) (by omega)]
  omega
theorem an_255 (a : Int) : 0 ≤ an a 255 ∧ an a 255 ≤ 255 := an_rng a 255 (by decide)
def hs1 (h : Int) : Int := IntKind.i64.wrap (IntKind.i64.wrap (h * 6364136223846793005) + 1442695040888963407)
def hx1 (h : Int) : Int := an (xr (sr (hs1 h) 33) (sr (hs1 h) 47)) 255

abbrev CS := Nat × Int
theorem byte_ok (l : List UInt8) (s : CS) (hl : l.length ≤ 1048576) (hi : s.1 ≤ l.length) : ∃ (s' : CS) (x : Int), s'.1 ≤ l.length ∧ (0 ≤ x ∧ x ≤ 255) ∧ CallR Try.prog 172 [.io (.nd [.sl .s (l.map Enc.b), .int .i64 (s.1 : Nat), .int .i64 s.2])] [.nd [.sl .s (l.map Enc.b), .int .i64 (s'.1 : Nat), .int .i64 s'.2]] (.int .i64 x) := by
  obtain ⟨i, h⟩ := s
  simp only at hi ⊢
  by_cases hlt : i < l.length
  · refine ⟨(i + 1, hs1 h), an (IntKind.i64.wrap (hx1 h + (l[i].toNat : Int))) 255, hlt, an_255 _, ?_⟩
    have hg : (l.map Enc.b)[i]? = some (T.int .u8 (l[i].toNat : Int)) := map_get Enc.b l i hlt
    have hbi := byte_i64 l[i]
    generalize l[i] = v at *
    have hd : decide ((i : Int) < (l.length : Int)) = true := by simp; omega
    have hwi : IntKind.i64.wrap ((i : Int) + 1) = ((i + 1 : Nat) : Int) := by rw [wrap64 _ (by omega) (by omega)]; omega
    refine CallR.of_body (n := 58) (rs := [.tmp 2]) hY.ok Try.func172 rfl (by decide) rfl rfl rfl rfl (fun F => ?_)
    have fx := And.intro Y1 (And.intro Y2 (And.intro Y3 (And.intro Y4 (And.intro Y5 (And.intro Y22 (And.intro Y104 (And.intro Y172 (Y229))))))))
    have e1 : IntKind.i64.wrap (IntKind.i64.wrap (h * 6364136223846793005) + 1442695040888963407) = hs1 h := rfl
    have e2 : an (xr (sr (hs1 h) 33) (sr (hs1 h) 47)) 255 = hx1 h := rfl
    have fy := And.intro xr_eq (And.intro an_eq (And.intro sr_eq (And.intro e1 (And.intro e2 (And.intro hd (And.intro hg (And.intro hbi (hwi))))))))
    refine goR ?_ ?_ ?_ ?_ ?_ ?_ ?_ ?_ ?_ ?_ ?_ ?_ ?_ ?_ ?_ ?_
    any_goals (first | exact True.intro | skip)
    all_goals (repeat (refine Wh.mk fun hcc => ?_))
    all_goals exact SW.ret (show RetQ _ _ _ _ _ _ _ from RetQ.y [0] [.int .i64 (an (IntKind.i64.wrap (hx1 h + (v.toNat : Int))) 255)])
  · have hge : i = l.length := by omega
    subst hge
    refine ⟨(l.length, hs1 h), hx1 h, Nat.le_refl _, an_255 _, ?_⟩
    have hd : decide ((l.length : Int) < (l.length : Int)) = false := by simp
    refine CallR.of_body (n := 58) (rs := [.tmp 2]) hY.ok Try.func172 rfl (by decide) rfl rfl rfl rfl (fun F => ?_)
    have fx := And.intro Y1 (And.intro Y2 (And.intro Y3 (And.intro Y4 (And.intro Y5 (And.intro Y22 (And.intro Y104 (And.intro Y172 (Y229))))))))
    have e1 : IntKind.i64.wrap (IntKind.i64.wrap (h * 6364136223846793005) + 1442695040888963407) = hs1 h := rfl
    have e2 : an (xr (sr (hs1 h) 33) (sr (hs1 h) 47)) 255 = hx1 h := rfl
    have fy := And.intro xr_eq (And.intro an_eq (And.intro sr_eq (And.intro e1 (And.intro e2 (hd)))))
    refine goR ?_ ?_ ?_ ?_ ?_ ?_ ?_ ?_ ?_ ?_ ?_ ?_ ?_ ?_ ?_ ?_
    any_goals (first | exact True.intro | skip)
    all_goals (repeat (refine Wh.mk fun hcc => ?_))
    all_goals exact SW.ret (show RetQ _ _ _ _ _ _ _ from RetQ.y [0] [.int .i64 (hx1 h)])
theorem below_ok (l : List UInt8) (s : CS) (hl : l.length ≤ 1048576) (hi : s.1 ≤ l.length) (n : Int) : ∃ (s' : CS) (x : Int), s'.1 ≤ l.length ∧ (0 ≤ x ∧ (0 < n → x < n)) ∧ CallR Try.prog 127 [.io (.nd [.sl .s (l.map Enc.b), .int .i64 (s.1 : Nat), .int .i64 s.2]), .int .i64 n] [.nd [.sl .s (l.map Enc.b), .int .i64 (s'.1 : Nat), .int .i64 s'.2]] (.int .i64 x) := by
  by_cases h0 : n ≤ 0
  · refine ⟨s, 0, hi, ⟨Int.le_refl _, fun h => by omega⟩, ?_⟩
    have hd0 : decide (n ≤ 0) = true := decide_eq_true h0
    refine CallR.of_body (n := 31) (rs := [.tmp 4]) hY.ok Try.func127 rfl (by decide) rfl rfl rfl rfl (fun F => ?_)
    have fx := And.intro Y3 (And.intro Y4 (Y104))
    have fy := hd0
    refine goR ?_ ?_ ?_ ?_ ?_ ?_ ?_ ?_ ?_ ?_ ?_ ?_ ?_ ?_ ?_ ?_
    any_goals (first | exact True.intro | skip)
    all_goals (repeat (refine Wh.mk fun hcc => ?_))
    all_goals exact SW.ret (show RetQ _ _ _ _ _ _ _ from RetQ.y [0] [.int .i64 0])
  have hd0 : decide (n ≤ 0) = false := decide_eq_false h0
  have hn0 : ¬ n = 0 := by omega
  obtain ⟨s1, x1, e1, p1, c1⟩ := byte_ok l s hl hi
  by_cases h1 : n ≤ 256
  · refine ⟨s1, x1.tmod n, e1, ⟨Int.tmod_nonneg _ p1.1, fun h => Int.tmod_lt_of_pos _ h⟩, ?_⟩
    have hd1 : decide (n ≤ 256) = true := decide_eq_true h1
    refine CallR.of_body (n := 31) (rs := [.tmp 4]) hY.ok Try.func127 rfl (by decide) rfl rfl rfl rfl (fun F => ?_)
    have fx := And.intro Y3 (And.intro Y4 (Y104))
    have hC1 := cx [.io] (c1)
    have fy := And.intro hd0 (And.intro hd1 (hn0))
    refine goR ?_ ?_ ?_ ?_ ?_ ?_ ?_ ?_ ?_ ?_ ?_ ?_ ?_ ?_ ?_ ?_
    any_goals (first | exact True.intro | skip)
    all_goals (repeat (refine Wh.mk fun hcc => ?_))
    all_goals exact SW.ret (show RetQ _ _ _ _ _ _ _ from RetQ.y [0] [.int .i64 (x1.tmod n)])
  have hd1 : decide (n ≤ 256) = false := decide_eq_false h1
  obtain ⟨s2, x2, e2, p2, c2⟩ := byte_ok l s1 hl e1
  obtain ⟨s3, x3, e3, p3, c3⟩ := byte_ok l s2 hl e2
  have w1 : IntKind.i64.wrap (x1 * 65536) = x1 * 65536 := wrap64 _ (by omega) (by omega)
  have w2 : IntKind.i64.wrap (x2 * 256) = x2 * 256 := wrap64 _ (by omega) (by omega)
  have w3 : IntKind.i64.wrap (x1 * 65536 + x2 * 256) = x1 * 65536 + x2 * 256 := wrap64 _ (by omega) (by omega)
  have w4 : IntKind.i64.wrap (x1 * 65536 + x2 * 256 + x3) = x1 * 65536 + x2 * 256 + x3 := wrap64 _ (by omega) (by omega)
  refine ⟨s3, (x1 * 65536 + x2 * 256 + x3).tmod n, e3, ⟨Int.tmod_nonneg _ (by omega), fun h => Int.tmod_lt_of_pos _ h⟩, ?_⟩
  refine CallR.of_body (n := 31) (rs := [.tmp 4]) hY.ok Try.func127 rfl (by decide) rfl rfl rfl rfl (fun F => ?_)
  have fx := And.intro Y3 (And.intro Y4 (Y104))
  have hC1 := cx [.io] (c1)
  have hC2 := cx [.io] (c2)
  have hC3 := cx [.io] (c3)
  have fy := And.intro hd0 (And.intro hd1 (And.intro hn0 (And.intro w1 (And.intro w2 (And.intro w3 (w4))))))
  refine goR ?_ ?_ ?_ ?_ ?_ ?_ ?_ ?_ ?_ ?_ ?_ ?_ ?_ ?_ ?_ ?_
  any_goals (first | exact True.intro | skip)
  all_goals (repeat (refine Wh.mk fun hcc => ?_))
  all_goals exact SW.ret (show RetQ _ _ _ _ _ _ _ from RetQ.y [0] [.int .i64 ((x1 * 65536 + x2 * 256 + x3).tmod n)])
theorem once_ok (l : List UInt8) (s : CS) (hl : l.length ≤ 1048576) (hi : s.1 ≤ l.length) (n : Int) : ∃ (s' : CS) (x : Bool), s'.1 ≤ l.length ∧ CallR Try.prog 126 [.io (.nd [.sl .s (l.map Enc.b), .int .i64 (s.1 : Nat), .int .i64 s.2]), .int .i64 n] [.nd [.sl .s (l.map Enc.b), .int .i64 (s'.1 : Nat), .int .i64 s'.2]] (.bool x) := by
  obtain ⟨s1, x1, e1, p1, c1⟩ := below_ok l s hl hi n
  refine ⟨s1, (x1 == 0), e1, ?_⟩
  refine CallR.of_body (n := 9) (rs := [.tmp 4]) hY.ok Try.func126 rfl (by decide) rfl rfl rfl rfl (fun F => ?_)
  have fx := And.intro Y3 (And.intro Y4 (Y104))
  have hC1 := cx [.io] (c1)
  have fy := Nat.add_zero
  refine goR ?_ ?_ ?_ ?_ ?_ ?_ ?_ ?_ ?_ ?_ ?_ ?_ ?_ ?_ ?_ ?_
  any_goals (first | exact True.intro | skip)
  all_goals (repeat (refine Wh.mk fun hcc => ?_))
  all_goals exact SW.ret (show RetQ _ _ _ _ _ _ _ from RetQ.y [0] [.bool (x1 == 0)])
theorem int_ok (l : List UInt8) (s : CS) (hl : l.length ≤ 1048576) (hi : s.1 ≤ l.length) (ns : List Int) (h0 : 0 < ns.length) (h1 : ns.length ≤ 1048576) : ∃ (s' : CS) (x : Int), s'.1 ≤ l.length ∧ x ∈ ns ∧ CallR Try.prog 66 [.io (.nd [.sl .s (l.map Enc.b), .int .i64 (s.1 : Nat), .int .i64 s.2]), .sl .b (ns.map Enc.b)] [.nd [.sl .s (l.map Enc.b), .int .i64 (s'.1 : Nat), .int .i64 s'.2]] (.int .i64 x) := by
  obtain ⟨s1, x1, e1, p1, c1⟩ := below_ok l s hl hi (ns.length : Int)
  obtain ⟨k, rfl⟩ : ∃ k : Nat, x1 = (k : Int) := ⟨x1.toNat, by omega⟩
  have hk : k < ns.length := by have := p1.2 (by omega); omega
  refine ⟨s1, ns[k], e1, List.getElem_mem hk, ?_⟩
  have hg : (ns.map Enc.b)[k]? = some (T.int .i64 ns[k]) := map_get Enc.b ns k hk
  refine CallR.of_body (n := 12) (rs := [.tmp 4]) hY.ok Try.func66 rfl (by decide) rfl rfl rfl rfl (fun F => ?_)
  have fx := And.intro Y3 (And.intro Y27 (Y104))
  have hC1 := cx [.io] (c1)
  have fy := hg
  refine goR ?_ ?_ ?_ ?_ ?_ ?_ ?_ ?_ ?_ ?_ ?_ ?_ ?_ ?_ ?_ ?_
  any_goals (first | exact True.intro | skip)
  all_goals (repeat (refine Wh.mk fun hcc => ?_))
  all_goals exact SW.ret (show RetQ _ _ _ _ _ _ _ from RetQ.y [0] [.int .i64 ns[k]])
theorem new_ok (l : List UInt8) (hl : l.length ≤ 1048576) : ∃ h : Int, CallR Try.prog 49 [.sl .s (l.map Enc.b)] [] (.fp (.io (.nd [.sl .s (l.map Enc.b), .int .i64 0, .int .i64 h]))) := by
  let st : List UInt8 → Int := fun m => m.foldl (fun h v => an (IntKind.i64.wrap (IntKind.i64.wrap (IntKind.i64.wrap (h * 137) + (v.toNat : Int)) + 11)) 1073741823) (IntKind.i64.wrap (278278 + (l.length : Int)))
  refine ⟨st (l.take 4000), ?_⟩
  refine CallR.of_body (n := 32) (rs := [.tmp 2]) hY.ok Try.func49 rfl (by decide) rfl rfl rfl rfl (fun F => ?_)
  have fx := And.intro Y2 (And.intro Y3 (And.intro Y4 (And.intro Y5 (And.intro Y22 (And.intro Y104 (Y172))))))
  have fy := Nat.add_zero
  refine goN ?_ ?_ ?_ ?_ ?_ ?_ ?_ ?_ ?_ ?_ ?_ ?_ ?_ ?_ ?_ ?_
  any_goals (first | exact True.intro | skip)
  skip
  refine SW.loop (fun i : Nat => ⟨[.sl .s (l.map Enc.b), .undef, .undef, .int .i64 (st (l.take i)), .int .i64 (i : Nat), .undef, .undef, .undef, .undef, .undef, .undef, .undef, .undef, .undef, .undef, .undef, .undef, .undef, .undef, .undef, .undef, .undef, .undef, .undef, .undef, .undef, .undef, .undef, .undef, .undef, .undef, .undef], [[]]⟩)
    (fun N i => N = l.length - i ∧ i ≤ l.length ∧ i ≤ 4000) (n := l.length) (x := 0) (Norm.to 0 rfl (by simp [weakL, st])) ⟨rfl, Nat.zero_le _, by decide⟩ ?_
  rintro N i ⟨hn, hi, hi4⟩
  have fy := Nat.add_zero
  refine goS ?_
  by_cases hgo : i < l.length ∧ i < 4000
  · obtain ⟨hlt, h4⟩ := hgo
    have hd1 : decide ((i : Int) < (l.length : Int)) = true := by simp; omega
    have hd2 : decide ((i : Int) < 4000) = true := by simp; omega
    have hg : (l.map Enc.b)[i]? = some (T.int .u8 (l[i].toNat : Int)) := map_get Enc.b l i hlt
    have hbi := byte_i64 l[i]
    have hst : st (l.take (i + 1)) = an (IntKind.i64.wrap (IntKind.i64.wrap (IntKind.i64.wrap (st (l.take i) * 137) + (l[i].toNat : Int)) + 11)) 1073741823 := by
      show List.foldl _ _ _ = _
      rw [List.take_add_one, List.getElem?_eq_getElem hlt, List.foldl_append]; rfl
    generalize l[i] = v at *
    have hwi : IntKind.i64.wrap ((i : Int) + 1) = ((i + 1 : Nat) : Int) := by rw [wrap64 _ (by omega) (by omega)]; omega
    generalize st (List.take i l) = c at *
    have fy := And.intro hd1 (And.intro hd2 (And.intro hg (And.intro hbi (And.intro hwi (an_eq)))))
    refine goR ?_ ?_ ?_ ?_ ?_ ?_ ?_ ?_ ?_ ?_ ?_ ?_ ?_ ?_ ?_ ?_
    any_goals (first | exact True.intro | skip)
    all_goals (repeat (refine Wh.mk fun hcc => ?_))
    all_goals first | (exfalso; simp at hcc; done) | (exfalso; simp at hcc; omega) | skip
    refine ⟨N - 1, i + 1, by omega, ⟨by omega, by omega, by omega⟩, ?_⟩
    rw [hst]
    exact Norm.to 0 rfl (by simp [weakL])
  · have hd : (decide ((i : Int) < (l.length : Int)) && decide ((i : Int) < 4000)) = false := by simp; omega
    have hfin : st (l.take 4000) = st (l.take i) := by
      by_cases h4 : i = 4000
      · rw [h4]
      · have : i = l.length := by omega
        rw [this, List.take_length, List.take_of_length_le (by omega)]
    rw [hfin]
    generalize st (List.take i l) = c at *
    cases hd1 : decide ((i : Int) < (l.length : Int))
    · skip
      have fy := hd1
      refine goR ?_ ?_ ?_ ?_ ?_ ?_ ?_ ?_ ?_ ?_ ?_ ?_ ?_ ?_ ?_ ?_
      any_goals (first | exact True.intro | skip)
      all_goals (repeat (refine Wh.mk fun hcc => ?_))
      all_goals first | (exfalso; simp at hcc; done) | (exfalso; simp at hcc; omega) | exact SW.ret (show RetQ _ _ _ _ _ _ _ from RetQ.y [4294967295] [.fp (.io (.nd [.sl .s (l.map Enc.b), .int .i64 0, .int .i64 c]))])
    · have hd2 : decide ((i : Int) < 4000) = false := by rw [hd1] at hd; simpa using hd
      have fy := And.intro hd1 (hd2)
      refine goR ?_ ?_ ?_ ?_ ?_ ?_ ?_ ?_ ?_ ?_ ?_ ?_ ?_ ?_ ?_ ?_
      any_goals (first | exact True.intro | skip)
      all_goals (repeat (refine Wh.mk fun hcc => ?_))
      all_goals first | (exfalso; simp [hd2] at hcc; done) | (exfalso; simp at hcc; done) | (exfalso; simp at hcc; omega) | exact SW.ret (show RetQ _ _ _ _ _ _ _ from RetQ.y [4294967295] [.fp (.io (.nd [.sl .s (l.map Enc.b), .int .i64 0, .int .i64 c]))])
end Q6

namespace Q6
open Go Go.Vm Go.Proofs
set_option maxHeartbeats 4000000
set_option synthInstance.maxSize 2000
set_option synthInstance.maxHeartbeats 400000
set_option maxRecDepth 10000
set_option linter.unusedSimpArgs false
set_option linter.unusedVariables false


    def intB (n : Int) : Bool := decide (n ≥ -1000000) && decide (n ≤ 1000000)
    def refB (n : Int) : Bool := decide (n ≥ 0) && decide (n ≤ 31)
    def objB (x : (Int × (List Int) × (List Int) × Unit)) : Bool := (decide (x.1 ≥ 1) && decide (x.1 ≤ 99)) && decide (x.2.1.length ≤ 5) && decide (x.2.2.1.length ≤ 5) && x.2.1.all intB && x.2.2.1.all refB
    def noObjB (x : (Int × (List Int) × (List Int) × Unit)) : Bool := decide (x.1 = 0) && decide (x.2.1.length = 0) && decide (x.2.2.1.length = 0)
    def slotB (x : (Bool × ((Int × (List Int) × (List Int) × Unit)) × Unit)) : Bool := if x.1 then objB x.2.1 else noObjB x.2.1
    def viewB (l : List (Bool × ((Int × (List Int) × (List Int) × Unit)) × Unit)) : Bool := decide (l.length = 32) && (match l with | [] => false | s :: _ => !s.1) && l.all slotB
    theorem len0 (l : List Int) : ((l.length : Int) == 0) = decide (l.length = 0) := by
      by_cases h : l.length = 0
      · simp [h]
      · have : ¬ (l.length : Int) = 0 := by omega
        rw [beq_eq_false_iff_ne.2 this]; simp [h]
    theorem len5 (l : List Int) : decide ((l.length : Int) > 5) = !decide (l.length ≤ 5) := by
      by_cases h : l.length ≤ 5
      · have : ¬ (l.length : Int) > 5 := by omega
        simp [h, this]
      · have : (l.length : Int) > 5 := by omega
        simp [h, this]
    
theorem obj1_ok (x : Int) : CallR Try.prog 173 [.int .i64 x] [] (.bool (!intB x)) := by
  refine CallR.of_body (n := 6) (rs := [.tmp 2]) hY.ok Try.func173 rfl (by decide) rfl rfl rfl rfl (fun F => ?_)
  have fx := And.intro Y3 (Y4)
  have hG1 := fun u1 u2 u3 => in_ok u1 u2 u3
  have fy := Nat.add_zero
  refine goK ?_ ?_ ?_ ?_ ?_ ?_ ?_ ?_ ?_ ?_ ?_ ?_ ?_ ?_ ?_ ?_
  any_goals (first | exact True.intro | skip)
  all_goals (repeat (refine Wh.mk fun hcc => ?_))
  all_goals (first | rfl | ((try simp only [tupOf, fixEs]); (first | done | rfl | (simp_all []; done) | grind [])))
theorem obj2_ok (x : Int) : CallR Try.prog 174 [.int .i64 x] [] (.bool (!refB x)) := by
  refine CallR.of_body (n := 6) (rs := [.tmp 2]) hY.ok Try.func174 rfl (by decide) rfl rfl rfl rfl (fun F => ?_)
  have fx := And.intro Y3 (Y4)
  have hG1 := fun u1 u2 u3 => in_ok u1 u2 u3
  have fy := Nat.add_zero
  refine goK ?_ ?_ ?_ ?_ ?_ ?_ ?_ ?_ ?_ ?_ ?_ ?_ ?_ ?_ ?_ ?_
  any_goals (first | exact True.intro | skip)
  all_goals (repeat (refine Wh.mk fun hcc => ?_))
  all_goals (first | rfl | ((try simp only [tupOf, fixEs]); (first | done | rfl | (simp_all []; done) | grind [])))
theorem idxInt_ok (l : List Int) (hl : Enc.lim 1048576 l) : CallR Try.prog 128 [.sl .b (l.map Enc.b), .fn 173 [] []] [] (.int .i64 (idxOf (fun x => !intB x) l)) := by
  refine CallR.of_body (n := 19) (rs := [.tmp 4]) hY.ok Try.func128 rfl (by decide) rfl rfl rfl rfl (fun F => ?_)
  have fx := And.intro Y3 (And.intro Y4 (And.intro Y27 (Y107)))
  have hl1 : l.length ≤ 1048576 := hl.1
  have fy := Nat.add_zero
  refine goN ?_ ?_ ?_ ?_ ?_ ?_ ?_ ?_ ?_ ?_ ?_ ?_ ?_ ?_ ?_ ?_
  any_goals (first | exact True.intro | skip)
  skip
  refine SW.loop (fun i : Nat => ⟨[.sl .b (l.map Enc.b), .fn 173 [] [], .undef, .undef, .undef, .undef, .undef, .int .i64 l.length, .int .i64 i, .undef, .undef, .undef, .undef, .undef, .undef, .undef, .undef, .undef, .undef], [[]]⟩)
    (fun n i => n = l.length - i ∧ i ≤ l.length ∧ ∀ j (h : j < l.length), j < i → (fun x => !intB x) l[j] = false) (n := l.length) (x := 0) (Norm.to 0 rfl (by simp [weakL])) ⟨rfl, Nat.zero_le _, fun j _ h => absurd h (Nat.not_lt_zero _)⟩ ?_
  rintro n i ⟨hn, hi, hp⟩
  have fy := Nat.add_zero
  refine goS ?_
  refine SW.cond rfl (fun hc => ?_) (fun hc => ?_)
  · have hlt : i < l.length := by simpa using hc
    have hg : (l.map Enc.b)[i]? = some (.int .i64 l[i]) := map_get Enc.b l i hlt
    have hC1 := cx [] (obj1_ok l[i])
    have fy := hg
    refine goK ?_ ?_ ?_ ?_ ?_ ?_ ?_ ?_ ?_ ?_ ?_ ?_ ?_ ?_ ?_ ?_
    any_goals (first | exact True.intro | skip)
    all_goals (repeat (refine Wh.mk fun hcc => ?_))
    · have hx := hcc
      have hx' : (fun x => !intB x) l[i] = true := by simpa using hx
      simp only [tupOf, fixEs, idxOf_eq (fun x => !intB x) l hlt hx' (fun j hj => hp j (by omega) hj)]
    · have hx := hcc
      have hx' : (fun x => !intB x) l[i] = false := by simpa using hx
      refine ⟨n - 1, i + 1, by omega, ⟨by omega, by omega, fun j hj hji => ?_⟩, ?_⟩
      · by_cases he : j = i
        · subst he; exact hx'
        · exact hp j hj (by omega)
      · rw [wrap64 _ (by omega) (by omega)]
        first | exact Norm.to 0 rfl (by simp [weakL]) | exact Norm.to 1 rfl (by simp [weakL]) | exact Norm.to 2 rfl (by simp [weakL])
  · have hge : i = l.length := by
      have : ¬ i < l.length := by simpa using hc
      omega
    have fy := Nat.add_zero
    refine goK ?_ ?_ ?_ ?_ ?_ ?_ ?_ ?_ ?_ ?_ ?_ ?_ ?_ ?_ ?_ ?_
    any_goals (first | exact True.intro | skip)
    all_goals (repeat (refine Wh.mk fun hcc => ?_))
    simp only [tupOf, fixEs, idxOf_none (fun x => !intB x) l (fun j hj => hp j hj (by omega))]
theorem anyInt_ok (l : List Int) (hl : Enc.lim 1048576 l) : CallR Try.prog 58 [.sl .b (l.map Enc.b), .fn 173 [] []] [] (.bool (l.any (fun x => !intB x))) := by
  refine CallR.of_body (n := 9) (rs := [.tmp 4]) hY.ok Try.func58 rfl (by decide) rfl rfl rfl rfl (fun F => ?_)
  have fx := And.intro Y3 (And.intro Y4 (And.intro Y27 (Y107)))
  have hC1 := cx [] (idxInt_ok l hl)
  have fy := Nat.add_zero
  refine goK ?_ ?_ ?_ ?_ ?_ ?_ ?_ ?_ ?_ ?_ ?_ ?_ ?_ ?_ ?_ ?_
  any_goals (first | exact True.intro | skip)
  all_goals (repeat (refine Wh.mk fun hcc => ?_))
  all_goals simp only [tupOf, fixEs, ge_iff_le, idx_any]
theorem idxRef_ok (l : List Int) (hl : Enc.lim 1048576 l) : CallR Try.prog 128 [.sl .b (l.map Enc.b), .fn 174 [] []] [] (.int .i64 (idxOf (fun x => !refB x) l)) := by
  refine CallR.of_body (n := 19) (rs := [.tmp 4]) hY.ok Try.func128 rfl (by decide) rfl rfl rfl rfl (fun F => ?_)
  have fx := And.intro Y3 (And.intro Y4 (And.intro Y27 (Y107)))
  have hl1 : l.length ≤ 1048576 := hl.1
  have fy := Nat.add_zero
  refine goN ?_ ?_ ?_ ?_ ?_ ?_ ?_ ?_ ?_ ?_ ?_ ?_ ?_ ?_ ?_ ?_
  any_goals (first | exact True.intro | skip)
  skip
  refine SW.loop (fun i : Nat => ⟨[.sl .b (l.map Enc.b), .fn 174 [] [], .undef, .undef, .undef, .undef, .undef, .int .i64 l.length, .int .i64 i, .undef, .undef, .undef, .undef, .undef, .undef, .undef, .undef, .undef, .undef], [[]]⟩)
    (fun n i => n = l.length - i ∧ i ≤ l.length ∧ ∀ j (h : j < l.length), j < i → (fun x => !refB x) l[j] = false) (n := l.length) (x := 0) (Norm.to 0 rfl (by simp [weakL])) ⟨rfl, Nat.zero_le _, fun j _ h => absurd h (Nat.not_lt_zero _)⟩ ?_
  rintro n i ⟨hn, hi, hp⟩
  have fy := Nat.add_zero
  refine goS ?_
  refine SW.cond rfl (fun hc => ?_) (fun hc => ?_)
  · have hlt : i < l.length := by simpa using hc
    have hg : (l.map Enc.b)[i]? = some (.int .i64 l[i]) := map_get Enc.b l i hlt
    have hC1 := cx [] (obj2_ok l[i])
    have fy := hg
    refine goK ?_ ?_ ?_ ?_ ?_ ?_ ?_ ?_ ?_ ?_ ?_ ?_ ?_ ?_ ?_ ?_
    any_goals (first | exact True.intro | skip)
    all_goals (repeat (refine Wh.mk fun hcc => ?_))
    · have hx := hcc
      have hx' : (fun x => !refB x) l[i] = true := by simpa using hx
      simp only [tupOf, fixEs, idxOf_eq (fun x => !refB x) l hlt hx' (fun j hj => hp j (by omega) hj)]
    · have hx := hcc
      have hx' : (fun x => !refB x) l[i] = false := by simpa using hx
      refine ⟨n - 1, i + 1, by omega, ⟨by omega, by omega, fun j hj hji => ?_⟩, ?_⟩
      · by_cases he : j = i
        · subst he; exact hx'
        · exact hp j hj (by omega)
      · rw [wrap64 _ (by omega) (by omega)]
        first | exact Norm.to 0 rfl (by simp [weakL]) | exact Norm.to 1 rfl (by simp [weakL]) | exact Norm.to 2 rfl (by simp [weakL])
  · have hge : i = l.length := by
      have : ¬ i < l.length := by simpa using hc
      omega
    have fy := Nat.add_zero
    refine goK ?_ ?_ ?_ ?_ ?_ ?_ ?_ ?_ ?_ ?_ ?_ ?_ ?_ ?_ ?_ ?_
    any_goals (first | exact True.intro | skip)
    all_goals (repeat (refine Wh.mk fun hcc => ?_))
    simp only [tupOf, fixEs, idxOf_none (fun x => !refB x) l (fun j hj => hp j hj (by omega))]
theorem anyRef_ok (l : List Int) (hl : Enc.lim 1048576 l) : CallR Try.prog 58 [.sl .b (l.map Enc.b), .fn 174 [] []] [] (.bool (l.any (fun x => !refB x))) := by
  refine CallR.of_body (n := 9) (rs := [.tmp 4]) hY.ok Try.func58 rfl (by decide) rfl rfl rfl rfl (fun F => ?_)
  have fx := And.intro Y3 (And.intro Y4 (And.intro Y27 (Y107)))
  have hC1 := cx [] (idxRef_ok l hl)
  have fy := Nat.add_zero
  refine goK ?_ ?_ ?_ ?_ ?_ ?_ ?_ ?_ ?_ ?_ ?_ ?_ ?_ ?_ ?_ ?_
  any_goals (first | exact True.intro | skip)
  all_goals (repeat (refine Wh.mk fun hcc => ?_))
  all_goals simp only [tupOf, fixEs, ge_iff_le, idx_any]
theorem noObj_ok (x : (Int × (List Int) × (List Int) × Unit)) : CallR Try.prog 129 [.nd [.int .i64 x.1, .sl .b (x.2.1.map Enc.b), .sl .b (x.2.2.1.map Enc.b)]] [] (.bool (noObjB x)) := by
  refine CallR.of_body (n := 18) (rs := [.tmp 2]) hY.ok Try.func129 rfl (by decide) rfl rfl rfl rfl (fun F => ?_)
  have fx := And.intro Y1 (And.intro Y2 (And.intro Y3 (And.intro Y4 (And.intro Y27 (Y35)))))
  have fy := Nat.add_zero
  refine goK ?_ ?_ ?_ ?_ ?_ ?_ ?_ ?_ ?_ ?_ ?_ ?_ ?_ ?_ ?_ ?_
  any_goals (first | exact True.intro | skip)
  all_goals (repeat (refine Wh.mk fun hcc => ?_))
  all_goals (first | rfl | ((try simp only [tupOf, fixEs]); (first | done | rfl | (simp_all [noObjB, len0]; done) | grind [noObjB, len0])))
theorem noSlot_ok (x : (Bool × ((Int × (List Int) × (List Int) × Unit)) × Unit)) : CallR Try.prog 60 [.nd [.bool x.1, .nd [.int .i64 x.2.1.1, .sl .b (x.2.1.2.1.map Enc.b), .sl .b (x.2.1.2.2.1.map Enc.b)]]] [] (.bool (!x.1 && noObjB x.2.1)) := by
  refine CallR.of_body (n := 11) (rs := [.tmp 2]) hY.ok Try.func60 rfl (by decide) rfl rfl rfl rfl (fun F => ?_)
  have fx := And.intro Y1 (And.intro Y3 (And.intro Y4 (And.intro Y27 (And.intro Y35 (Y37)))))
  have hC1 := cx [] (noObj_ok x.2.1)
  have fy := Nat.add_zero
  refine goK ?_ ?_ ?_ ?_ ?_ ?_ ?_ ?_ ?_ ?_ ?_ ?_ ?_ ?_ ?_ ?_
  any_goals (first | exact True.intro | skip)
  all_goals (repeat (refine Wh.mk fun hcc => ?_))
  all_goals (first | rfl | ((try simp only [tupOf, fixEs]); (first | done | rfl | (simp_all []; done) | grind [])))
end Q6
