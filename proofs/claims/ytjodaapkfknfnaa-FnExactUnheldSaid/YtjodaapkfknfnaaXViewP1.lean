/- Shows what the parts of the program do that the claim reaches: a machine of values over the model, and the contracts of functions, for all arguments within the lengths that each theorem names. -/
import Derived.Test.YtjodaapkfknfnaaXViewV3
import Derived.Test.YtjodaapkfknfnaaRows
import Derived.Test.YtjodaapkfknfnaaXViewV5
set_option linter.all false

namespace Q6
open Go Go.Vm Go.Proofs
def tbl : List TyI := [
  ⟨.bad, 0, 0⟩,
  ⟨.fn, 1, 8⟩,
  ⟨.int .i64, 1, 8⟩,
  ⟨.int .i64, 1, 8⟩,
  ⟨.bool, 1, 1⟩,
  ⟨.int .u8, 1, 1⟩,
  ⟨.int .u8, 1, 1⟩,
  ⟨.st [(2, 0), (3, 1), (4, 2), (6, 3)], 4, 24⟩,
  ⟨.st [(2, 0), (3, 1), (4, 2), (6, 3)], 4, 24⟩,
  ⟨.str, 1, 16⟩,
  ⟨.str, 1, 16⟩,
  ⟨.str, 1, 16⟩,
  ⟨.int .u64, 1, 8⟩,
  ⟨.st [(9, 0), (12, 1)], 2, 24⟩,
  ⟨.st [(9, 0), (12, 1)], 2, 24⟩,
  ⟨.ptr 238, 1, 8⟩,
  ⟨.ptr 241, 1, 8⟩,
  ⟨.ptr 251, 1, 8⟩,
  ⟨.st [(17, 0)], 1, 8⟩,
  ⟨.st [(17, 0)], 1, 8⟩,
  ⟨.ifc, 1, 16⟩,
  ⟨.int .i32, 1, 4⟩,
  ⟨.sl 5, 1, 24⟩,
  ⟨.fn, 1, 8⟩,
  ⟨.sl 37, 1, 24⟩,
  ⟨.fn, 1, 8⟩,
  ⟨.fn, 1, 8⟩,
  ⟨.sl 3, 1, 24⟩,
  ⟨.fn, 1, 8⟩,
  ⟨.sl 4, 1, 24⟩,
  ⟨.bad, 0, 0⟩,
  ⟨.fn, 1, 8⟩,
  ⟨.fn, 1, 8⟩,
  ⟨.fn, 1, 8⟩,
  ⟨.st [(3, 0), (27, 1), (27, 2)], 3, 56⟩,
  ⟨.st [(3, 0), (27, 1), (27, 2)], 3, 56⟩,
  ⟨.st [(4, 0), (35, 1)], 4, 64⟩,
  ⟨.st [(4, 0), (35, 1)], 4, 64⟩,
  ⟨.fn, 1, 8⟩,
  ⟨.sl 119, 1, 24⟩,
  ⟨.fn, 1, 8⟩,
  ⟨.sl 50, 1, 24⟩,
  ⟨.st [(41, 0), (41, 1)], 2, 48⟩,
  ⟨.st [(41, 0), (41, 1)], 2, 48⟩,
  ⟨.bad, 0, 0⟩,
  ⟨.fn, 1, 8⟩,
  ⟨.bad, 0, 0⟩,
  ⟨.fn, 1, 8⟩,
  ⟨.fn, 1, 8⟩,
  ⟨.st [(3, 0), (3, 1), (3, 2)], 3, 24⟩,
  ⟨.st [(3, 0), (3, 1), (3, 2)], 3, 24⟩,
  ⟨.fn, 1, 8⟩,
  ⟨.sl 184, 1, 24⟩,
  ⟨.st [(52, 0), (52, 1)], 2, 48⟩,
  ⟨.st [(52, 0), (52, 1)], 2, 48⟩,
  ⟨.fn, 1, 8⟩,
  ⟨.bad, 0, 0⟩,
  ⟨.fn, 1, 8⟩,
  ⟨.fn, 1, 8⟩,
  ⟨.fn, 1, 8⟩,
  ⟨.fn, 1, 8⟩,
  ⟨.fn, 1, 8⟩,
  ⟨.fn, 1, 8⟩,
  ⟨.fn, 1, 8⟩,
  ⟨.fn, 1, 8⟩,
  ⟨.st [(3, 0), (27, 1), (27, 2)], 3, 56⟩,
  ⟨.st [(4, 0), (65, 1)], 4, 64⟩,
  ⟨.st [(4, 0), (65, 1)], 4, 64⟩,
  ⟨.ar 4 67, 16, 256⟩,
  ⟨.st [(3, 0), (68, 1)], 17, 264⟩,
  ⟨.st [(3, 0), (68, 1)], 17, 264⟩,
  ⟨.ar 8 70, 136, 2112⟩,
  ⟨.sl 215, 1, 24⟩,
  ⟨.st [(72, 0), (3, 1)], 2, 32⟩,
  ⟨.st [(72, 0), (3, 1)], 2, 32⟩,
  ⟨.sl 218, 1, 24⟩,
  ⟨.st [(75, 0), (3, 1)], 2, 32⟩,
  ⟨.st [(75, 0), (3, 1)], 2, 32⟩,
  ⟨.sl 199, 1, 24⟩,
  ⟨.sl 201, 1, 24⟩,
  ⟨.st [(71, 0), (74, 136), (77, 138), (78, 140), (79, 141), (3, 142), (4, 143)], 144, 2240⟩,
  ⟨.st [(71, 0), (74, 136), (77, 138), (78, 140), (79, 141), (3, 142), (4, 143)], 144, 2240⟩,
  ⟨.fn, 1, 8⟩,
  ⟨.fn, 1, 8⟩,
  ⟨.ar 4 37, 16, 256⟩,
  ⟨.st [(3, 0), (84, 1)], 17, 264⟩,
  ⟨.st [(3, 0), (84, 1)], 17, 264⟩,
  ⟨.ar 8 86, 136, 2112⟩,
  ⟨.sl 192, 1, 24⟩,
  ⟨.st [(88, 0), (3, 1)], 2, 32⟩,
  ⟨.st [(88, 0), (3, 1)], 2, 32⟩,
  ⟨.sl 169, 1, 24⟩,
  ⟨.st [(91, 0), (3, 1)], 2, 32⟩,
  ⟨.st [(91, 0), (3, 1)], 2, 32⟩,
  ⟨.sl 197, 1, 24⟩,
  ⟨.sl 165, 1, 24⟩,
  ⟨.st [(87, 0), (90, 136), (93, 138), (94, 140), (95, 141), (3, 142), (4, 143)], 144, 2240⟩,
  ⟨.st [(87, 0), (90, 136), (93, 138), (94, 140), (95, 141), (3, 142), (4, 143)], 144, 2240⟩,
  ⟨.fn, 1, 8⟩,
  ⟨.fn, 1, 8⟩,
  ⟨.fn, 1, 8⟩,
  ⟨.fn, 1, 8⟩,
  ⟨.fn, 1, 8⟩,
  ⟨.fn, 1, 8⟩,
  ⟨.ptr 172, 1, 8⟩,
  ⟨.fn, 1, 8⟩,
  ⟨.fn, 1, 8⟩,
  ⟨.fn, 1, 8⟩,
  ⟨.fn, 1, 8⟩,
  ⟨.fn, 1, 8⟩,
  ⟨.fn, 1, 8⟩,
  ⟨.ptr 113, 1, 8⟩,
  ⟨.st [(24, 0), (29, 1), (27, 2), (3, 3), (4, 4)], 5, 88⟩,
  ⟨.st [(24, 0), (29, 1), (27, 2), (3, 3), (4, 4)], 5, 88⟩,
  ⟨.fn, 1, 8⟩,
  ⟨.fn, 1, 8⟩,
  ⟨.fn, 1, 8⟩,
  ⟨.fn, 1, 8⟩,
  ⟨.fn, 1, 8⟩,
  ⟨.ar 2 3, 2, 16⟩,
  ⟨.fn, 1, 8⟩,
  ⟨.fn, 1, 8⟩,
  ⟨.fn, 1, 8⟩,
  ⟨.fn, 1, 8⟩,
  ⟨.fn, 1, 8⟩,
  ⟨.fn, 1, 8⟩,
  ⟨.fn, 1, 8⟩,
  ⟨.fn, 1, 8⟩,
  ⟨.fn, 1, 8⟩,
  ⟨.fn, 1, 8⟩,
  ⟨.fn, 1, 8⟩,
  ⟨.ptr 43, 1, 8⟩,
  ⟨.fn, 1, 8⟩,
  ⟨.fn, 1, 8⟩,
  ⟨.fn, 1, 8⟩,
  ⟨.fn, 1, 8⟩,
  ⟨.fn, 1, 8⟩,
  ⟨.fn, 1, 8⟩,
  ⟨.fn, 1, 8⟩,
  ⟨.fn, 1, 8⟩,
  ⟨.fn, 1, 8⟩,
  ⟨.fn, 1, 8⟩,
  ⟨.fn, 1, 8⟩,
  ⟨.fn, 1, 8⟩,
  ⟨.fn, 1, 8⟩,
  ⟨.fn, 1, 8⟩,
  ⟨.fn, 1, 8⟩,
  ⟨.fn, 1, 8⟩,
  ⟨.fn, 1, 8⟩,
  ⟨.fn, 1, 8⟩,
  ⟨.fn, 1, 8⟩,
  ⟨.fn, 1, 8⟩,
  ⟨.fn, 1, 8⟩,
  ⟨.fn, 1, 8⟩,
  ⟨.fn, 1, 8⟩,
  ⟨.fn, 1, 8⟩,
  ⟨.fn, 1, 8⟩,
  ⟨.fn, 1, 8⟩,
  ⟨.fn, 1, 8⟩,
  ⟨.fn, 1, 8⟩,
  ⟨.fn, 1, 8⟩,
  ⟨.fn, 1, 8⟩,
  ⟨.fn, 1, 8⟩,
  ⟨.fn, 1, 8⟩,
  ⟨.st [(3, 0), (3, 1)], 2, 16⟩,
  ⟨.st [(3, 0), (3, 1)], 2, 16⟩,
  ⟨.fn, 1, 8⟩,
  ⟨.fn, 1, 8⟩,
  ⟨.st [(3, 0), (3, 1), (3, 2), (3, 3), (3, 4), (37, 5), (37, 9), (3, 13), (94, 14)], 15, 200⟩,
  ⟨.st [(3, 0), (3, 1), (3, 2), (3, 3), (3, 4), (37, 5), (37, 9), (3, 13), (94, 14)], 15, 200⟩,
  ⟨.fn, 1, 8⟩,
  ⟨.st [(22, 0), (3, 1), (3, 2)], 3, 40⟩,
  ⟨.st [(22, 0), (3, 1), (3, 2)], 3, 40⟩,
  ⟨.fn, 1, 8⟩,
  ⟨.fn, 1, 8⟩,
  ⟨.fn, 1, 8⟩,
  ⟨.fn, 1, 8⟩,
  ⟨.fn, 1, 8⟩,
  ⟨.fn, 1, 8⟩,
  ⟨.fn, 1, 8⟩,
  ⟨.fn, 1, 8⟩,
  ⟨.fn, 1, 8⟩,
  ⟨.fn, 1, 8⟩,
  ⟨.fn, 1, 8⟩,
  ⟨.st [(3, 0), (3, 1), (3, 2)], 3, 24⟩,
  ⟨.fn, 1, 8⟩,
  ⟨.fn, 1, 8⟩,
  ⟨.fn, 1, 8⟩,
  ⟨.fn, 1, 8⟩,
  ⟨.fn, 1, 8⟩,
  ⟨.fn, 1, 8⟩,
  ⟨.st [(3, 0), (86, 1), (4, 18), (4, 19)], 20, 280⟩,
  ⟨.st [(3, 0), (86, 1), (4, 18), (4, 19)], 20, 280⟩,
  ⟨.fn, 1, 8⟩,
  ⟨.fn, 1, 8⟩,
  ⟨.fn, 1, 8⟩,
  ⟨.st [(3, 0), (3, 1), (4, 2)], 3, 24⟩,
  ⟨.st [(3, 0), (3, 1), (4, 2)], 3, 24⟩,
  ⟨.fn, 1, 8⟩,
  ⟨.st [(3, 0), (3, 1), (4, 2)], 3, 24⟩,
  ⟨.fn, 1, 8⟩,
  ⟨.st [(3, 0), (3, 1)], 2, 16⟩,
  ⟨.fn, 1, 8⟩,
  ⟨.fn, 1, 8⟩,
  ⟨.fn, 1, 8⟩,
  ⟨.fn, 1, 8⟩,
  ⟨.fn, 1, 8⟩,
  ⟨.fn, 1, 8⟩,
  ⟨.fn, 1, 8⟩,
  ⟨.fn, 1, 8⟩,
  ⟨.fn, 1, 8⟩,
  ⟨.fn, 1, 8⟩,
  ⟨.fn, 1, 8⟩,
  ⟨.fn, 1, 8⟩,
  ⟨.st [(3, 0), (70, 1), (4, 18), (4, 19)], 20, 280⟩,
  ⟨.st [(3, 0), (70, 1), (4, 18), (4, 19)], 20, 280⟩,
  ⟨.fn, 1, 8⟩,
  ⟨.st [(3, 0), (3, 1), (3, 2), (3, 3), (3, 4), (67, 5), (67, 9), (3, 13), (78, 14)], 15, 200⟩,
  ⟨.st [(3, 0), (3, 1), (3, 2), (3, 3), (3, 4), (67, 5), (67, 9), (3, 13), (78, 14)], 15, 200⟩,
  ⟨.fn, 1, 8⟩,
  ⟨.fn, 1, 8⟩,
  ⟨.fn, 1, 8⟩,
  ⟨.fn, 1, 8⟩,
  ⟨.fn, 1, 8⟩,
  ⟨.fn, 1, 8⟩,
  ⟨.fn, 1, 8⟩,
  ⟨.fn, 1, 8⟩,
  ⟨.fn, 1, 8⟩,
  ⟨.fn, 1, 8⟩,
  ⟨.int .u64, 1, 8⟩,
  ⟨.fn, 1, 8⟩,
  ⟨.fn, 1, 8⟩,
  ⟨.fn, 1, 8⟩,
  ⟨.fn, 1, 8⟩,
  ⟨.fn, 1, 8⟩,
  ⟨.fn, 1, 8⟩,
  ⟨.fn, 1, 8⟩,
  ⟨.st [(17, 0), (17, 1), (17, 2), (9, 3)], 4, 40⟩,
  ⟨.st [(17, 0), (17, 1), (17, 2), (9, 3)], 4, 40⟩,
  ⟨.bad, 0, 0⟩,
  ⟨.bad, 0, 0⟩,
  ⟨.bad, 0, 0⟩,
  ⟨.fn, 1, 8⟩,
  ⟨.int .u32, 1, 4⟩,
  ⟨.int .u8, 1, 1⟩,
  ⟨.int .u8, 1, 1⟩,
  ⟨.fn, 1, 8⟩,
  ⟨.ptr 5, 1, 8⟩,
  ⟨.int .i32, 1, 4⟩,
  ⟨.int .i32, 1, 4⟩,
  ⟨.bad, 0, 0⟩,
  ⟨.bad, 0, 0⟩,
  ⟨.bad, 0, 0⟩
]
def Y : TypeId → TyI := tblY tbl
theorem hY : TysW Try.prog Y := tysW_of (by kernel_rfl)
theorem Y1 : Y 1 = ⟨.fn, 1, 8⟩ := rfl
theorem Y2 : Y 2 = ⟨.int .i64, 1, 8⟩ := rfl
theorem Y3 : Y 3 = ⟨.int .i64, 1, 8⟩ := rfl
theorem Y4 : Y 4 = ⟨.bool, 1, 1⟩ := rfl
theorem Y5 : Y 5 = ⟨.int .u8, 1, 1⟩ := rfl
theorem Y6 : Y 6 = ⟨.int .u8, 1, 1⟩ := rfl
theorem Y7 : Y 7 = ⟨.st [(2, 0), (3, 1), (4, 2), (6, 3)], 4, 24⟩ := rfl
theorem Y8 : Y 8 = ⟨.st [(2, 0), (3, 1), (4, 2), (6, 3)], 4, 24⟩ := rfl
theorem Y9 : Y 9 = ⟨.str, 1, 16⟩ := rfl
theorem Y10 : Y 10 = ⟨.str, 1, 16⟩ := rfl
theorem Y11 : Y 11 = ⟨.str, 1, 16⟩ := rfl
theorem Y12 : Y 12 = ⟨.int .u64, 1, 8⟩ := rfl
theorem Y13 : Y 13 = ⟨.st [(9, 0), (12, 1)], 2, 24⟩ := rfl
theorem Y14 : Y 14 = ⟨.st [(9, 0), (12, 1)], 2, 24⟩ := rfl
theorem Y15 : Y 15 = ⟨.ptr 238, 1, 8⟩ := rfl
theorem Y16 : Y 16 = ⟨.ptr 241, 1, 8⟩ := rfl
theorem Y17 : Y 17 = ⟨.ptr 251, 1, 8⟩ := rfl
theorem Y18 : Y 18 = ⟨.st [(17, 0)], 1, 8⟩ := rfl
theorem Y19 : Y 19 = ⟨.st [(17, 0)], 1, 8⟩ := rfl
theorem Y20 : Y 20 = ⟨.ifc, 1, 16⟩ := rfl
theorem Y21 : Y 21 = ⟨.int .i32, 1, 4⟩ := rfl
theorem Y22 : Y 22 = ⟨.sl 5, 1, 24⟩ := rfl
theorem Y23 : Y 23 = ⟨.fn, 1, 8⟩ := rfl
theorem Y24 : Y 24 = ⟨.sl 37, 1, 24⟩ := rfl
theorem Y25 : Y 25 = ⟨.fn, 1, 8⟩ := rfl
theorem Y26 : Y 26 = ⟨.fn, 1, 8⟩ := rfl
theorem Y27 : Y 27 = ⟨.sl 3, 1, 24⟩ := rfl
theorem Y28 : Y 28 = ⟨.fn, 1, 8⟩ := rfl
theorem Y29 : Y 29 = ⟨.sl 4, 1, 24⟩ := rfl
theorem Y31 : Y 31 = ⟨.fn, 1, 8⟩ := rfl
theorem Y32 : Y 32 = ⟨.fn, 1, 8⟩ := rfl
theorem Y33 : Y 33 = ⟨.fn, 1, 8⟩ := rfl
theorem Y34 : Y 34 = ⟨.st [(3, 0), (27, 1), (27, 2)], 3, 56⟩ := rfl
theorem Y35 : Y 35 = ⟨.st [(3, 0), (27, 1), (27, 2)], 3, 56⟩ := rfl
theorem Y36 : Y 36 = ⟨.st [(4, 0), (35, 1)], 4, 64⟩ := rfl
theorem Y37 : Y 37 = ⟨.st [(4, 0), (35, 1)], 4, 64⟩ := rfl
theorem Y38 : Y 38 = ⟨.fn, 1, 8⟩ := rfl
theorem Y39 : Y 39 = ⟨.sl 119, 1, 24⟩ := rfl
theorem Y40 : Y 40 = ⟨.fn, 1, 8⟩ := rfl
theorem Y41 : Y 41 = ⟨.sl 50, 1, 24⟩ := rfl
theorem Y42 : Y 42 = ⟨.st [(41, 0), (41, 1)], 2, 48⟩ := rfl
theorem Y43 : Y 43 = ⟨.st [(41, 0), (41, 1)], 2, 48⟩ := rfl
theorem Y45 : Y 45 = ⟨.fn, 1, 8⟩ := rfl
theorem Y47 : Y 47 = ⟨.fn, 1, 8⟩ := rfl
theorem Y48 : Y 48 = ⟨.fn, 1, 8⟩ := rfl
theorem Y49 : Y 49 = ⟨.st [(3, 0), (3, 1), (3, 2)], 3, 24⟩ := rfl
theorem Y50 : Y 50 = ⟨.st [(3, 0), (3, 1), (3, 2)], 3, 24⟩ := rfl
theorem Y51 : Y 51 = ⟨.fn, 1, 8⟩ := rfl
theorem Y52 : Y 52 = ⟨.sl 184, 1, 24⟩ := rfl
theorem Y53 : Y 53 = ⟨.st [(52, 0), (52, 1)], 2, 48⟩ := rfl
theorem Y54 : Y 54 = ⟨.st [(52, 0), (52, 1)], 2, 48⟩ := rfl
theorem Y55 : Y 55 = ⟨.fn, 1, 8⟩ := rfl
theorem Y57 : Y 57 = ⟨.fn, 1, 8⟩ := rfl
theorem Y58 : Y 58 = ⟨.fn, 1, 8⟩ := rfl
theorem Y59 : Y 59 = ⟨.fn, 1, 8⟩ := rfl
theorem Y60 : Y 60 = ⟨.fn, 1, 8⟩ := rfl
theorem Y61 : Y 61 = ⟨.fn, 1, 8⟩ := rfl
theorem Y62 : Y 62 = ⟨.fn, 1, 8⟩ := rfl
theorem Y63 : Y 63 = ⟨.fn, 1, 8⟩ := rfl
theorem Y64 : Y 64 = ⟨.fn, 1, 8⟩ := rfl
theorem Y65 : Y 65 = ⟨.st [(3, 0), (27, 1), (27, 2)], 3, 56⟩ := rfl
theorem Y66 : Y 66 = ⟨.st [(4, 0), (65, 1)], 4, 64⟩ := rfl
theorem Y67 : Y 67 = ⟨.st [(4, 0), (65, 1)], 4, 64⟩ := rfl
theorem Y68 : Y 68 = ⟨.ar 4 67, 16, 256⟩ := rfl
theorem Y69 : Y 69 = ⟨.st [(3, 0), (68, 1)], 17, 264⟩ := rfl
theorem Y70 : Y 70 = ⟨.st [(3, 0), (68, 1)], 17, 264⟩ := rfl
theorem Y71 : Y 71 = ⟨.ar 8 70, 136, 2112⟩ := rfl
theorem Y72 : Y 72 = ⟨.sl 215, 1, 24⟩ := rfl
theorem Y73 : Y 73 = ⟨.st [(72, 0), (3, 1)], 2, 32⟩ := rfl
theorem Y74 : Y 74 = ⟨.st [(72, 0), (3, 1)], 2, 32⟩ := rfl
theorem Y75 : Y 75 = ⟨.sl 218, 1, 24⟩ := rfl
theorem Y76 : Y 76 = ⟨.st [(75, 0), (3, 1)], 2, 32⟩ := rfl
theorem Y77 : Y 77 = ⟨.st [(75, 0), (3, 1)], 2, 32⟩ := rfl
theorem Y78 : Y 78 = ⟨.sl 199, 1, 24⟩ := rfl
theorem Y79 : Y 79 = ⟨.sl 201, 1, 24⟩ := rfl
theorem Y80 : Y 80 = ⟨.st [(71, 0), (74, 136), (77, 138), (78, 140), (79, 141), (3, 142), (4, 143)], 144, 2240⟩ := rfl
theorem Y81 : Y 81 = ⟨.st [(71, 0), (74, 136), (77, 138), (78, 140), (79, 141), (3, 142), (4, 143)], 144, 2240⟩ := rfl
theorem Y82 : Y 82 = ⟨.fn, 1, 8⟩ := rfl
theorem Y83 : Y 83 = ⟨.fn, 1, 8⟩ := rfl
theorem Y84 : Y 84 = ⟨.ar 4 37, 16, 256⟩ := rfl
theorem Y85 : Y 85 = ⟨.st [(3, 0), (84, 1)], 17, 264⟩ := rfl
theorem Y86 : Y 86 = ⟨.st [(3, 0), (84, 1)], 17, 264⟩ := rfl
theorem Y87 : Y 87 = ⟨.ar 8 86, 136, 2112⟩ := rfl
theorem Y88 : Y 88 = ⟨.sl 192, 1, 24⟩ := rfl
theorem Y89 : Y 89 = ⟨.st [(88, 0), (3, 1)], 2, 32⟩ := rfl
theorem Y90 : Y 90 = ⟨.st [(88, 0), (3, 1)], 2, 32⟩ := rfl
theorem Y91 : Y 91 = ⟨.sl 169, 1, 24⟩ := rfl
theorem Y92 : Y 92 = ⟨.st [(91, 0), (3, 1)], 2, 32⟩ := rfl
theorem Y93 : Y 93 = ⟨.st [(91, 0), (3, 1)], 2, 32⟩ := rfl
theorem Y94 : Y 94 = ⟨.sl 197, 1, 24⟩ := rfl
theorem Y95 : Y 95 = ⟨.sl 165, 1, 24⟩ := rfl
theorem Y96 : Y 96 = ⟨.st [(87, 0), (90, 136), (93, 138), (94, 140), (95, 141), (3, 142), (4, 143)], 144, 2240⟩ := rfl
theorem Y97 : Y 97 = ⟨.st [(87, 0), (90, 136), (93, 138), (94, 140), (95, 141), (3, 142), (4, 143)], 144, 2240⟩ := rfl
theorem Y98 : Y 98 = ⟨.fn, 1, 8⟩ := rfl
theorem Y99 : Y 99 = ⟨.fn, 1, 8⟩ := rfl
theorem Y100 : Y 100 = ⟨.fn, 1, 8⟩ := rfl
theorem Y101 : Y 101 = ⟨.fn, 1, 8⟩ := rfl
theorem Y102 : Y 102 = ⟨.fn, 1, 8⟩ := rfl
theorem Y103 : Y 103 = ⟨.fn, 1, 8⟩ := rfl
theorem Y104 : Y 104 = ⟨.ptr 172, 1, 8⟩ := rfl
theorem Y105 : Y 105 = ⟨.fn, 1, 8⟩ := rfl
theorem Y106 : Y 106 = ⟨.fn, 1, 8⟩ := rfl
theorem Y107 : Y 107 = ⟨.fn, 1, 8⟩ := rfl
theorem Y108 : Y 108 = ⟨.fn, 1, 8⟩ := rfl
theorem Y109 : Y 109 = ⟨.fn, 1, 8⟩ := rfl
theorem Y110 : Y 110 = ⟨.fn, 1, 8⟩ := rfl
theorem Y111 : Y 111 = ⟨.ptr 113, 1, 8⟩ := rfl
theorem Y112 : Y 112 = ⟨.st [(24, 0), (29, 1), (27, 2), (3, 3), (4, 4)], 5, 88⟩ := rfl
theorem Y113 : Y 113 = ⟨.st [(24, 0), (29, 1), (27, 2), (3, 3), (4, 4)], 5, 88⟩ := rfl
theorem Y114 : Y 114 = ⟨.fn, 1, 8⟩ := rfl
theorem Y115 : Y 115 = ⟨.fn, 1, 8⟩ := rfl
theorem Y116 : Y 116 = ⟨.fn, 1, 8⟩ := rfl
theorem Y117 : Y 117 = ⟨.fn, 1, 8⟩ := rfl
theorem Y118 : Y 118 = ⟨.fn, 1, 8⟩ := rfl
theorem Y119 : Y 119 = ⟨.ar 2 3, 2, 16⟩ := rfl
theorem Y120 : Y 120 = ⟨.fn, 1, 8⟩ := rfl
theorem Y121 : Y 121 = ⟨.fn, 1, 8⟩ := rfl
theorem Y122 : Y 122 = ⟨.fn, 1, 8⟩ := rfl
theorem Y123 : Y 123 = ⟨.fn, 1, 8⟩ := rfl
theorem Y124 : Y 124 = ⟨.fn, 1, 8⟩ := rfl
theorem Y125 : Y 125 = ⟨.fn, 1, 8⟩ := rfl
theorem Y126 : Y 126 = ⟨.fn, 1, 8⟩ := rfl
theorem Y127 : Y 127 = ⟨.fn, 1, 8⟩ := rfl
theorem Y128 : Y 128 = ⟨.fn, 1, 8⟩ := rfl
theorem Y129 : Y 129 = ⟨.fn, 1, 8⟩ := rfl
theorem Y130 : Y 130 = ⟨.fn, 1, 8⟩ := rfl
theorem Y131 : Y 131 = ⟨.ptr 43, 1, 8⟩ := rfl
theorem Y132 : Y 132 = ⟨.fn, 1, 8⟩ := rfl
theorem Y133 : Y 133 = ⟨.fn, 1, 8⟩ := rfl
theorem Y134 : Y 134 = ⟨.fn, 1, 8⟩ := rfl
theorem Y135 : Y 135 = ⟨.fn, 1, 8⟩ := rfl
theorem Y136 : Y 136 = ⟨.fn, 1, 8⟩ := rfl
theorem Y137 : Y 137 = ⟨.fn, 1, 8⟩ := rfl
theorem Y138 : Y 138 = ⟨.fn, 1, 8⟩ := rfl
theorem Y139 : Y 139 = ⟨.fn, 1, 8⟩ := rfl
theorem Y140 : Y 140 = ⟨.fn, 1, 8⟩ := rfl
theorem Y141 : Y 141 = ⟨.fn, 1, 8⟩ := rfl
theorem Y142 : Y 142 = ⟨.fn, 1, 8⟩ := rfl
theorem Y143 : Y 143 = ⟨.fn, 1, 8⟩ := rfl
theorem Y144 : Y 144 = ⟨.fn, 1, 8⟩ := rfl
theorem Y145 : Y 145 = ⟨.fn, 1, 8⟩ := rfl
theorem Y146 : Y 146 = ⟨.fn, 1, 8⟩ := rfl
theorem Y147 : Y 147 = ⟨.fn, 1, 8⟩ := rfl
theorem Y148 : Y 148 = ⟨.fn, 1, 8⟩ := rfl
theorem Y149 : Y 149 = ⟨.fn, 1, 8⟩ := rfl
theorem Y150 : Y 150 = ⟨.fn, 1, 8⟩ := rfl
theorem Y151 : Y 151 = ⟨.fn, 1, 8⟩ := rfl
theorem Y152 : Y 152 = ⟨.fn, 1, 8⟩ := rfl
theorem Y153 : Y 153 = ⟨.fn, 1, 8⟩ := rfl
theorem Y154 : Y 154 = ⟨.fn, 1, 8⟩ := rfl
theorem Y155 : Y 155 = ⟨.fn, 1, 8⟩ := rfl
theorem Y156 : Y 156 = ⟨.fn, 1, 8⟩ := rfl
theorem Y157 : Y 157 = ⟨.fn, 1, 8⟩ := rfl
theorem Y158 : Y 158 = ⟨.fn, 1, 8⟩ := rfl
theorem Y159 : Y 159 = ⟨.fn, 1, 8⟩ := rfl
theorem Y160 : Y 160 = ⟨.fn, 1, 8⟩ := rfl
theorem Y161 : Y 161 = ⟨.fn, 1, 8⟩ := rfl
theorem Y162 : Y 162 = ⟨.fn, 1, 8⟩ := rfl
theorem Y163 : Y 163 = ⟨.fn, 1, 8⟩ := rfl
theorem Y164 : Y 164 = ⟨.st [(3, 0), (3, 1)], 2, 16⟩ := rfl
theorem Y165 : Y 165 = ⟨.st [(3, 0), (3, 1)], 2, 16⟩ := rfl
theorem Y166 : Y 166 = ⟨.fn, 1, 8⟩ := rfl
theorem Y167 : Y 167 = ⟨.fn, 1, 8⟩ := rfl
theorem Y168 : Y 168 = ⟨.st [(3, 0), (3, 1), (3, 2), (3, 3), (3, 4), (37, 5), (37, 9), (3, 13), (94, 14)], 15, 200⟩ := rfl
theorem Y169 : Y 169 = ⟨.st [(3, 0), (3, 1), (3, 2), (3, 3), (3, 4), (37, 5), (37, 9), (3, 13), (94, 14)], 15, 200⟩ := rfl
theorem Y170 : Y 170 = ⟨.fn, 1, 8⟩ := rfl
theorem Y171 : Y 171 = ⟨.st [(22, 0), (3, 1), (3, 2)], 3, 40⟩ := rfl
theorem Y172 : Y 172 = ⟨.st [(22, 0), (3, 1), (3, 2)], 3, 40⟩ := rfl
theorem Y173 : Y 173 = ⟨.fn, 1, 8⟩ := rfl
theorem Y174 : Y 174 = ⟨.fn, 1, 8⟩ := rfl
theorem Y175 : Y 175 = ⟨.fn, 1, 8⟩ := rfl
theorem Y176 : Y 176 = ⟨.fn, 1, 8⟩ := rfl
theorem Y177 : Y 177 = ⟨.fn, 1, 8⟩ := rfl
theorem Y178 : Y 178 = ⟨.fn, 1, 8⟩ := rfl
theorem Y179 : Y 179 = ⟨.fn, 1, 8⟩ := rfl
theorem Y180 : Y 180 = ⟨.fn, 1, 8⟩ := rfl
theorem Y181 : Y 181 = ⟨.fn, 1, 8⟩ := rfl
theorem Y182 : Y 182 = ⟨.fn, 1, 8⟩ := rfl
theorem Y183 : Y 183 = ⟨.fn, 1, 8⟩ := rfl
theorem Y184 : Y 184 = ⟨.st [(3, 0), (3, 1), (3, 2)], 3, 24⟩ := rfl
theorem Y185 : Y 185 = ⟨.fn, 1, 8⟩ := rfl
theorem Y186 : Y 186 = ⟨.fn, 1, 8⟩ := rfl
theorem Y187 : Y 187 = ⟨.fn, 1, 8⟩ := rfl
theorem Y188 : Y 188 = ⟨.fn, 1, 8⟩ := rfl
theorem Y189 : Y 189 = ⟨.fn, 1, 8⟩ := rfl
theorem Y190 : Y 190 = ⟨.fn, 1, 8⟩ := rfl
theorem Y191 : Y 191 = ⟨.st [(3, 0), (86, 1), (4, 18), (4, 19)], 20, 280⟩ := rfl
theorem Y192 : Y 192 = ⟨.st [(3, 0), (86, 1), (4, 18), (4, 19)], 20, 280⟩ := rfl
theorem Y193 : Y 193 = ⟨.fn, 1, 8⟩ := rfl
theorem Y194 : Y 194 = ⟨.fn, 1, 8⟩ := rfl
theorem Y195 : Y 195 = ⟨.fn, 1, 8⟩ := rfl
theorem Y196 : Y 196 = ⟨.st [(3, 0), (3, 1), (4, 2)], 3, 24⟩ := rfl
theorem Y197 : Y 197 = ⟨.st [(3, 0), (3, 1), (4, 2)], 3, 24⟩ := rfl
theorem Y198 : Y 198 = ⟨.fn, 1, 8⟩ := rfl
theorem Y199 : Y 199 = ⟨.st [(3, 0), (3, 1), (4, 2)], 3, 24⟩ := rfl
theorem Y200 : Y 200 = ⟨.fn, 1, 8⟩ := rfl
theorem Y201 : Y 201 = ⟨.st [(3, 0), (3, 1)], 2, 16⟩ := rfl
theorem Y202 : Y 202 = ⟨.fn, 1, 8⟩ := rfl
theorem Y203 : Y 203 = ⟨.fn, 1, 8⟩ := rfl
theorem Y204 : Y 204 = ⟨.fn, 1, 8⟩ := rfl
theorem Y205 : Y 205 = ⟨.fn, 1, 8⟩ := rfl
theorem Y206 : Y 206 = ⟨.fn, 1, 8⟩ := rfl
theorem Y207 : Y 207 = ⟨.fn, 1, 8⟩ := rfl
theorem Y208 : Y 208 = ⟨.fn, 1, 8⟩ := rfl
theorem Y209 : Y 209 = ⟨.fn, 1, 8⟩ := rfl
theorem Y210 : Y 210 = ⟨.fn, 1, 8⟩ := rfl
theorem Y211 : Y 211 = ⟨.fn, 1, 8⟩ := rfl
theorem Y212 : Y 212 = ⟨.fn, 1, 8⟩ := rfl
theorem Y213 : Y 213 = ⟨.fn, 1, 8⟩ := rfl
theorem Y214 : Y 214 = ⟨.st [(3, 0), (70, 1), (4, 18), (4, 19)], 20, 280⟩ := rfl
theorem Y215 : Y 215 = ⟨.st [(3, 0), (70, 1), (4, 18), (4, 19)], 20, 280⟩ := rfl
theorem Y216 : Y 216 = ⟨.fn, 1, 8⟩ := rfl
theorem Y217 : Y 217 = ⟨.st [(3, 0), (3, 1), (3, 2), (3, 3), (3, 4), (67, 5), (67, 9), (3, 13), (78, 14)], 15, 200⟩ := rfl
theorem Y218 : Y 218 = ⟨.st [(3, 0), (3, 1), (3, 2), (3, 3), (3, 4), (67, 5), (67, 9), (3, 13), (78, 14)], 15, 200⟩ := rfl
theorem Y219 : Y 219 = ⟨.fn, 1, 8⟩ := rfl
theorem Y220 : Y 220 = ⟨.fn, 1, 8⟩ := rfl
theorem Y221 : Y 221 = ⟨.fn, 1, 8⟩ := rfl
theorem Y222 : Y 222 = ⟨.fn, 1, 8⟩ := rfl
theorem Y223 : Y 223 = ⟨.fn, 1, 8⟩ := rfl
theorem Y224 : Y 224 = ⟨.fn, 1, 8⟩ := rfl
theorem Y225 : Y 225 = ⟨.fn, 1, 8⟩ := rfl
theorem Y226 : Y 226 = ⟨.fn, 1, 8⟩ := rfl
theorem Y227 : Y 227 = ⟨.fn, 1, 8⟩ := rfl
theorem Y228 : Y 228 = ⟨.fn, 1, 8⟩ := rfl
theorem Y229 : Y 229 = ⟨.int .u64, 1, 8⟩ := rfl
theorem Y230 : Y 230 = ⟨.fn, 1, 8⟩ := rfl
theorem Y231 : Y 231 = ⟨.fn, 1, 8⟩ := rfl
theorem Y232 : Y 232 = ⟨.fn, 1, 8⟩ := rfl
theorem Y233 : Y 233 = ⟨.fn, 1, 8⟩ := rfl
theorem Y234 : Y 234 = ⟨.fn, 1, 8⟩ := rfl
theorem Y235 : Y 235 = ⟨.fn, 1, 8⟩ := rfl
theorem Y236 : Y 236 = ⟨.fn, 1, 8⟩ := rfl
theorem Y237 : Y 237 = ⟨.st [(17, 0), (17, 1), (17, 2), (9, 3)], 4, 40⟩ := rfl
theorem Y238 : Y 238 = ⟨.st [(17, 0), (17, 1), (17, 2), (9, 3)], 4, 40⟩ := rfl
theorem Y242 : Y 242 = ⟨.fn, 1, 8⟩ := rfl
theorem Y243 : Y 243 = ⟨.int .u32, 1, 4⟩ := rfl
theorem Y244 : Y 244 = ⟨.int .u8, 1, 1⟩ := rfl
theorem Y245 : Y 245 = ⟨.int .u8, 1, 1⟩ := rfl
theorem Y246 : Y 246 = ⟨.fn, 1, 8⟩ := rfl
theorem Y247 : Y 247 = ⟨.ptr 5, 1, 8⟩ := rfl
theorem Y248 : Y 248 = ⟨.int .i32, 1, 4⟩ := rfl
theorem Y249 : Y 249 = ⟨.int .i32, 1, 4⟩ := rfl
end Q6

namespace Q6
open Go Go.Vm Go.Proofs
theorem mixed : Try.prog.follows .mixedOrders = true := by kernel_rfl
theorem bs0_22 (own : Nat) : buildSliceM Y own 22 0 [] = .pure { v := .ref own 0 0 0, news := [.arr 1 [] false] } := build0 Y22 Y5 rfl (by decide)
theorem bs1_22 (own : Nat) (x : UInt8) : buildSliceM Y own 22 1 [(0, .int .u8 (x.toNat : Int))] = .pure { v := .ref own 0 0 1, news := [.arr 1 [.int .u8 (x.toNat : Int)] false] } := build1 Y22 Y5 rfl (by decide) rfl rfl rfl
theorem bs0_24 (own : Nat) : buildSliceM Y own 24 0 [] = .pure { v := .ref own 0 0 0, news := [.arr 4 [] false] } := build0 Y24 Y37 rfl (by decide)
theorem bs0_27 (own : Nat) : buildSliceM Y own 27 0 [] = .pure { v := .ref own 0 0 0, news := [.arr 1 [] false] } := build0 Y27 Y3 rfl (by decide)
theorem bs1_27 (own : Nat) (x : Int) : buildSliceM Y own 27 1 [(0, .int .i64 x)] = .pure { v := .ref own 0 0 1, news := [.arr 1 [.int .i64 x] false] } := build1 Y27 Y3 rfl (by decide) rfl rfl rfl
theorem bs0_29 (own : Nat) : buildSliceM Y own 29 0 [] = .pure { v := .ref own 0 0 0, news := [.arr 1 [] false] } := build0 Y29 Y4 rfl (by decide)
theorem bs1_29 (own : Nat) (x : Bool) : buildSliceM Y own 29 1 [(0, .bool x)] = .pure { v := .ref own 0 0 1, news := [.arr 1 [.bool x] false] } := build1 Y29 Y4 rfl (by decide) rfl rfl rfl
theorem bs0_39 (own : Nat) : buildSliceM Y own 39 0 [] = .pure { v := .ref own 0 0 0, news := [.arr 2 [] false] } := build0 Y39 Y119 rfl (by decide)
theorem bs1_39 (own : Nat) (x_0 : Int) (x_1 : Int) : buildSliceM Y own 39 1 [(0, .nd [.int .i64 x_0, .int .i64 x_1])] = .pure { v := .ref own 0 0 1, news := [.arr 2 [.nd [.int .i64 x_0, .int .i64 x_1]] false] } := build1 Y39 Y119 rfl (by decide) rfl rfl rfl
theorem bs0_41 (own : Nat) : buildSliceM Y own 41 0 [] = .pure { v := .ref own 0 0 0, news := [.arr 3 [] false] } := build0 Y41 Y50 rfl (by decide)
theorem bs1_41 (own : Nat) (x_0 : Int) (x_1 : Int) (x_2 : Int) : buildSliceM Y own 41 1 [(0, .nd [.int .i64 x_0, .int .i64 x_1, .int .i64 x_2])] = .pure { v := .ref own 0 0 1, news := [.arr 3 [.nd [.int .i64 x_0, .int .i64 x_1, .int .i64 x_2]] false] } := build1 Y41 Y50 rfl (by decide) rfl rfl rfl
theorem bs0_52 (own : Nat) : buildSliceM Y own 52 0 [] = .pure { v := .ref own 0 0 0, news := [.arr 3 [] false] } := build0 Y52 Y184 rfl (by decide)
theorem bs1_52 (own : Nat) (x_0 : Int) (x_1 : Int) (x_2 : Int) : buildSliceM Y own 52 1 [(0, .nd [.int .i64 x_0, .int .i64 x_1, .int .i64 x_2])] = .pure { v := .ref own 0 0 1, news := [.arr 3 [.nd [.int .i64 x_0, .int .i64 x_1, .int .i64 x_2]] false] } := build1 Y52 Y184 rfl (by decide) rfl rfl rfl
theorem bs0_72 (own : Nat) : buildSliceM Y own 72 0 [] = .pure { v := .ref own 0 0 0, news := [.arr 20 [] false] } := build0 Y72 Y215 rfl (by decide)
theorem bs0_75 (own : Nat) : buildSliceM Y own 75 0 [] = .pure { v := .ref own 0 0 0, news := [.arr 15 [] false] } := build0 Y75 Y218 rfl (by decide)
theorem bs0_78 (own : Nat) : buildSliceM Y own 78 0 [] = .pure { v := .ref own 0 0 0, news := [.arr 3 [] false] } := build0 Y78 Y199 rfl (by decide)
theorem bs1_78 (own : Nat) (x_0 : Int) (x_1 : Int) (x_2 : Bool) : buildSliceM Y own 78 1 [(0, .nd [.int .i64 x_0, .int .i64 x_1, .bool x_2])] = .pure { v := .ref own 0 0 1, news := [.arr 3 [.nd [.int .i64 x_0, .int .i64 x_1, .bool x_2]] false] } := build1 Y78 Y199 rfl (by decide) rfl rfl rfl
theorem bs0_79 (own : Nat) : buildSliceM Y own 79 0 [] = .pure { v := .ref own 0 0 0, news := [.arr 2 [] false] } := build0 Y79 Y201 rfl (by decide)
theorem bs1_79 (own : Nat) (x_0 : Int) (x_1 : Int) : buildSliceM Y own 79 1 [(0, .nd [.int .i64 x_0, .int .i64 x_1])] = .pure { v := .ref own 0 0 1, news := [.arr 2 [.nd [.int .i64 x_0, .int .i64 x_1]] false] } := build1 Y79 Y201 rfl (by decide) rfl rfl rfl
theorem bs0_88 (own : Nat) : buildSliceM Y own 88 0 [] = .pure { v := .ref own 0 0 0, news := [.arr 20 [] false] } := build0 Y88 Y192 rfl (by decide)
theorem bs0_91 (own : Nat) : buildSliceM Y own 91 0 [] = .pure { v := .ref own 0 0 0, news := [.arr 15 [] false] } := build0 Y91 Y169 rfl (by decide)
theorem bs0_94 (own : Nat) : buildSliceM Y own 94 0 [] = .pure { v := .ref own 0 0 0, news := [.arr 3 [] false] } := build0 Y94 Y197 rfl (by decide)
theorem bs1_94 (own : Nat) (x_0 : Int) (x_1 : Int) (x_2 : Bool) : buildSliceM Y own 94 1 [(0, .nd [.int .i64 x_0, .int .i64 x_1, .bool x_2])] = .pure { v := .ref own 0 0 1, news := [.arr 3 [.nd [.int .i64 x_0, .int .i64 x_1, .bool x_2]] false] } := build1 Y94 Y197 rfl (by decide) rfl rfl rfl
theorem bs0_95 (own : Nat) : buildSliceM Y own 95 0 [] = .pure { v := .ref own 0 0 0, news := [.arr 2 [] false] } := build0 Y95 Y165 rfl (by decide)
theorem bs1_95 (own : Nat) (x_0 : Int) (x_1 : Int) : buildSliceM Y own 95 1 [(0, .nd [.int .i64 x_0, .int .i64 x_1])] = .pure { v := .ref own 0 0 1, news := [.arr 2 [.nd [.int .i64 x_0, .int .i64 x_1]] false] } := build1 Y95 Y165 rfl (by decide) rfl rfl rfl
abbrev ObjT := (Int × (List Int) × (List Int) × Unit)
abbrev SlotT := (Bool × ((Int × (List Int) × (List Int) × Unit)) × Unit)
abbrev LiveT := (Int × Int × Bool × Unit)
abbrev RecT := (Int × Int × Int × Int × Int × ((Bool × ((Int × (List Int) × (List Int) × Unit)) × Unit)) × ((Bool × ((Int × (List Int) × (List Int) × Unit)) × Unit)) × Int × (List ((Int × Int × Bool × Unit))) × Unit)
abbrev PageT := (Int × ((((Bool × ((Int × (List Int) × (List Int) × Unit)) × Unit)) × ((Bool × ((Int × (List Int) × (List Int) × Unit)) × Unit)) × ((Bool × ((Int × (List Int) × (List Int) × Unit)) × Unit)) × ((Bool × ((Int × (List Int) × (List Int) × Unit)) × Unit)) × Unit)) × Unit)
end Q6

namespace Q6
open Go Go.Vm Go.Proofs
set_option maxHeartbeats 4000000
set_option synthInstance.maxSize 2000
set_option synthInstance.maxHeartbeats 400000
set_option maxRecDepth 10000
set_option linter.unusedSimpArgs false
set_option linter.unusedVariables false

theorem goK {A B1 B2 B3 B4 B5 B6 B7 B8 B9 B10 B11 B12 B13 B14 B15 B16 : Prop} (b1 : B1) (b2 : B2) (b3 : B3) (b4 : B4) (b5 : B5) (b6 : B6) (b7 : B7) (b8 : B8) (b9 : B9) (b10 : B10) (b11 : B11) (b12 : B12) (b13 : B13) (b14 : B14) (b15 : B15) (b16 : B16) (k : B1 →  B2 →  B3 →  B4 →  B5 →  B6 →  B7 →  B8 →  B9 →  B10 →  B11 →  B12 →  B13 →  B14 →  B15 →  B16 → A := by intro h1 h2 h3 h4 h5 h6 h7 h8 h9 h10 h11 h12 h13 h14 h15 h16; refine tw ?_ ?_; (focus (repeat' first | ((have hk8 := Nat.add_zero); (first | refine SW.ops_seq hY fun y1 hy1 => ?_ | refine SW.ops hY ?_ | refine SW.seq (SW.draw2x hD1 hY mixed (by kernel_rfl) ?_) | refine SW.draw2x hD1 hY mixed (by kernel_rfl) ?_ | refine SW.seq (SW.draw2x hD2 hY mixed (by kernel_rfl) ?_) | refine SW.draw2x hD2 hY mixed (by kernel_rfl) ?_ | refine SW.seq (SW.draw2x hD3 hY mixed (by kernel_rfl) ?_) | refine SW.draw2x hD3 hY mixed (by kernel_rfl) ?_ | refine SW.draw_seq hY mixed (by kernel_rfl) fun y1 hy1 => ?_ | refine SW.draw hY mixed (by kernel_rfl) ?_ | refine vcall_c hC1 (hK := ?_) | refine vcall_c hC2 (hK := ?_) | refine vcall_c hC3 (hK := ?_) | refine vcall_c hC4 (hK := ?_) | refine vcall_c hC5 (hK := ?_) | refine vcall_c hC6 (hK := ?_) | refine vcall_c hC7 (hK := ?_) | refine vcall_c hC8 (hK := ?_) | refine vcall_c hC9 (hK := ?_) | refine vcall_c hC10 (hK := ?_) | refine vcall_c hC11 (hK := ?_) | refine vcall_c hC12 (hK := ?_) | refine vcall_c hC13 (hK := ?_) | refine vcall_c hC14 (hK := ?_) | refine vcall_c (cx [] (hG1 _)) (hK := ?_) | refine vcall_c (cx [] (hG1 _ _)) (hK := ?_) | refine vcall_c (cx [] (hG1 _ _ _)) (hK := ?_) | refine vcall_c (cx [] (hG1 _ _ _ _)) (hK := ?_) | refine vcall_c (cx [] (hG2 _)) (hK := ?_) | refine vcall_c (cx [] (hG2 _ _)) (hK := ?_) | refine vcall_c (cx [] (hG2 _ _ _)) (hK := ?_) | refine vcall_c (cx [] (hG2 _ _ _ _)) (hK := ?_) | refine vcall_c (cx [] (hG3 _)) (hK := ?_) | refine vcall_c (cx [] (hG3 _ _)) (hK := ?_) | refine vcall_c (cx [] (hG3 _ _ _)) (hK := ?_) | refine vcall_c (cx [] (hG3 _ _ _ _)) (hK := ?_) | refine kgf ?_ | refine kgt ?_ | (refine k8p ?_; (simp only [k13, hk8, upT_g, dnT_g, nb_g, dnT_b, dnT_s, dnT_0, dnT_r, fx, fy, fz, wo, decide_true, decide_false, wz0, wz1, wz2, wz3, wz4, wz5, wz6, wz7, wz8, appM, Ty.isInt, capT, appendZM, buildM, setAll, plSt, plAr, mnmx, Int.reduceLT, vrec, List.drop_succ_cons, List.drop_zero, convertM, indexM, fieldM, Int.toNat_zero, Int.toNat_one, Int.le_refl, Int.zero_le_ofNat, Int.reduceEq, Int.reduceNe, ne_eq, not_false_eq_true, u8_wrap, marksG_len, marks_len, bne_self_eq_false, take_map_len, tgL_byte, T.asArr, T.tg, tgL, indexAddrM, wk, wl, eq_self, isCall, callT, opM, S.ev, S.put, entryS, thawAL, thawA, RM.run, RM.bind, RM.ofOpt, allocs, Heap.ups, Heap.put, Heap.at, List.replicate, Nat.reduceAdd, Nat.reduceSub, ofConst, nilAs, if_false, if_true, binT, binTy, unT, guardT, quietK, reduceIte, boxM, allocM, loadM, storeM, fieldAddrM, lenT, extractT, subM, setOb, T.get, T.setp, T.offs, T.nw, nwL, T.cel, T.isNd, T.size, sizeL, TyI.agg, Ty.agg, Ty.isFn, zeroT, Nat.reduceLT, Nat.reduceEqDiff, sumT, kill]); (first | refine vpure_c hC1 (hK := ?_) | refine vpure_c hC2 (hK := ?_) | refine vpure_c hC3 (hK := ?_) | refine vpure_c hC4 (hK := ?_) | refine vpure_c hC5 (hK := ?_) | refine vpure_c hC6 (hK := ?_) | refine vpure_c hC7 (hK := ?_) | refine vpure_c hC8 (hK := ?_) | refine vpure_c hC9 (hK := ?_) | refine vpure_c hC10 (hK := ?_) | refine vpure_c hC11 (hK := ?_) | refine vpure_c hC12 (hK := ?_) | refine vpure_c hC13 (hK := ?_) | refine vpure_c hC14 (hK := ?_) | refine vpure_c (cx [] (hG1 _)) (hK := ?_) | refine vpure_c (cx [] (hG1 _ _)) (hK := ?_) | refine vpure_c (cx [] (hG1 _ _ _)) (hK := ?_) | refine vpure_c (cx [] (hG1 _ _ _ _)) (hK := ?_) | refine vpure_c (cx [] (hG2 _)) (hK := ?_) | refine vpure_c (cx [] (hG2 _ _)) (hK := ?_) | refine vpure_c (cx [] (hG2 _ _ _)) (hK := ?_) | refine vpure_c (cx [] (hG2 _ _ _ _)) (hK := ?_) | refine vpure_c (cx [] (hG3 _)) (hK := ?_) | refine vpure_c (cx [] (hG3 _ _)) (hK := ?_) | refine vpure_c (cx [] (hG3 _ _ _)) (hK := ?_) | refine vpure_c (cx [] (hG3 _ _ _ _)) (hK := ?_))) | (simp only [k8]; refine .inl ?_; refine ⟨fun hb => ?_, fun hb => ?_⟩ <;> (try replace hb := Bool.eq_false_iff.2 hb) <;> (first | exact absurd hb (by decide) | replace hk8 := hb))) <;> (simp only [k13, hk8, upT_g, dnT_g, nb_g, dnT_b, dnT_s, dnT_0, dnT_r, fx, fy, fz, wo, decide_true, decide_false, wz0, wz1, wz2, wz3, wz4, wz5, wz6, wz7, wz8, appM, Ty.isInt, capT, appendZM, buildM, setAll, plSt, plAr, mnmx, Int.reduceLT, vrec, List.drop_succ_cons, List.drop_zero, convertM, indexM, fieldM, Int.toNat_zero, Int.toNat_one, Int.le_refl, Int.zero_le_ofNat, Int.reduceEq, Int.reduceNe, ne_eq, not_false_eq_true, u8_wrap, marksG_len, marks_len, bne_self_eq_false, take_map_len, tgL_byte, T.asArr, T.tg, tgL, indexAddrM, wk, wl, eq_self, isCall, callT, opM, S.ev, S.put, entryS, thawAL, thawA, RM.run, RM.bind, RM.ofOpt, allocs, Heap.ups, Heap.put, Heap.at, List.replicate, Nat.reduceAdd, Nat.reduceSub, ofConst, nilAs, if_false, if_true, binT, binTy, unT, guardT, quietK, reduceIte, boxM, allocM, loadM, storeM, fieldAddrM, lenT, extractT, subM, setOb, T.get, T.setp, T.offs, T.nw, nwL, T.cel, T.isNd, T.size, sizeL, TyI.agg, Ty.agg, Ty.isFn, zeroT, Nat.reduceLT, Nat.reduceEqDiff, sumT, kill]; clear hk8; first | subst hy1 | (try simp only [thenS, blockS, if_true, if_false, Nat.reduceEqDiff, reduceIte]))) | (refine Chk.mk (by simp only [rdqs, rdq, k13, upT_g, dnT_g, nb_g, dnT_b, dnT_s, dnT_0, dnT_r, fx, fy, fz, wo, decide_true, decide_false, wz0, wz1, wz2, wz3, wz4, wz5, wz6, wz7, wz8, appM, Ty.isInt, capT, appendZM, buildM, setAll, plSt, plAr, mnmx, Int.reduceLT, vrec, List.drop_succ_cons, List.drop_zero, convertM, indexM, fieldM, Int.toNat_zero, Int.toNat_one, Int.le_refl, Int.zero_le_ofNat, Int.reduceEq, Int.reduceNe, ne_eq, not_false_eq_true, u8_wrap, marksG_len, marks_len, bne_self_eq_false, take_map_len, tgL_byte, T.asArr, T.tg, tgL, indexAddrM, wk, wl, eq_self, isCall, callT, opM, S.ev, S.put, entryS, thawAL, thawA, RM.run, RM.bind, RM.ofOpt, allocs, Heap.ups, Heap.put, Heap.at, List.replicate, Nat.reduceAdd, Nat.reduceSub, ofConst, nilAs, if_false, if_true, binT, binTy, unT, guardT, quietK, reduceIte, boxM, allocM, loadM, storeM, fieldAddrM, lenT, extractT, subM, setOb, T.get, T.setp, T.offs, T.nw, nwL, T.cel, T.isNd, T.size, sizeL, TyI.agg, Ty.agg, Ty.isFn, zeroT, Nat.reduceLT, Nat.reduceEqDiff, sumT, kill]; try trivial) ?_) | exact absurd trivial hb | exact absurd hb (by decide) | exact absurd hcc (by decide) | refine SW.seq ?_ | refine SW.block ?_ | (refine SW.cond rfl (fun hcc => ?_) (fun hcc => ?_)) | (refine SW.exit ?_; simp only [thenS, blockS, if_true, if_false, Nat.reduceEqDiff, reduceIte]) | (refine SW.skip ?_; simp only [thenS, blockS]) | exact SW.ret (RetQ.r hR) | (refine SW.ret (show RetQ _ _ _ _ _ _ _ from ⟨.inr rfl, [_], [1], [_], _, rfl, rfl, rfl, rfl, rfl, ?_⟩)) | (refine SW.ret (show RetQ _ _ _ _ _ _ _ from ⟨.inr rfl, [_, _], [0, 0], [_, _], _, rfl, rfl, rfl, rfl, rfl, ?_⟩)) | (refine SW.ret (show RetQ _ _ _ _ _ _ _ from ⟨.inr rfl, [_, _, _], [0, 0, 0], [_, _, _], _, rfl, rfl, rfl, rfl, rfl, ?_⟩)) | (refine SW.ret (show RetQ _ _ _ _ _ _ _ from ⟨.inr rfl, [_, _, _, _], [0, 0, 0, 0], [_, _, _, _], _, rfl, rfl, rfl, rfl, rfl, ?_⟩)) | ((repeat (refine Wh.h ?_ hb; clear hb)); (repeat (refine Wh.h ?_ hcc; clear hcc)); (first | exact h1 | exact h2 | exact h3 | exact h4 | exact h5 | exact h6 | exact h7 | exact h8 | exact h9 | exact h10 | exact h11 | exact h12 | exact h13 | exact h14 | exact h15 | exact h16)))); (try (have hq : True := h1)); (try (have hq : True := h2)); (try (have hq : True := h3)); (try (have hq : True := h4)); (try (have hq : True := h5)); (try (have hq : True := h6)); (try (have hq : True := h7)); (try (have hq : True := h8)); (try (have hq : True := h9)); (try (have hq : True := h10)); (try (have hq : True := h11)); (try (have hq : True := h12)); (try (have hq : True := h13)); (try (have hq : True := h14)); (try (have hq : True := h15)); (try (have hq : True := h16)); exact True.intro) : A := k b1 b2 b3 b4 b5 b6 b7 b8 b9 b10 b11 b12 b13 b14 b15 b16
theorem goN {A B1 B2 B3 B4 B5 B6 B7 B8 B9 B10 B11 B12 B13 B14 B15 B16 : Prop} (b1 : B1) (b2 : B2) (b3 : B3) (b4 : B4) (b5 : B5) (b6 : B6) (b7 : B7) (b8 : B8) (b9 : B9) (b10 : B10) (b11 : B11) (b12 : B12) (b13 : B13) (b14 : B14) (b15 : B15) (b16 : B16) (k : B1 →  B2 →  B3 →  B4 →  B5 →  B6 →  B7 →  B8 →  B9 →  B10 →  B11 →  B12 →  B13 →  B14 →  B15 →  B16 → A := by intro h1 h2 h3 h4 h5 h6 h7 h8 h9 h10 h11 h12 h13 h14 h15 h16; refine tw ?_ ?_; (focus (repeat' first | ((have hk8 := Nat.add_zero); (first | refine SW.ops_seq hY fun y1 hy1 => ?_ | refine SW.ops hY ?_ | refine SW.seq (SW.draw2x hD1 hY mixed (by kernel_rfl) ?_) | refine SW.draw2x hD1 hY mixed (by kernel_rfl) ?_ | refine SW.seq (SW.draw2x hD2 hY mixed (by kernel_rfl) ?_) | refine SW.draw2x hD2 hY mixed (by kernel_rfl) ?_ | refine SW.seq (SW.draw2x hD3 hY mixed (by kernel_rfl) ?_) | refine SW.draw2x hD3 hY mixed (by kernel_rfl) ?_ | refine SW.draw_seq hY mixed (by kernel_rfl) fun y1 hy1 => ?_ | refine SW.draw hY mixed (by kernel_rfl) ?_ | refine vcall_c hC1 (hK := ?_) | refine vcall_c hC2 (hK := ?_) | refine vcall_c hC3 (hK := ?_) | refine vcall_c hC4 (hK := ?_) | refine vcall_c hC5 (hK := ?_) | refine vcall_c hC6 (hK := ?_) | refine vcall_c hC7 (hK := ?_) | refine vcall_c hC8 (hK := ?_) | refine vcall_c hC9 (hK := ?_) | refine vcall_c hC10 (hK := ?_) | refine vcall_c hC11 (hK := ?_) | refine vcall_c hC12 (hK := ?_) | refine vcall_c hC13 (hK := ?_) | refine vcall_c hC14 (hK := ?_) | refine vcall_c (cx [] (hG1 _)) (hK := ?_) | refine vcall_c (cx [] (hG1 _ _)) (hK := ?_) | refine vcall_c (cx [] (hG1 _ _ _)) (hK := ?_) | refine vcall_c (cx [] (hG1 _ _ _ _)) (hK := ?_) | refine vcall_c (cx [] (hG2 _)) (hK := ?_) | refine vcall_c (cx [] (hG2 _ _)) (hK := ?_) | refine vcall_c (cx [] (hG2 _ _ _)) (hK := ?_) | refine vcall_c (cx [] (hG2 _ _ _ _)) (hK := ?_) | refine vcall_c (cx [] (hG3 _)) (hK := ?_) | refine vcall_c (cx [] (hG3 _ _)) (hK := ?_) | refine vcall_c (cx [] (hG3 _ _ _)) (hK := ?_) | refine vcall_c (cx [] (hG3 _ _ _ _)) (hK := ?_) | refine kgf ?_ | refine kgt ?_ | (refine k8p ?_; (simp only [k13, hk8, upT_g, dnT_g, nb_g, dnT_b, dnT_s, dnT_0, dnT_r, fx, fy, fz, wo, decide_true, decide_false, wz0, wz1, wz2, wz3, wz4, wz5, wz6, wz7, wz8, appM, Ty.isInt, capT, appendZM, buildM, setAll, plSt, plAr, mnmx, Int.reduceLT, vrec, List.drop_succ_cons, List.drop_zero, convertM, indexM, fieldM, Int.toNat_zero, Int.toNat_one, Int.le_refl, Int.zero_le_ofNat, Int.reduceEq, Int.reduceNe, ne_eq, not_false_eq_true, u8_wrap, marksG_len, marks_len, bne_self_eq_false, take_map_len, tgL_byte, T.asArr, T.tg, tgL, indexAddrM, wk, wl, eq_self, isCall, callT, opM, S.ev, S.put, entryS, thawAL, thawA, RM.run, RM.bind, RM.ofOpt, allocs, Heap.ups, Heap.put, Heap.at, List.replicate, Nat.reduceAdd, Nat.reduceSub, ofConst, nilAs, if_false, if_true, binT, binTy, unT, guardT, quietK, reduceIte, boxM, allocM, loadM, storeM, fieldAddrM, lenT, extractT, subM, setOb, T.get, T.setp, T.offs, T.nw, nwL, T.cel, T.isNd, T.size, sizeL, TyI.agg, Ty.agg, Ty.isFn, zeroT, Nat.reduceLT, Nat.reduceEqDiff, sumT, kill]); (first | refine vpure_c hC1 (hK := ?_) | refine vpure_c hC2 (hK := ?_) | refine vpure_c hC3 (hK := ?_) | refine vpure_c hC4 (hK := ?_) | refine vpure_c hC5 (hK := ?_) | refine vpure_c hC6 (hK := ?_) | refine vpure_c hC7 (hK := ?_) | refine vpure_c hC8 (hK := ?_) | refine vpure_c hC9 (hK := ?_) | refine vpure_c hC10 (hK := ?_) | refine vpure_c hC11 (hK := ?_) | refine vpure_c hC12 (hK := ?_) | refine vpure_c hC13 (hK := ?_) | refine vpure_c hC14 (hK := ?_) | refine vpure_c (cx [] (hG1 _)) (hK := ?_) | refine vpure_c (cx [] (hG1 _ _)) (hK := ?_) | refine vpure_c (cx [] (hG1 _ _ _)) (hK := ?_) | refine vpure_c (cx [] (hG1 _ _ _ _)) (hK := ?_) | refine vpure_c (cx [] (hG2 _)) (hK := ?_) | refine vpure_c (cx [] (hG2 _ _)) (hK := ?_) | refine vpure_c (cx [] (hG2 _ _ _)) (hK := ?_) | refine vpure_c (cx [] (hG2 _ _ _ _)) (hK := ?_) | refine vpure_c (cx [] (hG3 _)) (hK := ?_) | refine vpure_c (cx [] (hG3 _ _)) (hK := ?_) | refine vpure_c (cx [] (hG3 _ _ _)) (hK := ?_) | refine vpure_c (cx [] (hG3 _ _ _ _)) (hK := ?_)))) <;> (simp only [k13, hk8, upT_g, dnT_g, nb_g, dnT_b, dnT_s, dnT_0, dnT_r, fx, fy, fz, wo, decide_true, decide_false, wz0, wz1, wz2, wz3, wz4, wz5, wz6, wz7, wz8, appM, Ty.isInt, capT, appendZM, buildM, setAll, plSt, plAr, mnmx, Int.reduceLT, vrec, List.drop_succ_cons, List.drop_zero, convertM, indexM, fieldM, Int.toNat_zero, Int.toNat_one, Int.le_refl, Int.zero_le_ofNat, Int.reduceEq, Int.reduceNe, ne_eq, not_false_eq_true, u8_wrap, marksG_len, marks_len, bne_self_eq_false, take_map_len, tgL_byte, T.asArr, T.tg, tgL, indexAddrM, wk, wl, eq_self, isCall, callT, opM, S.ev, S.put, entryS, thawAL, thawA, RM.run, RM.bind, RM.ofOpt, allocs, Heap.ups, Heap.put, Heap.at, List.replicate, Nat.reduceAdd, Nat.reduceSub, ofConst, nilAs, if_false, if_true, binT, binTy, unT, guardT, quietK, reduceIte, boxM, allocM, loadM, storeM, fieldAddrM, lenT, extractT, subM, setOb, T.get, T.setp, T.offs, T.nw, nwL, T.cel, T.isNd, T.size, sizeL, TyI.agg, Ty.agg, Ty.isFn, zeroT, Nat.reduceLT, Nat.reduceEqDiff, sumT, kill]; clear hk8; first | subst hy1 | (try simp only [thenS, blockS, if_true, if_false, Nat.reduceEqDiff, reduceIte]))) | (refine Chk.mk (by simp only [rdqs, rdq, k13, upT_g, dnT_g, nb_g, dnT_b, dnT_s, dnT_0, dnT_r, fx, fy, fz, wo, decide_true, decide_false, wz0, wz1, wz2, wz3, wz4, wz5, wz6, wz7, wz8, appM, Ty.isInt, capT, appendZM, buildM, setAll, plSt, plAr, mnmx, Int.reduceLT, vrec, List.drop_succ_cons, List.drop_zero, convertM, indexM, fieldM, Int.toNat_zero, Int.toNat_one, Int.le_refl, Int.zero_le_ofNat, Int.reduceEq, Int.reduceNe, ne_eq, not_false_eq_true, u8_wrap, marksG_len, marks_len, bne_self_eq_false, take_map_len, tgL_byte, T.asArr, T.tg, tgL, indexAddrM, wk, wl, eq_self, isCall, callT, opM, S.ev, S.put, entryS, thawAL, thawA, RM.run, RM.bind, RM.ofOpt, allocs, Heap.ups, Heap.put, Heap.at, List.replicate, Nat.reduceAdd, Nat.reduceSub, ofConst, nilAs, if_false, if_true, binT, binTy, unT, guardT, quietK, reduceIte, boxM, allocM, loadM, storeM, fieldAddrM, lenT, extractT, subM, setOb, T.get, T.setp, T.offs, T.nw, nwL, T.cel, T.isNd, T.size, sizeL, TyI.agg, Ty.agg, Ty.isFn, zeroT, Nat.reduceLT, Nat.reduceEqDiff, sumT, kill]; try trivial) ?_) | exact absurd trivial hb | exact absurd hb (by decide) | exact absurd hcc (by decide) | refine SW.seq ?_ | refine SW.block ?_ | (refine SW.exit ?_; simp only [thenS, blockS, if_true, if_false, Nat.reduceEqDiff, reduceIte]) | (refine SW.skip ?_; simp only [thenS, blockS]) | ((repeat (refine Wh.h ?_ hb; clear hb)); (repeat (refine Wh.h ?_ hcc; clear hcc)); (first | exact h1 | exact h2 | exact h3 | exact h4 | exact h5 | exact h6 | exact h7 | exact h8 | exact h9 | exact h10 | exact h11 | exact h12 | exact h13 | exact h14 | exact h15 | exact h16)))); (try (have hq : True := h1)); (try (have hq : True := h2)); (try (have hq : True := h3)); (try (have hq : True := h4)); (try (have hq : True := h5)); (try (have hq : True := h6)); (try (have hq : True := h7)); (try (have hq : True := h8)); (try (have hq : True := h9)); (try (have hq : True := h10)); (try (have hq : True := h11)); (try (have hq : True := h12)); (try (have hq : True := h13)); (try (have hq : True := h14)); (try (have hq : True := h15)); (try (have hq : True := h16)); exact True.intro) : A := k b1 b2 b3 b4 b5 b6 b7 b8 b9 b10 b11 b12 b13 b14 b15 b16
theorem goS {A B1 : Prop} (b1 : B1) (k : B1 → A := by intro h1; refine tw ?_ ?_; (focus (repeat' first | ((have hk8 := Nat.add_zero); (first | refine SW.ops_seq hY fun y1 hy1 => ?_) <;> (simp only [k13, hk8, upT_g, dnT_g, nb_g, dnT_b, dnT_s, dnT_0, dnT_r, fx, fy, fz, wo, decide_true, decide_false, wz0, wz1, wz2, wz3, wz4, wz5, wz6, wz7, wz8, appM, Ty.isInt, capT, appendZM, buildM, setAll, plSt, plAr, mnmx, Int.reduceLT, vrec, List.drop_succ_cons, List.drop_zero, convertM, indexM, fieldM, Int.toNat_zero, Int.toNat_one, Int.le_refl, Int.zero_le_ofNat, Int.reduceEq, Int.reduceNe, ne_eq, not_false_eq_true, u8_wrap, marksG_len, marks_len, bne_self_eq_false, take_map_len, tgL_byte, T.asArr, T.tg, tgL, indexAddrM, wk, wl, eq_self, isCall, callT, opM, S.ev, S.put, entryS, thawAL, thawA, RM.run, RM.bind, RM.ofOpt, allocs, Heap.ups, Heap.put, Heap.at, List.replicate, Nat.reduceAdd, Nat.reduceSub, ofConst, nilAs, if_false, if_true, binT, binTy, unT, guardT, quietK, reduceIte, boxM, allocM, loadM, storeM, fieldAddrM, lenT, extractT, subM, setOb, T.get, T.setp, T.offs, T.nw, nwL, T.cel, T.isNd, T.size, sizeL, TyI.agg, Ty.agg, Ty.isFn, zeroT, Nat.reduceLT, Nat.reduceEqDiff, sumT, kill]; clear hk8; first | subst hy1 | (try simp only [thenS, blockS, if_true, if_false, Nat.reduceEqDiff, reduceIte]))) | refine SW.seq ?_ | (exact h1))); (try (have hq : True := h1)); exact True.intro) : A := k b1
theorem goR {A B1 B2 B3 B4 B5 B6 B7 B8 B9 B10 B11 B12 B13 B14 B15 B16 : Prop} (b1 : B1) (b2 : B2) (b3 : B3) (b4 : B4) (b5 : B5) (b6 : B6) (b7 : B7) (b8 : B8) (b9 : B9) (b10 : B10) (b11 : B11) (b12 : B12) (b13 : B13) (b14 : B14) (b15 : B15) (b16 : B16) (k : B1 →  B2 →  B3 →  B4 →  B5 →  B6 →  B7 →  B8 →  B9 →  B10 →  B11 →  B12 →  B13 →  B14 →  B15 →  B16 → A := by intro h1 h2 h3 h4 h5 h6 h7 h8 h9 h10 h11 h12 h13 h14 h15 h16; refine tw ?_ ?_; (focus (repeat' first | ((have hk8 := Nat.add_zero); (first | refine SW.ops_seq hY fun y1 hy1 => ?_ | refine SW.ops hY ?_ | refine SW.seq (SW.draw2x hD1 hY mixed (by kernel_rfl) ?_) | refine SW.draw2x hD1 hY mixed (by kernel_rfl) ?_ | refine SW.seq (SW.draw2x hD2 hY mixed (by kernel_rfl) ?_) | refine SW.draw2x hD2 hY mixed (by kernel_rfl) ?_ | refine SW.seq (SW.draw2x hD3 hY mixed (by kernel_rfl) ?_) | refine SW.draw2x hD3 hY mixed (by kernel_rfl) ?_ | refine SW.draw_seq hY mixed (by kernel_rfl) fun y1 hy1 => ?_ | refine SW.draw hY mixed (by kernel_rfl) ?_ | refine vcall_c hC1 (hK := ?_) | refine vcall_c hC2 (hK := ?_) | refine vcall_c hC3 (hK := ?_) | refine vcall_c hC4 (hK := ?_) | refine vcall_c hC5 (hK := ?_) | refine vcall_c hC6 (hK := ?_) | refine vcall_c hC7 (hK := ?_) | refine vcall_c hC8 (hK := ?_) | refine vcall_c hC9 (hK := ?_) | refine vcall_c hC10 (hK := ?_) | refine vcall_c hC11 (hK := ?_) | refine vcall_c hC12 (hK := ?_) | refine vcall_c hC13 (hK := ?_) | refine vcall_c hC14 (hK := ?_) | refine vcall_c (cx [] (hG1 _)) (hK := ?_) | refine vcall_c (cx [] (hG1 _ _)) (hK := ?_) | refine vcall_c (cx [] (hG1 _ _ _)) (hK := ?_) | refine vcall_c (cx [] (hG1 _ _ _ _)) (hK := ?_) | refine vcall_c (cx [] (hG2 _)) (hK := ?_) | refine vcall_c (cx [] (hG2 _ _)) (hK := ?_) | refine vcall_c (cx [] (hG2 _ _ _)) (hK := ?_) | refine vcall_c (cx [] (hG2 _ _ _ _)) (hK := ?_) | refine vcall_c (cx [] (hG3 _)) (hK := ?_) | refine vcall_c (cx [] (hG3 _ _)) (hK := ?_) | refine vcall_c (cx [] (hG3 _ _ _)) (hK := ?_) | refine vcall_c (cx [] (hG3 _ _ _ _)) (hK := ?_) | refine kgf ?_ | refine kgt ?_ | (refine k8p ?_; (simp only [k13, hk8, upT_g, dnT_g, nb_g, dnT_b, dnT_s, dnT_0, dnT_r, fx, fy, fz, wo, decide_true, decide_false, wz0, wz1, wz2, wz3, wz4, wz5, wz6, wz7, wz8, appM, Ty.isInt, capT, appendZM, buildM, setAll, plSt, plAr, mnmx, Int.reduceLT, vrec, List.drop_succ_cons, List.drop_zero, convertM, indexM, fieldM, Int.toNat_zero, Int.toNat_one, Int.le_refl, Int.zero_le_ofNat, Int.reduceEq, Int.reduceNe, ne_eq, not_false_eq_true, u8_wrap, marksG_len, marks_len, bne_self_eq_false, take_map_len, tgL_byte, T.asArr, T.tg, tgL, indexAddrM, wk, wl, eq_self, isCall, callT, opM, S.ev, S.put, entryS, thawAL, thawA, RM.run, RM.bind, RM.ofOpt, allocs, Heap.ups, Heap.put, Heap.at, List.replicate, Nat.reduceAdd, Nat.reduceSub, ofConst, nilAs, if_false, if_true, binT, binTy, unT, guardT, quietK, reduceIte, boxM, allocM, loadM, storeM, fieldAddrM, lenT, extractT, subM, setOb, T.get, T.setp, T.offs, T.nw, nwL, T.cel, T.isNd, T.size, sizeL, TyI.agg, Ty.agg, Ty.isFn, zeroT, Nat.reduceLT, Nat.reduceEqDiff, sumT, kill]); (first | refine vpure_c hC1 (hK := ?_) | refine vpure_c hC2 (hK := ?_) | refine vpure_c hC3 (hK := ?_) | refine vpure_c hC4 (hK := ?_) | refine vpure_c hC5 (hK := ?_) | refine vpure_c hC6 (hK := ?_) | refine vpure_c hC7 (hK := ?_) | refine vpure_c hC8 (hK := ?_) | refine vpure_c hC9 (hK := ?_) | refine vpure_c hC10 (hK := ?_) | refine vpure_c hC11 (hK := ?_) | refine vpure_c hC12 (hK := ?_) | refine vpure_c hC13 (hK := ?_) | refine vpure_c hC14 (hK := ?_) | refine vpure_c (cx [] (hG1 _)) (hK := ?_) | refine vpure_c (cx [] (hG1 _ _)) (hK := ?_) | refine vpure_c (cx [] (hG1 _ _ _)) (hK := ?_) | refine vpure_c (cx [] (hG1 _ _ _ _)) (hK := ?_) | refine vpure_c (cx [] (hG2 _)) (hK := ?_) | refine vpure_c (cx [] (hG2 _ _)) (hK := ?_) | refine vpure_c (cx [] (hG2 _ _ _)) (hK := ?_) | refine vpure_c (cx [] (hG2 _ _ _ _)) (hK := ?_) | refine vpure_c (cx [] (hG3 _)) (hK := ?_) | refine vpure_c (cx [] (hG3 _ _)) (hK := ?_) | refine vpure_c (cx [] (hG3 _ _ _)) (hK := ?_) | refine vpure_c (cx [] (hG3 _ _ _ _)) (hK := ?_))) | (simp only [k8]; refine .inl ?_; refine ⟨fun hb => ?_, fun hb => ?_⟩ <;> (try replace hb := Bool.eq_false_iff.2 hb) <;> (first | exact absurd hb (by decide) | replace hk8 := hb))) <;> (simp only [k13, hk8, upT_g, dnT_g, nb_g, dnT_b, dnT_s, dnT_0, dnT_r, fx, fy, fz, wo, decide_true, decide_false, wz0, wz1, wz2, wz3, wz4, wz5, wz6, wz7, wz8, appM, Ty.isInt, capT, appendZM, buildM, setAll, plSt, plAr, mnmx, Int.reduceLT, vrec, List.drop_succ_cons, List.drop_zero, convertM, indexM, fieldM, Int.toNat_zero, Int.toNat_one, Int.le_refl, Int.zero_le_ofNat, Int.reduceEq, Int.reduceNe, ne_eq, not_false_eq_true, u8_wrap, marksG_len, marks_len, bne_self_eq_false, take_map_len, tgL_byte, T.asArr, T.tg, tgL, indexAddrM, wk, wl, eq_self, isCall, callT, opM, S.ev, S.put, entryS, thawAL, thawA, RM.run, RM.bind, RM.ofOpt, allocs, Heap.ups, Heap.put, Heap.at, List.replicate, Nat.reduceAdd, Nat.reduceSub, ofConst, nilAs, if_false, if_true, binT, binTy, unT, guardT, quietK, reduceIte, boxM, allocM, loadM, storeM, fieldAddrM, lenT, extractT, subM, setOb, T.get, T.setp, T.offs, T.nw, nwL, T.cel, T.isNd, T.size, sizeL, TyI.agg, Ty.agg, Ty.isFn, zeroT, Nat.reduceLT, Nat.reduceEqDiff, sumT, kill]; clear hk8; first | subst hy1 | (try simp only [thenS, blockS, if_true, if_false, Nat.reduceEqDiff, reduceIte]))) | (refine Chk.mk (by simp only [rdqs, rdq, k13, upT_g, dnT_g, nb_g, dnT_b, dnT_s, dnT_0, dnT_r, fx, fy, fz, wo, decide_true, decide_false, wz0, wz1, wz2, wz3, wz4, wz5, wz6, wz7, wz8, appM, Ty.isInt, capT, appendZM, buildM, setAll, plSt, plAr, mnmx, Int.reduceLT, vrec, List.drop_succ_cons, List.drop_zero, convertM, indexM, fieldM, Int.toNat_zero, Int.toNat_one, Int.le_refl, Int.zero_le_ofNat, Int.reduceEq, Int.reduceNe, ne_eq, not_false_eq_true, u8_wrap, marksG_len, marks_len, bne_self_eq_false, take_map_len, tgL_byte, T.asArr, T.tg, tgL, indexAddrM, wk, wl, eq_self, isCall, callT, opM, S.ev, S.put, entryS, thawAL, thawA, RM.run, RM.bind, RM.ofOpt, allocs, Heap.ups, Heap.put, Heap.at, List.replicate, Nat.reduceAdd, Nat.reduceSub, ofConst, nilAs, if_false, if_true, binT, binTy, unT, guardT, quietK, reduceIte, boxM, allocM, loadM, storeM, fieldAddrM, lenT, extractT, subM, setOb, T.get, T.setp, T.offs, T.nw, nwL, T.cel, T.isNd, T.size, sizeL, TyI.agg, Ty.agg, Ty.isFn, zeroT, Nat.reduceLT, Nat.reduceEqDiff, sumT, kill]; try trivial) ?_) | exact absurd trivial hb | exact absurd hb (by decide) | exact absurd hcc (by decide) | refine SW.seq ?_ | refine SW.block ?_ | (refine SW.cond rfl (fun hcc => ?_) (fun hcc => ?_)) | (refine SW.exit ?_; simp only [thenS, blockS, if_true, if_false, Nat.reduceEqDiff, reduceIte]) | (refine SW.skip ?_; simp only [thenS, blockS]) | ((repeat (refine Wh.h ?_ hb; clear hb)); (repeat (refine Wh.h ?_ hcc; clear hcc)); (first | exact h1 | exact h2 | exact h3 | exact h4 | exact h5 | exact h6 | exact h7 | exact h8 | exact h9 | exact h10 | exact h11 | exact h12 | exact h13 | exact h14 | exact h15 | exact h16)))); (try (have hq : True := h1)); (try (have hq : True := h2)); (try (have hq : True := h3)); (try (have hq : True := h4)); (try (have hq : True := h5)); (try (have hq : True := h6)); (try (have hq : True := h7)); (try (have hq : True := h8)); (try (have hq : True := h9)); (try (have hq : True := h10)); (try (have hq : True := h11)); (try (have hq : True := h12)); (try (have hq : True := h13)); (try (have hq : True := h14)); (try (have hq : True := h15)); (try (have hq : True := h16)); exact True.intro) : A := k b1 b2 b3 b4 b5 b6 b7 b8 b9 b10 b11 b12 b13 b14 b15 b16
theorem goU {A B1 B2 B3 B4 B5 B6 B7 B8 B9 B10 B11 B12 B13 B14 B15 B16 : Prop} (b1 : B1) (b2 : B2) (b3 : B3) (b4 : B4) (b5 : B5) (b6 : B6) (b7 : B7) (b8 : B8) (b9 : B9) (b10 : B10) (b11 : B11) (b12 : B12) (b13 : B13) (b14 : B14) (b15 : B15) (b16 : B16) (k : B1 →  B2 →  B3 →  B4 →  B5 →  B6 →  B7 →  B8 →  B9 →  B10 →  B11 →  B12 →  B13 →  B14 →  B15 →  B16 → A := by intro h1 h2 h3 h4 h5 h6 h7 h8 h9 h10 h11 h12 h13 h14 h15 h16; refine tw ?_ ?_; (focus (repeat' first | ((have hk8 := Nat.add_zero); (first | refine SW.ops_seq hY fun y1 hy1 => ?_ | refine SW.ops hY ?_ | refine SW.seq (SW.draw2x hD1 hY mixed (by kernel_rfl) ?_) | refine SW.draw2x hD1 hY mixed (by kernel_rfl) ?_ | refine SW.seq (SW.draw2x hD2 hY mixed (by kernel_rfl) ?_) | refine SW.draw2x hD2 hY mixed (by kernel_rfl) ?_ | refine SW.seq (SW.draw2x hD3 hY mixed (by kernel_rfl) ?_) | refine SW.draw2x hD3 hY mixed (by kernel_rfl) ?_ | refine SW.draw_seq hY mixed (by kernel_rfl) fun y1 hy1 => ?_ | refine SW.draw hY mixed (by kernel_rfl) ?_ | refine vcall_c hC1 (hK := ?_) | refine vcall_c hC2 (hK := ?_) | refine vcall_c hC3 (hK := ?_) | refine vcall_c hC4 (hK := ?_) | refine vcall_c hC5 (hK := ?_) | refine vcall_c hC6 (hK := ?_) | refine vcall_c hC7 (hK := ?_) | refine vcall_c hC8 (hK := ?_) | refine vcall_c hC9 (hK := ?_) | refine vcall_c hC10 (hK := ?_) | refine vcall_c hC11 (hK := ?_) | refine vcall_c hC12 (hK := ?_) | refine vcall_c hC13 (hK := ?_) | refine vcall_c hC14 (hK := ?_) | refine vcall_c (cx [] (hG1 _)) (hK := ?_) | refine vcall_c (cx [] (hG1 _ _)) (hK := ?_) | refine vcall_c (cx [] (hG1 _ _ _)) (hK := ?_) | refine vcall_c (cx [] (hG1 _ _ _ _)) (hK := ?_) | refine vcall_c (cx [] (hG2 _)) (hK := ?_) | refine vcall_c (cx [] (hG2 _ _)) (hK := ?_) | refine vcall_c (cx [] (hG2 _ _ _)) (hK := ?_) | refine vcall_c (cx [] (hG2 _ _ _ _)) (hK := ?_) | refine vcall_c (cx [] (hG3 _)) (hK := ?_) | refine vcall_c (cx [] (hG3 _ _)) (hK := ?_) | refine vcall_c (cx [] (hG3 _ _ _)) (hK := ?_) | refine vcall_c (cx [] (hG3 _ _ _ _)) (hK := ?_) | refine kgf ?_ | refine kgt ?_ | (refine k8p ?_; (simp only [k13, hk8, upT_g, dnT_g, nb_g, dnT_b, dnT_s, dnT_0, dnT_r, fx, fy, fz, wo, decide_true, decide_false, wz0, wz1, wz2, wz3, wz4, wz5, wz6, wz7, wz8, appM, Ty.isInt, capT, appendZM, buildM, setAll, plSt, plAr, mnmx, Int.reduceLT, vrec, List.drop_succ_cons, List.drop_zero, convertM, indexM, fieldM, Int.toNat_zero, Int.toNat_one, Int.le_refl, Int.zero_le_ofNat, Int.reduceEq, Int.reduceNe, ne_eq, not_false_eq_true, u8_wrap, marksG_len, marks_len, bne_self_eq_false, take_map_len, tgL_byte, T.asArr, T.tg, tgL, indexAddrM, wk, wl, eq_self, isCall, callT, opM, S.ev, S.put, entryS, thawAL, thawA, RM.run, RM.bind, RM.ofOpt, allocs, Heap.ups, Heap.put, Heap.at, List.replicate, Nat.reduceAdd, Nat.reduceSub, ofConst, nilAs, if_false, if_true, binT, binTy, unT, guardT, quietK, reduceIte, boxM, allocM, loadM, storeM, fieldAddrM, lenT, extractT, subM, setOb, T.get, T.setp, T.offs, T.nw, nwL, T.cel, T.isNd, T.size, sizeL, TyI.agg, Ty.agg, Ty.isFn, zeroT, Nat.reduceLT, Nat.reduceEqDiff, sumT, kill]); (first | refine vpure_c hC1 (hK := ?_) | refine vpure_c hC2 (hK := ?_) | refine vpure_c hC3 (hK := ?_) | refine vpure_c hC4 (hK := ?_) | refine vpure_c hC5 (hK := ?_) | refine vpure_c hC6 (hK := ?_) | refine vpure_c hC7 (hK := ?_) | refine vpure_c hC8 (hK := ?_) | refine vpure_c hC9 (hK := ?_) | refine vpure_c hC10 (hK := ?_) | refine vpure_c hC11 (hK := ?_) | refine vpure_c hC12 (hK := ?_) | refine vpure_c hC13 (hK := ?_) | refine vpure_c hC14 (hK := ?_) | refine vpure_c (cx [] (hG1 _)) (hK := ?_) | refine vpure_c (cx [] (hG1 _ _)) (hK := ?_) | refine vpure_c (cx [] (hG1 _ _ _)) (hK := ?_) | refine vpure_c (cx [] (hG1 _ _ _ _)) (hK := ?_) | refine vpure_c (cx [] (hG2 _)) (hK := ?_) | refine vpure_c (cx [] (hG2 _ _)) (hK := ?_) | refine vpure_c (cx [] (hG2 _ _ _)) (hK := ?_) | refine vpure_c (cx [] (hG2 _ _ _ _)) (hK := ?_) | refine vpure_c (cx [] (hG3 _)) (hK := ?_) | refine vpure_c (cx [] (hG3 _ _)) (hK := ?_) | refine vpure_c (cx [] (hG3 _ _ _)) (hK := ?_) | refine vpure_c (cx [] (hG3 _ _ _ _)) (hK := ?_))) | (simp only [k8]; refine .inl ?_; refine ⟨fun hb => ?_, fun hb => ?_⟩ <;> (try replace hb := Bool.eq_false_iff.2 hb) <;> (first | exact absurd hb (by decide) | replace hk8 := hb))) <;> (simp only [k13, hk8, upT_g, dnT_g, nb_g, dnT_b, dnT_s, dnT_0, dnT_r, fx, fy, fz, wo, decide_true, decide_false, wz0, wz1, wz2, wz3, wz4, wz5, wz6, wz7, wz8, appM, Ty.isInt, capT, appendZM, buildM, setAll, plSt, plAr, mnmx, Int.reduceLT, vrec, List.drop_succ_cons, List.drop_zero, convertM, indexM, fieldM, Int.toNat_zero, Int.toNat_one, Int.le_refl, Int.zero_le_ofNat, Int.reduceEq, Int.reduceNe, ne_eq, not_false_eq_true, u8_wrap, marksG_len, marks_len, bne_self_eq_false, take_map_len, tgL_byte, T.asArr, T.tg, tgL, indexAddrM, wk, wl, eq_self, isCall, callT, opM, S.ev, S.put, entryS, thawAL, thawA, RM.run, RM.bind, RM.ofOpt, allocs, Heap.ups, Heap.put, Heap.at, List.replicate, Nat.reduceAdd, Nat.reduceSub, ofConst, nilAs, if_false, if_true, binT, binTy, unT, guardT, quietK, reduceIte, boxM, allocM, loadM, storeM, fieldAddrM, lenT, extractT, subM, setOb, T.get, T.setp, T.offs, T.nw, nwL, T.cel, T.isNd, T.size, sizeL, TyI.agg, Ty.agg, Ty.isFn, zeroT, Nat.reduceLT, Nat.reduceEqDiff, sumT, kill]; clear hk8; first | subst hy1 | (try simp only [thenS, blockS, if_true, if_false, Nat.reduceEqDiff, reduceIte]))) | (refine Chk.mk (by simp only [rdqs, rdq, k13, upT_g, dnT_g, nb_g, dnT_b, dnT_s, dnT_0, dnT_r, fx, fy, fz, wo, decide_true, decide_false, wz0, wz1, wz2, wz3, wz4, wz5, wz6, wz7, wz8, appM, Ty.isInt, capT, appendZM, buildM, setAll, plSt, plAr, mnmx, Int.reduceLT, vrec, List.drop_succ_cons, List.drop_zero, convertM, indexM, fieldM, Int.toNat_zero, Int.toNat_one, Int.le_refl, Int.zero_le_ofNat, Int.reduceEq, Int.reduceNe, ne_eq, not_false_eq_true, u8_wrap, marksG_len, marks_len, bne_self_eq_false, take_map_len, tgL_byte, T.asArr, T.tg, tgL, indexAddrM, wk, wl, eq_self, isCall, callT, opM, S.ev, S.put, entryS, thawAL, thawA, RM.run, RM.bind, RM.ofOpt, allocs, Heap.ups, Heap.put, Heap.at, List.replicate, Nat.reduceAdd, Nat.reduceSub, ofConst, nilAs, if_false, if_true, binT, binTy, unT, guardT, quietK, reduceIte, boxM, allocM, loadM, storeM, fieldAddrM, lenT, extractT, subM, setOb, T.get, T.setp, T.offs, T.nw, nwL, T.cel, T.isNd, T.size, sizeL, TyI.agg, Ty.agg, Ty.isFn, zeroT, Nat.reduceLT, Nat.reduceEqDiff, sumT, kill]; try trivial) ?_) | exact absurd trivial hb | exact absurd hb (by decide) | exact absurd hcc (by decide) | refine SW.seq ?_ | refine SW.block ?_ | (refine SW.cond rfl (fun hcc => ?_) (fun hcc => ?_)) | (refine SW.exit ?_; simp only [thenS, blockS, if_true, if_false, Nat.reduceEqDiff, reduceIte]) | (refine SW.skip ?_; simp only [thenS, blockS]) | refine SWl.s ?_ | refine SW.loopN 9 ?_ | ((repeat (refine Wh.h ?_ hb; clear hb)); (repeat (refine Wh.h ?_ hcc; clear hcc)); (first | exact h1 | exact h2 | exact h3 | exact h4 | exact h5 | exact h6 | exact h7 | exact h8 | exact h9 | exact h10 | exact h11 | exact h12 | exact h13 | exact h14 | exact h15 | exact h16)))); (try (have hq : True := h1)); (try (have hq : True := h2)); (try (have hq : True := h3)); (try (have hq : True := h4)); (try (have hq : True := h5)); (try (have hq : True := h6)); (try (have hq : True := h7)); (try (have hq : True := h8)); (try (have hq : True := h9)); (try (have hq : True := h10)); (try (have hq : True := h11)); (try (have hq : True := h12)); (try (have hq : True := h13)); (try (have hq : True := h14)); (try (have hq : True := h15)); (try (have hq : True := h16)); exact True.intro) : A := k b1 b2 b3 b4 b5 b6 b7 b8 b9 b10 b11 b12 b13 b14 b15 b16
theorem goV {A B1 B2 B3 B4 B5 B6 B7 B8 B9 B10 B11 B12 B13 B14 B15 B16 : Prop} (b1 : B1) (b2 : B2) (b3 : B3) (b4 : B4) (b5 : B5) (b6 : B6) (b7 : B7) (b8 : B8) (b9 : B9) (b10 : B10) (b11 : B11) (b12 : B12) (b13 : B13) (b14 : B14) (b15 : B15) (b16 : B16) (k : B1 →  B2 →  B3 →  B4 →  B5 →  B6 →  B7 →  B8 →  B9 →  B10 →  B11 →  B12 →  B13 →  B14 →  B15 →  B16 → A := by intro h1 h2 h3 h4 h5 h6 h7 h8 h9 h10 h11 h12 h13 h14 h15 h16; refine tw ?_ ?_; (focus (repeat' first | ((have hk8 := Nat.add_zero); (first | refine SW.ops_seq hY fun y1 hy1 => ?_ | refine SW.ops hY ?_ | refine SW.seq (SW.draw2x hD1 hY mixed (by kernel_rfl) ?_) | refine SW.draw2x hD1 hY mixed (by kernel_rfl) ?_ | refine SW.seq (SW.draw2x hD2 hY mixed (by kernel_rfl) ?_) | refine SW.draw2x hD2 hY mixed (by kernel_rfl) ?_ | refine SW.seq (SW.draw2x hD3 hY mixed (by kernel_rfl) ?_) | refine SW.draw2x hD3 hY mixed (by kernel_rfl) ?_ | refine SW.draw_seq hY mixed (by kernel_rfl) fun y1 hy1 => ?_ | refine SW.draw hY mixed (by kernel_rfl) ?_ | refine vcall_c hC1 (hK := ?_) | refine vcall_c hC2 (hK := ?_) | refine vcall_c hC3 (hK := ?_) | refine vcall_c hC4 (hK := ?_) | refine vcall_c hC5 (hK := ?_) | refine vcall_c hC6 (hK := ?_) | refine vcall_c hC7 (hK := ?_) | refine vcall_c hC8 (hK := ?_) | refine vcall_c hC9 (hK := ?_) | refine vcall_c hC10 (hK := ?_) | refine vcall_c hC11 (hK := ?_) | refine vcall_c hC12 (hK := ?_) | refine vcall_c hC13 (hK := ?_) | refine vcall_c hC14 (hK := ?_) | refine vcall_c (cx [] (hG1 _)) (hK := ?_) | refine vcall_c (cx [] (hG1 _ _)) (hK := ?_) | refine vcall_c (cx [] (hG1 _ _ _)) (hK := ?_) | refine vcall_c (cx [] (hG1 _ _ _ _)) (hK := ?_) | refine vcall_c (cx [] (hG2 _)) (hK := ?_) | refine vcall_c (cx [] (hG2 _ _)) (hK := ?_) | refine vcall_c (cx [] (hG2 _ _ _)) (hK := ?_) | refine vcall_c (cx [] (hG2 _ _ _ _)) (hK := ?_) | refine vcall_c (cx [] (hG3 _)) (hK := ?_) | refine vcall_c (cx [] (hG3 _ _)) (hK := ?_) | refine vcall_c (cx [] (hG3 _ _ _)) (hK := ?_) | refine vcall_c (cx [] (hG3 _ _ _ _)) (hK := ?_) | refine kgf ?_ | refine kgt ?_ | (refine k8p ?_; (simp only [k13, hk8, upT_g, dnT_g, nb_g, dnT_b, dnT_s, dnT_0, dnT_r, fx, fy, fz, wo, decide_true, decide_false, wz0, wz1, wz2, wz3, wz4, wz5, wz6, wz7, wz8, appM, Ty.isInt, capT, appendZM, buildM, setAll, plSt, plAr, mnmx, Int.reduceLT, vrec, List.drop_succ_cons, List.drop_zero, convertM, indexM, fieldM, Int.toNat_zero, Int.toNat_one, Int.le_refl, Int.zero_le_ofNat, Int.reduceEq, Int.reduceNe, ne_eq, not_false_eq_true, u8_wrap, marksG_len, marks_len, bne_self_eq_false, take_map_len, tgL_byte, T.asArr, T.tg, tgL, indexAddrM, wk, wl, eq_self, isCall, callT, opM, S.ev, S.put, entryS, thawAL, thawA, RM.run, RM.bind, RM.ofOpt, allocs, Heap.ups, Heap.put, Heap.at, List.replicate, Nat.reduceAdd, Nat.reduceSub, ofConst, nilAs, if_false, if_true, binT, binTy, unT, guardT, quietK, reduceIte, boxM, allocM, loadM, storeM, fieldAddrM, lenT, extractT, subM, setOb, T.get, T.setp, T.offs, T.nw, nwL, T.cel, T.isNd, T.size, sizeL, TyI.agg, Ty.agg, Ty.isFn, zeroT, Nat.reduceLT, Nat.reduceEqDiff, sumT, kill]); (first | refine vpure_c hC1 (hK := ?_) | refine vpure_c hC2 (hK := ?_) | refine vpure_c hC3 (hK := ?_) | refine vpure_c hC4 (hK := ?_) | refine vpure_c hC5 (hK := ?_) | refine vpure_c hC6 (hK := ?_) | refine vpure_c hC7 (hK := ?_) | refine vpure_c hC8 (hK := ?_) | refine vpure_c hC9 (hK := ?_) | refine vpure_c hC10 (hK := ?_) | refine vpure_c hC11 (hK := ?_) | refine vpure_c hC12 (hK := ?_) | refine vpure_c hC13 (hK := ?_) | refine vpure_c hC14 (hK := ?_) | refine vpure_c (cx [] (hG1 _)) (hK := ?_) | refine vpure_c (cx [] (hG1 _ _)) (hK := ?_) | refine vpure_c (cx [] (hG1 _ _ _)) (hK := ?_) | refine vpure_c (cx [] (hG1 _ _ _ _)) (hK := ?_) | refine vpure_c (cx [] (hG2 _)) (hK := ?_) | refine vpure_c (cx [] (hG2 _ _)) (hK := ?_) | refine vpure_c (cx [] (hG2 _ _ _)) (hK := ?_) | refine vpure_c (cx [] (hG2 _ _ _ _)) (hK := ?_) | refine vpure_c (cx [] (hG3 _)) (hK := ?_) | refine vpure_c (cx [] (hG3 _ _)) (hK := ?_) | refine vpure_c (cx [] (hG3 _ _ _)) (hK := ?_) | refine vpure_c (cx [] (hG3 _ _ _ _)) (hK := ?_))) | (simp only [k8]; refine .inl ?_; refine ⟨fun hb => ?_, fun hb => ?_⟩ <;> (try replace hb := Bool.eq_false_iff.2 hb) <;> (first | exact absurd hb (by decide) | replace hk8 := hb))) <;> (simp only [k13, hk8, upT_g, dnT_g, nb_g, dnT_b, dnT_s, dnT_0, dnT_r, fx, fy, fz, wo, decide_true, decide_false, wz0, wz1, wz2, wz3, wz4, wz5, wz6, wz7, wz8, appM, Ty.isInt, capT, appendZM, buildM, setAll, plSt, plAr, mnmx, Int.reduceLT, vrec, List.drop_succ_cons, List.drop_zero, convertM, indexM, fieldM, Int.toNat_zero, Int.toNat_one, Int.le_refl, Int.zero_le_ofNat, Int.reduceEq, Int.reduceNe, ne_eq, not_false_eq_true, u8_wrap, marksG_len, marks_len, bne_self_eq_false, take_map_len, tgL_byte, T.asArr, T.tg, tgL, indexAddrM, wk, wl, eq_self, isCall, callT, opM, S.ev, S.put, entryS, thawAL, thawA, RM.run, RM.bind, RM.ofOpt, allocs, Heap.ups, Heap.put, Heap.at, List.replicate, Nat.reduceAdd, Nat.reduceSub, ofConst, nilAs, if_false, if_true, binT, binTy, unT, guardT, quietK, reduceIte, boxM, allocM, loadM, storeM, fieldAddrM, lenT, extractT, subM, setOb, T.get, T.setp, T.offs, T.nw, nwL, T.cel, T.isNd, T.size, sizeL, TyI.agg, Ty.agg, Ty.isFn, zeroT, Nat.reduceLT, Nat.reduceEqDiff, sumT, kill]; clear hk8; first | subst hy1 | (try simp only [thenS, blockS, if_true, if_false, Nat.reduceEqDiff, reduceIte]))) | (refine Chk.mk (by simp only [rdqs, rdq, k13, upT_g, dnT_g, nb_g, dnT_b, dnT_s, dnT_0, dnT_r, fx, fy, fz, wo, decide_true, decide_false, wz0, wz1, wz2, wz3, wz4, wz5, wz6, wz7, wz8, appM, Ty.isInt, capT, appendZM, buildM, setAll, plSt, plAr, mnmx, Int.reduceLT, vrec, List.drop_succ_cons, List.drop_zero, convertM, indexM, fieldM, Int.toNat_zero, Int.toNat_one, Int.le_refl, Int.zero_le_ofNat, Int.reduceEq, Int.reduceNe, ne_eq, not_false_eq_true, u8_wrap, marksG_len, marks_len, bne_self_eq_false, take_map_len, tgL_byte, T.asArr, T.tg, tgL, indexAddrM, wk, wl, eq_self, isCall, callT, opM, S.ev, S.put, entryS, thawAL, thawA, RM.run, RM.bind, RM.ofOpt, allocs, Heap.ups, Heap.put, Heap.at, List.replicate, Nat.reduceAdd, Nat.reduceSub, ofConst, nilAs, if_false, if_true, binT, binTy, unT, guardT, quietK, reduceIte, boxM, allocM, loadM, storeM, fieldAddrM, lenT, extractT, subM, setOb, T.get, T.setp, T.offs, T.nw, nwL, T.cel, T.isNd, T.size, sizeL, TyI.agg, Ty.agg, Ty.isFn, zeroT, Nat.reduceLT, Nat.reduceEqDiff, sumT, kill]; try trivial) ?_) | exact absurd trivial hb | exact absurd hb (by decide) | exact absurd hcc (by decide) | refine SW.seq ?_ | refine SW.block ?_ | (refine SW.cond rfl (fun hcc => ?_) (fun hcc => ?_)) | (refine SW.exit ?_; simp only [thenS, blockS, if_true, if_false, Nat.reduceEqDiff, reduceIte]) | (refine SW.skip ?_; simp only [thenS, blockS]) | exact SW.ret (RetQ.r hR) | (refine SW.ret (show RetQ _ _ _ _ _ _ _ from ⟨.inr rfl, [_], [1], [_], _, rfl, rfl, rfl, rfl, rfl, ?_⟩)) | (refine SW.ret (show RetQ _ _ _ _ _ _ _ from ⟨.inr rfl, [_, _], [0, 0], [_, _], _, rfl, rfl, rfl, rfl, rfl, ?_⟩)) | (refine SW.ret (show RetQ _ _ _ _ _ _ _ from ⟨.inr rfl, [_, _, _], [0, 0, 0], [_, _, _], _, rfl, rfl, rfl, rfl, rfl, ?_⟩)) | (refine SW.ret (show RetQ _ _ _ _ _ _ _ from ⟨.inr rfl, [_, _, _, _], [0, 0, 0, 0], [_, _, _, _], _, rfl, rfl, rfl, rfl, rfl, ?_⟩)) | refine SWl.s ?_ | refine SW.loopN 9 ?_ | ((repeat (refine Wh.h ?_ hb; clear hb)); (repeat (refine Wh.h ?_ hcc; clear hcc)); (first | exact h1 | exact h2 | exact h3 | exact h4 | exact h5 | exact h6 | exact h7 | exact h8 | exact h9 | exact h10 | exact h11 | exact h12 | exact h13 | exact h14 | exact h15 | exact h16)))); (try (have hq : True := h1)); (try (have hq : True := h2)); (try (have hq : True := h3)); (try (have hq : True := h4)); (try (have hq : True := h5)); (try (have hq : True := h6)); (try (have hq : True := h7)); (try (have hq : True := h8)); (try (have hq : True := h9)); (try (have hq : True := h10)); (try (have hq : True := h11)); (try (have hq : True := h12)); (try (have hq : True := h13)); (try (have hq : True := h14)); (try (have hq : True := h15)); (try (have hq : True := h16)); exact True.intro) : A := k b1 b2 b3 b4 b5 b6 b7 b8 b9 b10 b11 b12 b13 b14 b15 b16
theorem go0 {A : Prop} (k : A := by repeat' first | ((have hk8 := Nat.add_zero); (first | refine SW.ops_seq hY fun y1 hy1 => ?_ | refine SW.ops hY ?_ | refine SW.seq (SW.draw2x hD1 hY mixed (by kernel_rfl) ?_) | refine SW.draw2x hD1 hY mixed (by kernel_rfl) ?_ | refine SW.seq (SW.draw2x hD2 hY mixed (by kernel_rfl) ?_) | refine SW.draw2x hD2 hY mixed (by kernel_rfl) ?_ | refine SW.seq (SW.draw2x hD3 hY mixed (by kernel_rfl) ?_) | refine SW.draw2x hD3 hY mixed (by kernel_rfl) ?_ | refine SW.draw_seq hY mixed (by kernel_rfl) fun y1 hy1 => ?_ | refine SW.draw hY mixed (by kernel_rfl) ?_ | refine vcall_c hC1 (hK := ?_) | refine vcall_c hC2 (hK := ?_) | refine vcall_c hC3 (hK := ?_) | refine vcall_c hC4 (hK := ?_) | refine vcall_c hC5 (hK := ?_) | refine vcall_c hC6 (hK := ?_) | refine vcall_c hC7 (hK := ?_) | refine vcall_c hC8 (hK := ?_) | refine vcall_c hC9 (hK := ?_) | refine vcall_c hC10 (hK := ?_) | refine vcall_c hC11 (hK := ?_) | refine vcall_c hC12 (hK := ?_) | refine vcall_c hC13 (hK := ?_) | refine vcall_c hC14 (hK := ?_) | refine vcall_c (cx [] (hG1 _)) (hK := ?_) | refine vcall_c (cx [] (hG1 _ _)) (hK := ?_) | refine vcall_c (cx [] (hG1 _ _ _)) (hK := ?_) | refine vcall_c (cx [] (hG1 _ _ _ _)) (hK := ?_) | refine vcall_c (cx [] (hG2 _)) (hK := ?_) | refine vcall_c (cx [] (hG2 _ _)) (hK := ?_) | refine vcall_c (cx [] (hG2 _ _ _)) (hK := ?_) | refine vcall_c (cx [] (hG2 _ _ _ _)) (hK := ?_) | refine vcall_c (cx [] (hG3 _)) (hK := ?_) | refine vcall_c (cx [] (hG3 _ _)) (hK := ?_) | refine vcall_c (cx [] (hG3 _ _ _)) (hK := ?_) | refine vcall_c (cx [] (hG3 _ _ _ _)) (hK := ?_) | refine kgf ?_ | refine kgt ?_ | (refine k8p ?_; (simp only [k13, hk8, upT_g, dnT_g, nb_g, dnT_b, dnT_s, dnT_0, dnT_r, fx, fy, fz, wo, decide_true, decide_false, wz0, wz1, wz2, wz3, wz4, wz5, wz6, wz7, wz8, appM, Ty.isInt, capT, appendZM, buildM, setAll, plSt, plAr, mnmx, Int.reduceLT, vrec, List.drop_succ_cons, List.drop_zero, convertM, indexM, fieldM, Int.toNat_zero, Int.toNat_one, Int.le_refl, Int.zero_le_ofNat, Int.reduceEq, Int.reduceNe, ne_eq, not_false_eq_true, u8_wrap, marksG_len, marks_len, bne_self_eq_false, take_map_len, tgL_byte, T.asArr, T.tg, tgL, indexAddrM, wk, wl, eq_self, isCall, callT, opM, S.ev, S.put, entryS, thawAL, thawA, RM.run, RM.bind, RM.ofOpt, allocs, Heap.ups, Heap.put, Heap.at, List.replicate, Nat.reduceAdd, Nat.reduceSub, ofConst, nilAs, if_false, if_true, binT, binTy, unT, guardT, quietK, reduceIte, boxM, allocM, loadM, storeM, fieldAddrM, lenT, extractT, subM, setOb, T.get, T.setp, T.offs, T.nw, nwL, T.cel, T.isNd, T.size, sizeL, TyI.agg, Ty.agg, Ty.isFn, zeroT, Nat.reduceLT, Nat.reduceEqDiff, sumT, kill]); (first | refine vpure_c hC1 (hK := ?_) | refine vpure_c hC2 (hK := ?_) | refine vpure_c hC3 (hK := ?_) | refine vpure_c hC4 (hK := ?_) | refine vpure_c hC5 (hK := ?_) | refine vpure_c hC6 (hK := ?_) | refine vpure_c hC7 (hK := ?_) | refine vpure_c hC8 (hK := ?_) | refine vpure_c hC9 (hK := ?_) | refine vpure_c hC10 (hK := ?_) | refine vpure_c hC11 (hK := ?_) | refine vpure_c hC12 (hK := ?_) | refine vpure_c hC13 (hK := ?_) | refine vpure_c hC14 (hK := ?_) | refine vpure_c (cx [] (hG1 _)) (hK := ?_) | refine vpure_c (cx [] (hG1 _ _)) (hK := ?_) | refine vpure_c (cx [] (hG1 _ _ _)) (hK := ?_) | refine vpure_c (cx [] (hG1 _ _ _ _)) (hK := ?_) | refine vpure_c (cx [] (hG2 _)) (hK := ?_) | refine vpure_c (cx [] (hG2 _ _)) (hK := ?_) | refine vpure_c (cx [] (hG2 _ _ _)) (hK := ?_) | refine vpure_c (cx [] (hG2 _ _ _ _)) (hK := ?_) | refine vpure_c (cx [] (hG3 _)) (hK := ?_) | refine vpure_c (cx [] (hG3 _ _)) (hK := ?_) | refine vpure_c (cx [] (hG3 _ _ _)) (hK := ?_) | refine vpure_c (cx [] (hG3 _ _ _ _)) (hK := ?_))) | (simp only [k8]; refine .inl ?_; refine ⟨fun hb => ?_, fun hb => ?_⟩ <;> (try replace hb := Bool.eq_false_iff.2 hb) <;> (first | exact absurd hb (by decide) | replace hk8 := hb))) <;> (simp only [k13, hk8, upT_g, dnT_g, nb_g, dnT_b, dnT_s, dnT_0, dnT_r, fx, fy, fz, wo, decide_true, decide_false, wz0, wz1, wz2, wz3, wz4, wz5, wz6, wz7, wz8, appM, Ty.isInt, capT, appendZM, buildM, setAll, plSt, plAr, mnmx, Int.reduceLT, vrec, List.drop_succ_cons, List.drop_zero, convertM, indexM, fieldM, Int.toNat_zero, Int.toNat_one, Int.le_refl, Int.zero_le_ofNat, Int.reduceEq, Int.reduceNe, ne_eq, not_false_eq_true, u8_wrap, marksG_len, marks_len, bne_self_eq_false, take_map_len, tgL_byte, T.asArr, T.tg, tgL, indexAddrM, wk, wl, eq_self, isCall, callT, opM, S.ev, S.put, entryS, thawAL, thawA, RM.run, RM.bind, RM.ofOpt, allocs, Heap.ups, Heap.put, Heap.at, List.replicate, Nat.reduceAdd, Nat.reduceSub, ofConst, nilAs, if_false, if_true, binT, binTy, unT, guardT, quietK, reduceIte, boxM, allocM, loadM, storeM, fieldAddrM, lenT, extractT, subM, setOb, T.get, T.setp, T.offs, T.nw, nwL, T.cel, T.isNd, T.size, sizeL, TyI.agg, Ty.agg, Ty.isFn, zeroT, Nat.reduceLT, Nat.reduceEqDiff, sumT, kill]; clear hk8; first | subst hy1 | (try simp only [thenS, blockS, if_true, if_false, Nat.reduceEqDiff, reduceIte]))) | (refine Chk.mk (by simp only [rdqs, rdq, k13, upT_g, dnT_g, nb_g, dnT_b, dnT_s, dnT_0, dnT_r, fx, fy, fz, wo, decide_true, decide_false, wz0, wz1, wz2, wz3, wz4, wz5, wz6, wz7, wz8, appM, Ty.isInt, capT, appendZM, buildM, setAll, plSt, plAr, mnmx, Int.reduceLT, vrec, List.drop_succ_cons, List.drop_zero, convertM, indexM, fieldM, Int.toNat_zero, Int.toNat_one, Int.le_refl, Int.zero_le_ofNat, Int.reduceEq, Int.reduceNe, ne_eq, not_false_eq_true, u8_wrap, marksG_len, marks_len, bne_self_eq_false, take_map_len, tgL_byte, T.asArr, T.tg, tgL, indexAddrM, wk, wl, eq_self, isCall, callT, opM, S.ev, S.put, entryS, thawAL, thawA, RM.run, RM.bind, RM.ofOpt, allocs, Heap.ups, Heap.put, Heap.at, List.replicate, Nat.reduceAdd, Nat.reduceSub, ofConst, nilAs, if_false, if_true, binT, binTy, unT, guardT, quietK, reduceIte, boxM, allocM, loadM, storeM, fieldAddrM, lenT, extractT, subM, setOb, T.get, T.setp, T.offs, T.nw, nwL, T.cel, T.isNd, T.size, sizeL, TyI.agg, Ty.agg, Ty.isFn, zeroT, Nat.reduceLT, Nat.reduceEqDiff, sumT, kill]; try trivial) ?_) | exact absurd trivial hb | exact absurd hb (by decide) | exact absurd hcc (by decide) | refine SW.seq ?_ | refine SW.block ?_ | (refine SW.cond rfl (fun hcc => ?_) (fun hcc => ?_)) | (refine SW.exit ?_; simp only [thenS, blockS, if_true, if_false, Nat.reduceEqDiff, reduceIte]) | (refine SW.skip ?_; simp only [thenS, blockS]) | exact SW.ret (RetQ.r hR) | (refine SW.ret (show RetQ _ _ _ _ _ _ _ from ⟨.inr rfl, [_], [1], [_], _, rfl, rfl, rfl, rfl, rfl, ?_⟩)) | (refine SW.ret (show RetQ _ _ _ _ _ _ _ from ⟨.inr rfl, [_, _], [0, 0], [_, _], _, rfl, rfl, rfl, rfl, rfl, ?_⟩)) | (refine SW.ret (show RetQ _ _ _ _ _ _ _ from ⟨.inr rfl, [_, _, _], [0, 0, 0], [_, _, _], _, rfl, rfl, rfl, rfl, rfl, ?_⟩)) | (refine SW.ret (show RetQ _ _ _ _ _ _ _ from ⟨.inr rfl, [_, _, _, _], [0, 0, 0, 0], [_, _, _, _], _, rfl, rfl, rfl, rfl, rfl, ?_⟩))) : A := k
end Q6

namespace Q6
open Go Go.Vm Go.Proofs
set_option maxHeartbeats 4000000
set_option synthInstance.maxSize 2000
set_option synthInstance.maxHeartbeats 400000
set_option maxRecDepth 10000
set_option linter.unusedSimpArgs false
set_option linter.unusedVariables false

theorem in_ok (a b c : Int) : CallR Try.prog 54 [.int .i64 a, .int .i64 b, .int .i64 c] [] (.bool (decide (a ≥ b) && decide (a ≤ c))) := by
  refine CallR.of_body (n := 15) (rs := [.tmp 6]) hY.ok Try.func54 rfl (by decide) rfl rfl rfl rfl (fun F => ?_)
  have fx := And.intro Y3 (Y4)
  have fy := Nat.add_zero
  refine goK ?_ ?_ ?_ ?_ ?_ ?_ ?_ ?_ ?_ ?_ ?_ ?_ ?_ ?_ ?_ ?_
  any_goals (first | exact True.intro | skip)
  all_goals (repeat (refine Wh.mk fun hcc => ?_))
  all_goals (first | rfl | ((try simp only [tupOf, fixEs]); (first | done | rfl | (simp_all []; done) | grind [])))
theorem l1In_ok (a b c : Int) : CallR Try.prog 122 [.int .i64 a, .int .i64 b, .int .i64 c] [] (.bool (decide (a ≥ b) && decide (a ≤ c))) := by
  refine CallR.of_body (n := 15) (rs := [.tmp 6]) hY.ok Try.func122 rfl (by decide) rfl rfl rfl rfl (fun F => ?_)
  have fx := And.intro Y3 (Y4)
  have fy := Nat.add_zero
  refine goK ?_ ?_ ?_ ?_ ?_ ?_ ?_ ?_ ?_ ?_ ?_ ?_ ?_ ?_ ?_ ?_
  any_goals (first | exact True.intro | skip)
  all_goals (repeat (refine Wh.mk fun hcc => ?_))
  all_goals (first | rfl | ((try simp only [tupOf, fixEs]); (first | done | rfl | (simp_all []; done) | grind [])))
theorem oid_ok (a : Int) : CallR Try.prog 51 [.int .i64 a] [] (.bool (decide (a ≥ 1) && decide (a ≤ 31))) := by
  refine CallR.of_body (n := 5) (rs := [.tmp 2]) hY.ok Try.func51 rfl (by decide) rfl rfl rfl rfl (fun F => ?_)
  have fx := And.intro Y3 (Y4)
  have hG1 := fun u1 u2 u3 => in_ok u1 u2 u3
  have fy := Nat.add_zero
  refine goK ?_ ?_ ?_ ?_ ?_ ?_ ?_ ?_ ?_ ?_ ?_ ?_ ?_ ?_ ?_ ?_
  any_goals (first | exact True.intro | skip)
  all_goals (repeat (refine Wh.mk fun hcc => ?_))
  all_goals (first | rfl | ((try simp only [tupOf, fixEs]); (first | done | rfl | (simp_all []; done) | grind [])))
end Q6

namespace Q6
open Go Go.Vm Go.Proofs
set_option maxHeartbeats 4000000
set_option synthInstance.maxSize 2000
set_option synthInstance.maxHeartbeats 400000
set_option maxRecDepth 10000
set_option linter.unusedSimpArgs false
set_option linter.unusedVariables false

theorem laws_toIntS_ok (l : List Int) (hl : Enc.lim 1048576 l) : CallR Try.prog 197 [.sl .b (l.map Enc.b)] [] (.ow 1 (l.map Enc.o)) := by
  refine CallR.of_body (n := 22) (rs := [.tmp 2]) hY.ok Try.func197 rfl (by decide) rfl rfl rfl rfl (fun F => ?_)
  have fx := And.intro Y3 (And.intro Y4 (Y27))
  have hl1 : l.length ≤ 1048576 := hl.1
  have fy := (fun u1 => mk_fill u1 27 l hl.1 (.int .i64 0) 1 8 _ Y27 Y3 rfl rfl (by decide))
  refine goN ?_ ?_ ?_ ?_ ?_ ?_ ?_ ?_ ?_ ?_ ?_ ?_ ?_ ?_ ?_ ?_
  any_goals (first | exact True.intro | skip)
  skip
  refine SW.loop (fun i : Nat => ⟨[.sl .b (l.map Enc.b), .undef, .undef, .ref 1 0 0 l.length, .int .i64 i, .undef, .undef, .undef, .undef, .undef, .undef, .undef, .undef, .undef, .undef, .undef, .undef, .undef, .undef, .undef, .undef, .undef], [[], [.arr 1 (fillG (.int .i64 0) l i) false]]⟩)
    (fun n i => n = l.length - i ∧ i ≤ l.length) (n := l.length) (x := 0) (Norm.to 0 rfl (by simp [weakL])) ⟨rfl, Nat.zero_le _⟩ ?_
  rintro n i ⟨hn, hi⟩
  have fy := Nat.add_zero
  refine goS ?_
  refine SW.cond rfl (fun hc => ?_) (fun hc => ?_)
  · have hlt : i < l.length := by simpa using hc
    have hltI : (i : Int) < (l.length : Int) := by omega
    have hg : (l.map Enc.b)[i]? = some (.int .i64 l[i]) := map_get Enc.b l i hlt
    have hf : (fillG (.int .i64 0) l i)[i]? = some (.int .i64 0) := fill_get _ l i hlt
    have hfl : (fillG (.int .i64 0) l i).length = l.length := fill_len _ l i hi
    have fy := And.intro hg (And.intro hf (And.intro hfl (And.intro hltI (Nat.zero_add))))
    refine goR ?_ ?_ ?_ ?_ ?_ ?_ ?_ ?_ ?_ ?_ ?_ ?_ ?_ ?_ ?_ ?_
    any_goals (first | exact True.intro | skip)
    all_goals (repeat (refine Wh.mk fun hcc => ?_))
    refine ⟨n - 1, i + 1, by omega, ⟨by omega, by omega⟩, ?_⟩
    rw [wrap64 _ (by omega) (by omega)]
    refine Norm.trans (Norm.fill (l := l) 1 0 rfl hlt (by first | rfl | (simp [soakS, soakL, Heap.at, Heap.put]; rfl))) ?_
    refine Norm.re [0, 1] (by decide) rfl ?_ (by simp [tmFits, T.ren])
    first | (simp [heapFits, rowFits, obFits, soakS, soakL, Heap.at, Heap.put]; exact renL_fill _ _ _ _ rfl) | exact ⟨trivial, ⟨rfl, rfl, renL_fill _ _ _ _ rfl⟩, trivial⟩
  · have hge : i = l.length := by
      have : ¬ i < l.length := by simpa using hc
      omega
    subst hge
    have fy := Nat.add_zero
    refine goR ?_ ?_ ?_ ?_ ?_ ?_ ?_ ?_ ?_ ?_ ?_ ?_ ?_ ?_ ?_ ?_
    any_goals (first | exact True.intro | skip)
    all_goals (repeat (refine Wh.mk fun hcc => ?_))
    refine SW.ret (show RetQ _ _ _ _ _ _ _ from ⟨.inr rfl, [.ref 1 0 0 l.length], [1], [.ow 1 (l.map Enc.o)], [[], [.gone]], ⟨rfl, ?_, rfl, ?_, rfl, rfl⟩⟩)
    · simp [pass1, modeOf, giveS, Heap.at, Heap.put, fill_all, fixEs, ioAt, ioAtT, ioKs, ioKT, ioM, ioT, T.cel, T.clo, T.cloA, cloAL]
    · simp [cloL, T.clo, T.clP, clPL]
theorem laws_toObj_ok (x : (Int × (List Int) × (List Int) × Unit)) (hx : Enc.lim 1048576 x) : CallR Try.prog 194 [.nd [.int .i64 x.1, .sl .b (x.2.1.map Enc.b), .sl .b (x.2.2.1.map Enc.b)]] [] (.nd [.int .i64 x.1, .ow 1 (x.2.1.map Enc.o), .ow 1 (x.2.2.1.map Enc.o)]) := by
  refine CallR.of_body (n := 16) (rs := [.cell 2 35]) hY.ok Try.func194 rfl (by decide) rfl rfl rfl rfl (fun F => ?_)
  have fx := And.intro Y1 (And.intro Y2 (And.intro Y3 (And.intro Y27 (And.intro Y35 (Y65)))))
  have hC1 := cx [] (laws_toIntS_ok x.2.1 hx.2.1)
  have hC2 := cx [] (laws_toIntS_ok x.2.2.1 hx.2.2.1)
  have fy := Nat.add_zero
  refine goR ?_ ?_ ?_ ?_ ?_ ?_ ?_ ?_ ?_ ?_ ?_ ?_ ?_ ?_ ?_ ?_
  any_goals (first | exact True.intro | skip)
  all_goals (repeat (refine Wh.mk fun hcc => ?_))
  refine SW.ret (show RetQ _ _ _ _ _ _ _ from ⟨.inr rfl, _, [0], [.nd [.int .i64 x.1, .ow 1 (x.2.1.map Enc.o), .ow 1 (x.2.2.1.map Enc.o)]], ?_, ⟨rfl, ?_, rfl, ?_, rfl, rfl⟩⟩)
  rotate_left
  · first | rfl | (simp [pass1, modeOf, giveS, giveSL, Heap.at, Heap.put, fixEs, ioAt, ioAtT, ioKs, ioKT, ioM, ioT, T.cel, T.clo, cloL, T.cloA, cloAL]; rfl)
  · first | rfl | simp [cloL, T.clo, T.clP, clPL]
theorem laws_toSlot_ok (x : (Bool × ((Int × (List Int) × (List Int) × Unit)) × Unit)) (hx : Enc.lim 1048576 x) : CallR Try.prog 191 [.nd [.bool x.1, .nd [.int .i64 x.2.1.1, .sl .b (x.2.1.2.1.map Enc.b), .sl .b (x.2.1.2.2.1.map Enc.b)]]] [] (.nd [.bool x.1, .nd [.int .i64 x.2.1.1, .ow 1 (x.2.1.2.1.map Enc.o), .ow 1 (x.2.1.2.2.1.map Enc.o)]]) := by
  refine CallR.of_body (n := 12) (rs := [.cell 2 37]) hY.ok Try.func191 rfl (by decide) rfl rfl rfl rfl (fun F => ?_)
  have fx := And.intro Y1 (And.intro Y3 (And.intro Y4 (And.intro Y27 (And.intro Y35 (And.intro Y37 (And.intro Y65 (Y67)))))))
  have hC1 := cx [] (laws_toObj_ok x.2.1 hx.2.1)
  have fy := Nat.add_zero
  refine goR ?_ ?_ ?_ ?_ ?_ ?_ ?_ ?_ ?_ ?_ ?_ ?_ ?_ ?_ ?_ ?_
  any_goals (first | exact True.intro | skip)
  all_goals (repeat (refine Wh.mk fun hcc => ?_))
  refine SW.ret (show RetQ _ _ _ _ _ _ _ from ⟨.inr rfl, _, [0], [.nd [.bool x.1, .nd [.int .i64 x.2.1.1, .ow 1 (x.2.1.2.1.map Enc.o), .ow 1 (x.2.1.2.2.1.map Enc.o)]]], ?_, ⟨rfl, ?_, rfl, ?_, rfl, rfl⟩⟩)
  rotate_left
  · first | rfl | (simp [pass1, modeOf, giveS, giveSL, Heap.at, Heap.put, fixEs, ioAt, ioAtT, ioKs, ioKT, ioM, ioT, T.cel, T.clo, cloL, T.cloA, cloAL]; rfl)
  · first | rfl | simp [cloL, T.clo, T.clP, clPL]
end Q6

namespace Q6
open Go Go.Vm Go.Proofs
set_option maxHeartbeats 4000000
set_option synthInstance.maxSize 2000
set_option synthInstance.maxHeartbeats 400000
set_option maxRecDepth 10000
set_option linter.unusedSimpArgs false
set_option linter.unusedVariables false

set_option synthInstance.maxHeartbeats 4000000
set_option synthInstance.maxSize 20000
theorem laws_toLive_ok (x : (Int × Int × Bool × Unit)) (hx : Enc.lim 1048576 x) : CallR Try.prog 159 [.nd [.int .i64 x.1, .int .i64 x.2.1, .bool x.2.2.1]] [] (.nd [.int .i64 x.1, .int .i64 x.2.1, .bool x.2.2.1]) := by
  refine CallR.of_body (n := 14) (rs := [.cell 2 197]) hY.ok Try.func159 rfl (by decide) rfl rfl rfl rfl (fun F => ?_)
  have fx := And.intro Y1 (And.intro Y2 (And.intro Y3 (And.intro Y4 (And.intro Y197 (Y199)))))
  have fy := Nat.add_zero
  refine goR ?_ ?_ ?_ ?_ ?_ ?_ ?_ ?_ ?_ ?_ ?_ ?_ ?_ ?_ ?_ ?_
  any_goals (first | exact True.intro | skip)
  all_goals (repeat (refine Wh.mk fun hcc => ?_))
  refine SW.ret (show RetQ _ _ _ _ _ _ _ from ⟨.inr rfl, _, [0], [.nd [.int .i64 x.1, .int .i64 x.2.1, .bool x.2.2.1]], ?_, ⟨rfl, ?_, rfl, ?_, rfl, rfl⟩⟩)
  rotate_left
  · first | rfl | (simp [pass1, modeOf, giveS, giveSL, Heap.at, Heap.put, fixEs, ioAt, ioAtT, ioKs, ioKT, ioM, ioT, T.cel, T.clo, cloL, T.cloA, cloAL]; rfl)
  · first | rfl | simp [cloL, T.clo, T.clP, clPL]
theorem laws_toLiveS_ok (l : List ((Int × Int × Bool × Unit))) (hl : Enc.lim 1048576 l) : CallR Try.prog 106 [.sl .b (l.map Enc.b)] [] (.ow 3 (l.map Enc.o)) := by
  refine CallR.of_body (n := 23) (rs := [.tmp 2]) hY.ok Try.func106 rfl (by decide) rfl rfl rfl rfl (fun F => ?_)
  have fx := And.intro Y3 (And.intro Y4 (And.intro Y78 (And.intro Y94 (And.intro Y197 (Y199)))))
  have hl1 : l.length ≤ 1048576 := hl.1
  have fy := (fun u1 => mk_fill u1 94 l hl.1 (.nd [.int .i64 0, .int .i64 0, .bool false]) 3 24 _ Y94 Y197 rfl rfl (by decide))
  refine goN ?_ ?_ ?_ ?_ ?_ ?_ ?_ ?_ ?_ ?_ ?_ ?_ ?_ ?_ ?_ ?_
  any_goals (first | exact True.intro | skip)
  skip
  refine SW.loop (fun i : Nat => ⟨[.sl .b (l.map Enc.b), .undef, .undef, .ref 1 0 0 l.length, .int .i64 i, .undef, .undef, .undef, .undef, .undef, .undef, .undef, .undef, .undef, .undef, .undef, .undef, .undef, .undef, .undef, .undef, .undef, .undef], [[], [.arr 3 (fillG (.nd [.int .i64 0, .int .i64 0, .bool false]) l i) false]]⟩)
    (fun n i => n = l.length - i ∧ i ≤ l.length) (n := l.length) (x := 0) (Norm.to 0 rfl (by simp [weakL])) ⟨rfl, Nat.zero_le _⟩ ?_
  rintro n i ⟨hn, hi⟩
  have fy := Nat.add_zero
  refine goS ?_
  refine SW.cond rfl (fun hc => ?_) (fun hc => ?_)
  · have hlt : i < l.length := by simpa using hc
    have hltI : (i : Int) < (l.length : Int) := by omega
    have hg : (l.map Enc.b)[i]? = some (.nd [.int .i64 l[i].1, .int .i64 l[i].2.1, .bool l[i].2.2.1]) := map_get Enc.b l i hlt
    have hf : (fillG (.nd [.int .i64 0, .int .i64 0, .bool false]) l i)[i]? = some (.nd [.int .i64 0, .int .i64 0, .bool false]) := fill_get _ l i hlt
    have hfl : (fillG (.nd [.int .i64 0, .int .i64 0, .bool false]) l i).length = l.length := fill_len _ l i hi
    have hC1 := cx [] (laws_toLive_ok l[i] (hl.2 _ (List.getElem_mem hlt)))
    have fy := And.intro hg (And.intro hf (And.intro hfl (And.intro hltI (Nat.zero_add))))
    refine goR ?_ ?_ ?_ ?_ ?_ ?_ ?_ ?_ ?_ ?_ ?_ ?_ ?_ ?_ ?_ ?_
    any_goals (first | exact True.intro | skip)
    all_goals (repeat (refine Wh.mk fun hcc => ?_))
    refine ⟨n - 1, i + 1, by omega, ⟨by omega, by omega⟩, ?_⟩
    rw [wrap64 _ (by omega) (by omega)]
    refine Norm.trans (Norm.fill (l := l) 1 0 rfl hlt (by first | rfl | (simp [soakS, soakL, Heap.at, Heap.put]; rfl))) ?_
    refine Norm.re [0, 1] (by decide) rfl ?_ (by simp [tmFits, T.ren])
    first | (simp [heapFits, rowFits, obFits, soakS, soakL, Heap.at, Heap.put]; exact renL_fill _ _ _ _ rfl) | exact ⟨trivial, ⟨rfl, rfl, renL_fill _ _ _ _ rfl⟩, trivial⟩
  · have hge : i = l.length := by
      have : ¬ i < l.length := by simpa using hc
      omega
    subst hge
    have fy := Nat.add_zero
    refine goR ?_ ?_ ?_ ?_ ?_ ?_ ?_ ?_ ?_ ?_ ?_ ?_ ?_ ?_ ?_ ?_
    any_goals (first | exact True.intro | skip)
    all_goals (repeat (refine Wh.mk fun hcc => ?_))
    refine SW.ret (show RetQ _ _ _ _ _ _ _ from ⟨.inr rfl, [.ref 1 0 0 l.length], [3], [.ow 3 (l.map Enc.o)], [[], [.gone]], ⟨rfl, ?_, rfl, ?_, rfl, rfl⟩⟩)
    · simp [pass1, modeOf, giveS, Heap.at, Heap.put, fill_all, fixEs, ioAt, ioAtT, ioKs, ioKT, ioM, ioT, T.cel, T.clo, T.cloA, cloAL]
    · simp [cloL, T.clo, T.clP, clPL]
theorem laws_toHold_ok (x : (Int × Int × Unit)) (hx : Enc.lim 1048576 x) : CallR Try.prog 160 [.nd [.int .i64 x.1, .int .i64 x.2.1]] [] (.nd [.int .i64 x.1, .int .i64 x.2.1]) := by
  refine CallR.of_body (n := 11) (rs := [.cell 2 165]) hY.ok Try.func160 rfl (by decide) rfl rfl rfl rfl (fun F => ?_)
  have fx := And.intro Y1 (And.intro Y3 (And.intro Y165 (Y201)))
  have fy := Nat.add_zero
  refine goR ?_ ?_ ?_ ?_ ?_ ?_ ?_ ?_ ?_ ?_ ?_ ?_ ?_ ?_ ?_ ?_
  any_goals (first | exact True.intro | skip)
  all_goals (repeat (refine Wh.mk fun hcc => ?_))
  refine SW.ret (show RetQ _ _ _ _ _ _ _ from ⟨.inr rfl, _, [0], [.nd [.int .i64 x.1, .int .i64 x.2.1]], ?_, ⟨rfl, ?_, rfl, ?_, rfl, rfl⟩⟩)
  rotate_left
  · first | rfl | (simp [pass1, modeOf, giveS, giveSL, Heap.at, Heap.put, fixEs, ioAt, ioAtT, ioKs, ioKT, ioM, ioT, T.cel, T.clo, cloL, T.cloA, cloAL]; rfl)
  · first | rfl | simp [cloL, T.clo, T.clP, clPL]
theorem laws_toHoldS_ok (l : List ((Int × Int × Unit))) (hl : Enc.lim 1048576 l) : CallR Try.prog 107 [.sl .b (l.map Enc.b)] [] (.ow 2 (l.map Enc.o)) := by
  refine CallR.of_body (n := 23) (rs := [.tmp 2]) hY.ok Try.func107 rfl (by decide) rfl rfl rfl rfl (fun F => ?_)
  have fx := And.intro Y3 (And.intro Y4 (And.intro Y79 (And.intro Y95 (And.intro Y165 (Y201)))))
  have hl1 : l.length ≤ 1048576 := hl.1
  have fy := (fun u1 => mk_fill u1 95 l hl.1 (.nd [.int .i64 0, .int .i64 0]) 2 16 _ Y95 Y165 rfl rfl (by decide))
  refine goN ?_ ?_ ?_ ?_ ?_ ?_ ?_ ?_ ?_ ?_ ?_ ?_ ?_ ?_ ?_ ?_
  any_goals (first | exact True.intro | skip)
  skip
  refine SW.loop (fun i : Nat => ⟨[.sl .b (l.map Enc.b), .undef, .undef, .ref 1 0 0 l.length, .int .i64 i, .undef, .undef, .undef, .undef, .undef, .undef, .undef, .undef, .undef, .undef, .undef, .undef, .undef, .undef, .undef, .undef, .undef, .undef], [[], [.arr 2 (fillG (.nd [.int .i64 0, .int .i64 0]) l i) false]]⟩)
    (fun n i => n = l.length - i ∧ i ≤ l.length) (n := l.length) (x := 0) (Norm.to 0 rfl (by simp [weakL])) ⟨rfl, Nat.zero_le _⟩ ?_
  rintro n i ⟨hn, hi⟩
  have fy := Nat.add_zero
  refine goS ?_
  refine SW.cond rfl (fun hc => ?_) (fun hc => ?_)
  · have hlt : i < l.length := by simpa using hc
    have hltI : (i : Int) < (l.length : Int) := by omega
    have hg : (l.map Enc.b)[i]? = some (.nd [.int .i64 l[i].1, .int .i64 l[i].2.1]) := map_get Enc.b l i hlt
    have hf : (fillG (.nd [.int .i64 0, .int .i64 0]) l i)[i]? = some (.nd [.int .i64 0, .int .i64 0]) := fill_get _ l i hlt
    have hfl : (fillG (.nd [.int .i64 0, .int .i64 0]) l i).length = l.length := fill_len _ l i hi
    have hC1 := cx [] (laws_toHold_ok l[i] (hl.2 _ (List.getElem_mem hlt)))
    have fy := And.intro hg (And.intro hf (And.intro hfl (And.intro hltI (Nat.zero_add))))
    refine goR ?_ ?_ ?_ ?_ ?_ ?_ ?_ ?_ ?_ ?_ ?_ ?_ ?_ ?_ ?_ ?_
    any_goals (first | exact True.intro | skip)
    all_goals (repeat (refine Wh.mk fun hcc => ?_))
    refine ⟨n - 1, i + 1, by omega, ⟨by omega, by omega⟩, ?_⟩
    rw [wrap64 _ (by omega) (by omega)]
    refine Norm.trans (Norm.fill (l := l) 1 0 rfl hlt (by first | rfl | (simp [soakS, soakL, Heap.at, Heap.put]; rfl))) ?_
    refine Norm.re [0, 1] (by decide) rfl ?_ (by simp [tmFits, T.ren])
    first | (simp [heapFits, rowFits, obFits, soakS, soakL, Heap.at, Heap.put]; exact renL_fill _ _ _ _ rfl) | exact ⟨trivial, ⟨rfl, rfl, renL_fill _ _ _ _ rfl⟩, trivial⟩
  · have hge : i = l.length := by
      have : ¬ i < l.length := by simpa using hc
      omega
    subst hge
    have fy := Nat.add_zero
    refine goR ?_ ?_ ?_ ?_ ?_ ?_ ?_ ?_ ?_ ?_ ?_ ?_ ?_ ?_ ?_ ?_
    any_goals (first | exact True.intro | skip)
    all_goals (repeat (refine Wh.mk fun hcc => ?_))
    refine SW.ret (show RetQ _ _ _ _ _ _ _ from ⟨.inr rfl, [.ref 1 0 0 l.length], [2], [.ow 2 (l.map Enc.o)], [[], [.gone]], ⟨rfl, ?_, rfl, ?_, rfl, rfl⟩⟩)
    · simp [pass1, modeOf, giveS, Heap.at, Heap.put, fill_all, fixEs, ioAt, ioAtT, ioKs, ioKT, ioM, ioT, T.cel, T.clo, T.cloA, cloAL]
    · simp [cloL, T.clo, T.clP, clPL]
theorem laws_toSlotA4_ok (x : (((Bool × ((Int × (List Int) × (List Int) × Unit)) × Unit)) × ((Bool × ((Int × (List Int) × (List Int) × Unit)) × Unit)) × ((Bool × ((Int × (List Int) × (List Int) × Unit)) × Unit)) × ((Bool × ((Int × (List Int) × (List Int) × Unit)) × Unit)) × Unit)) (hx : Enc.lim 1048576 x) : CallR Try.prog 180 [.nd [.nd [.bool x.1.1, .nd [.int .i64 x.1.2.1.1, .sl .b (x.1.2.1.2.1.map Enc.b), .sl .b (x.1.2.1.2.2.1.map Enc.b)]], .nd [.bool x.2.1.1, .nd [.int .i64 x.2.1.2.1.1, .sl .b (x.2.1.2.1.2.1.map Enc.b), .sl .b (x.2.1.2.1.2.2.1.map Enc.b)]], .nd [.bool x.2.2.1.1, .nd [.int .i64 x.2.2.1.2.1.1, .sl .b (x.2.2.1.2.1.2.1.map Enc.b), .sl .b (x.2.2.1.2.1.2.2.1.map Enc.b)]], .nd [.bool x.2.2.2.1.1, .nd [.int .i64 x.2.2.2.1.2.1.1, .sl .b (x.2.2.2.1.2.1.2.1.map Enc.b), .sl .b (x.2.2.2.1.2.1.2.2.1.map Enc.b)]]]] [] (.nd [.nd [.bool x.1.1, .nd [.int .i64 x.1.2.1.1, .ow 1 (x.1.2.1.2.1.map Enc.o), .ow 1 (x.1.2.1.2.2.1.map Enc.o)]], .nd [.bool x.2.1.1, .nd [.int .i64 x.2.1.2.1.1, .ow 1 (x.2.1.2.1.2.1.map Enc.o), .ow 1 (x.2.1.2.1.2.2.1.map Enc.o)]], .nd [.bool x.2.2.1.1, .nd [.int .i64 x.2.2.1.2.1.1, .ow 1 (x.2.2.1.2.1.2.1.map Enc.o), .ow 1 (x.2.2.1.2.1.2.2.1.map Enc.o)]], .nd [.bool x.2.2.2.1.1, .nd [.int .i64 x.2.2.2.1.2.1.1, .ow 1 (x.2.2.2.1.2.1.2.1.map Enc.o), .ow 1 (x.2.2.2.1.2.1.2.2.1.map Enc.o)]]]) := by
  refine CallR.of_body (n := 16) (rs := [.cell 2 84]) hY.ok Try.func180 rfl (by decide) rfl rfl rfl rfl (fun F => ?_)
  have fx := And.intro Y3 (And.intro Y4 (And.intro Y27 (And.intro Y35 (And.intro Y37 (And.intro Y65 (And.intro Y67 (And.intro Y68 (Y84))))))))
  have c0 := laws_toSlot_ok x.1 hx.1
  have c1 := laws_toSlot_ok x.2.1 hx.2.1
  have c2 := laws_toSlot_ok x.2.2.1 hx.2.2.1
  have c3 := laws_toSlot_ok x.2.2.2.1 hx.2.2.2.1
  clear hx
  obtain ⟨⟨p0, ⟨k0, A0, B0, ⟨⟩⟩, ⟨⟩⟩, ⟨p1, ⟨k1, A1, B1, ⟨⟩⟩, ⟨⟩⟩, ⟨p2, ⟨k2, A2, B2, ⟨⟩⟩, ⟨⟩⟩, ⟨p3, ⟨k3, A3, B3, ⟨⟩⟩, ⟨⟩⟩, ⟨⟩⟩ := x
  simp only at c0 c1 c2 c3 ⊢
  have hC1 := cx [] (c0)
  have hC2 := cx [] (c1)
  have hC3 := cx [] (c2)
  have hC4 := cx [] (c3)
  have fy := And.intro nc4 (And.intro nc8 (And.intro wa (tn)))
  refine goU ?_ ?_ ?_ ?_ ?_ ?_ ?_ ?_ ?_ ?_ ?_ ?_ ?_ ?_ ?_ ?_
  any_goals (first | exact True.intro | skip)
  all_goals (repeat (refine Wh.mk fun hcc => ?_))
  all_goals exact SW.ret (show RetQ _ _ _ _ _ _ _ from RetQ.y [0] [.nd [.nd [.bool p0, .nd [.int .i64 k0, .ow 1 (A0.map Enc.o), .ow 1 (B0.map Enc.o)]], .nd [.bool p1, .nd [.int .i64 k1, .ow 1 (A1.map Enc.o), .ow 1 (B1.map Enc.o)]], .nd [.bool p2, .nd [.int .i64 k2, .ow 1 (A2.map Enc.o), .ow 1 (B2.map Enc.o)]], .nd [.bool p3, .nd [.int .i64 k3, .ow 1 (A3.map Enc.o), .ow 1 (B3.map Enc.o)]]]])
theorem laws_toPage_ok (x : (Int × ((((Bool × ((Int × (List Int) × (List Int) × Unit)) × Unit)) × ((Bool × ((Int × (List Int) × (List Int) × Unit)) × Unit)) × ((Bool × ((Int × (List Int) × (List Int) × Unit)) × Unit)) × ((Bool × ((Int × (List Int) × (List Int) × Unit)) × Unit)) × Unit)) × Unit)) (hx : Enc.lim 1048576 x) : CallR Try.prog 156 [.nd [.int .i64 x.1, .nd [.nd [.bool x.2.1.1.1, .nd [.int .i64 x.2.1.1.2.1.1, .sl .b (x.2.1.1.2.1.2.1.map Enc.b), .sl .b (x.2.1.1.2.1.2.2.1.map Enc.b)]], .nd [.bool x.2.1.2.1.1, .nd [.int .i64 x.2.1.2.1.2.1.1, .sl .b (x.2.1.2.1.2.1.2.1.map Enc.b), .sl .b (x.2.1.2.1.2.1.2.2.1.map Enc.b)]], .nd [.bool x.2.1.2.2.1.1, .nd [.int .i64 x.2.1.2.2.1.2.1.1, .sl .b (x.2.1.2.2.1.2.1.2.1.map Enc.b), .sl .b (x.2.1.2.2.1.2.1.2.2.1.map Enc.b)]], .nd [.bool x.2.1.2.2.2.1.1, .nd [.int .i64 x.2.1.2.2.2.1.2.1.1, .sl .b (x.2.1.2.2.2.1.2.1.2.1.map Enc.b), .sl .b (x.2.1.2.2.2.1.2.1.2.2.1.map Enc.b)]]]]] [] (.nd [.int .i64 x.1, .nd [.nd [.bool x.2.1.1.1, .nd [.int .i64 x.2.1.1.2.1.1, .ow 1 (x.2.1.1.2.1.2.1.map Enc.o), .ow 1 (x.2.1.1.2.1.2.2.1.map Enc.o)]], .nd [.bool x.2.1.2.1.1, .nd [.int .i64 x.2.1.2.1.2.1.1, .ow 1 (x.2.1.2.1.2.1.2.1.map Enc.o), .ow 1 (x.2.1.2.1.2.1.2.2.1.map Enc.o)]], .nd [.bool x.2.1.2.2.1.1, .nd [.int .i64 x.2.1.2.2.1.2.1.1, .ow 1 (x.2.1.2.2.1.2.1.2.1.map Enc.o), .ow 1 (x.2.1.2.2.1.2.1.2.2.1.map Enc.o)]], .nd [.bool x.2.1.2.2.2.1.1, .nd [.int .i64 x.2.1.2.2.2.1.2.1.1, .ow 1 (x.2.1.2.2.2.1.2.1.2.1.map Enc.o), .ow 1 (x.2.1.2.2.2.1.2.1.2.2.1.map Enc.o)]]]]) := by
  refine CallR.of_body (n := 12) (rs := [.cell 2 86]) hY.ok Try.func156 rfl (by decide) rfl rfl rfl rfl (fun F => ?_)
  have fx := And.intro Y1 (And.intro Y3 (And.intro Y4 (And.intro Y27 (And.intro Y35 (And.intro Y37 (And.intro Y65 (And.intro Y67 (And.intro Y68 (And.intro Y70 (And.intro Y84 (Y86)))))))))))
  have hC1 := cx [] (laws_toSlotA4_ok x.2.1 hx.2.1)
  have fy := Nat.add_zero
  refine goR ?_ ?_ ?_ ?_ ?_ ?_ ?_ ?_ ?_ ?_ ?_ ?_ ?_ ?_ ?_ ?_
  any_goals (first | exact True.intro | skip)
  all_goals (repeat (refine Wh.mk fun hcc => ?_))
  refine SW.ret (show RetQ _ _ _ _ _ _ _ from ⟨.inr rfl, _, [0], [.nd [.int .i64 x.1, .nd [.nd [.bool x.2.1.1.1, .nd [.int .i64 x.2.1.1.2.1.1, .ow 1 (x.2.1.1.2.1.2.1.map Enc.o), .ow 1 (x.2.1.1.2.1.2.2.1.map Enc.o)]], .nd [.bool x.2.1.2.1.1, .nd [.int .i64 x.2.1.2.1.2.1.1, .ow 1 (x.2.1.2.1.2.1.2.1.map Enc.o), .ow 1 (x.2.1.2.1.2.1.2.2.1.map Enc.o)]], .nd [.bool x.2.1.2.2.1.1, .nd [.int .i64 x.2.1.2.2.1.2.1.1, .ow 1 (x.2.1.2.2.1.2.1.2.1.map Enc.o), .ow 1 (x.2.1.2.2.1.2.1.2.2.1.map Enc.o)]], .nd [.bool x.2.1.2.2.2.1.1, .nd [.int .i64 x.2.1.2.2.2.1.2.1.1, .ow 1 (x.2.1.2.2.2.1.2.1.2.1.map Enc.o), .ow 1 (x.2.1.2.2.2.1.2.1.2.2.1.map Enc.o)]]]]], ?_, ⟨rfl, ?_, rfl, ?_, rfl, rfl⟩⟩)
  rotate_left
  · first | rfl | (simp [pass1, modeOf, giveS, giveSL, Heap.at, Heap.put, fixEs, ioAt, ioAtT, ioKs, ioKT, ioM, ioT, T.cel, T.clo, cloL, T.cloA, cloAL]; rfl)
  · first | rfl | simp [cloL, T.clo, T.clP, clPL]
end Q6

namespace Q6
open Go Go.Vm Go.Proofs
set_option maxHeartbeats 4000000
set_option synthInstance.maxSize 2000
set_option synthInstance.maxHeartbeats 400000
set_option maxRecDepth 10000
set_option linter.unusedSimpArgs false
set_option linter.unusedVariables false

set_option synthInstance.maxHeartbeats 4000000
set_option synthInstance.maxSize 20000
theorem laws_toSeat_ok (x : (Int × ((Int × ((((Bool × ((Int × (List Int) × (List Int) × Unit)) × Unit)) × ((Bool × ((Int × (List Int) × (List Int) × Unit)) × Unit)) × ((Bool × ((Int × (List Int) × (List Int) × Unit)) × Unit)) × ((Bool × ((Int × (List Int) × (List Int) × Unit)) × Unit)) × Unit)) × Unit)) × Bool × Bool × Unit)) (hx : Enc.lim 1048576 x) : CallR Try.prog 181 [.nd [.int .i64 x.1, .nd [.int .i64 x.2.1.1, .nd [.nd [.bool x.2.1.2.1.1.1, .nd [.int .i64 x.2.1.2.1.1.2.1.1, .sl .b (x.2.1.2.1.1.2.1.2.1.map Enc.b), .sl .b (x.2.1.2.1.1.2.1.2.2.1.map Enc.b)]], .nd [.bool x.2.1.2.1.2.1.1, .nd [.int .i64 x.2.1.2.1.2.1.2.1.1, .sl .b (x.2.1.2.1.2.1.2.1.2.1.map Enc.b), .sl .b (x.2.1.2.1.2.1.2.1.2.2.1.map Enc.b)]], .nd [.bool x.2.1.2.1.2.2.1.1, .nd [.int .i64 x.2.1.2.1.2.2.1.2.1.1, .sl .b (x.2.1.2.1.2.2.1.2.1.2.1.map Enc.b), .sl .b (x.2.1.2.1.2.2.1.2.1.2.2.1.map Enc.b)]], .nd [.bool x.2.1.2.1.2.2.2.1.1, .nd [.int .i64 x.2.1.2.1.2.2.2.1.2.1.1, .sl .b (x.2.1.2.1.2.2.2.1.2.1.2.1.map Enc.b), .sl .b (x.2.1.2.1.2.2.2.1.2.1.2.2.1.map Enc.b)]]]], .bool x.2.2.1, .bool x.2.2.2.1]] [] (.nd [.int .i64 x.1, .nd [.int .i64 x.2.1.1, .nd [.nd [.bool x.2.1.2.1.1.1, .nd [.int .i64 x.2.1.2.1.1.2.1.1, .ow 1 (x.2.1.2.1.1.2.1.2.1.map Enc.o), .ow 1 (x.2.1.2.1.1.2.1.2.2.1.map Enc.o)]], .nd [.bool x.2.1.2.1.2.1.1, .nd [.int .i64 x.2.1.2.1.2.1.2.1.1, .ow 1 (x.2.1.2.1.2.1.2.1.2.1.map Enc.o), .ow 1 (x.2.1.2.1.2.1.2.1.2.2.1.map Enc.o)]], .nd [.bool x.2.1.2.1.2.2.1.1, .nd [.int .i64 x.2.1.2.1.2.2.1.2.1.1, .ow 1 (x.2.1.2.1.2.2.1.2.1.2.1.map Enc.o), .ow 1 (x.2.1.2.1.2.2.1.2.1.2.2.1.map Enc.o)]], .nd [.bool x.2.1.2.1.2.2.2.1.1, .nd [.int .i64 x.2.1.2.1.2.2.2.1.2.1.1, .ow 1 (x.2.1.2.1.2.2.2.1.2.1.2.1.map Enc.o), .ow 1 (x.2.1.2.1.2.2.2.1.2.1.2.2.1.map Enc.o)]]]], .bool x.2.2.1, .bool x.2.2.2.1]) := by
  refine CallR.of_body (n := 18) (rs := [.cell 2 192]) hY.ok Try.func181 rfl (by decide) rfl rfl rfl rfl (fun F => ?_)
  have fx := And.intro Y1 (And.intro Y2 (And.intro Y3 (And.intro Y4 (And.intro Y27 (And.intro Y35 (And.intro Y37 (And.intro Y65 (And.intro Y67 (And.intro Y68 (And.intro Y70 (And.intro Y84 (And.intro Y86 (And.intro Y192 (Y215))))))))))))))
  have hC1 := cx [] (laws_toPage_ok x.2.1 hx.2.1)
  have fy := Nat.add_zero
  refine goR ?_ ?_ ?_ ?_ ?_ ?_ ?_ ?_ ?_ ?_ ?_ ?_ ?_ ?_ ?_ ?_
  any_goals (first | exact True.intro | skip)
  all_goals (repeat (refine Wh.mk fun hcc => ?_))
  refine SW.ret (show RetQ _ _ _ _ _ _ _ from ⟨.inr rfl, _, [0], [.nd [.int .i64 x.1, .nd [.int .i64 x.2.1.1, .nd [.nd [.bool x.2.1.2.1.1.1, .nd [.int .i64 x.2.1.2.1.1.2.1.1, .ow 1 (x.2.1.2.1.1.2.1.2.1.map Enc.o), .ow 1 (x.2.1.2.1.1.2.1.2.2.1.map Enc.o)]], .nd [.bool x.2.1.2.1.2.1.1, .nd [.int .i64 x.2.1.2.1.2.1.2.1.1, .ow 1 (x.2.1.2.1.2.1.2.1.2.1.map Enc.o), .ow 1 (x.2.1.2.1.2.1.2.1.2.2.1.map Enc.o)]], .nd [.bool x.2.1.2.1.2.2.1.1, .nd [.int .i64 x.2.1.2.1.2.2.1.2.1.1, .ow 1 (x.2.1.2.1.2.2.1.2.1.2.1.map Enc.o), .ow 1 (x.2.1.2.1.2.2.1.2.1.2.2.1.map Enc.o)]], .nd [.bool x.2.1.2.1.2.2.2.1.1, .nd [.int .i64 x.2.1.2.1.2.2.2.1.2.1.1, .ow 1 (x.2.1.2.1.2.2.2.1.2.1.2.1.map Enc.o), .ow 1 (x.2.1.2.1.2.2.2.1.2.1.2.2.1.map Enc.o)]]]], .bool x.2.2.1, .bool x.2.2.2.1]], ?_, ⟨rfl, ?_, rfl, ?_, rfl, rfl⟩⟩)
  rotate_left
  · first | rfl | (simp [pass1, modeOf, giveS, giveSL, Heap.at, Heap.put, fixEs, ioAt, ioAtT, ioKs, ioKT, ioM, ioT, T.cel, T.clo, cloL, T.cloA, cloAL]; rfl)
  · first | rfl | simp [cloL, T.clo, T.clP, clPL]
theorem laws_toSeatS_ok (l : List ((Int × ((Int × ((((Bool × ((Int × (List Int) × (List Int) × Unit)) × Unit)) × ((Bool × ((Int × (List Int) × (List Int) × Unit)) × Unit)) × ((Bool × ((Int × (List Int) × (List Int) × Unit)) × Unit)) × ((Bool × ((Int × (List Int) × (List Int) × Unit)) × Unit)) × Unit)) × Unit)) × Bool × Bool × Unit))) (hl : Enc.lim 1048576 l) : CallR Try.prog 157 [.sl .b (l.map Enc.b)] [] (.ow 20 (l.map Enc.o)) := by
  refine CallR.of_body (n := 23) (rs := [.tmp 2]) hY.ok Try.func157 rfl (by decide) rfl rfl rfl rfl (fun F => ?_)
  have fx := And.intro Y3 (And.intro Y4 (And.intro Y27 (And.intro Y35 (And.intro Y37 (And.intro Y65 (And.intro Y67 (And.intro Y68 (And.intro Y70 (And.intro Y72 (And.intro Y84 (And.intro Y86 (And.intro Y88 (And.intro Y192 (Y215))))))))))))))
  have hl1 : l.length ≤ 1048576 := hl.1
  have fy := (fun u1 => mk_fill u1 88 l hl.1 (.nd [.int .i64 0, .nd [.int .i64 0, .nd [.nd [.bool false, .nd [.int .i64 0, .nils 1, .nils 1]], .nd [.bool false, .nd [.int .i64 0, .nils 1, .nils 1]], .nd [.bool false, .nd [.int .i64 0, .nils 1, .nils 1]], .nd [.bool false, .nd [.int .i64 0, .nils 1, .nils 1]]]], .bool false, .bool false]) 20 280 _ Y88 Y192 rfl rfl (by decide))
  refine goN ?_ ?_ ?_ ?_ ?_ ?_ ?_ ?_ ?_ ?_ ?_ ?_ ?_ ?_ ?_ ?_
  any_goals (first | exact True.intro | skip)
  skip
  refine SW.loop (fun i : Nat => ⟨[.sl .b (l.map Enc.b), .undef, .undef, .ref 1 0 0 l.length, .int .i64 i, .undef, .undef, .undef, .undef, .undef, .undef, .undef, .undef, .undef, .undef, .undef, .undef, .undef, .undef, .undef, .undef, .undef, .undef], [[], [.arr 20 (fillG (.nd [.int .i64 0, .nd [.int .i64 0, .nd [.nd [.bool false, .nd [.int .i64 0, .nils 1, .nils 1]], .nd [.bool false, .nd [.int .i64 0, .nils 1, .nils 1]], .nd [.bool false, .nd [.int .i64 0, .nils 1, .nils 1]], .nd [.bool false, .nd [.int .i64 0, .nils 1, .nils 1]]]], .bool false, .bool false]) l i) false]]⟩)
    (fun n i => n = l.length - i ∧ i ≤ l.length) (n := l.length) (x := 0) (Norm.to 0 rfl (by simp [weakL])) ⟨rfl, Nat.zero_le _⟩ ?_
  rintro n i ⟨hn, hi⟩
  have fy := Nat.add_zero
  refine goS ?_
  refine SW.cond rfl (fun hc => ?_) (fun hc => ?_)
  · have hlt : i < l.length := by simpa using hc
    have hltI : (i : Int) < (l.length : Int) := by omega
    have hg : (l.map Enc.b)[i]? = some (.nd [.int .i64 l[i].1, .nd [.int .i64 l[i].2.1.1, .nd [.nd [.bool l[i].2.1.2.1.1.1, .nd [.int .i64 l[i].2.1.2.1.1.2.1.1, .sl .b (l[i].2.1.2.1.1.2.1.2.1.map Enc.b), .sl .b (l[i].2.1.2.1.1.2.1.2.2.1.map Enc.b)]], .nd [.bool l[i].2.1.2.1.2.1.1, .nd [.int .i64 l[i].2.1.2.1.2.1.2.1.1, .sl .b (l[i].2.1.2.1.2.1.2.1.2.1.map Enc.b), .sl .b (l[i].2.1.2.1.2.1.2.1.2.2.1.map Enc.b)]], .nd [.bool l[i].2.1.2.1.2.2.1.1, .nd [.int .i64 l[i].2.1.2.1.2.2.1.2.1.1, .sl .b (l[i].2.1.2.1.2.2.1.2.1.2.1.map Enc.b), .sl .b (l[i].2.1.2.1.2.2.1.2.1.2.2.1.map Enc.b)]], .nd [.bool l[i].2.1.2.1.2.2.2.1.1, .nd [.int .i64 l[i].2.1.2.1.2.2.2.1.2.1.1, .sl .b (l[i].2.1.2.1.2.2.2.1.2.1.2.1.map Enc.b), .sl .b (l[i].2.1.2.1.2.2.2.1.2.1.2.2.1.map Enc.b)]]]], .bool l[i].2.2.1, .bool l[i].2.2.2.1]) := map_get Enc.b l i hlt
    have hf : (fillG (.nd [.int .i64 0, .nd [.int .i64 0, .nd [.nd [.bool false, .nd [.int .i64 0, .nils 1, .nils 1]], .nd [.bool false, .nd [.int .i64 0, .nils 1, .nils 1]], .nd [.bool false, .nd [.int .i64 0, .nils 1, .nils 1]], .nd [.bool false, .nd [.int .i64 0, .nils 1, .nils 1]]]], .bool false, .bool false]) l i)[i]? = some (.nd [.int .i64 0, .nd [.int .i64 0, .nd [.nd [.bool false, .nd [.int .i64 0, .nils 1, .nils 1]], .nd [.bool false, .nd [.int .i64 0, .nils 1, .nils 1]], .nd [.bool false, .nd [.int .i64 0, .nils 1, .nils 1]], .nd [.bool false, .nd [.int .i64 0, .nils 1, .nils 1]]]], .bool false, .bool false]) := fill_get _ l i hlt
    have hfl : (fillG (.nd [.int .i64 0, .nd [.int .i64 0, .nd [.nd [.bool false, .nd [.int .i64 0, .nils 1, .nils 1]], .nd [.bool false, .nd [.int .i64 0, .nils 1, .nils 1]], .nd [.bool false, .nd [.int .i64 0, .nils 1, .nils 1]], .nd [.bool false, .nd [.int .i64 0, .nils 1, .nils 1]]]], .bool false, .bool false]) l i).length = l.length := fill_len _ l i hi
    have hC1 := cx [] (laws_toSeat_ok l[i] (hl.2 _ (List.getElem_mem hlt)))
    have fy := And.intro hg (And.intro hf (And.intro hfl (And.intro hltI (Nat.zero_add))))
    refine goR ?_ ?_ ?_ ?_ ?_ ?_ ?_ ?_ ?_ ?_ ?_ ?_ ?_ ?_ ?_ ?_
    any_goals (first | exact True.intro | skip)
    all_goals (repeat (refine Wh.mk fun hcc => ?_))
    refine ⟨n - 1, i + 1, by omega, ⟨by omega, by omega⟩, ?_⟩
    rw [wrap64 _ (by omega) (by omega)]
    refine Norm.trans (Norm.fill (l := l) 1 0 rfl hlt (by first | rfl | (simp [soakS, soakL, Heap.at, Heap.put]; rfl))) ?_
    refine Norm.re [0, 1] (by decide) rfl ?_ (by simp [tmFits, T.ren])
    first | (simp [heapFits, rowFits, obFits, soakS, soakL, Heap.at, Heap.put]; exact renL_fill _ _ _ _ rfl) | exact ⟨trivial, ⟨rfl, rfl, renL_fill _ _ _ _ rfl⟩, trivial⟩
  · have hge : i = l.length := by
      have : ¬ i < l.length := by simpa using hc
      omega
    subst hge
    have fy := Nat.add_zero
    refine goR ?_ ?_ ?_ ?_ ?_ ?_ ?_ ?_ ?_ ?_ ?_ ?_ ?_ ?_ ?_ ?_
    any_goals (first | exact True.intro | skip)
    all_goals (repeat (refine Wh.mk fun hcc => ?_))
    refine SW.ret (show RetQ _ _ _ _ _ _ _ from ⟨.inr rfl, [.ref 1 0 0 l.length], [20], [.ow 20 (l.map Enc.o)], [[], [.gone]], ⟨rfl, ?_, rfl, ?_, rfl, rfl⟩⟩)
    · simp [pass1, modeOf, giveS, Heap.at, Heap.put, fill_all, fixEs, ioAt, ioAtT, ioKs, ioKT, ioM, ioT, T.cel, T.clo, T.cloA, cloAL]
    · simp [cloL, T.clo, T.clP, clPL]
theorem laws_toPool_ok (x : ((List ((Int × ((Int × ((((Bool × ((Int × (List Int) × (List Int) × Unit)) × Unit)) × ((Bool × ((Int × (List Int) × (List Int) × Unit)) × Unit)) × ((Bool × ((Int × (List Int) × (List Int) × Unit)) × Unit)) × ((Bool × ((Int × (List Int) × (List Int) × Unit)) × Unit)) × Unit)) × Unit)) × Bool × Bool × Unit))) × Int × Unit)) (hx : Enc.lim 1048576 x) : CallR Try.prog 104 [.nd [.sl .b (x.1.map Enc.b), .int .i64 x.2.1]] [] (.nd [.ow 20 (x.1.map Enc.o), .int .i64 x.2.1]) := by
  refine CallR.of_body (n := 12) (rs := [.cell 2 90]) hY.ok Try.func104 rfl (by decide) rfl rfl rfl rfl (fun F => ?_)
  have fx := And.intro Y1 (And.intro Y3 (And.intro Y4 (And.intro Y27 (And.intro Y35 (And.intro Y37 (And.intro Y65 (And.intro Y67 (And.intro Y68 (And.intro Y70 (And.intro Y72 (And.intro Y74 (And.intro Y84 (And.intro Y86 (And.intro Y88 (And.intro Y90 (And.intro Y192 (Y215)))))))))))))))))
  have hC1 := cx [] (laws_toSeatS_ok x.1 hx.1)
  have fy := Nat.add_zero
  refine goR ?_ ?_ ?_ ?_ ?_ ?_ ?_ ?_ ?_ ?_ ?_ ?_ ?_ ?_ ?_ ?_
  any_goals (first | exact True.intro | skip)
  all_goals (repeat (refine Wh.mk fun hcc => ?_))
  refine SW.ret (show RetQ _ _ _ _ _ _ _ from ⟨.inr rfl, _, [0], [.nd [.ow 20 (x.1.map Enc.o), .int .i64 x.2.1]], ?_, ⟨rfl, ?_, rfl, ?_, rfl, rfl⟩⟩)
  rotate_left
  · first | rfl | (simp [pass1, modeOf, giveS, giveSL, Heap.at, Heap.put, fixEs, ioAt, ioAtT, ioKs, ioKT, ioM, ioT, T.cel, T.clo, cloL, T.cloA, cloAL]; rfl)
  · first | rfl | simp [cloL, T.clo, T.clP, clPL]
theorem laws_toRec_ok (x : (Int × Int × Int × Int × Int × ((Bool × ((Int × (List Int) × (List Int) × Unit)) × Unit)) × ((Bool × ((Int × (List Int) × (List Int) × Unit)) × Unit)) × Int × (List ((Int × Int × Bool × Unit))) × Unit)) (hx : Enc.lim 1048576 x) : CallR Try.prog 182 [.nd [.int .i64 x.1, .int .i64 x.2.1, .int .i64 x.2.2.1, .int .i64 x.2.2.2.1, .int .i64 x.2.2.2.2.1, .nd [.bool x.2.2.2.2.2.1.1, .nd [.int .i64 x.2.2.2.2.2.1.2.1.1, .sl .b (x.2.2.2.2.2.1.2.1.2.1.map Enc.b), .sl .b (x.2.2.2.2.2.1.2.1.2.2.1.map Enc.b)]], .nd [.bool x.2.2.2.2.2.2.1.1, .nd [.int .i64 x.2.2.2.2.2.2.1.2.1.1, .sl .b (x.2.2.2.2.2.2.1.2.1.2.1.map Enc.b), .sl .b (x.2.2.2.2.2.2.1.2.1.2.2.1.map Enc.b)]], .int .i64 x.2.2.2.2.2.2.2.1, .sl .b (x.2.2.2.2.2.2.2.2.1.map Enc.b)]] [] (.nd [.int .i64 x.1, .int .i64 x.2.1, .int .i64 x.2.2.1, .int .i64 x.2.2.2.1, .int .i64 x.2.2.2.2.1, .nd [.bool x.2.2.2.2.2.1.1, .nd [.int .i64 x.2.2.2.2.2.1.2.1.1, .ow 1 (x.2.2.2.2.2.1.2.1.2.1.map Enc.o), .ow 1 (x.2.2.2.2.2.1.2.1.2.2.1.map Enc.o)]], .nd [.bool x.2.2.2.2.2.2.1.1, .nd [.int .i64 x.2.2.2.2.2.2.1.2.1.1, .ow 1 (x.2.2.2.2.2.2.1.2.1.2.1.map Enc.o), .ow 1 (x.2.2.2.2.2.2.1.2.1.2.2.1.map Enc.o)]], .int .i64 x.2.2.2.2.2.2.2.1, .ow 3 (x.2.2.2.2.2.2.2.2.1.map Enc.o)]) := by
  refine CallR.of_body (n := 35) (rs := [.cell 2 169]) hY.ok Try.func182 rfl (by decide) rfl rfl rfl rfl (fun F => ?_)
  have fx := And.intro Y1 (And.intro Y2 (And.intro Y3 (And.intro Y4 (And.intro Y5 (And.intro Y6 (And.intro Y7 (And.intro Y8 (And.intro Y27 (And.intro Y35 (And.intro Y37 (And.intro Y65 (And.intro Y67 (And.intro Y78 (And.intro Y94 (And.intro Y169 (And.intro Y197 (And.intro Y199 (Y218))))))))))))))))))
  have hC1 := cx [] (laws_toSlot_ok x.2.2.2.2.2.1 hx.2.2.2.2.2.1)
  have hC2 := cx [] (laws_toSlot_ok x.2.2.2.2.2.2.1 hx.2.2.2.2.2.2.1)
  have hC3 := cx [] (laws_toLiveS_ok x.2.2.2.2.2.2.2.2.1 hx.2.2.2.2.2.2.2.2.1)
  have fy := Nat.add_zero
  refine goR ?_ ?_ ?_ ?_ ?_ ?_ ?_ ?_ ?_ ?_ ?_ ?_ ?_ ?_ ?_ ?_
  any_goals (first | exact True.intro | skip)
  all_goals (repeat (refine Wh.mk fun hcc => ?_))
  refine SW.ret (show RetQ _ _ _ _ _ _ _ from ⟨.inr rfl, _, [0], [.nd [.int .i64 x.1, .int .i64 x.2.1, .int .i64 x.2.2.1, .int .i64 x.2.2.2.1, .int .i64 x.2.2.2.2.1, .nd [.bool x.2.2.2.2.2.1.1, .nd [.int .i64 x.2.2.2.2.2.1.2.1.1, .ow 1 (x.2.2.2.2.2.1.2.1.2.1.map Enc.o), .ow 1 (x.2.2.2.2.2.1.2.1.2.2.1.map Enc.o)]], .nd [.bool x.2.2.2.2.2.2.1.1, .nd [.int .i64 x.2.2.2.2.2.2.1.2.1.1, .ow 1 (x.2.2.2.2.2.2.1.2.1.2.1.map Enc.o), .ow 1 (x.2.2.2.2.2.2.1.2.1.2.2.1.map Enc.o)]], .int .i64 x.2.2.2.2.2.2.2.1, .ow 3 (x.2.2.2.2.2.2.2.2.1.map Enc.o)]], ?_, ⟨rfl, ?_, rfl, ?_, rfl, rfl⟩⟩)
  rotate_left
  · first | rfl | (simp [pass1, modeOf, giveS, giveSL, Heap.at, Heap.put, fixEs, ioAt, ioAtT, ioKs, ioKT, ioM, ioT, T.cel, T.clo, cloL, T.cloA, cloAL]; rfl)
  · first | rfl | simp [cloL, T.clo, T.clP, clPL]
theorem laws_toRecS_ok (l : List ((Int × Int × Int × Int × Int × ((Bool × ((Int × (List Int) × (List Int) × Unit)) × Unit)) × ((Bool × ((Int × (List Int) × (List Int) × Unit)) × Unit)) × Int × (List ((Int × Int × Bool × Unit))) × Unit))) (hl : Enc.lim 1048576 l) : CallR Try.prog 158 [.sl .b (l.map Enc.b)] [] (.ow 15 (l.map Enc.o)) := by
  refine CallR.of_body (n := 23) (rs := [.tmp 2]) hY.ok Try.func158 rfl (by decide) rfl rfl rfl rfl (fun F => ?_)
  have fx := And.intro Y3 (And.intro Y4 (And.intro Y27 (And.intro Y35 (And.intro Y37 (And.intro Y65 (And.intro Y67 (And.intro Y75 (And.intro Y78 (And.intro Y91 (And.intro Y94 (And.intro Y169 (And.intro Y197 (And.intro Y199 (Y218))))))))))))))
  have hl1 : l.length ≤ 1048576 := hl.1
  have fy := (fun u1 => mk_fill u1 91 l hl.1 (.nd [.int .i64 0, .int .i64 0, .int .i64 0, .int .i64 0, .int .i64 0, .nd [.bool false, .nd [.int .i64 0, .nils 1, .nils 1]], .nd [.bool false, .nd [.int .i64 0, .nils 1, .nils 1]], .int .i64 0, .nils 3]) 15 200 _ Y91 Y169 rfl rfl (by decide))
  refine goN ?_ ?_ ?_ ?_ ?_ ?_ ?_ ?_ ?_ ?_ ?_ ?_ ?_ ?_ ?_ ?_
  any_goals (first | exact True.intro | skip)
  skip
  refine SW.loop (fun i : Nat => ⟨[.sl .b (l.map Enc.b), .undef, .undef, .ref 1 0 0 l.length, .int .i64 i, .undef, .undef, .undef, .undef, .undef, .undef, .undef, .undef, .undef, .undef, .undef, .undef, .undef, .undef, .undef, .undef, .undef, .undef], [[], [.arr 15 (fillG (.nd [.int .i64 0, .int .i64 0, .int .i64 0, .int .i64 0, .int .i64 0, .nd [.bool false, .nd [.int .i64 0, .nils 1, .nils 1]], .nd [.bool false, .nd [.int .i64 0, .nils 1, .nils 1]], .int .i64 0, .nils 3]) l i) false]]⟩)
    (fun n i => n = l.length - i ∧ i ≤ l.length) (n := l.length) (x := 0) (Norm.to 0 rfl (by simp [weakL])) ⟨rfl, Nat.zero_le _⟩ ?_
  rintro n i ⟨hn, hi⟩
  have fy := Nat.add_zero
  refine goS ?_
  refine SW.cond rfl (fun hc => ?_) (fun hc => ?_)
  · have hlt : i < l.length := by simpa using hc
    have hltI : (i : Int) < (l.length : Int) := by omega
    have hg : (l.map Enc.b)[i]? = some (.nd [.int .i64 l[i].1, .int .i64 l[i].2.1, .int .i64 l[i].2.2.1, .int .i64 l[i].2.2.2.1, .int .i64 l[i].2.2.2.2.1, .nd [.bool l[i].2.2.2.2.2.1.1, .nd [.int .i64 l[i].2.2.2.2.2.1.2.1.1, .sl .b (l[i].2.2.2.2.2.1.2.1.2.1.map Enc.b), .sl .b (l[i].2.2.2.2.2.1.2.1.2.2.1.map Enc.b)]], .nd [.bool l[i].2.2.2.2.2.2.1.1, .nd [.int .i64 l[i].2.2.2.2.2.2.1.2.1.1, .sl .b (l[i].2.2.2.2.2.2.1.2.1.2.1.map Enc.b), .sl .b (l[i].2.2.2.2.2.2.1.2.1.2.2.1.map Enc.b)]], .int .i64 l[i].2.2.2.2.2.2.2.1, .sl .b (l[i].2.2.2.2.2.2.2.2.1.map Enc.b)]) := map_get Enc.b l i hlt
    have hf : (fillG (.nd [.int .i64 0, .int .i64 0, .int .i64 0, .int .i64 0, .int .i64 0, .nd [.bool false, .nd [.int .i64 0, .nils 1, .nils 1]], .nd [.bool false, .nd [.int .i64 0, .nils 1, .nils 1]], .int .i64 0, .nils 3]) l i)[i]? = some (.nd [.int .i64 0, .int .i64 0, .int .i64 0, .int .i64 0, .int .i64 0, .nd [.bool false, .nd [.int .i64 0, .nils 1, .nils 1]], .nd [.bool false, .nd [.int .i64 0, .nils 1, .nils 1]], .int .i64 0, .nils 3]) := fill_get _ l i hlt
    have hfl : (fillG (.nd [.int .i64 0, .int .i64 0, .int .i64 0, .int .i64 0, .int .i64 0, .nd [.bool false, .nd [.int .i64 0, .nils 1, .nils 1]], .nd [.bool false, .nd [.int .i64 0, .nils 1, .nils 1]], .int .i64 0, .nils 3]) l i).length = l.length := fill_len _ l i hi
    have hC1 := cx [] (laws_toRec_ok l[i] (hl.2 _ (List.getElem_mem hlt)))
    have fy := And.intro hg (And.intro hf (And.intro hfl (And.intro hltI (Nat.zero_add))))
    refine goR ?_ ?_ ?_ ?_ ?_ ?_ ?_ ?_ ?_ ?_ ?_ ?_ ?_ ?_ ?_ ?_
    any_goals (first | exact True.intro | skip)
    all_goals (repeat (refine Wh.mk fun hcc => ?_))
    refine ⟨n - 1, i + 1, by omega, ⟨by omega, by omega⟩, ?_⟩
    rw [wrap64 _ (by omega) (by omega)]
    refine Norm.trans (Norm.fill (l := l) 1 0 rfl hlt (by first | rfl | (simp [soakS, soakL, Heap.at, Heap.put]; rfl))) ?_
    refine Norm.re [0, 1] (by decide) rfl ?_ (by simp [tmFits, T.ren])
    first | (simp [heapFits, rowFits, obFits, soakS, soakL, Heap.at, Heap.put]; exact renL_fill _ _ _ _ rfl) | exact ⟨trivial, ⟨rfl, rfl, renL_fill _ _ _ _ rfl⟩, trivial⟩
  · have hge : i = l.length := by
      have : ¬ i < l.length := by simpa using hc
      omega
    subst hge
    have fy := Nat.add_zero
    refine goR ?_ ?_ ?_ ?_ ?_ ?_ ?_ ?_ ?_ ?_ ?_ ?_ ?_ ?_ ?_ ?_
    any_goals (first | exact True.intro | skip)
    all_goals (repeat (refine Wh.mk fun hcc => ?_))
    refine SW.ret (show RetQ _ _ _ _ _ _ _ from ⟨.inr rfl, [.ref 1 0 0 l.length], [15], [.ow 15 (l.map Enc.o)], [[], [.gone]], ⟨rfl, ?_, rfl, ?_, rfl, rfl⟩⟩)
    · simp [pass1, modeOf, giveS, Heap.at, Heap.put, fill_all, fixEs, ioAt, ioAtT, ioKs, ioKT, ioM, ioT, T.cel, T.clo, T.cloA, cloAL]
    · simp [cloL, T.clo, T.clP, clPL]
theorem laws_toLog_ok (x : ((List ((Int × Int × Int × Int × Int × ((Bool × ((Int × (List Int) × (List Int) × Unit)) × Unit)) × ((Bool × ((Int × (List Int) × (List Int) × Unit)) × Unit)) × Int × (List ((Int × Int × Bool × Unit))) × Unit))) × Int × Unit)) (hx : Enc.lim 1048576 x) : CallR Try.prog 105 [.nd [.sl .b (x.1.map Enc.b), .int .i64 x.2.1]] [] (.nd [.ow 15 (x.1.map Enc.o), .int .i64 x.2.1]) := by
  refine CallR.of_body (n := 12) (rs := [.cell 2 93]) hY.ok Try.func105 rfl (by decide) rfl rfl rfl rfl (fun F => ?_)
  have fx := And.intro Y1 (And.intro Y3 (And.intro Y4 (And.intro Y27 (And.intro Y35 (And.intro Y37 (And.intro Y65 (And.intro Y67 (And.intro Y75 (And.intro Y77 (And.intro Y78 (And.intro Y91 (And.intro Y93 (And.intro Y94 (And.intro Y169 (And.intro Y197 (And.intro Y199 (Y218)))))))))))))))))
  have hC1 := cx [] (laws_toRecS_ok x.1 hx.1)
  have fy := Nat.add_zero
  refine goR ?_ ?_ ?_ ?_ ?_ ?_ ?_ ?_ ?_ ?_ ?_ ?_ ?_ ?_ ?_ ?_
  any_goals (first | exact True.intro | skip)
  all_goals (repeat (refine Wh.mk fun hcc => ?_))
  refine SW.ret (show RetQ _ _ _ _ _ _ _ from ⟨.inr rfl, _, [0], [.nd [.ow 15 (x.1.map Enc.o), .int .i64 x.2.1]], ?_, ⟨rfl, ?_, rfl, ?_, rfl, rfl⟩⟩)
  rotate_left
  · first | rfl | (simp [pass1, modeOf, giveS, giveSL, Heap.at, Heap.put, fixEs, ioAt, ioAtT, ioKs, ioKT, ioM, ioT, T.cel, T.clo, cloL, T.cloA, cloAL]; rfl)
  · first | rfl | simp [cloL, T.clo, T.clP, clPL]
end Q6
