/- Shows what the parts of the program do that the claim reaches: a machine of values over the model, and the contracts of functions, for all arguments within the lengths that each theorem names. -/
import Derived.Test.YtjodaapkfknfnaaLockedV3
import Derived.Test.YtjodaapkfknfnaaRows
import Derived.Test.YtjodaapkfknfnaaLockedV5
import Derived.Test.YtjodaapkfknfnaaLockedV4
set_option linter.all false

namespace Q6
open Go Go.Vm Go.Proofs
def tbl : List TyI := [
  ⟨.bad, 0, 0⟩,
  ⟨.fn, 1, 8⟩,
  ⟨.int .i64, 1, 8⟩,
  ⟨.int .i64, 1, 8⟩,
  ⟨.bool, 1, 1⟩,
  ⟨.int .u8, 1, 1⟩,
  ⟨.int .u8, 1, 1⟩,
  ⟨.st [(2, 0), (3, 1), (4, 2), (6, 3)], 4, 24⟩,
  ⟨.st [(2, 0), (3, 1), (4, 2), (6, 3)], 4, 24⟩,
  ⟨.str, 1, 16⟩,
  ⟨.str, 1, 16⟩,
  ⟨.str, 1, 16⟩,
  ⟨.int .u64, 1, 8⟩,
  ⟨.st [(9, 0), (12, 1)], 2, 24⟩,
  ⟨.st [(9, 0), (12, 1)], 2, 24⟩,
  ⟨.ptr 238, 1, 8⟩,
  ⟨.ptr 241, 1, 8⟩,
  ⟨.ptr 251, 1, 8⟩,
  ⟨.st [(17, 0)], 1, 8⟩,
  ⟨.st [(17, 0)], 1, 8⟩,
  ⟨.ifc, 1, 16⟩,
  ⟨.int .i32, 1, 4⟩,
  ⟨.sl 5, 1, 24⟩,
  ⟨.fn, 1, 8⟩,
  ⟨.sl 37, 1, 24⟩,
  ⟨.fn, 1, 8⟩,
  ⟨.fn, 1, 8⟩,
  ⟨.sl 3, 1, 24⟩,
  ⟨.fn, 1, 8⟩,
  ⟨.sl 4, 1, 24⟩,
  ⟨.bad, 0, 0⟩,
  ⟨.fn, 1, 8⟩,
  ⟨.fn, 1, 8⟩,
  ⟨.fn, 1, 8⟩,
  ⟨.st [(3, 0), (27, 1), (27, 2)], 3, 56⟩,
  ⟨.st [(3, 0), (27, 1), (27, 2)], 3, 56⟩,
  ⟨.st [(4, 0), (35, 1)], 4, 64⟩,
  ⟨.st [(4, 0), (35, 1)], 4, 64⟩,
  ⟨.fn, 1, 8⟩,
  ⟨.sl 119, 1, 24⟩,
  ⟨.fn, 1, 8⟩,
  ⟨.sl 50, 1, 24⟩,
  ⟨.st [(41, 0), (41, 1)], 2, 48⟩,
  ⟨.st [(41, 0), (41, 1)], 2, 48⟩,
  ⟨.bad, 0, 0⟩,
  ⟨.fn, 1, 8⟩,
  ⟨.bad, 0, 0⟩,
  ⟨.fn, 1, 8⟩,
  ⟨.fn, 1, 8⟩,
  ⟨.st [(3, 0), (3, 1), (3, 2)], 3, 24⟩,
  ⟨.st [(3, 0), (3, 1), (3, 2)], 3, 24⟩,
  ⟨.fn, 1, 8⟩,
  ⟨.sl 184, 1, 24⟩,
  ⟨.st [(52, 0), (52, 1)], 2, 48⟩,
  ⟨.st [(52, 0), (52, 1)], 2, 48⟩,
  ⟨.fn, 1, 8⟩,
  ⟨.bad, 0, 0⟩,
  ⟨.fn, 1, 8⟩,
  ⟨.fn, 1, 8⟩,
  ⟨.fn, 1, 8⟩,
  ⟨.fn, 1, 8⟩,
  ⟨.fn, 1, 8⟩,
  ⟨.fn, 1, 8⟩,
  ⟨.fn, 1, 8⟩,
  ⟨.fn, 1, 8⟩,
  ⟨.st [(3, 0), (27, 1), (27, 2)], 3, 56⟩,
  ⟨.st [(4, 0), (65, 1)], 4, 64⟩,
  ⟨.st [(4, 0), (65, 1)], 4, 64⟩,
  ⟨.ar 4 67, 16, 256⟩,
  ⟨.st [(3, 0), (68, 1)], 17, 264⟩,
  ⟨.st [(3, 0), (68, 1)], 17, 264⟩,
  ⟨.ar 8 70, 136, 2112⟩,
  ⟨.sl 215, 1, 24⟩,
  ⟨.st [(72, 0), (3, 1)], 2, 32⟩,
  ⟨.st [(72, 0), (3, 1)], 2, 32⟩,
  ⟨.sl 218, 1, 24⟩,
  ⟨.st [(75, 0), (3, 1)], 2, 32⟩,
  ⟨.st [(75, 0), (3, 1)], 2, 32⟩,
  ⟨.sl 199, 1, 24⟩,
  ⟨.sl 201, 1, 24⟩,
  ⟨.st [(71, 0), (74, 136), (77, 138), (78, 140), (79, 141), (3, 142), (4, 143)], 144, 2240⟩,
  ⟨.st [(71, 0), (74, 136), (77, 138), (78, 140), (79, 141), (3, 142), (4, 143)], 144, 2240⟩,
  ⟨.fn, 1, 8⟩,
  ⟨.fn, 1, 8⟩,
  ⟨.ar 4 37, 16, 256⟩,
  ⟨.st [(3, 0), (84, 1)], 17, 264⟩,
  ⟨.st [(3, 0), (84, 1)], 17, 264⟩,
  ⟨.ar 8 86, 136, 2112⟩,
  ⟨.sl 192, 1, 24⟩,
  ⟨.st [(88, 0), (3, 1)], 2, 32⟩,
  ⟨.st [(88, 0), (3, 1)], 2, 32⟩,
  ⟨.sl 169, 1, 24⟩,
  ⟨.st [(91, 0), (3, 1)], 2, 32⟩,
  ⟨.st [(91, 0), (3, 1)], 2, 32⟩,
  ⟨.sl 197, 1, 24⟩,
  ⟨.sl 165, 1, 24⟩,
  ⟨.st [(87, 0), (90, 136), (93, 138), (94, 140), (95, 141), (3, 142), (4, 143)], 144, 2240⟩,
  ⟨.st [(87, 0), (90, 136), (93, 138), (94, 140), (95, 141), (3, 142), (4, 143)], 144, 2240⟩,
  ⟨.fn, 1, 8⟩,
  ⟨.fn, 1, 8⟩,
  ⟨.fn, 1, 8⟩,
  ⟨.fn, 1, 8⟩,
  ⟨.fn, 1, 8⟩,
  ⟨.fn, 1, 8⟩,
  ⟨.ptr 172, 1, 8⟩,
  ⟨.fn, 1, 8⟩,
  ⟨.fn, 1, 8⟩,
  ⟨.fn, 1, 8⟩,
  ⟨.fn, 1, 8⟩,
  ⟨.fn, 1, 8⟩,
  ⟨.fn, 1, 8⟩,
  ⟨.ptr 113, 1, 8⟩,
  ⟨.st [(24, 0), (29, 1), (27, 2), (3, 3), (4, 4)], 5, 88⟩,
  ⟨.st [(24, 0), (29, 1), (27, 2), (3, 3), (4, 4)], 5, 88⟩,
  ⟨.fn, 1, 8⟩,
  ⟨.fn, 1, 8⟩,
  ⟨.fn, 1, 8⟩,
  ⟨.fn, 1, 8⟩,
  ⟨.fn, 1, 8⟩,
  ⟨.ar 2 3, 2, 16⟩,
  ⟨.fn, 1, 8⟩,
  ⟨.fn, 1, 8⟩,
  ⟨.fn, 1, 8⟩,
  ⟨.fn, 1, 8⟩,
  ⟨.fn, 1, 8⟩,
  ⟨.fn, 1, 8⟩,
  ⟨.fn, 1, 8⟩,
  ⟨.fn, 1, 8⟩,
  ⟨.fn, 1, 8⟩,
  ⟨.fn, 1, 8⟩,
  ⟨.fn, 1, 8⟩,
  ⟨.ptr 43, 1, 8⟩,
  ⟨.fn, 1, 8⟩,
  ⟨.fn, 1, 8⟩,
  ⟨.fn, 1, 8⟩,
  ⟨.fn, 1, 8⟩,
  ⟨.fn, 1, 8⟩,
  ⟨.fn, 1, 8⟩,
  ⟨.fn, 1, 8⟩,
  ⟨.fn, 1, 8⟩,
  ⟨.fn, 1, 8⟩,
  ⟨.fn, 1, 8⟩,
  ⟨.fn, 1, 8⟩,
  ⟨.fn, 1, 8⟩,
  ⟨.fn, 1, 8⟩,
  ⟨.fn, 1, 8⟩,
  ⟨.fn, 1, 8⟩,
  ⟨.fn, 1, 8⟩,
  ⟨.fn, 1, 8⟩,
  ⟨.fn, 1, 8⟩,
  ⟨.fn, 1, 8⟩,
  ⟨.fn, 1, 8⟩,
  ⟨.fn, 1, 8⟩,
  ⟨.fn, 1, 8⟩,
  ⟨.fn, 1, 8⟩,
  ⟨.fn, 1, 8⟩,
  ⟨.fn, 1, 8⟩,
  ⟨.fn, 1, 8⟩,
  ⟨.fn, 1, 8⟩,
  ⟨.fn, 1, 8⟩,
  ⟨.fn, 1, 8⟩,
  ⟨.fn, 1, 8⟩,
  ⟨.fn, 1, 8⟩,
  ⟨.fn, 1, 8⟩,
  ⟨.st [(3, 0), (3, 1)], 2, 16⟩,
  ⟨.st [(3, 0), (3, 1)], 2, 16⟩,
  ⟨.fn, 1, 8⟩,
  ⟨.fn, 1, 8⟩,
  ⟨.st [(3, 0), (3, 1), (3, 2), (3, 3), (3, 4), (37, 5), (37, 9), (3, 13), (94, 14)], 15, 200⟩,
  ⟨.st [(3, 0), (3, 1), (3, 2), (3, 3), (3, 4), (37, 5), (37, 9), (3, 13), (94, 14)], 15, 200⟩,
  ⟨.fn, 1, 8⟩,
  ⟨.st [(22, 0), (3, 1), (3, 2)], 3, 40⟩,
  ⟨.st [(22, 0), (3, 1), (3, 2)], 3, 40⟩,
  ⟨.fn, 1, 8⟩,
  ⟨.fn, 1, 8⟩,
  ⟨.fn, 1, 8⟩,
  ⟨.fn, 1, 8⟩,
  ⟨.fn, 1, 8⟩,
  ⟨.fn, 1, 8⟩,
  ⟨.fn, 1, 8⟩,
  ⟨.fn, 1, 8⟩,
  ⟨.fn, 1, 8⟩,
  ⟨.fn, 1, 8⟩,
  ⟨.fn, 1, 8⟩,
  ⟨.st [(3, 0), (3, 1), (3, 2)], 3, 24⟩,
  ⟨.fn, 1, 8⟩,
  ⟨.fn, 1, 8⟩,
  ⟨.fn, 1, 8⟩,
  ⟨.fn, 1, 8⟩,
  ⟨.fn, 1, 8⟩,
  ⟨.fn, 1, 8⟩,
  ⟨.st [(3, 0), (86, 1), (4, 18), (4, 19)], 20, 280⟩,
  ⟨.st [(3, 0), (86, 1), (4, 18), (4, 19)], 20, 280⟩,
  ⟨.fn, 1, 8⟩,
  ⟨.fn, 1, 8⟩,
  ⟨.fn, 1, 8⟩,
  ⟨.st [(3, 0), (3, 1), (4, 2)], 3, 24⟩,
  ⟨.st [(3, 0), (3, 1), (4, 2)], 3, 24⟩,
  ⟨.fn, 1, 8⟩,
  ⟨.st [(3, 0), (3, 1), (4, 2)], 3, 24⟩,
  ⟨.fn, 1, 8⟩,
  ⟨.st [(3, 0), (3, 1)], 2, 16⟩,
  ⟨.fn, 1, 8⟩,
  ⟨.fn, 1, 8⟩,
  ⟨.fn, 1, 8⟩,
  ⟨.fn, 1, 8⟩,
  ⟨.fn, 1, 8⟩,
  ⟨.fn, 1, 8⟩,
  ⟨.fn, 1, 8⟩,
  ⟨.fn, 1, 8⟩,
  ⟨.fn, 1, 8⟩,
  ⟨.fn, 1, 8⟩,
  ⟨.fn, 1, 8⟩,
  ⟨.fn, 1, 8⟩,
  ⟨.st [(3, 0), (70, 1), (4, 18), (4, 19)], 20, 280⟩,
  ⟨.st [(3, 0), (70, 1), (4, 18), (4, 19)], 20, 280⟩,
  ⟨.fn, 1, 8⟩,
  ⟨.st [(3, 0), (3, 1), (3, 2), (3, 3), (3, 4), (67, 5), (67, 9), (3, 13), (78, 14)], 15, 200⟩,
  ⟨.st [(3, 0), (3, 1), (3, 2), (3, 3), (3, 4), (67, 5), (67, 9), (3, 13), (78, 14)], 15, 200⟩,
  ⟨.fn, 1, 8⟩,
  ⟨.fn, 1, 8⟩,
  ⟨.fn, 1, 8⟩,
  ⟨.fn, 1, 8⟩,
  ⟨.fn, 1, 8⟩,
  ⟨.fn, 1, 8⟩,
  ⟨.fn, 1, 8⟩,
  ⟨.fn, 1, 8⟩,
  ⟨.fn, 1, 8⟩,
  ⟨.fn, 1, 8⟩,
  ⟨.int .u64, 1, 8⟩,
  ⟨.fn, 1, 8⟩,
  ⟨.fn, 1, 8⟩,
  ⟨.fn, 1, 8⟩,
  ⟨.fn, 1, 8⟩,
  ⟨.fn, 1, 8⟩,
  ⟨.fn, 1, 8⟩,
  ⟨.fn, 1, 8⟩,
  ⟨.st [(17, 0), (17, 1), (17, 2), (9, 3)], 4, 40⟩,
  ⟨.st [(17, 0), (17, 1), (17, 2), (9, 3)], 4, 40⟩,
  ⟨.bad, 0, 0⟩,
  ⟨.bad, 0, 0⟩,
  ⟨.bad, 0, 0⟩,
  ⟨.fn, 1, 8⟩,
  ⟨.int .u32, 1, 4⟩,
  ⟨.int .u8, 1, 1⟩,
  ⟨.int .u8, 1, 1⟩,
  ⟨.fn, 1, 8⟩,
  ⟨.ptr 5, 1, 8⟩,
  ⟨.int .i32, 1, 4⟩,
  ⟨.int .i32, 1, 4⟩,
  ⟨.bad, 0, 0⟩,
  ⟨.bad, 0, 0⟩,
  ⟨.bad, 0, 0⟩
]
def Y : TypeId → TyI := tblY tbl
theorem hY : TysW Try.prog Y := tysW_of (by kernel_rfl)
theorem Y1 : Y 1 = ⟨.fn, 1, 8⟩ := rfl
theorem Y2 : Y 2 = ⟨.int .i64, 1, 8⟩ := rfl
theorem Y3 : Y 3 = ⟨.int .i64, 1, 8⟩ := rfl
theorem Y4 : Y 4 = ⟨.bool, 1, 1⟩ := rfl
theorem Y5 : Y 5 = ⟨.int .u8, 1, 1⟩ := rfl
theorem Y6 : Y 6 = ⟨.int .u8, 1, 1⟩ := rfl
theorem Y7 : Y 7 = ⟨.st [(2, 0), (3, 1), (4, 2), (6, 3)], 4, 24⟩ := rfl
theorem Y8 : Y 8 = ⟨.st [(2, 0), (3, 1), (4, 2), (6, 3)], 4, 24⟩ := rfl
theorem Y9 : Y 9 = ⟨.str, 1, 16⟩ := rfl
theorem Y10 : Y 10 = ⟨.str, 1, 16⟩ := rfl
theorem Y11 : Y 11 = ⟨.str, 1, 16⟩ := rfl
theorem Y12 : Y 12 = ⟨.int .u64, 1, 8⟩ := rfl
theorem Y13 : Y 13 = ⟨.st [(9, 0), (12, 1)], 2, 24⟩ := rfl
theorem Y14 : Y 14 = ⟨.st [(9, 0), (12, 1)], 2, 24⟩ := rfl
theorem Y15 : Y 15 = ⟨.ptr 238, 1, 8⟩ := rfl
theorem Y16 : Y 16 = ⟨.ptr 241, 1, 8⟩ := rfl
theorem Y17 : Y 17 = ⟨.ptr 251, 1, 8⟩ := rfl
theorem Y18 : Y 18 = ⟨.st [(17, 0)], 1, 8⟩ := rfl
theorem Y19 : Y 19 = ⟨.st [(17, 0)], 1, 8⟩ := rfl
theorem Y20 : Y 20 = ⟨.ifc, 1, 16⟩ := rfl
theorem Y21 : Y 21 = ⟨.int .i32, 1, 4⟩ := rfl
theorem Y22 : Y 22 = ⟨.sl 5, 1, 24⟩ := rfl
theorem Y23 : Y 23 = ⟨.fn, 1, 8⟩ := rfl
theorem Y24 : Y 24 = ⟨.sl 37, 1, 24⟩ := rfl
theorem Y25 : Y 25 = ⟨.fn, 1, 8⟩ := rfl
theorem Y26 : Y 26 = ⟨.fn, 1, 8⟩ := rfl
theorem Y27 : Y 27 = ⟨.sl 3, 1, 24⟩ := rfl
theorem Y28 : Y 28 = ⟨.fn, 1, 8⟩ := rfl
theorem Y29 : Y 29 = ⟨.sl 4, 1, 24⟩ := rfl
theorem Y31 : Y 31 = ⟨.fn, 1, 8⟩ := rfl
theorem Y32 : Y 32 = ⟨.fn, 1, 8⟩ := rfl
theorem Y33 : Y 33 = ⟨.fn, 1, 8⟩ := rfl
theorem Y34 : Y 34 = ⟨.st [(3, 0), (27, 1), (27, 2)], 3, 56⟩ := rfl
theorem Y35 : Y 35 = ⟨.st [(3, 0), (27, 1), (27, 2)], 3, 56⟩ := rfl
theorem Y36 : Y 36 = ⟨.st [(4, 0), (35, 1)], 4, 64⟩ := rfl
theorem Y37 : Y 37 = ⟨.st [(4, 0), (35, 1)], 4, 64⟩ := rfl
theorem Y38 : Y 38 = ⟨.fn, 1, 8⟩ := rfl
theorem Y39 : Y 39 = ⟨.sl 119, 1, 24⟩ := rfl
theorem Y40 : Y 40 = ⟨.fn, 1, 8⟩ := rfl
theorem Y41 : Y 41 = ⟨.sl 50, 1, 24⟩ := rfl
theorem Y42 : Y 42 = ⟨.st [(41, 0), (41, 1)], 2, 48⟩ := rfl
theorem Y43 : Y 43 = ⟨.st [(41, 0), (41, 1)], 2, 48⟩ := rfl
theorem Y45 : Y 45 = ⟨.fn, 1, 8⟩ := rfl
theorem Y47 : Y 47 = ⟨.fn, 1, 8⟩ := rfl
theorem Y48 : Y 48 = ⟨.fn, 1, 8⟩ := rfl
theorem Y49 : Y 49 = ⟨.st [(3, 0), (3, 1), (3, 2)], 3, 24⟩ := rfl
theorem Y50 : Y 50 = ⟨.st [(3, 0), (3, 1), (3, 2)], 3, 24⟩ := rfl
theorem Y51 : Y 51 = ⟨.fn, 1, 8⟩ := rfl
theorem Y52 : Y 52 = ⟨.sl 184, 1, 24⟩ := rfl
theorem Y53 : Y 53 = ⟨.st [(52, 0), (52, 1)], 2, 48⟩ := rfl
theorem Y54 : Y 54 = ⟨.st [(52, 0), (52, 1)], 2, 48⟩ := rfl
theorem Y55 : Y 55 = ⟨.fn, 1, 8⟩ := rfl
theorem Y57 : Y 57 = ⟨.fn, 1, 8⟩ := rfl
theorem Y58 : Y 58 = ⟨.fn, 1, 8⟩ := rfl
theorem Y59 : Y 59 = ⟨.fn, 1, 8⟩ := rfl
theorem Y60 : Y 60 = ⟨.fn, 1, 8⟩ := rfl
theorem Y61 : Y 61 = ⟨.fn, 1, 8⟩ := rfl
theorem Y62 : Y 62 = ⟨.fn, 1, 8⟩ := rfl
theorem Y63 : Y 63 = ⟨.fn, 1, 8⟩ := rfl
theorem Y64 : Y 64 = ⟨.fn, 1, 8⟩ := rfl
theorem Y65 : Y 65 = ⟨.st [(3, 0), (27, 1), (27, 2)], 3, 56⟩ := rfl
theorem Y66 : Y 66 = ⟨.st [(4, 0), (65, 1)], 4, 64⟩ := rfl
theorem Y67 : Y 67 = ⟨.st [(4, 0), (65, 1)], 4, 64⟩ := rfl
theorem Y68 : Y 68 = ⟨.ar 4 67, 16, 256⟩ := rfl
theorem Y69 : Y 69 = ⟨.st [(3, 0), (68, 1)], 17, 264⟩ := rfl
theorem Y70 : Y 70 = ⟨.st [(3, 0), (68, 1)], 17, 264⟩ := rfl
theorem Y71 : Y 71 = ⟨.ar 8 70, 136, 2112⟩ := rfl
theorem Y72 : Y 72 = ⟨.sl 215, 1, 24⟩ := rfl
theorem Y73 : Y 73 = ⟨.st [(72, 0), (3, 1)], 2, 32⟩ := rfl
theorem Y74 : Y 74 = ⟨.st [(72, 0), (3, 1)], 2, 32⟩ := rfl
theorem Y75 : Y 75 = ⟨.sl 218, 1, 24⟩ := rfl
theorem Y76 : Y 76 = ⟨.st [(75, 0), (3, 1)], 2, 32⟩ := rfl
theorem Y77 : Y 77 = ⟨.st [(75, 0), (3, 1)], 2, 32⟩ := rfl
theorem Y78 : Y 78 = ⟨.sl 199, 1, 24⟩ := rfl
theorem Y79 : Y 79 = ⟨.sl 201, 1, 24⟩ := rfl
theorem Y80 : Y 80 = ⟨.st [(71, 0), (74, 136), (77, 138), (78, 140), (79, 141), (3, 142), (4, 143)], 144, 2240⟩ := rfl
theorem Y81 : Y 81 = ⟨.st [(71, 0), (74, 136), (77, 138), (78, 140), (79, 141), (3, 142), (4, 143)], 144, 2240⟩ := rfl
theorem Y82 : Y 82 = ⟨.fn, 1, 8⟩ := rfl
theorem Y83 : Y 83 = ⟨.fn, 1, 8⟩ := rfl
theorem Y84 : Y 84 = ⟨.ar 4 37, 16, 256⟩ := rfl
theorem Y85 : Y 85 = ⟨.st [(3, 0), (84, 1)], 17, 264⟩ := rfl
theorem Y86 : Y 86 = ⟨.st [(3, 0), (84, 1)], 17, 264⟩ := rfl
theorem Y87 : Y 87 = ⟨.ar 8 86, 136, 2112⟩ := rfl
theorem Y88 : Y 88 = ⟨.sl 192, 1, 24⟩ := rfl
theorem Y89 : Y 89 = ⟨.st [(88, 0), (3, 1)], 2, 32⟩ := rfl
theorem Y90 : Y 90 = ⟨.st [(88, 0), (3, 1)], 2, 32⟩ := rfl
theorem Y91 : Y 91 = ⟨.sl 169, 1, 24⟩ := rfl
theorem Y92 : Y 92 = ⟨.st [(91, 0), (3, 1)], 2, 32⟩ := rfl
theorem Y93 : Y 93 = ⟨.st [(91, 0), (3, 1)], 2, 32⟩ := rfl
theorem Y94 : Y 94 = ⟨.sl 197, 1, 24⟩ := rfl
theorem Y95 : Y 95 = ⟨.sl 165, 1, 24⟩ := rfl
theorem Y96 : Y 96 = ⟨.st [(87, 0), (90, 136), (93, 138), (94, 140), (95, 141), (3, 142), (4, 143)], 144, 2240⟩ := rfl
theorem Y97 : Y 97 = ⟨.st [(87, 0), (90, 136), (93, 138), (94, 140), (95, 141), (3, 142), (4, 143)], 144, 2240⟩ := rfl
theorem Y98 : Y 98 = ⟨.fn, 1, 8⟩ := rfl
theorem Y99 : Y 99 = ⟨.fn, 1, 8⟩ := rfl
theorem Y100 : Y 100 = ⟨.fn, 1, 8⟩ := rfl
theorem Y101 : Y 101 = ⟨.fn, 1, 8⟩ := rfl
theorem Y102 : Y 102 = ⟨.fn, 1, 8⟩ := rfl
theorem Y103 : Y 103 = ⟨.fn, 1, 8⟩ := rfl
theorem Y104 : Y 104 = ⟨.ptr 172, 1, 8⟩ := rfl
theorem Y105 : Y 105 = ⟨.fn, 1, 8⟩ := rfl
theorem Y106 : Y 106 = ⟨.fn, 1, 8⟩ := rfl
theorem Y107 : Y 107 = ⟨.fn, 1, 8⟩ := rfl
theorem Y108 : Y 108 = ⟨.fn, 1, 8⟩ := rfl
theorem Y109 : Y 109 = ⟨.fn, 1, 8⟩ := rfl
theorem Y110 : Y 110 = ⟨.fn, 1, 8⟩ := rfl
theorem Y111 : Y 111 = ⟨.ptr 113, 1, 8⟩ := rfl
theorem Y112 : Y 112 = ⟨.st [(24, 0), (29, 1), (27, 2), (3, 3), (4, 4)], 5, 88⟩ := rfl
theorem Y113 : Y 113 = ⟨.st [(24, 0), (29, 1), (27, 2), (3, 3), (4, 4)], 5, 88⟩ := rfl
theorem Y114 : Y 114 = ⟨.fn, 1, 8⟩ := rfl
theorem Y115 : Y 115 = ⟨.fn, 1, 8⟩ := rfl
theorem Y116 : Y 116 = ⟨.fn, 1, 8⟩ := rfl
theorem Y117 : Y 117 = ⟨.fn, 1, 8⟩ := rfl
theorem Y118 : Y 118 = ⟨.fn, 1, 8⟩ := rfl
theorem Y119 : Y 119 = ⟨.ar 2 3, 2, 16⟩ := rfl
theorem Y120 : Y 120 = ⟨.fn, 1, 8⟩ := rfl
theorem Y121 : Y 121 = ⟨.fn, 1, 8⟩ := rfl
theorem Y122 : Y 122 = ⟨.fn, 1, 8⟩ := rfl
theorem Y123 : Y 123 = ⟨.fn, 1, 8⟩ := rfl
theorem Y124 : Y 124 = ⟨.fn, 1, 8⟩ := rfl
theorem Y125 : Y 125 = ⟨.fn, 1, 8⟩ := rfl
theorem Y126 : Y 126 = ⟨.fn, 1, 8⟩ := rfl
theorem Y127 : Y 127 = ⟨.fn, 1, 8⟩ := rfl
theorem Y128 : Y 128 = ⟨.fn, 1, 8⟩ := rfl
theorem Y129 : Y 129 = ⟨.fn, 1, 8⟩ := rfl
theorem Y130 : Y 130 = ⟨.fn, 1, 8⟩ := rfl
theorem Y131 : Y 131 = ⟨.ptr 43, 1, 8⟩ := rfl
theorem Y132 : Y 132 = ⟨.fn, 1, 8⟩ := rfl
theorem Y133 : Y 133 = ⟨.fn, 1, 8⟩ := rfl
theorem Y134 : Y 134 = ⟨.fn, 1, 8⟩ := rfl
theorem Y135 : Y 135 = ⟨.fn, 1, 8⟩ := rfl
theorem Y136 : Y 136 = ⟨.fn, 1, 8⟩ := rfl
theorem Y137 : Y 137 = ⟨.fn, 1, 8⟩ := rfl
theorem Y138 : Y 138 = ⟨.fn, 1, 8⟩ := rfl
theorem Y139 : Y 139 = ⟨.fn, 1, 8⟩ := rfl
theorem Y140 : Y 140 = ⟨.fn, 1, 8⟩ := rfl
theorem Y141 : Y 141 = ⟨.fn, 1, 8⟩ := rfl
theorem Y142 : Y 142 = ⟨.fn, 1, 8⟩ := rfl
theorem Y143 : Y 143 = ⟨.fn, 1, 8⟩ := rfl
theorem Y144 : Y 144 = ⟨.fn, 1, 8⟩ := rfl
theorem Y145 : Y 145 = ⟨.fn, 1, 8⟩ := rfl
theorem Y146 : Y 146 = ⟨.fn, 1, 8⟩ := rfl
theorem Y147 : Y 147 = ⟨.fn, 1, 8⟩ := rfl
theorem Y148 : Y 148 = ⟨.fn, 1, 8⟩ := rfl
theorem Y149 : Y 149 = ⟨.fn, 1, 8⟩ := rfl
theorem Y150 : Y 150 = ⟨.fn, 1, 8⟩ := rfl
theorem Y151 : Y 151 = ⟨.fn, 1, 8⟩ := rfl
theorem Y152 : Y 152 = ⟨.fn, 1, 8⟩ := rfl
theorem Y153 : Y 153 = ⟨.fn, 1, 8⟩ := rfl
theorem Y154 : Y 154 = ⟨.fn, 1, 8⟩ := rfl
theorem Y155 : Y 155 = ⟨.fn, 1, 8⟩ := rfl
theorem Y156 : Y 156 = ⟨.fn, 1, 8⟩ := rfl
theorem Y157 : Y 157 = ⟨.fn, 1, 8⟩ := rfl
theorem Y158 : Y 158 = ⟨.fn, 1, 8⟩ := rfl
theorem Y159 : Y 159 = ⟨.fn, 1, 8⟩ := rfl
theorem Y160 : Y 160 = ⟨.fn, 1, 8⟩ := rfl
theorem Y161 : Y 161 = ⟨.fn, 1, 8⟩ := rfl
theorem Y162 : Y 162 = ⟨.fn, 1, 8⟩ := rfl
theorem Y163 : Y 163 = ⟨.fn, 1, 8⟩ := rfl
theorem Y164 : Y 164 = ⟨.st [(3, 0), (3, 1)], 2, 16⟩ := rfl
theorem Y165 : Y 165 = ⟨.st [(3, 0), (3, 1)], 2, 16⟩ := rfl
theorem Y166 : Y 166 = ⟨.fn, 1, 8⟩ := rfl
theorem Y167 : Y 167 = ⟨.fn, 1, 8⟩ := rfl
theorem Y168 : Y 168 = ⟨.st [(3, 0), (3, 1), (3, 2), (3, 3), (3, 4), (37, 5), (37, 9), (3, 13), (94, 14)], 15, 200⟩ := rfl
theorem Y169 : Y 169 = ⟨.st [(3, 0), (3, 1), (3, 2), (3, 3), (3, 4), (37, 5), (37, 9), (3, 13), (94, 14)], 15, 200⟩ := rfl
theorem Y170 : Y 170 = ⟨.fn, 1, 8⟩ := rfl
theorem Y171 : Y 171 = ⟨.st [(22, 0), (3, 1), (3, 2)], 3, 40⟩ := rfl
theorem Y172 : Y 172 = ⟨.st [(22, 0), (3, 1), (3, 2)], 3, 40⟩ := rfl
theorem Y173 : Y 173 = ⟨.fn, 1, 8⟩ := rfl
theorem Y174 : Y 174 = ⟨.fn, 1, 8⟩ := rfl
theorem Y175 : Y 175 = ⟨.fn, 1, 8⟩ := rfl
theorem Y176 : Y 176 = ⟨.fn, 1, 8⟩ := rfl
theorem Y177 : Y 177 = ⟨.fn, 1, 8⟩ := rfl
theorem Y178 : Y 178 = ⟨.fn, 1, 8⟩ := rfl
theorem Y179 : Y 179 = ⟨.fn, 1, 8⟩ := rfl
theorem Y180 : Y 180 = ⟨.fn, 1, 8⟩ := rfl
theorem Y181 : Y 181 = ⟨.fn, 1, 8⟩ := rfl
theorem Y182 : Y 182 = ⟨.fn, 1, 8⟩ := rfl
theorem Y183 : Y 183 = ⟨.fn, 1, 8⟩ := rfl
theorem Y184 : Y 184 = ⟨.st [(3, 0), (3, 1), (3, 2)], 3, 24⟩ := rfl
theorem Y185 : Y 185 = ⟨.fn, 1, 8⟩ := rfl
theorem Y186 : Y 186 = ⟨.fn, 1, 8⟩ := rfl
theorem Y187 : Y 187 = ⟨.fn, 1, 8⟩ := rfl
theorem Y188 : Y 188 = ⟨.fn, 1, 8⟩ := rfl
theorem Y189 : Y 189 = ⟨.fn, 1, 8⟩ := rfl
theorem Y190 : Y 190 = ⟨.fn, 1, 8⟩ := rfl
theorem Y191 : Y 191 = ⟨.st [(3, 0), (86, 1), (4, 18), (4, 19)], 20, 280⟩ := rfl
theorem Y192 : Y 192 = ⟨.st [(3, 0), (86, 1), (4, 18), (4, 19)], 20, 280⟩ := rfl
theorem Y193 : Y 193 = ⟨.fn, 1, 8⟩ := rfl
theorem Y194 : Y 194 = ⟨.fn, 1, 8⟩ := rfl
theorem Y195 : Y 195 = ⟨.fn, 1, 8⟩ := rfl
theorem Y196 : Y 196 = ⟨.st [(3, 0), (3, 1), (4, 2)], 3, 24⟩ := rfl
theorem Y197 : Y 197 = ⟨.st [(3, 0), (3, 1), (4, 2)], 3, 24⟩ := rfl
theorem Y198 : Y 198 = ⟨.fn, 1, 8⟩ := rfl
theorem Y199 : Y 199 = ⟨.st [(3, 0), (3, 1), (4, 2)], 3, 24⟩ := rfl
theorem Y200 : Y 200 = ⟨.fn, 1, 8⟩ := rfl
theorem Y201 : Y 201 = ⟨.st [(3, 0), (3, 1)], 2, 16⟩ := rfl
theorem Y202 : Y 202 = ⟨.fn, 1, 8⟩ := rfl
theorem Y203 : Y 203 = ⟨.fn, 1, 8⟩ := rfl
theorem Y204 : Y 204 = ⟨.fn, 1, 8⟩ := rfl
theorem Y205 : Y 205 = ⟨.fn, 1, 8⟩ := rfl
theorem Y206 : Y 206 = ⟨.fn, 1, 8⟩ := rfl
theorem Y207 : Y 207 = ⟨.fn, 1, 8⟩ := rfl
theorem Y208 : Y 208 = ⟨.fn, 1, 8⟩ := rfl
theorem Y209 : Y 209 = ⟨.fn, 1, 8⟩ := rfl
theorem Y210 : Y 210 = ⟨.fn, 1, 8⟩ := rfl
theorem Y211 : Y 211 = ⟨.fn, 1, 8⟩ := rfl
theorem Y212 : Y 212 = ⟨.fn, 1, 8⟩ := rfl
theorem Y213 : Y 213 = ⟨.fn, 1, 8⟩ := rfl
theorem Y214 : Y 214 = ⟨.st [(3, 0), (70, 1), (4, 18), (4, 19)], 20, 280⟩ := rfl
theorem Y215 : Y 215 = ⟨.st [(3, 0), (70, 1), (4, 18), (4, 19)], 20, 280⟩ := rfl
theorem Y216 : Y 216 = ⟨.fn, 1, 8⟩ := rfl
theorem Y217 : Y 217 = ⟨.st [(3, 0), (3, 1), (3, 2), (3, 3), (3, 4), (67, 5), (67, 9), (3, 13), (78, 14)], 15, 200⟩ := rfl
theorem Y218 : Y 218 = ⟨.st [(3, 0), (3, 1), (3, 2), (3, 3), (3, 4), (67, 5), (67, 9), (3, 13), (78, 14)], 15, 200⟩ := rfl
theorem Y219 : Y 219 = ⟨.fn, 1, 8⟩ := rfl
theorem Y220 : Y 220 = ⟨.fn, 1, 8⟩ := rfl
theorem Y221 : Y 221 = ⟨.fn, 1, 8⟩ := rfl
theorem Y222 : Y 222 = ⟨.fn, 1, 8⟩ := rfl
theorem Y223 : Y 223 = ⟨.fn, 1, 8⟩ := rfl
theorem Y224 : Y 224 = ⟨.fn, 1, 8⟩ := rfl
theorem Y225 : Y 225 = ⟨.fn, 1, 8⟩ := rfl
theorem Y226 : Y 226 = ⟨.fn, 1, 8⟩ := rfl
theorem Y227 : Y 227 = ⟨.fn, 1, 8⟩ := rfl
theorem Y228 : Y 228 = ⟨.fn, 1, 8⟩ := rfl
theorem Y229 : Y 229 = ⟨.int .u64, 1, 8⟩ := rfl
theorem Y230 : Y 230 = ⟨.fn, 1, 8⟩ := rfl
theorem Y231 : Y 231 = ⟨.fn, 1, 8⟩ := rfl
theorem Y232 : Y 232 = ⟨.fn, 1, 8⟩ := rfl
theorem Y233 : Y 233 = ⟨.fn, 1, 8⟩ := rfl
theorem Y234 : Y 234 = ⟨.fn, 1, 8⟩ := rfl
theorem Y235 : Y 235 = ⟨.fn, 1, 8⟩ := rfl
theorem Y236 : Y 236 = ⟨.fn, 1, 8⟩ := rfl
theorem Y237 : Y 237 = ⟨.st [(17, 0), (17, 1), (17, 2), (9, 3)], 4, 40⟩ := rfl
theorem Y238 : Y 238 = ⟨.st [(17, 0), (17, 1), (17, 2), (9, 3)], 4, 40⟩ := rfl
theorem Y242 : Y 242 = ⟨.fn, 1, 8⟩ := rfl
theorem Y243 : Y 243 = ⟨.int .u32, 1, 4⟩ := rfl
theorem Y244 : Y 244 = ⟨.int .u8, 1, 1⟩ := rfl
theorem Y245 : Y 245 = ⟨.int .u8, 1, 1⟩ := rfl
theorem Y246 : Y 246 = ⟨.fn, 1, 8⟩ := rfl
theorem Y247 : Y 247 = ⟨.ptr 5, 1, 8⟩ := rfl
theorem Y248 : Y 248 = ⟨.int .i32, 1, 4⟩ := rfl
theorem Y249 : Y 249 = ⟨.int .i32, 1, 4⟩ := rfl
end Q6

namespace Q6
open Go Go.Vm Go.Proofs
theorem mixed : Try.prog.follows .mixedOrders = true := by kernel_rfl
theorem bs0_22 (own : Nat) : buildSliceM Y own 22 0 [] = .pure { v := .ref own 0 0 0, news := [.arr 1 [] false] } := build0 Y22 Y5 rfl (by decide)
theorem bs1_22 (own : Nat) (x : UInt8) : buildSliceM Y own 22 1 [(0, .int .u8 (x.toNat : Int))] = .pure { v := .ref own 0 0 1, news := [.arr 1 [.int .u8 (x.toNat : Int)] false] } := build1 Y22 Y5 rfl (by decide) rfl rfl rfl
theorem bs0_24 (own : Nat) : buildSliceM Y own 24 0 [] = .pure { v := .ref own 0 0 0, news := [.arr 4 [] false] } := build0 Y24 Y37 rfl (by decide)
theorem bs0_27 (own : Nat) : buildSliceM Y own 27 0 [] = .pure { v := .ref own 0 0 0, news := [.arr 1 [] false] } := build0 Y27 Y3 rfl (by decide)
theorem bs1_27 (own : Nat) (x : Int) : buildSliceM Y own 27 1 [(0, .int .i64 x)] = .pure { v := .ref own 0 0 1, news := [.arr 1 [.int .i64 x] false] } := build1 Y27 Y3 rfl (by decide) rfl rfl rfl
theorem bs0_29 (own : Nat) : buildSliceM Y own 29 0 [] = .pure { v := .ref own 0 0 0, news := [.arr 1 [] false] } := build0 Y29 Y4 rfl (by decide)
theorem bs1_29 (own : Nat) (x : Bool) : buildSliceM Y own 29 1 [(0, .bool x)] = .pure { v := .ref own 0 0 1, news := [.arr 1 [.bool x] false] } := build1 Y29 Y4 rfl (by decide) rfl rfl rfl
theorem bs0_39 (own : Nat) : buildSliceM Y own 39 0 [] = .pure { v := .ref own 0 0 0, news := [.arr 2 [] false] } := build0 Y39 Y119 rfl (by decide)
theorem bs1_39 (own : Nat) (x_0 : Int) (x_1 : Int) : buildSliceM Y own 39 1 [(0, .nd [.int .i64 x_0, .int .i64 x_1])] = .pure { v := .ref own 0 0 1, news := [.arr 2 [.nd [.int .i64 x_0, .int .i64 x_1]] false] } := build1 Y39 Y119 rfl (by decide) rfl rfl rfl
theorem bs0_41 (own : Nat) : buildSliceM Y own 41 0 [] = .pure { v := .ref own 0 0 0, news := [.arr 3 [] false] } := build0 Y41 Y50 rfl (by decide)
theorem bs1_41 (own : Nat) (x_0 : Int) (x_1 : Int) (x_2 : Int) : buildSliceM Y own 41 1 [(0, .nd [.int .i64 x_0, .int .i64 x_1, .int .i64 x_2])] = .pure { v := .ref own 0 0 1, news := [.arr 3 [.nd [.int .i64 x_0, .int .i64 x_1, .int .i64 x_2]] false] } := build1 Y41 Y50 rfl (by decide) rfl rfl rfl
theorem bs0_52 (own : Nat) : buildSliceM Y own 52 0 [] = .pure { v := .ref own 0 0 0, news := [.arr 3 [] false] } := build0 Y52 Y184 rfl (by decide)
theorem bs1_52 (own : Nat) (x_0 : Int) (x_1 : Int) (x_2 : Int) : buildSliceM Y own 52 1 [(0, .nd [.int .i64 x_0, .int .i64 x_1, .int .i64 x_2])] = .pure { v := .ref own 0 0 1, news := [.arr 3 [.nd [.int .i64 x_0, .int .i64 x_1, .int .i64 x_2]] false] } := build1 Y52 Y184 rfl (by decide) rfl rfl rfl
theorem bs0_72 (own : Nat) : buildSliceM Y own 72 0 [] = .pure { v := .ref own 0 0 0, news := [.arr 20 [] false] } := build0 Y72 Y215 rfl (by decide)
theorem bs0_75 (own : Nat) : buildSliceM Y own 75 0 [] = .pure { v := .ref own 0 0 0, news := [.arr 15 [] false] } := build0 Y75 Y218 rfl (by decide)
theorem bs0_78 (own : Nat) : buildSliceM Y own 78 0 [] = .pure { v := .ref own 0 0 0, news := [.arr 3 [] false] } := build0 Y78 Y199 rfl (by decide)
theorem bs1_78 (own : Nat) (x_0 : Int) (x_1 : Int) (x_2 : Bool) : buildSliceM Y own 78 1 [(0, .nd [.int .i64 x_0, .int .i64 x_1, .bool x_2])] = .pure { v := .ref own 0 0 1, news := [.arr 3 [.nd [.int .i64 x_0, .int .i64 x_1, .bool x_2]] false] } := build1 Y78 Y199 rfl (by decide) rfl rfl rfl
theorem bs0_79 (own : Nat) : buildSliceM Y own 79 0 [] = .pure { v := .ref own 0 0 0, news := [.arr 2 [] false] } := build0 Y79 Y201 rfl (by decide)
theorem bs1_79 (own : Nat) (x_0 : Int) (x_1 : Int) : buildSliceM Y own 79 1 [(0, .nd [.int .i64 x_0, .int .i64 x_1])] = .pure { v := .ref own 0 0 1, news := [.arr 2 [.nd [.int .i64 x_0, .int .i64 x_1]] false] } := build1 Y79 Y201 rfl (by decide) rfl rfl rfl
theorem bs0_88 (own : Nat) : buildSliceM Y own 88 0 [] = .pure { v := .ref own 0 0 0, news := [.arr 20 [] false] } := build0 Y88 Y192 rfl (by decide)
theorem bs0_91 (own : Nat) : buildSliceM Y own 91 0 [] = .pure { v := .ref own 0 0 0, news := [.arr 15 [] false] } := build0 Y91 Y169 rfl (by decide)
theorem bs0_94 (own : Nat) : buildSliceM Y own 94 0 [] = .pure { v := .ref own 0 0 0, news := [.arr 3 [] false] } := build0 Y94 Y197 rfl (by decide)
theorem bs1_94 (own : Nat) (x_0 : Int) (x_1 : Int) (x_2 : Bool) : buildSliceM Y own 94 1 [(0, .nd [.int .i64 x_0, .int .i64 x_1, .bool x_2])] = .pure { v := .ref own 0 0 1, news := [.arr 3 [.nd [.int .i64 x_0, .int .i64 x_1, .bool x_2]] false] } := build1 Y94 Y197 rfl (by decide) rfl rfl rfl
theorem bs0_95 (own : Nat) : buildSliceM Y own 95 0 [] = .pure { v := .ref own 0 0 0, news := [.arr 2 [] false] } := build0 Y95 Y165 rfl (by decide)
theorem bs1_95 (own : Nat) (x_0 : Int) (x_1 : Int) : buildSliceM Y own 95 1 [(0, .nd [.int .i64 x_0, .int .i64 x_1])] = .pure { v := .ref own 0 0 1, news := [.arr 2 [.nd [.int .i64 x_0, .int .i64 x_1]] false] } := build1 Y95 Y165 rfl (by decide) rfl rfl rfl
abbrev ObjT := (Int × (List Int) × (List Int) × Unit)
abbrev SlotT := (Bool × ((Int × (List Int) × (List Int) × Unit)) × Unit)
abbrev LiveT := (Int × Int × Bool × Unit)
abbrev RecT := (Int × Int × Int × Int × Int × ((Bool × ((Int × (List Int) × (List Int) × Unit)) × Unit)) × ((Bool × ((Int × (List Int) × (List Int) × Unit)) × Unit)) × Int × (List ((Int × Int × Bool × Unit))) × Unit)
abbrev PageT := (Int × ((((Bool × ((Int × (List Int) × (List Int) × Unit)) × Unit)) × ((Bool × ((Int × (List Int) × (List Int) × Unit)) × Unit)) × ((Bool × ((Int × (List Int) × (List Int) × Unit)) × Unit)) × ((Bool × ((Int × (List Int) × (List Int) × Unit)) × Unit)) × Unit)) × Unit)
end Q6

namespace Q6
open Go Go.Vm Go.Proofs
set_option maxHeartbeats 4000000
set_option synthInstance.maxSize 2000
set_option synthInstance.maxHeartbeats 400000
set_option maxRecDepth 10000
set_option linter.unusedSimpArgs false
set_option linter.unusedVariables false

theorem goK {A B1 B2 B3 B4 B5 B6 B7 B8 B9 B10 B11 B12 B13 B14 B15 B16 : Prop} (b1 : B1) (b2 : B2) (b3 : B3) (b4 : B4) (b5 : B5) (b6 : B6) (b7 : B7) (b8 : B8) (b9 : B9) (b10 : B10) (b11 : B11) (b12 : B12) (b13 : B13) (b14 : B14) (b15 : B15) (b16 : B16) (k : B1 →  B2 →  B3 →  B4 →  B5 →  B6 →  B7 →  B8 →  B9 →  B10 →  B11 →  B12 →  B13 →  B14 →  B15 →  B16 → A := by intro h1 h2 h3 h4 h5 h6 h7 h8 h9 h10 h11 h12 h13 h14 h15 h16; refine tw ?_ ?_; (focus (repeat' first | ((have hk8 := Nat.add_zero); (first | refine SW.ops_seq hY fun y1 hy1 => ?_ | refine SW.ops hY ?_ | refine SW.seq (SW.draw2x hD1 hY mixed (by kernel_rfl) ?_) | refine SW.draw2x hD1 hY mixed (by kernel_rfl) ?_ | refine SW.seq (SW.draw2x hD2 hY mixed (by kernel_rfl) ?_) | refine SW.draw2x hD2 hY mixed (by kernel_rfl) ?_ | refine SW.seq (SW.draw2x hD3 hY mixed (by kernel_rfl) ?_) | refine SW.draw2x hD3 hY mixed (by kernel_rfl) ?_ | refine SW.draw_seq hY mixed (by kernel_rfl) fun y1 hy1 => ?_ | refine SW.draw hY mixed (by kernel_rfl) ?_ | refine vcall_c hC1 (hK := ?_) | refine vcall_c hC2 (hK := ?_) | refine vcall_c hC3 (hK := ?_) | refine vcall_c hC4 (hK := ?_) | refine vcall_c hC5 (hK := ?_) | refine vcall_c hC6 (hK := ?_) | refine vcall_c hC7 (hK := ?_) | refine vcall_c hC8 (hK := ?_) | refine vcall_c hC9 (hK := ?_) | refine vcall_c hC10 (hK := ?_) | refine vcall_c hC11 (hK := ?_) | refine vcall_c hC12 (hK := ?_) | refine vcall_c hC13 (hK := ?_) | refine vcall_c hC14 (hK := ?_) | refine vcall_c (cx [] (hG1 _)) (hK := ?_) | refine vcall_c (cx [] (hG1 _ _)) (hK := ?_) | refine vcall_c (cx [] (hG1 _ _ _)) (hK := ?_) | refine vcall_c (cx [] (hG1 _ _ _ _)) (hK := ?_) | refine vcall_c (cx [] (hG2 _)) (hK := ?_) | refine vcall_c (cx [] (hG2 _ _)) (hK := ?_) | refine vcall_c (cx [] (hG2 _ _ _)) (hK := ?_) | refine vcall_c (cx [] (hG2 _ _ _ _)) (hK := ?_) | refine vcall_c (cx [] (hG3 _)) (hK := ?_) | refine vcall_c (cx [] (hG3 _ _)) (hK := ?_) | refine vcall_c (cx [] (hG3 _ _ _)) (hK := ?_) | refine vcall_c (cx [] (hG3 _ _ _ _)) (hK := ?_) | refine kgf ?_ | refine kgt ?_ | (refine k8p ?_; (simp only [k13, hk8, upT_g, dnT_g, nb_g, dnT_b, dnT_s, dnT_0, dnT_r, fx, fy, fz, wo, decide_true, decide_false, wz0, wz1, wz2, wz3, wz4, wz5, wz6, wz7, wz8, appM, Ty.isInt, capT, appendZM, buildM, setAll, plSt, plAr, mnmx, Int.reduceLT, vrec, List.drop_succ_cons, List.drop_zero, convertM, indexM, fieldM, Int.toNat_zero, Int.toNat_one, Int.le_refl, Int.zero_le_ofNat, Int.reduceEq, Int.reduceNe, ne_eq, not_false_eq_true, u8_wrap, marksG_len, marks_len, bne_self_eq_false, take_map_len, tgL_byte, T.asArr, T.tg, tgL, indexAddrM, wk, wl, eq_self, isCall, callT, opM, S.ev, S.put, entryS, thawAL, thawA, RM.run, RM.bind, RM.ofOpt, allocs, Heap.ups, Heap.put, Heap.at, List.replicate, Nat.reduceAdd, Nat.reduceSub, ofConst, nilAs, if_false, if_true, binT, binTy, unT, guardT, quietK, reduceIte, boxM, allocM, loadM, storeM, fieldAddrM, lenT, extractT, subM, setOb, T.get, T.setp, T.offs, T.nw, nwL, T.cel, T.isNd, T.size, sizeL, TyI.agg, Ty.agg, Ty.isFn, zeroT, Nat.reduceLT, Nat.reduceEqDiff, sumT, kill]); (first | refine vpure_c hC1 (hK := ?_) | refine vpure_c hC2 (hK := ?_) | refine vpure_c hC3 (hK := ?_) | refine vpure_c hC4 (hK := ?_) | refine vpure_c hC5 (hK := ?_) | refine vpure_c hC6 (hK := ?_) | refine vpure_c hC7 (hK := ?_) | refine vpure_c hC8 (hK := ?_) | refine vpure_c hC9 (hK := ?_) | refine vpure_c hC10 (hK := ?_) | refine vpure_c hC11 (hK := ?_) | refine vpure_c hC12 (hK := ?_) | refine vpure_c hC13 (hK := ?_) | refine vpure_c hC14 (hK := ?_) | refine vpure_c (cx [] (hG1 _)) (hK := ?_) | refine vpure_c (cx [] (hG1 _ _)) (hK := ?_) | refine vpure_c (cx [] (hG1 _ _ _)) (hK := ?_) | refine vpure_c (cx [] (hG1 _ _ _ _)) (hK := ?_) | refine vpure_c (cx [] (hG2 _)) (hK := ?_) | refine vpure_c (cx [] (hG2 _ _)) (hK := ?_) | refine vpure_c (cx [] (hG2 _ _ _)) (hK := ?_) | refine vpure_c (cx [] (hG2 _ _ _ _)) (hK := ?_) | refine vpure_c (cx [] (hG3 _)) (hK := ?_) | refine vpure_c (cx [] (hG3 _ _)) (hK := ?_) | refine vpure_c (cx [] (hG3 _ _ _)) (hK := ?_) | refine vpure_c (cx [] (hG3 _ _ _ _)) (hK := ?_))) | (simp only [k8]; refine .inl ?_; refine ⟨fun hb => ?_, fun hb => ?_⟩ <;> (try replace hb := Bool.eq_false_iff.2 hb) <;> (first | exact absurd hb (by decide) | replace hk8 := hb))) <;> (simp only [k13, hk8, upT_g, dnT_g, nb_g, dnT_b, dnT_s, dnT_0, dnT_r, fx, fy, fz, wo, decide_true, decide_false, wz0, wz1, wz2, wz3, wz4, wz5, wz6, wz7, wz8, appM, Ty.isInt, capT, appendZM, buildM, setAll, plSt, plAr, mnmx, Int.reduceLT, vrec, List.drop_succ_cons, List.drop_zero, convertM, indexM, fieldM, Int.toNat_zero, Int.toNat_one, Int.le_refl, Int.zero_le_ofNat, Int.reduceEq, Int.reduceNe, ne_eq, not_false_eq_true, u8_wrap, marksG_len, marks_len, bne_self_eq_false, take_map_len, tgL_byte, T.asArr, T.tg, tgL, indexAddrM, wk, wl, eq_self, isCall, callT, opM, S.ev, S.put, entryS, thawAL, thawA, RM.run, RM.bind, RM.ofOpt, allocs, Heap.ups, Heap.put, Heap.at, List.replicate, Nat.reduceAdd, Nat.reduceSub, ofConst, nilAs, if_false, if_true, binT, binTy, unT, guardT, quietK, reduceIte, boxM, allocM, loadM, storeM, fieldAddrM, lenT, extractT, subM, setOb, T.get, T.setp, T.offs, T.nw, nwL, T.cel, T.isNd, T.size, sizeL, TyI.agg, Ty.agg, Ty.isFn, zeroT, Nat.reduceLT, Nat.reduceEqDiff, sumT, kill]; clear hk8; first | subst hy1 | (try simp only [thenS, blockS, if_true, if_false, Nat.reduceEqDiff, reduceIte]))) | (refine Chk.mk (by simp only [rdqs, rdq, k13, upT_g, dnT_g, nb_g, dnT_b, dnT_s, dnT_0, dnT_r, fx, fy, fz, wo, decide_true, decide_false, wz0, wz1, wz2, wz3, wz4, wz5, wz6, wz7, wz8, appM, Ty.isInt, capT, appendZM, buildM, setAll, plSt, plAr, mnmx, Int.reduceLT, vrec, List.drop_succ_cons, List.drop_zero, convertM, indexM, fieldM, Int.toNat_zero, Int.toNat_one, Int.le_refl, Int.zero_le_ofNat, Int.reduceEq, Int.reduceNe, ne_eq, not_false_eq_true, u8_wrap, marksG_len, marks_len, bne_self_eq_false, take_map_len, tgL_byte, T.asArr, T.tg, tgL, indexAddrM, wk, wl, eq_self, isCall, callT, opM, S.ev, S.put, entryS, thawAL, thawA, RM.run, RM.bind, RM.ofOpt, allocs, Heap.ups, Heap.put, Heap.at, List.replicate, Nat.reduceAdd, Nat.reduceSub, ofConst, nilAs, if_false, if_true, binT, binTy, unT, guardT, quietK, reduceIte, boxM, allocM, loadM, storeM, fieldAddrM, lenT, extractT, subM, setOb, T.get, T.setp, T.offs, T.nw, nwL, T.cel, T.isNd, T.size, sizeL, TyI.agg, Ty.agg, Ty.isFn, zeroT, Nat.reduceLT, Nat.reduceEqDiff, sumT, kill]; try trivial) ?_) | exact absurd trivial hb | exact absurd hb (by decide) | exact absurd hcc (by decide) | refine SW.seq ?_ | refine SW.block ?_ | (refine SW.cond rfl (fun hcc => ?_) (fun hcc => ?_)) | (refine SW.exit ?_; simp only [thenS, blockS, if_true, if_false, Nat.reduceEqDiff, reduceIte]) | (refine SW.skip ?_; simp only [thenS, blockS]) | exact SW.ret (RetQ.r hR) | (refine SW.ret (show RetQ _ _ _ _ _ _ _ from ⟨.inr rfl, [_], [1], [_], _, rfl, rfl, rfl, rfl, rfl, ?_⟩)) | (refine SW.ret (show RetQ _ _ _ _ _ _ _ from ⟨.inr rfl, [_, _], [0, 0], [_, _], _, rfl, rfl, rfl, rfl, rfl, ?_⟩)) | (refine SW.ret (show RetQ _ _ _ _ _ _ _ from ⟨.inr rfl, [_, _, _], [0, 0, 0], [_, _, _], _, rfl, rfl, rfl, rfl, rfl, ?_⟩)) | (refine SW.ret (show RetQ _ _ _ _ _ _ _ from ⟨.inr rfl, [_, _, _, _], [0, 0, 0, 0], [_, _, _, _], _, rfl, rfl, rfl, rfl, rfl, ?_⟩)) | ((repeat (refine Wh.h ?_ hb; clear hb)); (repeat (refine Wh.h ?_ hcc; clear hcc)); (first | exact h1 | exact h2 | exact h3 | exact h4 | exact h5 | exact h6 | exact h7 | exact h8 | exact h9 | exact h10 | exact h11 | exact h12 | exact h13 | exact h14 | exact h15 | exact h16)))); (try (have hq : True := h1)); (try (have hq : True := h2)); (try (have hq : True := h3)); (try (have hq : True := h4)); (try (have hq : True := h5)); (try (have hq : True := h6)); (try (have hq : True := h7)); (try (have hq : True := h8)); (try (have hq : True := h9)); (try (have hq : True := h10)); (try (have hq : True := h11)); (try (have hq : True := h12)); (try (have hq : True := h13)); (try (have hq : True := h14)); (try (have hq : True := h15)); (try (have hq : True := h16)); exact True.intro) : A := k b1 b2 b3 b4 b5 b6 b7 b8 b9 b10 b11 b12 b13 b14 b15 b16
theorem goN {A B1 B2 B3 B4 B5 B6 B7 B8 B9 B10 B11 B12 B13 B14 B15 B16 : Prop} (b1 : B1) (b2 : B2) (b3 : B3) (b4 : B4) (b5 : B5) (b6 : B6) (b7 : B7) (b8 : B8) (b9 : B9) (b10 : B10) (b11 : B11) (b12 : B12) (b13 : B13) (b14 : B14) (b15 : B15) (b16 : B16) (k : B1 →  B2 →  B3 →  B4 →  B5 →  B6 →  B7 →  B8 →  B9 →  B10 →  B11 →  B12 →  B13 →  B14 →  B15 →  B16 → A := by intro h1 h2 h3 h4 h5 h6 h7 h8 h9 h10 h11 h12 h13 h14 h15 h16; refine tw ?_ ?_; (focus (repeat' first | ((have hk8 := Nat.add_zero); (first | refine SW.ops_seq hY fun y1 hy1 => ?_ | refine SW.ops hY ?_ | refine SW.seq (SW.draw2x hD1 hY mixed (by kernel_rfl) ?_) | refine SW.draw2x hD1 hY mixed (by kernel_rfl) ?_ | refine SW.seq (SW.draw2x hD2 hY mixed (by kernel_rfl) ?_) | refine SW.draw2x hD2 hY mixed (by kernel_rfl) ?_ | refine SW.seq (SW.draw2x hD3 hY mixed (by kernel_rfl) ?_) | refine SW.draw2x hD3 hY mixed (by kernel_rfl) ?_ | refine SW.draw_seq hY mixed (by kernel_rfl) fun y1 hy1 => ?_ | refine SW.draw hY mixed (by kernel_rfl) ?_ | refine vcall_c hC1 (hK := ?_) | refine vcall_c hC2 (hK := ?_) | refine vcall_c hC3 (hK := ?_) | refine vcall_c hC4 (hK := ?_) | refine vcall_c hC5 (hK := ?_) | refine vcall_c hC6 (hK := ?_) | refine vcall_c hC7 (hK := ?_) | refine vcall_c hC8 (hK := ?_) | refine vcall_c hC9 (hK := ?_) | refine vcall_c hC10 (hK := ?_) | refine vcall_c hC11 (hK := ?_) | refine vcall_c hC12 (hK := ?_) | refine vcall_c hC13 (hK := ?_) | refine vcall_c hC14 (hK := ?_) | refine vcall_c (cx [] (hG1 _)) (hK := ?_) | refine vcall_c (cx [] (hG1 _ _)) (hK := ?_) | refine vcall_c (cx [] (hG1 _ _ _)) (hK := ?_) | refine vcall_c (cx [] (hG1 _ _ _ _)) (hK := ?_) | refine vcall_c (cx [] (hG2 _)) (hK := ?_) | refine vcall_c (cx [] (hG2 _ _)) (hK := ?_) | refine vcall_c (cx [] (hG2 _ _ _)) (hK := ?_) | refine vcall_c (cx [] (hG2 _ _ _ _)) (hK := ?_) | refine vcall_c (cx [] (hG3 _)) (hK := ?_) | refine vcall_c (cx [] (hG3 _ _)) (hK := ?_) | refine vcall_c (cx [] (hG3 _ _ _)) (hK := ?_) | refine vcall_c (cx [] (hG3 _ _ _ _)) (hK := ?_) | refine kgf ?_ | refine kgt ?_ | (refine k8p ?_; (simp only [k13, hk8, upT_g, dnT_g, nb_g, dnT_b, dnT_s, dnT_0, dnT_r, fx, fy, fz, wo, decide_true, decide_false, wz0, wz1, wz2, wz3, wz4, wz5, wz6, wz7, wz8, appM, Ty.isInt, capT, appendZM, buildM, setAll, plSt, plAr, mnmx, Int.reduceLT, vrec, List.drop_succ_cons, List.drop_zero, convertM, indexM, fieldM, Int.toNat_zero, Int.toNat_one, Int.le_refl, Int.zero_le_ofNat, Int.reduceEq, Int.reduceNe, ne_eq, not_false_eq_true, u8_wrap, marksG_len, marks_len, bne_self_eq_false, take_map_len, tgL_byte, T.asArr, T.tg, tgL, indexAddrM, wk, wl, eq_self, isCall, callT, opM, S.ev, S.put, entryS, thawAL, thawA, RM.run, RM.bind, RM.ofOpt, allocs, Heap.ups, Heap.put, Heap.at, List.replicate, Nat.reduceAdd, Nat.reduceSub, ofConst, nilAs, if_false, if_true, binT, binTy, unT, guardT, quietK, reduceIte, boxM, allocM, loadM, storeM, fieldAddrM, lenT, extractT, subM, setOb, T.get, T.setp, T.offs, T.nw, nwL, T.cel, T.isNd, T.size, sizeL, TyI.agg, Ty.agg, Ty.isFn, zeroT, Nat.reduceLT, Nat.reduceEqDiff, sumT, kill]); (first | refine vpure_c hC1 (hK := ?_) | refine vpure_c hC2 (hK := ?_) | refine vpure_c hC3 (hK := ?_) | refine vpure_c hC4 (hK := ?_) | refine vpure_c hC5 (hK := ?_) | refine vpure_c hC6 (hK := ?_) | refine vpure_c hC7 (hK := ?_) | refine vpure_c hC8 (hK := ?_) | refine vpure_c hC9 (hK := ?_) | refine vpure_c hC10 (hK := ?_) | refine vpure_c hC11 (hK := ?_) | refine vpure_c hC12 (hK := ?_) | refine vpure_c hC13 (hK := ?_) | refine vpure_c hC14 (hK := ?_) | refine vpure_c (cx [] (hG1 _)) (hK := ?_) | refine vpure_c (cx [] (hG1 _ _)) (hK := ?_) | refine vpure_c (cx [] (hG1 _ _ _)) (hK := ?_) | refine vpure_c (cx [] (hG1 _ _ _ _)) (hK := ?_) | refine vpure_c (cx [] (hG2 _)) (hK := ?_) | refine vpure_c (cx [] (hG2 _ _)) (hK := ?_) | refine vpure_c (cx [] (hG2 _ _ _)) (hK := ?_) | refine vpure_c (cx [] (hG2 _ _ _ _)) (hK := ?_) | refine vpure_c (cx [] (hG3 _)) (hK := ?_) | refine vpure_c (cx [] (hG3 _ _)) (hK := ?_) | refine vpure_c (cx [] (hG3 _ _ _)) (hK := ?_) | refine vpure_c (cx [] (hG3 _ _ _ _)) (hK := ?_)))) <;> (simp only [k13, hk8, upT_g, dnT_g, nb_g, dnT_b, dnT_s, dnT_0, dnT_r, fx, fy, fz, wo, decide_true, decide_false, wz0, wz1, wz2, wz3, wz4, wz5, wz6, wz7, wz8, appM, Ty.isInt, capT, appendZM, buildM, setAll, plSt, plAr, mnmx, Int.reduceLT, vrec, List.drop_succ_cons, List.drop_zero, convertM, indexM, fieldM, Int.toNat_zero, Int.toNat_one, Int.le_refl, Int.zero_le_ofNat, Int.reduceEq, Int.reduceNe, ne_eq, not_false_eq_true, u8_wrap, marksG_len, marks_len, bne_self_eq_false, take_map_len, tgL_byte, T.asArr, T.tg, tgL, indexAddrM, wk, wl, eq_self, isCall, callT, opM, S.ev, S.put, entryS, thawAL, thawA, RM.run, RM.bind, RM.ofOpt, allocs, Heap.ups, Heap.put, Heap.at, List.replicate, Nat.reduceAdd, Nat.reduceSub, ofConst, nilAs, if_false, if_true, binT, binTy, unT, guardT, quietK, reduceIte, boxM, allocM, loadM, storeM, fieldAddrM, lenT, extractT, subM, setOb, T.get, T.setp, T.offs, T.nw, nwL, T.cel, T.isNd, T.size, sizeL, TyI.agg, Ty.agg, Ty.isFn, zeroT, Nat.reduceLT, Nat.reduceEqDiff, sumT, kill]; clear hk8; first | subst hy1 | (try simp only [thenS, blockS, if_true, if_false, Nat.reduceEqDiff, reduceIte]))) | (refine Chk.mk (by simp only [rdqs, rdq, k13, upT_g, dnT_g, nb_g, dnT_b, dnT_s, dnT_0, dnT_r, fx, fy, fz, wo, decide_true, decide_false, wz0, wz1, wz2, wz3, wz4, wz5, wz6, wz7, wz8, appM, Ty.isInt, capT, appendZM, buildM, setAll, plSt, plAr, mnmx, Int.reduceLT, vrec, List.drop_succ_cons, List.drop_zero, convertM, indexM, fieldM, Int.toNat_zero, Int.toNat_one, Int.le_refl, Int.zero_le_ofNat, Int.reduceEq, Int.reduceNe, ne_eq, not_false_eq_true, u8_wrap, marksG_len, marks_len, bne_self_eq_false, take_map_len, tgL_byte, T.asArr, T.tg, tgL, indexAddrM, wk, wl, eq_self, isCall, callT, opM, S.ev, S.put, entryS, thawAL, thawA, RM.run, RM.bind, RM.ofOpt, allocs, Heap.ups, Heap.put, Heap.at, List.replicate, Nat.reduceAdd, Nat.reduceSub, ofConst, nilAs, if_false, if_true, binT, binTy, unT, guardT, quietK, reduceIte, boxM, allocM, loadM, storeM, fieldAddrM, lenT, extractT, subM, setOb, T.get, T.setp, T.offs, T.nw, nwL, T.cel, T.isNd, T.size, sizeL, TyI.agg, Ty.agg, Ty.isFn, zeroT, Nat.reduceLT, Nat.reduceEqDiff, sumT, kill]; try trivial) ?_) | exact absurd trivial hb | exact absurd hb (by decide) | exact absurd hcc (by decide) | refine SW.seq ?_ | refine SW.block ?_ | (refine SW.exit ?_; simp only [thenS, blockS, if_true, if_false, Nat.reduceEqDiff, reduceIte]) | (refine SW.skip ?_; simp only [thenS, blockS]) | ((repeat (refine Wh.h ?_ hb; clear hb)); (repeat (refine Wh.h ?_ hcc; clear hcc)); (first | exact h1 | exact h2 | exact h3 | exact h4 | exact h5 | exact h6 | exact h7 | exact h8 | exact h9 | exact h10 | exact h11 | exact h12 | exact h13 | exact h14 | exact h15 | exact h16)))); (try (have hq : True := h1)); (try (have hq : True := h2)); (try (have hq : True := h3)); (try (have hq : True := h4)); (try (have hq : True := h5)); (try (have hq : True := h6)); (try (have hq : True := h7)); (try (have hq : True := h8)); (try (have hq : True := h9)); (try (have hq : True := h10)); (try (have hq : True := h11)); (try (have hq : True := h12)); (try (have hq : True := h13)); (try (have hq : True := h14)); (try (have hq : True := h15)); (try (have hq : True := h16)); exact True.intro) : A := k b1 b2 b3 b4 b5 b6 b7 b8 b9 b10 b11 b12 b13 b14 b15 b16
theorem goS {A B1 : Prop} (b1 : B1) (k : B1 → A := by intro h1; refine tw ?_ ?_; (focus (repeat' first | ((have hk8 := Nat.add_zero); (first | refine SW.ops_seq hY fun y1 hy1 => ?_) <;> (simp only [k13, hk8, upT_g, dnT_g, nb_g, dnT_b, dnT_s, dnT_0, dnT_r, fx, fy, fz, wo, decide_true, decide_false, wz0, wz1, wz2, wz3, wz4, wz5, wz6, wz7, wz8, appM, Ty.isInt, capT, appendZM, buildM, setAll, plSt, plAr, mnmx, Int.reduceLT, vrec, List.drop_succ_cons, List.drop_zero, convertM, indexM, fieldM, Int.toNat_zero, Int.toNat_one, Int.le_refl, Int.zero_le_ofNat, Int.reduceEq, Int.reduceNe, ne_eq, not_false_eq_true, u8_wrap, marksG_len, marks_len, bne_self_eq_false, take_map_len, tgL_byte, T.asArr, T.tg, tgL, indexAddrM, wk, wl, eq_self, isCall, callT, opM, S.ev, S.put, entryS, thawAL, thawA, RM.run, RM.bind, RM.ofOpt, allocs, Heap.ups, Heap.put, Heap.at, List.replicate, Nat.reduceAdd, Nat.reduceSub, ofConst, nilAs, if_false, if_true, binT, binTy, unT, guardT, quietK, reduceIte, boxM, allocM, loadM, storeM, fieldAddrM, lenT, extractT, subM, setOb, T.get, T.setp, T.offs, T.nw, nwL, T.cel, T.isNd, T.size, sizeL, TyI.agg, Ty.agg, Ty.isFn, zeroT, Nat.reduceLT, Nat.reduceEqDiff, sumT, kill]; clear hk8; first | subst hy1 | (try simp only [thenS, blockS, if_true, if_false, Nat.reduceEqDiff, reduceIte]))) | refine SW.seq ?_ | (exact h1))); (try (have hq : True := h1)); exact True.intro) : A := k b1
theorem goR {A B1 B2 B3 B4 B5 B6 B7 B8 B9 B10 B11 B12 B13 B14 B15 B16 : Prop} (b1 : B1) (b2 : B2) (b3 : B3) (b4 : B4) (b5 : B5) (b6 : B6) (b7 : B7) (b8 : B8) (b9 : B9) (b10 : B10) (b11 : B11) (b12 : B12) (b13 : B13) (b14 : B14) (b15 : B15) (b16 : B16) (k : B1 →  B2 →  B3 →  B4 →  B5 →  B6 →  B7 →  B8 →  B9 →  B10 →  B11 →  B12 →  B13 →  B14 →  B15 →  B16 → A := by intro h1 h2 h3 h4 h5 h6 h7 h8 h9 h10 h11 h12 h13 h14 h15 h16; refine tw ?_ ?_; (focus (repeat' first | ((have hk8 := Nat.add_zero); (first | refine SW.ops_seq hY fun y1 hy1 => ?_ | refine SW.ops hY ?_ | refine SW.seq (SW.draw2x hD1 hY mixed (by kernel_rfl) ?_) | refine SW.draw2x hD1 hY mixed (by kernel_rfl) ?_ | refine SW.seq (SW.draw2x hD2 hY mixed (by kernel_rfl) ?_) | refine SW.draw2x hD2 hY mixed (by kernel_rfl) ?_ | refine SW.seq (SW.draw2x hD3 hY mixed (by kernel_rfl) ?_) | refine SW.draw2x hD3 hY mixed (by kernel_rfl) ?_ | refine SW.draw_seq hY mixed (by kernel_rfl) fun y1 hy1 => ?_ | refine SW.draw hY mixed (by kernel_rfl) ?_ | refine vcall_c hC1 (hK := ?_) | refine vcall_c hC2 (hK := ?_) | refine vcall_c hC3 (hK := ?_) | refine vcall_c hC4 (hK := ?_) | refine vcall_c hC5 (hK := ?_) | refine vcall_c hC6 (hK := ?_) | refine vcall_c hC7 (hK := ?_) | refine vcall_c hC8 (hK := ?_) | refine vcall_c hC9 (hK := ?_) | refine vcall_c hC10 (hK := ?_) | refine vcall_c hC11 (hK := ?_) | refine vcall_c hC12 (hK := ?_) | refine vcall_c hC13 (hK := ?_) | refine vcall_c hC14 (hK := ?_) | refine vcall_c (cx [] (hG1 _)) (hK := ?_) | refine vcall_c (cx [] (hG1 _ _)) (hK := ?_) | refine vcall_c (cx [] (hG1 _ _ _)) (hK := ?_) | refine vcall_c (cx [] (hG1 _ _ _ _)) (hK := ?_) | refine vcall_c (cx [] (hG2 _)) (hK := ?_) | refine vcall_c (cx [] (hG2 _ _)) (hK := ?_) | refine vcall_c (cx [] (hG2 _ _ _)) (hK := ?_) | refine vcall_c (cx [] (hG2 _ _ _ _)) (hK := ?_) | refine vcall_c (cx [] (hG3 _)) (hK := ?_) | refine vcall_c (cx [] (hG3 _ _)) (hK := ?_) | refine vcall_c (cx [] (hG3 _ _ _)) (hK := ?_) | refine vcall_c (cx [] (hG3 _ _ _ _)) (hK := ?_) | refine kgf ?_ | refine kgt ?_ | (refine k8p ?_; (simp only [k13, hk8, upT_g, dnT_g, nb_g, dnT_b, dnT_s, dnT_0, dnT_r, fx, fy, fz, wo, decide_true, decide_false, wz0, wz1, wz2, wz3, wz4, wz5, wz6, wz7, wz8, appM, Ty.isInt, capT, appendZM, buildM, setAll, plSt, plAr, mnmx, Int.reduceLT, vrec, List.drop_succ_cons, List.drop_zero, convertM, indexM, fieldM, Int.toNat_zero, Int.toNat_one, Int.le_refl, Int.zero_le_ofNat, Int.reduceEq, Int.reduceNe, ne_eq, not_false_eq_true, u8_wrap, marksG_len, marks_len, bne_self_eq_false, take_map_len, tgL_byte, T.asArr, T.tg, tgL, indexAddrM, wk, wl, eq_self, isCall, callT, opM, S.ev, S.put, entryS, thawAL, thawA, RM.run, RM.bind, RM.ofOpt, allocs, Heap.ups, Heap.put, Heap.at, List.replicate, Nat.reduceAdd, Nat.reduceSub, ofConst, nilAs, if_false, if_true, binT, binTy, unT, guardT, quietK, reduceIte, boxM, allocM, loadM, storeM, fieldAddrM, lenT, extractT, subM, setOb, T.get, T.setp, T.offs, T.nw, nwL, T.cel, T.isNd, T.size, sizeL, TyI.agg, Ty.agg, Ty.isFn, zeroT, Nat.reduceLT, Nat.reduceEqDiff, sumT, kill]); (first | refine vpure_c hC1 (hK := ?_) | refine vpure_c hC2 (hK := ?_) | refine vpure_c hC3 (hK := ?_) | refine vpure_c hC4 (hK := ?_) | refine vpure_c hC5 (hK := ?_) | refine vpure_c hC6 (hK := ?_) | refine vpure_c hC7 (hK := ?_) | refine vpure_c hC8 (hK := ?_) | refine vpure_c hC9 (hK := ?_) | refine vpure_c hC10 (hK := ?_) | refine vpure_c hC11 (hK := ?_) | refine vpure_c hC12 (hK := ?_) | refine vpure_c hC13 (hK := ?_) | refine vpure_c hC14 (hK := ?_) | refine vpure_c (cx [] (hG1 _)) (hK := ?_) | refine vpure_c (cx [] (hG1 _ _)) (hK := ?_) | refine vpure_c (cx [] (hG1 _ _ _)) (hK := ?_) | refine vpure_c (cx [] (hG1 _ _ _ _)) (hK := ?_) | refine vpure_c (cx [] (hG2 _)) (hK := ?_) | refine vpure_c (cx [] (hG2 _ _)) (hK := ?_) | refine vpure_c (cx [] (hG2 _ _ _)) (hK := ?_) | refine vpure_c (cx [] (hG2 _ _ _ _)) (hK := ?_) | refine vpure_c (cx [] (hG3 _)) (hK := ?_) | refine vpure_c (cx [] (hG3 _ _)) (hK := ?_) | refine vpure_c (cx [] (hG3 _ _ _)) (hK := ?_) | refine vpure_c (cx [] (hG3 _ _ _ _)) (hK := ?_))) | (simp only [k8]; refine .inl ?_; refine ⟨fun hb => ?_, fun hb => ?_⟩ <;> (try replace hb := Bool.eq_false_iff.2 hb) <;> (first | exact absurd hb (by decide) | replace hk8 := hb))) <;> (simp only [k13, hk8, upT_g, dnT_g, nb_g, dnT_b, dnT_s, dnT_0, dnT_r, fx, fy, fz, wo, decide_true, decide_false, wz0, wz1, wz2, wz3, wz4, wz5, wz6, wz7, wz8, appM, Ty.isInt, capT, appendZM, buildM, setAll, plSt, plAr, mnmx, Int.reduceLT, vrec, List.drop_succ_cons, List.drop_zero, convertM, indexM, fieldM, Int.toNat_zero, Int.toNat_one, Int.le_refl, Int.zero_le_ofNat, Int.reduceEq, Int.reduceNe, ne_eq, not_false_eq_true, u8_wrap, marksG_len, marks_len, bne_self_eq_false, take_map_len, tgL_byte, T.asArr, T.tg, tgL, indexAddrM, wk, wl, eq_self, isCall, callT, opM, S.ev, S.put, entryS, thawAL, thawA, RM.run, RM.bind, RM.ofOpt, allocs, Heap.ups, Heap.put, Heap.at, List.replicate, Nat.reduceAdd, Nat.reduceSub, ofConst, nilAs, if_false, if_true, binT, binTy, unT, guardT, quietK, reduceIte, boxM, allocM, loadM, storeM, fieldAddrM, lenT, extractT, subM, setOb, T.get, T.setp, T.offs, T.nw, nwL, T.cel, T.isNd, T.size, sizeL, TyI.agg, Ty.agg, Ty.isFn, zeroT, Nat.reduceLT, Nat.reduceEqDiff, sumT, kill]; clear hk8; first | subst hy1 | (try simp only [thenS, blockS, if_true, if_false, Nat.reduceEqDiff, reduceIte]))) | (refine Chk.mk (by simp only [rdqs, rdq, k13, upT_g, dnT_g, nb_g, dnT_b, dnT_s, dnT_0, dnT_r, fx, fy, fz, wo, decide_true, decide_false, wz0, wz1, wz2, wz3, wz4, wz5, wz6, wz7, wz8, appM, Ty.isInt, capT, appendZM, buildM, setAll, plSt, plAr, mnmx, Int.reduceLT, vrec, List.drop_succ_cons, List.drop_zero, convertM, indexM, fieldM, Int.toNat_zero, Int.toNat_one, Int.le_refl, Int.zero_le_ofNat, Int.reduceEq, Int.reduceNe, ne_eq, not_false_eq_true, u8_wrap, marksG_len, marks_len, bne_self_eq_false, take_map_len, tgL_byte, T.asArr, T.tg, tgL, indexAddrM, wk, wl, eq_self, isCall, callT, opM, S.ev, S.put, entryS, thawAL, thawA, RM.run, RM.bind, RM.ofOpt, allocs, Heap.ups, Heap.put, Heap.at, List.replicate, Nat.reduceAdd, Nat.reduceSub, ofConst, nilAs, if_false, if_true, binT, binTy, unT, guardT, quietK, reduceIte, boxM, allocM, loadM, storeM, fieldAddrM, lenT, extractT, subM, setOb, T.get, T.setp, T.offs, T.nw, nwL, T.cel, T.isNd, T.size, sizeL, TyI.agg, Ty.agg, Ty.isFn, zeroT, Nat.reduceLT, Nat.reduceEqDiff, sumT, kill]; try trivial) ?_) | exact absurd trivial hb | exact absurd hb (by decide) | exact absurd hcc (by decide) | refine SW.seq ?_ | refine SW.block ?_ | (refine SW.cond rfl (fun hcc => ?_) (fun hcc => ?_)) | (refine SW.exit ?_; simp only [thenS, blockS, if_true, if_false, Nat.reduceEqDiff, reduceIte]) | (refine SW.skip ?_; simp only [thenS, blockS]) | ((repeat (refine Wh.h ?_ hb; clear hb)); (repeat (refine Wh.h ?_ hcc; clear hcc)); (first | exact h1 | exact h2 | exact h3 | exact h4 | exact h5 | exact h6 | exact h7 | exact h8 | exact h9 | exact h10 | exact h11 | exact h12 | exact h13 | exact h14 | exact h15 | exact h16)))); (try (have hq : True := h1)); (try (have hq : True := h2)); (try (have hq : True := h3)); (try (have hq : True := h4)); (try (have hq : True := h5)); (try (have hq : True := h6)); (try (have hq : True := h7)); (try (have hq : True := h8)); (try (have hq : True := h9)); (try (have hq : True := h10)); (try (have hq : True := h11)); (try (have hq : True := h12)); (try (have hq : True := h13)); (try (have hq : True := h14)); (try (have hq : True := h15)); (try (have hq : True := h16)); exact True.intro) : A := k b1 b2 b3 b4 b5 b6 b7 b8 b9 b10 b11 b12 b13 b14 b15 b16
theorem goU {A B1 B2 B3 B4 B5 B6 B7 B8 B9 B10 B11 B12 B13 B14 B15 B16 : Prop} (b1 : B1) (b2 : B2) (b3 : B3) (b4 : B4) (b5 : B5) (b6 : B6) (b7 : B7) (b8 : B8) (b9 : B9) (b10 : B10) (b11 : B11) (b12 : B12) (b13 : B13) (b14 : B14) (b15 : B15) (b16 : B16) (k : B1 →  B2 →  B3 →  B4 →  B5 →  B6 →  B7 →  B8 →  B9 →  B10 →  B11 →  B12 →  B13 →  B14 →  B15 →  B16 → A := by intro h1 h2 h3 h4 h5 h6 h7 h8 h9 h10 h11 h12 h13 h14 h15 h16; refine tw ?_ ?_; (focus (repeat' first | ((have hk8 := Nat.add_zero); (first | refine SW.ops_seq hY fun y1 hy1 => ?_ | refine SW.ops hY ?_ | refine SW.seq (SW.draw2x hD1 hY mixed (by kernel_rfl) ?_) | refine SW.draw2x hD1 hY mixed (by kernel_rfl) ?_ | refine SW.seq (SW.draw2x hD2 hY mixed (by kernel_rfl) ?_) | refine SW.draw2x hD2 hY mixed (by kernel_rfl) ?_ | refine SW.seq (SW.draw2x hD3 hY mixed (by kernel_rfl) ?_) | refine SW.draw2x hD3 hY mixed (by kernel_rfl) ?_ | refine SW.draw_seq hY mixed (by kernel_rfl) fun y1 hy1 => ?_ | refine SW.draw hY mixed (by kernel_rfl) ?_ | refine vcall_c hC1 (hK := ?_) | refine vcall_c hC2 (hK := ?_) | refine vcall_c hC3 (hK := ?_) | refine vcall_c hC4 (hK := ?_) | refine vcall_c hC5 (hK := ?_) | refine vcall_c hC6 (hK := ?_) | refine vcall_c hC7 (hK := ?_) | refine vcall_c hC8 (hK := ?_) | refine vcall_c hC9 (hK := ?_) | refine vcall_c hC10 (hK := ?_) | refine vcall_c hC11 (hK := ?_) | refine vcall_c hC12 (hK := ?_) | refine vcall_c hC13 (hK := ?_) | refine vcall_c hC14 (hK := ?_) | refine vcall_c (cx [] (hG1 _)) (hK := ?_) | refine vcall_c (cx [] (hG1 _ _)) (hK := ?_) | refine vcall_c (cx [] (hG1 _ _ _)) (hK := ?_) | refine vcall_c (cx [] (hG1 _ _ _ _)) (hK := ?_) | refine vcall_c (cx [] (hG2 _)) (hK := ?_) | refine vcall_c (cx [] (hG2 _ _)) (hK := ?_) | refine vcall_c (cx [] (hG2 _ _ _)) (hK := ?_) | refine vcall_c (cx [] (hG2 _ _ _ _)) (hK := ?_) | refine vcall_c (cx [] (hG3 _)) (hK := ?_) | refine vcall_c (cx [] (hG3 _ _)) (hK := ?_) | refine vcall_c (cx [] (hG3 _ _ _)) (hK := ?_) | refine vcall_c (cx [] (hG3 _ _ _ _)) (hK := ?_) | refine kgf ?_ | refine kgt ?_ | (refine k8p ?_; (simp only [k13, hk8, upT_g, dnT_g, nb_g, dnT_b, dnT_s, dnT_0, dnT_r, fx, fy, fz, wo, decide_true, decide_false, wz0, wz1, wz2, wz3, wz4, wz5, wz6, wz7, wz8, appM, Ty.isInt, capT, appendZM, buildM, setAll, plSt, plAr, mnmx, Int.reduceLT, vrec, List.drop_succ_cons, List.drop_zero, convertM, indexM, fieldM, Int.toNat_zero, Int.toNat_one, Int.le_refl, Int.zero_le_ofNat, Int.reduceEq, Int.reduceNe, ne_eq, not_false_eq_true, u8_wrap, marksG_len, marks_len, bne_self_eq_false, take_map_len, tgL_byte, T.asArr, T.tg, tgL, indexAddrM, wk, wl, eq_self, isCall, callT, opM, S.ev, S.put, entryS, thawAL, thawA, RM.run, RM.bind, RM.ofOpt, allocs, Heap.ups, Heap.put, Heap.at, List.replicate, Nat.reduceAdd, Nat.reduceSub, ofConst, nilAs, if_false, if_true, binT, binTy, unT, guardT, quietK, reduceIte, boxM, allocM, loadM, storeM, fieldAddrM, lenT, extractT, subM, setOb, T.get, T.setp, T.offs, T.nw, nwL, T.cel, T.isNd, T.size, sizeL, TyI.agg, Ty.agg, Ty.isFn, zeroT, Nat.reduceLT, Nat.reduceEqDiff, sumT, kill]); (first | refine vpure_c hC1 (hK := ?_) | refine vpure_c hC2 (hK := ?_) | refine vpure_c hC3 (hK := ?_) | refine vpure_c hC4 (hK := ?_) | refine vpure_c hC5 (hK := ?_) | refine vpure_c hC6 (hK := ?_) | refine vpure_c hC7 (hK := ?_) | refine vpure_c hC8 (hK := ?_) | refine vpure_c hC9 (hK := ?_) | refine vpure_c hC10 (hK := ?_) | refine vpure_c hC11 (hK := ?_) | refine vpure_c hC12 (hK := ?_) | refine vpure_c hC13 (hK := ?_) | refine vpure_c hC14 (hK := ?_) | refine vpure_c (cx [] (hG1 _)) (hK := ?_) | refine vpure_c (cx [] (hG1 _ _)) (hK := ?_) | refine vpure_c (cx [] (hG1 _ _ _)) (hK := ?_) | refine vpure_c (cx [] (hG1 _ _ _ _)) (hK := ?_) | refine vpure_c (cx [] (hG2 _)) (hK := ?_) | refine vpure_c (cx [] (hG2 _ _)) (hK := ?_) | refine vpure_c (cx [] (hG2 _ _ _)) (hK := ?_) | refine vpure_c (cx [] (hG2 _ _ _ _)) (hK := ?_) | refine vpure_c (cx [] (hG3 _)) (hK := ?_) | refine vpure_c (cx [] (hG3 _ _)) (hK := ?_) | refine vpure_c (cx [] (hG3 _ _ _)) (hK := ?_) | refine vpure_c (cx [] (hG3 _ _ _ _)) (hK := ?_))) | (simp only [k8]; refine .inl ?_; refine ⟨fun hb => ?_, fun hb => ?_⟩ <;> (try replace hb := Bool.eq_false_iff.2 hb) <;> (first | exact absurd hb (by decide) | replace hk8 := hb))) <;> (simp only [k13, hk8, upT_g, dnT_g, nb_g, dnT_b, dnT_s, dnT_0, dnT_r, fx, fy, fz, wo, decide_true, decide_false, wz0, wz1, wz2, wz3, wz4, wz5, wz6, wz7, wz8, appM, Ty.isInt, capT, appendZM, buildM, setAll, plSt, plAr, mnmx, Int.reduceLT, vrec, List.drop_succ_cons, List.drop_zero, convertM, indexM, fieldM, Int.toNat_zero, Int.toNat_one, Int.le_refl, Int.zero_le_ofNat, Int.reduceEq, Int.reduceNe, ne_eq, not_false_eq_true, u8_wrap, marksG_len, marks_len, bne_self_eq_false, take_map_len, tgL_byte, T.asArr, T.tg, tgL, indexAddrM, wk, wl, eq_self, isCall, callT, opM, S.ev, S.put, entryS, thawAL, thawA, RM.run, RM.bind, RM.ofOpt, allocs, Heap.ups, Heap.put, Heap.at, List.replicate, Nat.reduceAdd, Nat.reduceSub, ofConst, nilAs, if_false, if_true, binT, binTy, unT, guardT, quietK, reduceIte, boxM, allocM, loadM, storeM, fieldAddrM, lenT, extractT, subM, setOb, T.get, T.setp, T.offs, T.nw, nwL, T.cel, T.isNd, T.size, sizeL, TyI.agg, Ty.agg, Ty.isFn, zeroT, Nat.reduceLT, Nat.reduceEqDiff, sumT, kill]; clear hk8; first | subst hy1 | (try simp only [thenS, blockS, if_true, if_false, Nat.reduceEqDiff, reduceIte]))) | (refine Chk.mk (by simp only [rdqs, rdq, k13, upT_g, dnT_g, nb_g, dnT_b, dnT_s, dnT_0, dnT_r, fx, fy, fz, wo, decide_true, decide_false, wz0, wz1, wz2, wz3, wz4, wz5, wz6, wz7, wz8, appM, Ty.isInt, capT, appendZM, buildM, setAll, plSt, plAr, mnmx, Int.reduceLT, vrec, List.drop_succ_cons, List.drop_zero, convertM, indexM, fieldM, Int.toNat_zero, Int.toNat_one, Int.le_refl, Int.zero_le_ofNat, Int.reduceEq, Int.reduceNe, ne_eq, not_false_eq_true, u8_wrap, marksG_len, marks_len, bne_self_eq_false, take_map_len, tgL_byte, T.asArr, T.tg, tgL, indexAddrM, wk, wl, eq_self, isCall, callT, opM, S.ev, S.put, entryS, thawAL, thawA, RM.run, RM.bind, RM.ofOpt, allocs, Heap.ups, Heap.put, Heap.at, List.replicate, Nat.reduceAdd, Nat.reduceSub, ofConst, nilAs, if_false, if_true, binT, binTy, unT, guardT, quietK, reduceIte, boxM, allocM, loadM, storeM, fieldAddrM, lenT, extractT, subM, setOb, T.get, T.setp, T.offs, T.nw, nwL, T.cel, T.isNd, T.size, sizeL, TyI.agg, Ty.agg, Ty.isFn, zeroT, Nat.reduceLT, Nat.reduceEqDiff, sumT, kill]; try trivial) ?_) | exact absurd trivial hb | exact absurd hb (by decide) | exact absurd hcc (by decide) | refine SW.seq ?_ | refine SW.block ?_ | (refine SW.cond rfl (fun hcc => ?_) (fun hcc => ?_)) | (refine SW.exit ?_; simp only [thenS, blockS, if_true, if_false, Nat.reduceEqDiff, reduceIte]) | (refine SW.skip ?_; simp only [thenS, blockS]) | refine SWl.s ?_ | refine SW.loopN 9 ?_ | ((repeat (refine Wh.h ?_ hb; clear hb)); (repeat (refine Wh.h ?_ hcc; clear hcc)); (first | exact h1 | exact h2 | exact h3 | exact h4 | exact h5 | exact h6 | exact h7 | exact h8 | exact h9 | exact h10 | exact h11 | exact h12 | exact h13 | exact h14 | exact h15 | exact h16)))); (try (have hq : True := h1)); (try (have hq : True := h2)); (try (have hq : True := h3)); (try (have hq : True := h4)); (try (have hq : True := h5)); (try (have hq : True := h6)); (try (have hq : True := h7)); (try (have hq : True := h8)); (try (have hq : True := h9)); (try (have hq : True := h10)); (try (have hq : True := h11)); (try (have hq : True := h12)); (try (have hq : True := h13)); (try (have hq : True := h14)); (try (have hq : True := h15)); (try (have hq : True := h16)); exact True.intro) : A := k b1 b2 b3 b4 b5 b6 b7 b8 b9 b10 b11 b12 b13 b14 b15 b16
theorem goV {A B1 B2 B3 B4 B5 B6 B7 B8 B9 B10 B11 B12 B13 B14 B15 B16 : Prop} (b1 : B1) (b2 : B2) (b3 : B3) (b4 : B4) (b5 : B5) (b6 : B6) (b7 : B7) (b8 : B8) (b9 : B9) (b10 : B10) (b11 : B11) (b12 : B12) (b13 : B13) (b14 : B14) (b15 : B15) (b16 : B16) (k : B1 →  B2 →  B3 →  B4 →  B5 →  B6 →  B7 →  B8 →  B9 →  B10 →  B11 →  B12 →  B13 →  B14 →  B15 →  B16 → A := by intro h1 h2 h3 h4 h5 h6 h7 h8 h9 h10 h11 h12 h13 h14 h15 h16; refine tw ?_ ?_; (focus (repeat' first | ((have hk8 := Nat.add_zero); (first | refine SW.ops_seq hY fun y1 hy1 => ?_ | refine SW.ops hY ?_ | refine SW.seq (SW.draw2x hD1 hY mixed (by kernel_rfl) ?_) | refine SW.draw2x hD1 hY mixed (by kernel_rfl) ?_ | refine SW.seq (SW.draw2x hD2 hY mixed (by kernel_rfl) ?_) | refine SW.draw2x hD2 hY mixed (by kernel_rfl) ?_ | refine SW.seq (SW.draw2x hD3 hY mixed (by kernel_rfl) ?_) | refine SW.draw2x hD3 hY mixed (by kernel_rfl) ?_ | refine SW.draw_seq hY mixed (by kernel_rfl) fun y1 hy1 => ?_ | refine SW.draw hY mixed (by kernel_rfl) ?_ | refine vcall_c hC1 (hK := ?_) | refine vcall_c hC2 (hK := ?_) | refine vcall_c hC3 (hK := ?_) | refine vcall_c hC4 (hK := ?_) | refine vcall_c hC5 (hK := ?_) | refine vcall_c hC6 (hK := ?_) | refine vcall_c hC7 (hK := ?_) | refine vcall_c hC8 (hK := ?_) | refine vcall_c hC9 (hK := ?_) | refine vcall_c hC10 (hK := ?_) | refine vcall_c hC11 (hK := ?_) | refine vcall_c hC12 (hK := ?_) | refine vcall_c hC13 (hK := ?_) | refine vcall_c hC14 (hK := ?_) | refine vcall_c (cx [] (hG1 _)) (hK := ?_) | refine vcall_c (cx [] (hG1 _ _)) (hK := ?_) | refine vcall_c (cx [] (hG1 _ _ _)) (hK := ?_) | refine vcall_c (cx [] (hG1 _ _ _ _)) (hK := ?_) | refine vcall_c (cx [] (hG2 _)) (hK := ?_) | refine vcall_c (cx [] (hG2 _ _)) (hK := ?_) | refine vcall_c (cx [] (hG2 _ _ _)) (hK := ?_) | refine vcall_c (cx [] (hG2 _ _ _ _)) (hK := ?_) | refine vcall_c (cx [] (hG3 _)) (hK := ?_) | refine vcall_c (cx [] (hG3 _ _)) (hK := ?_) | refine vcall_c (cx [] (hG3 _ _ _)) (hK := ?_) | refine vcall_c (cx [] (hG3 _ _ _ _)) (hK := ?_) | refine kgf ?_ | refine kgt ?_ | (refine k8p ?_; (simp only [k13, hk8, upT_g, dnT_g, nb_g, dnT_b, dnT_s, dnT_0, dnT_r, fx, fy, fz, wo, decide_true, decide_false, wz0, wz1, wz2, wz3, wz4, wz5, wz6, wz7, wz8, appM, Ty.isInt, capT, appendZM, buildM, setAll, plSt, plAr, mnmx, Int.reduceLT, vrec, List.drop_succ_cons, List.drop_zero, convertM, indexM, fieldM, Int.toNat_zero, Int.toNat_one, Int.le_refl, Int.zero_le_ofNat, Int.reduceEq, Int.reduceNe, ne_eq, not_false_eq_true, u8_wrap, marksG_len, marks_len, bne_self_eq_false, take_map_len, tgL_byte, T.asArr, T.tg, tgL, indexAddrM, wk, wl, eq_self, isCall, callT, opM, S.ev, S.put, entryS, thawAL, thawA, RM.run, RM.bind, RM.ofOpt, allocs, Heap.ups, Heap.put, Heap.at, List.replicate, Nat.reduceAdd, Nat.reduceSub, ofConst, nilAs, if_false, if_true, binT, binTy, unT, guardT, quietK, reduceIte, boxM, allocM, loadM, storeM, fieldAddrM, lenT, extractT, subM, setOb, T.get, T.setp, T.offs, T.nw, nwL, T.cel, T.isNd, T.size, sizeL, TyI.agg, Ty.agg, Ty.isFn, zeroT, Nat.reduceLT, Nat.reduceEqDiff, sumT, kill]); (first | refine vpure_c hC1 (hK := ?_) | refine vpure_c hC2 (hK := ?_) | refine vpure_c hC3 (hK := ?_) | refine vpure_c hC4 (hK := ?_) | refine vpure_c hC5 (hK := ?_) | refine vpure_c hC6 (hK := ?_) | refine vpure_c hC7 (hK := ?_) | refine vpure_c hC8 (hK := ?_) | refine vpure_c hC9 (hK := ?_) | refine vpure_c hC10 (hK := ?_) | refine vpure_c hC11 (hK := ?_) | refine vpure_c hC12 (hK := ?_) | refine vpure_c hC13 (hK := ?_) | refine vpure_c hC14 (hK := ?_) | refine vpure_c (cx [] (hG1 _)) (hK := ?_) | refine vpure_c (cx [] (hG1 _ _)) (hK := ?_) | refine vpure_c (cx [] (hG1 _ _ _)) (hK := ?_) | refine vpure_c (cx [] (hG1 _ _ _ _)) (hK := ?_) | refine vpure_c (cx [] (hG2 _)) (hK := ?_) | refine vpure_c (cx [] (hG2 _ _)) (hK := ?_) | refine vpure_c (cx [] (hG2 _ _ _)) (hK := ?_) | refine vpure_c (cx [] (hG2 _ _ _ _)) (hK := ?_) | refine vpure_c (cx [] (hG3 _)) (hK := ?_) | refine vpure_c (cx [] (hG3 _ _)) (hK := ?_) | refine vpure_c (cx [] (hG3 _ _ _)) (hK := ?_) | refine vpure_c (cx [] (hG3 _ _ _ _)) (hK := ?_))) | (simp only [k8]; refine .inl ?_; refine ⟨fun hb => ?_, fun hb => ?_⟩ <;> (try replace hb := Bool.eq_false_iff.2 hb) <;> (first | exact absurd hb (by decide) | replace hk8 := hb))) <;> (simp only [k13, hk8, upT_g, dnT_g, nb_g, dnT_b, dnT_s, dnT_0, dnT_r, fx, fy, fz, wo, decide_true, decide_false, wz0, wz1, wz2, wz3, wz4, wz5, wz6, wz7, wz8, appM, Ty.isInt, capT, appendZM, buildM, setAll, plSt, plAr, mnmx, Int.reduceLT, vrec, List.drop_succ_cons, List.drop_zero, convertM, indexM, fieldM, Int.toNat_zero, Int.toNat_one, Int.le_refl, Int.zero_le_ofNat, Int.reduceEq, Int.reduceNe, ne_eq, not_false_eq_true, u8_wrap, marksG_len, marks_len, bne_self_eq_false, take_map_len, tgL_byte, T.asArr, T.tg, tgL, indexAddrM, wk, wl, eq_self, isCall, callT, opM, S.ev, S.put, entryS, thawAL, thawA, RM.run, RM.bind, RM.ofOpt, allocs, Heap.ups, Heap.put, Heap.at, List.replicate, Nat.reduceAdd, Nat.reduceSub, ofConst, nilAs, if_false, if_true, binT, binTy, unT, guardT, quietK, reduceIte, boxM, allocM, loadM, storeM, fieldAddrM, lenT, extractT, subM, setOb, T.get, T.setp, T.offs, T.nw, nwL, T.cel, T.isNd, T.size, sizeL, TyI.agg, Ty.agg, Ty.isFn, zeroT, Nat.reduceLT, Nat.reduceEqDiff, sumT, kill]; clear hk8; first | subst hy1 | (try simp only [thenS, blockS, if_true, if_false, Nat.reduceEqDiff, reduceIte]))) | (refine Chk.mk (by simp only [rdqs, rdq, k13, upT_g, dnT_g, nb_g, dnT_b, dnT_s, dnT_0, dnT_r, fx, fy, fz, wo, decide_true, decide_false, wz0, wz1, wz2, wz3, wz4, wz5, wz6, wz7, wz8, appM, Ty.isInt, capT, appendZM, buildM, setAll, plSt, plAr, mnmx, Int.reduceLT, vrec, List.drop_succ_cons, List.drop_zero, convertM, indexM, fieldM, Int.toNat_zero, Int.toNat_one, Int.le_refl, Int.zero_le_ofNat, Int.reduceEq, Int.reduceNe, ne_eq, not_false_eq_true, u8_wrap, marksG_len, marks_len, bne_self_eq_false, take_map_len, tgL_byte, T.asArr, T.tg, tgL, indexAddrM, wk, wl, eq_self, isCall, callT, opM, S.ev, S.put, entryS, thawAL, thawA, RM.run, RM.bind, RM.ofOpt, allocs, Heap.ups, Heap.put, Heap.at, List.replicate, Nat.reduceAdd, Nat.reduceSub, ofConst, nilAs, if_false, if_true, binT, binTy, unT, guardT, quietK, reduceIte, boxM, allocM, loadM, storeM, fieldAddrM, lenT, extractT, subM, setOb, T.get, T.setp, T.offs, T.nw, nwL, T.cel, T.isNd, T.size, sizeL, TyI.agg, Ty.agg, Ty.isFn, zeroT, Nat.reduceLT, Nat.reduceEqDiff, sumT, kill]; try trivial) ?_) | exact absurd trivial hb | exact absurd hb (by decide) | exact absurd hcc (by decide) | refine SW.seq ?_ | refine SW.block ?_ | (refine SW.cond rfl (fun hcc => ?_) (fun hcc => ?_)) | (refine SW.exit ?_; simp only [thenS, blockS, if_true, if_false, Nat.reduceEqDiff, reduceIte]) | (refine SW.skip ?_; simp only [thenS, blockS]) | exact SW.ret (RetQ.r hR) | (refine SW.ret (show RetQ _ _ _ _ _ _ _ from ⟨.inr rfl, [_], [1], [_], _, rfl, rfl, rfl, rfl, rfl, ?_⟩)) | (refine SW.ret (show RetQ _ _ _ _ _ _ _ from ⟨.inr rfl, [_, _], [0, 0], [_, _], _, rfl, rfl, rfl, rfl, rfl, ?_⟩)) | (refine SW.ret (show RetQ _ _ _ _ _ _ _ from ⟨.inr rfl, [_, _, _], [0, 0, 0], [_, _, _], _, rfl, rfl, rfl, rfl, rfl, ?_⟩)) | (refine SW.ret (show RetQ _ _ _ _ _ _ _ from ⟨.inr rfl, [_, _, _, _], [0, 0, 0, 0], [_, _, _, _], _, rfl, rfl, rfl, rfl, rfl, ?_⟩)) | refine SWl.s ?_ | refine SW.loopN 9 ?_ | ((repeat (refine Wh.h ?_ hb; clear hb)); (repeat (refine Wh.h ?_ hcc; clear hcc)); (first | exact h1 | exact h2 | exact h3 | exact h4 | exact h5 | exact h6 | exact h7 | exact h8 | exact h9 | exact h10 | exact h11 | exact h12 | exact h13 | exact h14 | exact h15 | exact h16)))); (try (have hq : True := h1)); (try (have hq : True := h2)); (try (have hq : True := h3)); (try (have hq : True := h4)); (try (have hq : True := h5)); (try (have hq : True := h6)); (try (have hq : True := h7)); (try (have hq : True := h8)); (try (have hq : True := h9)); (try (have hq : True := h10)); (try (have hq : True := h11)); (try (have hq : True := h12)); (try (have hq : True := h13)); (try (have hq : True := h14)); (try (have hq : True := h15)); (try (have hq : True := h16)); exact True.intro) : A := k b1 b2 b3 b4 b5 b6 b7 b8 b9 b10 b11 b12 b13 b14 b15 b16
theorem go0 {A : Prop} (k : A := by repeat' first | ((have hk8 := Nat.add_zero); (first | refine SW.ops_seq hY fun y1 hy1 => ?_ | refine SW.ops hY ?_ | refine SW.seq (SW.draw2x hD1 hY mixed (by kernel_rfl) ?_) | refine SW.draw2x hD1 hY mixed (by kernel_rfl) ?_ | refine SW.seq (SW.draw2x hD2 hY mixed (by kernel_rfl) ?_) | refine SW.draw2x hD2 hY mixed (by kernel_rfl) ?_ | refine SW.seq (SW.draw2x hD3 hY mixed (by kernel_rfl) ?_) | refine SW.draw2x hD3 hY mixed (by kernel_rfl) ?_ | refine SW.draw_seq hY mixed (by kernel_rfl) fun y1 hy1 => ?_ | refine SW.draw hY mixed (by kernel_rfl) ?_ | refine vcall_c hC1 (hK := ?_) | refine vcall_c hC2 (hK := ?_) | refine vcall_c hC3 (hK := ?_) | refine vcall_c hC4 (hK := ?_) | refine vcall_c hC5 (hK := ?_) | refine vcall_c hC6 (hK := ?_) | refine vcall_c hC7 (hK := ?_) | refine vcall_c hC8 (hK := ?_) | refine vcall_c hC9 (hK := ?_) | refine vcall_c hC10 (hK := ?_) | refine vcall_c hC11 (hK := ?_) | refine vcall_c hC12 (hK := ?_) | refine vcall_c hC13 (hK := ?_) | refine vcall_c hC14 (hK := ?_) | refine vcall_c (cx [] (hG1 _)) (hK := ?_) | refine vcall_c (cx [] (hG1 _ _)) (hK := ?_) | refine vcall_c (cx [] (hG1 _ _ _)) (hK := ?_) | refine vcall_c (cx [] (hG1 _ _ _ _)) (hK := ?_) | refine vcall_c (cx [] (hG2 _)) (hK := ?_) | refine vcall_c (cx [] (hG2 _ _)) (hK := ?_) | refine vcall_c (cx [] (hG2 _ _ _)) (hK := ?_) | refine vcall_c (cx [] (hG2 _ _ _ _)) (hK := ?_) | refine vcall_c (cx [] (hG3 _)) (hK := ?_) | refine vcall_c (cx [] (hG3 _ _)) (hK := ?_) | refine vcall_c (cx [] (hG3 _ _ _)) (hK := ?_) | refine vcall_c (cx [] (hG3 _ _ _ _)) (hK := ?_) | refine kgf ?_ | refine kgt ?_ | (refine k8p ?_; (simp only [k13, hk8, upT_g, dnT_g, nb_g, dnT_b, dnT_s, dnT_0, dnT_r, fx, fy, fz, wo, decide_true, decide_false, wz0, wz1, wz2, wz3, wz4, wz5, wz6, wz7, wz8, appM, Ty.isInt, capT, appendZM, buildM, setAll, plSt, plAr, mnmx, Int.reduceLT, vrec, List.drop_succ_cons, List.drop_zero, convertM, indexM, fieldM, Int.toNat_zero, Int.toNat_one, Int.le_refl, Int.zero_le_ofNat, Int.reduceEq, Int.reduceNe, ne_eq, not_false_eq_true, u8_wrap, marksG_len, marks_len, bne_self_eq_false, take_map_len, tgL_byte, T.asArr, T.tg, tgL, indexAddrM, wk, wl, eq_self, isCall, callT, opM, S.ev, S.put, entryS, thawAL, thawA, RM.run, RM.bind, RM.ofOpt, allocs, Heap.ups, Heap.put, Heap.at, List.replicate, Nat.reduceAdd, Nat.reduceSub, ofConst, nilAs, if_false, if_true, binT, binTy, unT, guardT, quietK, reduceIte, boxM, allocM, loadM, storeM, fieldAddrM, lenT, extractT, subM, setOb, T.get, T.setp, T.offs, T.nw, nwL, T.cel, T.isNd, T.size, sizeL, TyI.agg, Ty.agg, Ty.isFn, zeroT, Nat.reduceLT, Nat.reduceEqDiff, sumT, kill]); (first | refine vpure_c hC1 (hK := ?_) | refine vpure_c hC2 (hK := ?_) | refine vpure_c hC3 (hK := ?_) | refine vpure_c hC4 (hK := ?_) | refine vpure_c hC5 (hK := ?_) | refine vpure_c hC6 (hK := ?_) | refine vpure_c hC7 (hK := ?_) | refine vpure_c hC8 (hK := ?_) | refine vpure_c hC9 (hK := ?_) | refine vpure_c hC10 (hK := ?_) | refine vpure_c hC11 (hK := ?_) | refine vpure_c hC12 (hK := ?_) | refine vpure_c hC13 (hK := ?_) | refine vpure_c hC14 (hK := ?_) | refine vpure_c (cx [] (hG1 _)) (hK := ?_) | refine vpure_c (cx [] (hG1 _ _)) (hK := ?_) | refine vpure_c (cx [] (hG1 _ _ _)) (hK := ?_) | refine vpure_c (cx [] (hG1 _ _ _ _)) (hK := ?_) | refine vpure_c (cx [] (hG2 _)) (hK := ?_) | refine vpure_c (cx [] (hG2 _ _)) (hK := ?_) | refine vpure_c (cx [] (hG2 _ _ _)) (hK := ?_) | refine vpure_c (cx [] (hG2 _ _ _ _)) (hK := ?_) | refine vpure_c (cx [] (hG3 _)) (hK := ?_) | refine vpure_c (cx [] (hG3 _ _)) (hK := ?_) | refine vpure_c (cx [] (hG3 _ _ _)) (hK := ?_) | refine vpure_c (cx [] (hG3 _ _ _ _)) (hK := ?_))) | (simp only [k8]; refine .inl ?_; refine ⟨fun hb => ?_, fun hb => ?_⟩ <;> (try replace hb := Bool.eq_false_iff.2 hb) <;> (first | exact absurd hb (by decide) | replace hk8 := hb))) <;> (simp only [k13, hk8, upT_g, dnT_g, nb_g, dnT_b, dnT_s, dnT_0, dnT_r, fx, fy, fz, wo, decide_true, decide_false, wz0, wz1, wz2, wz3, wz4, wz5, wz6, wz7, wz8, appM, Ty.isInt, capT, appendZM, buildM, setAll, plSt, plAr, mnmx, Int.reduceLT, vrec, List.drop_succ_cons, List.drop_zero, convertM, indexM, fieldM, Int.toNat_zero, Int.toNat_one, Int.le_refl, Int.zero_le_ofNat, Int.reduceEq, Int.reduceNe, ne_eq, not_false_eq_true, u8_wrap, marksG_len, marks_len, bne_self_eq_false, take_map_len, tgL_byte, T.asArr, T.tg, tgL, indexAddrM, wk, wl, eq_self, isCall, callT, opM, S.ev, S.put, entryS, thawAL, thawA, RM.run, RM.bind, RM.ofOpt, allocs, Heap.ups, Heap.put, Heap.at, List.replicate, Nat.reduceAdd, Nat.reduceSub, ofConst, nilAs, if_false, if_true, binT, binTy, unT, guardT, quietK, reduceIte, boxM, allocM, loadM, storeM, fieldAddrM, lenT, extractT, subM, setOb, T.get, T.setp, T.offs, T.nw, nwL, T.cel, T.isNd, T.size, sizeL, TyI.agg, Ty.agg, Ty.isFn, zeroT, Nat.reduceLT, Nat.reduceEqDiff, sumT, kill]; clear hk8; first | subst hy1 | (try simp only [thenS, blockS, if_true, if_false, Nat.reduceEqDiff, reduceIte]))) | (refine Chk.mk (by simp only [rdqs, rdq, k13, upT_g, dnT_g, nb_g, dnT_b, dnT_s, dnT_0, dnT_r, fx, fy, fz, wo, decide_true, decide_false, wz0, wz1, wz2, wz3, wz4, wz5, wz6, wz7, wz8, appM, Ty.isInt, capT, appendZM, buildM, setAll, plSt, plAr, mnmx, Int.reduceLT, vrec, List.drop_succ_cons, List.drop_zero, convertM, indexM, fieldM, Int.toNat_zero, Int.toNat_one, Int.le_refl, Int.zero_le_ofNat, Int.reduceEq, Int.reduceNe, ne_eq, not_false_eq_true, u8_wrap, marksG_len, marks_len, bne_self_eq_false, take_map_len, tgL_byte, T.asArr, T.tg, tgL, indexAddrM, wk, wl, eq_self, isCall, callT, opM, S.ev, S.put, entryS, thawAL, thawA, RM.run, RM.bind, RM.ofOpt, allocs, Heap.ups, Heap.put, Heap.at, List.replicate, Nat.reduceAdd, Nat.reduceSub, ofConst, nilAs, if_false, if_true, binT, binTy, unT, guardT, quietK, reduceIte, boxM, allocM, loadM, storeM, fieldAddrM, lenT, extractT, subM, setOb, T.get, T.setp, T.offs, T.nw, nwL, T.cel, T.isNd, T.size, sizeL, TyI.agg, Ty.agg, Ty.isFn, zeroT, Nat.reduceLT, Nat.reduceEqDiff, sumT, kill]; try trivial) ?_) | exact absurd trivial hb | exact absurd hb (by decide) | exact absurd hcc (by decide) | refine SW.seq ?_ | refine SW.block ?_ | (refine SW.cond rfl (fun hcc => ?_) (fun hcc => ?_)) | (refine SW.exit ?_; simp only [thenS, blockS, if_true, if_false, Nat.reduceEqDiff, reduceIte]) | (refine SW.skip ?_; simp only [thenS, blockS]) | exact SW.ret (RetQ.r hR) | (refine SW.ret (show RetQ _ _ _ _ _ _ _ from ⟨.inr rfl, [_], [1], [_], _, rfl, rfl, rfl, rfl, rfl, ?_⟩)) | (refine SW.ret (show RetQ _ _ _ _ _ _ _ from ⟨.inr rfl, [_, _], [0, 0], [_, _], _, rfl, rfl, rfl, rfl, rfl, ?_⟩)) | (refine SW.ret (show RetQ _ _ _ _ _ _ _ from ⟨.inr rfl, [_, _, _], [0, 0, 0], [_, _, _], _, rfl, rfl, rfl, rfl, rfl, ?_⟩)) | (refine SW.ret (show RetQ _ _ _ _ _ _ _ from ⟨.inr rfl, [_, _, _, _], [0, 0, 0, 0], [_, _, _, _], _, rfl, rfl, rfl, rfl, rfl, ?_⟩))) : A := k
end Q6

namespace Q6
open Go Go.Vm Go.Proofs
set_option maxHeartbeats 4000000
set_option synthInstance.maxSize 2000
set_option synthInstance.maxHeartbeats 400000
set_option maxRecDepth 10000
set_option linter.unusedSimpArgs false
set_option linter.unusedVariables false

theorem in_ok (a b c : Int) : CallR Try.prog 54 [.int .i64 a, .int .i64 b, .int .i64 c] [] (.bool (decide (a ≥ b) && decide (a ≤ c))) := by
  refine CallR.of_body (n := 15) (rs := [.tmp 6]) hY.ok Try.func54 rfl (by decide) rfl rfl rfl rfl (fun F => ?_)
  have fx := And.intro Y3 (Y4)
  have fy := Nat.add_zero
  refine goK ?_ ?_ ?_ ?_ ?_ ?_ ?_ ?_ ?_ ?_ ?_ ?_ ?_ ?_ ?_ ?_
  any_goals (first | exact True.intro | skip)
  all_goals (repeat (refine Wh.mk fun hcc => ?_))
  all_goals (first | rfl | ((try simp only [tupOf, fixEs]); (first | done | rfl | (simp_all []; done) | grind [])))
theorem l1In_ok (a b c : Int) : CallR Try.prog 122 [.int .i64 a, .int .i64 b, .int .i64 c] [] (.bool (decide (a ≥ b) && decide (a ≤ c))) := by
  refine CallR.of_body (n := 15) (rs := [.tmp 6]) hY.ok Try.func122 rfl (by decide) rfl rfl rfl rfl (fun F => ?_)
  have fx := And.intro Y3 (Y4)
  have fy := Nat.add_zero
  refine goK ?_ ?_ ?_ ?_ ?_ ?_ ?_ ?_ ?_ ?_ ?_ ?_ ?_ ?_ ?_ ?_
  any_goals (first | exact True.intro | skip)
  all_goals (repeat (refine Wh.mk fun hcc => ?_))
  all_goals (first | rfl | ((try simp only [tupOf, fixEs]); (first | done | rfl | (simp_all []; done) | grind [])))
theorem oid_ok (a : Int) : CallR Try.prog 51 [.int .i64 a] [] (.bool (decide (a ≥ 1) && decide (a ≤ 31))) := by
  refine CallR.of_body (n := 5) (rs := [.tmp 2]) hY.ok Try.func51 rfl (by decide) rfl rfl rfl rfl (fun F => ?_)
  have fx := And.intro Y3 (Y4)
  have hG1 := fun u1 u2 u3 => in_ok u1 u2 u3
  have fy := Nat.add_zero
  refine goK ?_ ?_ ?_ ?_ ?_ ?_ ?_ ?_ ?_ ?_ ?_ ?_ ?_ ?_ ?_ ?_
  any_goals (first | exact True.intro | skip)
  all_goals (repeat (refine Wh.mk fun hcc => ?_))
  all_goals (first | rfl | ((try simp only [tupOf, fixEs]); (first | done | rfl | (simp_all []; done) | grind [])))
end Q6

namespace Qlk
open Go Go.Vm

/-! ### locks: the plain law of one who asks -/
abbrev GrT := Int × Int × Int × Unit
abbrev LkT := List GrT × List GrT × Unit
def modeB (n : Int) : Bool := decide (n ≥ 1) && decide (n ≤ 4)
def goesB (a b : Int) : Bool := if (!modeB a || !modeB b || decide (a = 4) || decide (b = 4)) = true then false else (decide (a = 1) || decide (b = 1) || decide (a = b))
def bothF (a b : Int) : Int := if (!modeB a || !modeB b) = true then 0 else if (decide (a = b) || decide (b = 1)) = true then a else if a = 1 then b else 4
def grB (g : GrT) : Bool := (decide (g.1 ≥ 1) && decide (g.1 ≤ 99)) && (decide (g.2.1 ≥ 0) && decide (g.2.1 ≤ 99)) && modeB g.2.2.1
/-- what two grants ask of each other -/
def okG (x y : GrT) : Prop := x.2.1 = y.2.1 → x.1 ≠ y.1 ∧ goesB x.2.2.1 y.2.2.1 = true
structure LkOk (l : LkT) : Prop where
  gl : l.1.length ≤ 60
  wl : l.2.1.length ≤ 60
  g : ∀ x ∈ l.1, grB x = true
  gp : l.1.Pairwise okG
  w : ∀ x ∈ l.2.1, grB x = true
  wp : l.2.1.Pairwise fun x y => x.1 ≠ y.1
def isG (g : GrT) (x : GrT) : Bool := decide (x.1 = g.1) && decide (x.2.1 = g.2.1)
def hasF (l : List GrT) (g : GrT) : Int := match l.find? (isG g) with | some x => x.2.2.1 | none => 0
def wouldF (l : List GrT) (g : GrT) : Int := match l.find? (isG g) with | some x => bothF x.2.2.1 g.2.2.1 | none => g.2.2.1
def fitsF (l : List GrT) (g : GrT) (m : Int) : Bool := l.all fun x => !(decide (x.2.1 = g.2.1) && !decide (x.1 = g.1) && !goesB m x.2.2.1)
def giveF : List GrT → GrT → Int → List GrT
  | [], g, m => [(g.1, g.2.1, m, ())]
  | x :: l, g, m => if isG g x = true then (x.1, x.2.1, m, ()) :: l else x :: giveF l g m
def forRes (l : List GrT) (r : Int) : Bool := l.any fun x => decide (x.2.1 = r)
def askF (l : LkT) (g : GrT) : LkT × Int :=
  if wouldF l.1 g = hasF l.1 g then (l, 0)
  else if (fitsF l.1 g (wouldF l.1 g) && (decide (hasF l.1 g ≠ 0) || !forRes l.2.1 g.2.1)) = true then ((giveF l.1 g (wouldF l.1 g), l.2.1, ()), 0)
  else ((l.1, l.2.1 ++ [g], ()), 1)
/-- the last mode of a transaction's grants of something -/
def lastF (l : List GrT) (g : GrT) : Int := l.foldl (fun h x => if isG g x = true then x.2.2.1 else h) 0

theorem mode_cases {n : Int} (h : modeB n = true) : n = 1 ∨ n = 2 ∨ n = 3 ∨ n = 4 := by
  unfold modeB at h
  simp only [Bool.and_eq_true, decide_eq_true_eq] at h
  omega
theorem goes_comm {a b : Int} (ha : modeB a = true) (hb : modeB b = true) : goesB a b = goesB b a := by
  rcases mode_cases ha with rfl | rfl | rfl | rfl <;> rcases mode_cases hb with rfl | rfl | rfl | rfl <;> decide
theorem both_comm {a b : Int} (ha : modeB a = true) (hb : modeB b = true) : bothF a b = bothF b a := by
  rcases mode_cases ha with rfl | rfl | rfl | rfl <;> rcases mode_cases hb with rfl | rfl | rfl | rfl <;> decide
theorem both_mode {a b : Int} (ha : modeB a = true) (hb : modeB b = true) : modeB (bothF a b) = true := by
  rcases mode_cases ha with rfl | rfl | rfl | rfl <;> rcases mode_cases hb with rfl | rfl | rfl | rfl <;> decide
theorem both_idem {a b : Int} (ha : modeB a = true) (hb : modeB b = true) : bothF (bothF a b) b = bothF a b := by
  rcases mode_cases ha with rfl | rfl | rfl | rfl <;> rcases mode_cases hb with rfl | rfl | rfl | rfl <;> decide
theorem both_self {a : Int} (ha : modeB a = true) : bothF a a = a := by
  rcases mode_cases ha with rfl | rfl | rfl | rfl <;> decide
theorem grB_mode {g : GrT} (h : grB g = true) : modeB g.2.2.1 = true := by
  unfold grB at h; simp only [Bool.and_eq_true] at h; exact h.2
theorem grB_set {g : GrT} (h : grB g = true) {m : Int} (hm : modeB m = true) : grB (g.1, g.2.1, m, ()) = true := by
  unfold grB at h ⊢; simp only [Bool.and_eq_true] at h ⊢; exact ⟨h.1, hm⟩
theorem isG_iff {g x : GrT} : isG g x = true ↔ x.1 = g.1 ∧ x.2.1 = g.2.1 := by unfold isG; simp
theorem find_of {l : List GrT} {g x : GrT} (h : l.find? (isG g) = some x) : x ∈ l ∧ x.1 = g.1 ∧ x.2.1 = g.2.1 :=
  ⟨List.mem_of_find?_eq_some h, isG_iff.1 (List.find?_some h)⟩
theorem mode_pos {n : Int} (h : modeB n = true) : 0 < n := by rcases mode_cases h with rfl | rfl | rfl | rfl <;> decide
theorem would_mode {l : List GrT} (hl : ∀ x ∈ l, grB x = true) {g : GrT} (hg : grB g = true) : modeB (wouldF l g) = true := by
  unfold wouldF
  split
  · rename_i x hx
    exact both_mode (grB_mode (hl x (find_of hx).1)) (grB_mode hg)
  · exact grB_mode hg
theorem give_mem : ∀ {l : List GrT} {g x : GrT} {m : Int}, x ∈ giveF l g m → x ∈ l ∨ (x.1 = g.1 ∧ x.2.1 = g.2.1 ∧ x.2.2.1 = m)
  | [], g, x, m, h => by
    simp only [giveF, List.mem_singleton] at h
    subst h; exact .inr ⟨rfl, rfl, rfl⟩
  | y :: l, g, x, m, h => by
    unfold giveF at h
    split at h
    · rename_i hy
      rcases List.mem_cons.1 h with rfl | h
      · exact .inr ⟨(isG_iff.1 hy).1, (isG_iff.1 hy).2, rfl⟩
      · exact .inl (by simp [h])
    · rcases List.mem_cons.1 h with rfl | h
      · exact .inl (by simp)
      · rcases give_mem h with h | h
        · exact .inl (by simp [h])
        · exact .inr h
theorem give_len : ∀ {l : List GrT} {g : GrT} {m : Int}, (giveF l g m).length ≤ l.length + 1
  | [], g, m => by simp [giveF]
  | y :: l, g, m => by
    have := @give_len l g m
    unfold giveF
    split <;> simp only [List.length_cons] <;> omega
theorem fits_iff {l : List GrT} {g : GrT} {m : Int} : fitsF l g m = true ↔ ∀ x ∈ l, x.2.1 = g.2.1 → x.1 ≠ g.1 → goesB m x.2.2.1 = true := by
  unfold fitsF
  rw [List.all_eq_true]
  refine forall_congr' fun x => forall_congr' fun _ => ?_
  by_cases h1 : x.2.1 = g.2.1 <;> by_cases h2 : x.1 = g.1 <;> cases goesB m x.2.2.1 <;> simp [h1, h2]
theorem give_pair : ∀ {l : List GrT} {g : GrT} {m : Int}, (∀ x ∈ l, grB x = true) → modeB m = true → l.Pairwise okG → (∀ x ∈ l, x.2.1 = g.2.1 → x.1 ≠ g.1 → goesB m x.2.2.1 = true) → (giveF l g m).Pairwise okG
  | [], g, m, _, _, _, _ => by simp [giveF]
  | y :: l, g, m, hl, hm, hp, hf => by
    rw [List.pairwise_cons] at hp
    unfold giveF
    split
    · rename_i hy
      obtain ⟨h1, h2⟩ := isG_iff.1 hy
      rw [List.pairwise_cons]
      refine ⟨fun z hz hr => ?_, hp.2⟩
      have h3 := hp.1 z hz hr
      refine ⟨h3.1, hf z (by simp [hz]) ?_ ?_⟩
      · rw [← (show y.2.1 = z.2.1 from hr)]; exact h2
      · intro e; exact h3.1 (by show y.1 = z.1; rw [h1, e])
    · rename_i hy
      rw [List.pairwise_cons]
      refine ⟨fun z hz => ?_, give_pair (fun x hx => hl x (by simp [hx])) hm hp.2 (fun x hx => hf x (by simp [hx]))⟩
      rcases give_mem hz with hz | ⟨z1, z2, z3⟩
      · exact hp.1 z hz
      · intro hr
        have hne : y.1 ≠ g.1 := fun e => hy (isG_iff.2 ⟨e, by rw [hr, z2]⟩)
        refine ⟨by rw [z1]; exact hne, ?_⟩
        rw [z3, goes_comm (grB_mode (hl y (by simp))) hm]
        exact hf y (by simp) (by rw [hr, z2]) hne
theorem give_find : ∀ {l : List GrT} {g : GrT} {m : Int}, ∃ x, (giveF l g m).find? (isG g) = some x ∧ x.2.2.1 = m
  | [], g, m => ⟨(g.1, g.2.1, m, ()), by simp [giveF, isG], rfl⟩
  | y :: l, g, m => by
    unfold giveF
    split
    · rename_i hy
      refine ⟨(y.1, y.2.1, m, ()), ?_, rfl⟩
      rw [List.find?_cons_of_pos]
      exact isG_iff.2 (isG_iff.1 hy)
    · rename_i hy
      obtain ⟨x, h1, h2⟩ := @give_find l g m
      refine ⟨x, ?_, h2⟩
      rw [List.find?_cons_of_neg hy]
      exact h1
theorem last_acc : ∀ {l : List GrT} {g : GrT} {h : Int}, (∀ x ∈ l, isG g x = false) → l.foldl (fun h x => if isG g x = true then x.2.2.1 else h) h = h
  | [], _, _, _ => rfl
  | y :: l, g, h, hl => by
    rw [List.foldl_cons, hl y (by simp)]
    exact last_acc (fun x hx => hl x (by simp [hx]))
/-- just one grant of a transaction is of something -/
theorem last_has {l : List GrT} {g : GrT} (hp : l.Pairwise okG) : lastF l g = hasF l g := by
  unfold lastF hasF
  induction l with
  | nil => rfl
  | cons y l ih =>
    rw [List.pairwise_cons] at hp
    rw [List.foldl_cons]
    by_cases hy : isG g y = true
    · rw [if_pos hy, List.find?_cons_of_pos hy]
      refine last_acc fun x hx => ?_
      cases hg : isG g x with
      | false => rfl
      | true =>
        obtain ⟨a, b⟩ := isG_iff.1 hy
        obtain ⟨c, d⟩ := isG_iff.1 hg
        exact absurd (by rw [a, c]) (hp.1 x hx (by rw [b, d])).1
    · rw [if_neg hy, List.find?_cons_of_neg hy]
      exact ih hp.2
/-- LOCKS STAY RIGHT; who got a lock has it -/
theorem ask_ok {l : LkT} (h : LkOk l) {g : GrT} (hg : grB g = true) (hw : ∀ x ∈ l.2.1, x.1 ≠ g.1) (h1 : l.1.length < 60) (h2 : l.2.1.length < 60) : LkOk (askF l g).1 := by
  have hm := would_mode h.g hg
  unfold askF
  split
  · exact h
  split
  · rename_i hc
    simp only [Bool.and_eq_true] at hc
    have hf := fits_iff.1 hc.1
    have hl := @give_len l.1 g (wouldF l.1 g)
    refine ⟨by simp only; omega, h.wl, fun x hx => ?_, give_pair h.g hm h.gp hf, h.w, h.wp⟩
    rcases give_mem hx with hx | ⟨a, b, c⟩
    · exact h.g x hx
    · obtain ⟨x1, x2, x3, ⟨⟩⟩ := x
      simp only at a b c
      subst a; subst b; subst c
      exact grB_set hg hm
  · refine ⟨h.gl, by simp only [List.length_append, List.length_singleton]; omega, h.g, h.gp, fun x hx => ?_, ?_⟩
    · rcases List.mem_append.1 hx with hx | hx
      · exact h.w x hx
      · simp only [List.mem_singleton] at hx; subst hx; exact hg
    · rw [List.pairwise_append]
      refine ⟨h.wp, by simp, fun x hx y hy => ?_⟩
      simp only [List.mem_singleton] at hy; subst hy
      exact hw x hx
theorem ask_got {l : LkT} (h : LkOk l) {g : GrT} (hg : grB g = true) (hc : (askF l g).2 = 0) (hn : LkOk (askF l g).1) :
    0 < lastF (askF l g).1.1 g ∧ bothF (lastF (askF l g).1.1 g) g.2.2.1 = lastF (askF l g).1.1 g ∧ askF (askF l g).1 g = ((askF l g).1, 0) := by
  have hm := would_mode h.g hg
  have key : ∃ m, modeB m = true ∧ hasF (askF l g).1.1 g = m ∧ bothF m g.2.2.1 = m ∧ (askF l g).1.1.find? (isG g) ≠ none := by
    unfold askF at hc ⊢
    split
    · rename_i he
      refine ⟨wouldF l.1 g, hm, he.symm, ?_, ?_⟩
      · unfold wouldF hasF at *
        split
        · rename_i x hx
          exact both_idem (grB_mode (h.g x (find_of hx).1)) (grB_mode hg)
        · exact both_self (grB_mode hg)
      · intro e
        unfold hasF at he
        rw [e] at he
        have := mode_pos hm
        simp only at he
        omega
    · rename_i he
      rw [if_neg he] at hc
      split
      · obtain ⟨x, hx, hxm⟩ := @give_find l.1 g (wouldF l.1 g)
        refine ⟨wouldF l.1 g, hm, ?_, ?_, ?_⟩
        · unfold hasF; simp only [hx, hxm]
        · unfold wouldF
          split
          · rename_i x hx
            exact both_idem (grB_mode (h.g x (find_of hx).1)) (grB_mode hg)
          · exact both_self (grB_mode hg)
        · simp only [hx]; simp
      · rename_i hc2
        rw [if_neg hc2] at hc
        cases hc
  obtain ⟨m, h1, h2, h3, h4⟩ := key
  rw [last_has hn.gp, h2]
  refine ⟨mode_pos h1, h3, ?_⟩
  generalize (askF l g).1 = n at *
  unfold askF
  rw [if_pos]
  rw [h2]
  unfold wouldF
  unfold hasF at h2
  cases hx : n.1.find? (isG g) with
  | none => exact absurd hx h4
  | some x =>
    rw [hx] at h2
    simp only at h2 ⊢
    rw [h2, h3]
end Qlk

namespace Qlk
open Go Go.Vm

/-! ### a transaction is dropped: the plain law -/
abbrev DS := List GrT × List GrT × List Int
def notTx (tx : Int) (x : GrT) : Bool := !decide (x.1 = tx)
def dropS (s : DS) (g : GrT) : DS :=
  if (fitsF s.1 g (wouldF s.1 g) && !forRes s.2.1 g.2.1) = true then (giveF s.1 g (wouldF s.1 g), s.2.1, s.2.2 ++ [g.1]) else (s.1, s.2.1 ++ [g], s.2.2)
def dropR (l : LkT) (tx : Int) : DS := (l.2.1.filter (notTx tx)).foldl dropS (l.1.filter (notTx tx), [], [])
def dropF (l : LkT) (tx : Int) : LkT × List Int := (((dropR l tx).1, (dropR l tx).2.1, ()), (dropR l tx).2.2)
theorem notTx_iff {tx : Int} {x : GrT} : notTx tx x = true ↔ x.1 ≠ tx := by unfold notTx; simp
/-- between two waits: 'todo' is still to be looked at -/
structure DI (tx : Int) (N W : Nat) (s : DS) (todo : List GrT) : Prop where
  n : s.1.length + s.2.1.length + todo.length ≤ N
  k : s.2.1.length + s.2.2.length + todo.length = W
  g : ∀ x ∈ s.1, grB x = true ∧ x.1 ≠ tx
  gp : s.1.Pairwise okG
  w : ∀ x ∈ s.2.1, grB x = true ∧ x.1 ≠ tx
  wp : (s.2.1 ++ todo).Pairwise fun x y => x.1 ≠ y.1
  t : ∀ x ∈ todo, grB x = true ∧ x.1 ≠ tx
theorem DI.step {tx : Int} {N W : Nat} {s : DS} {g : GrT} {todo : List GrT} (h : DI tx N W s (g :: todo)) : DI tx N W (dropS s g) todo := by
  have hg := h.t g (by simp)
  have hm := would_mode (fun x hx => (h.g x hx).1) hg.1
  have hn := h.n
  have hk := h.k
  simp only [List.length_cons] at hn hk
  unfold dropS
  split
  · rename_i hc
    simp only [Bool.and_eq_true] at hc
    have hf := fits_iff.1 hc.1
    have hl := @give_len s.1 g (wouldF s.1 g)
    refine ⟨by simp only; omega, by simp only [List.length_append, List.length_singleton]; omega, fun x hx => ?_, give_pair (fun x hx => (h.g x hx).1) hm h.gp hf, h.w, ?_, fun x hx => h.t x (by simp [hx])⟩
    · rcases give_mem hx with hx | ⟨a, b, c⟩
      · exact h.g x hx
      · obtain ⟨x1, x2, x3, ⟨⟩⟩ := x
        simp only at a b c
        subst a; subst b; subst c
        exact ⟨grB_set hg.1 hm, hg.2⟩
    · refine List.Pairwise.sublist ?_ h.wp
      exact List.Sublist.append (List.Sublist.refl _) (List.sublist_cons_self _ _)
  · refine ⟨by simp only [List.length_append, List.length_singleton]; omega, by simp only [List.length_append, List.length_singleton]; omega, h.g, h.gp, fun x hx => ?_, ?_, fun x hx => h.t x (by simp [hx])⟩
    · rcases List.mem_append.1 hx with hx | hx
      · exact h.w x hx
      · simp only [List.mem_singleton] at hx; subst hx; exact hg
    · simp only [List.append_assoc, List.singleton_append]
      exact h.wp
theorem DI.all {tx : Int} {N W : Nat} : ∀ (todo : List GrT) {s : DS}, DI tx N W s todo → DI tx N W (todo.foldl dropS s) []
  | [], _, h => h
  | g :: todo, s, h => DI.all todo (s := dropS s g) h.step
theorem DI.init {l : LkT} (h : LkOk l) (tx : Int) : DI tx (l.1.length + l.2.1.length) (l.2.1.filter (notTx tx)).length (l.1.filter (notTx tx), [], []) (l.2.1.filter (notTx tx)) := by
  have h1 := List.length_filter_le (notTx tx) l.1
  have h2 := List.length_filter_le (notTx tx) l.2.1
  refine ⟨by simp only [List.length_nil]; omega, by simp, fun x hx => ?_, h.gp.sublist List.filter_sublist, fun x hx => (by cases hx), ?_, fun x hx => ?_⟩
  · obtain ⟨a, b⟩ := List.mem_filter.1 hx
    exact ⟨h.g x a, notTx_iff.1 b⟩
  · simp only [List.nil_append]
    exact h.wp.sublist List.filter_sublist
  · obtain ⟨a, b⟩ := List.mem_filter.1 hx
    exact ⟨h.w x a, notTx_iff.1 b⟩
/-- LOCKS STAY RIGHT; who is dropped has nothing and waits for nothing; each other waits on or is woken -/
theorem drop_ok {l : LkT} (h : LkOk l) (tx : Int) (hn : l.1.length + l.2.1.length ≤ 60) :
    LkOk (dropF l tx).1 ∧ (∀ x ∈ (dropF l tx).1.1, x.1 ≠ tx) ∧ (∀ x ∈ (dropF l tx).1.2.1, x.1 ≠ tx) ∧ (dropF l tx).1.2.1.length + (dropF l tx).2.length = (l.2.1.filter (notTx tx)).length ∧
    (dropF l tx).1.1.length + (dropF l tx).1.2.1.length ≤ l.1.length + l.2.1.length := by
  have hd := DI.all _ (DI.init h tx)
  have h1 := hd.n
  have h2 := hd.k
  simp only [List.length_nil, Nat.add_zero] at h1 h2
  have h3 : (dropR l tx).1.length + (dropR l tx).2.1.length ≤ l.1.length + l.2.1.length := h1
  refine ⟨⟨by show (dropR l tx).1.length ≤ 60; omega, by show (dropR l tx).2.1.length ≤ 60; omega, fun x hx => (hd.g x hx).1, hd.gp, fun x hx => (hd.w x hx).1, ?_⟩, fun x hx => (hd.g x hx).2, fun x hx => (hd.w x hx).2, h2, h1⟩
  have := hd.wp
  rw [List.append_nil] at this
  exact this
end Qlk

namespace Qlk
open Go Go.Vm

/-! ### who waits for himself: the plain law -/
def conG (g : GrT) (m : Int) (x : GrT) : Bool := decide (x.2.1 = g.2.1) && !decide (x.1 = g.1) && !goesB m x.2.2.1
def forK (l : LkT) (g : GrT) (k : Nat) : List Int := (l.1.filter (conG g (wouldF l.1 g))).map (·.1) ++ ((l.2.1.take k).filter fun x => decide (x.2.1 = g.2.1)).map (·.1)
def outF (l : LkT) (t : Int) : List Int := match l.2.1.findIdx? (fun x => decide (x.1 = t)) with
  | none => []
  | some k => match l.2.1[k]? with
    | none => []
    | some g => forK l g k
def names (l : LkT) : List Int := l.1.map (·.1) ++ l.2.1.map (·.1)
theorem outF_names {l : LkT} {t x : Int} (h : x ∈ outF l t) : x ∈ names l := by
  unfold outF at h
  split at h
  · cases h
  · split at h
    · cases h
    · unfold forK at h
      unfold names
      rw [List.mem_append] at h ⊢
      rcases h with h | h
      · obtain ⟨y, hy, rfl⟩ := List.mem_map.1 h
        exact .inl (List.mem_map.2 ⟨y, (List.mem_filter.1 hy).1, rfl⟩)
      · obtain ⟨y, hy, rfl⟩ := List.mem_map.1 h
        exact .inr (List.mem_map.2 ⟨y, List.mem_of_mem_take ((List.mem_filter.1 hy).1), rfl⟩)
/-- reached by one wait or more -/
inductive Rw (l : LkT) (t : Int) : Int → Prop
  | one {y : Int} : y ∈ outF l t → Rw l t y
  | step {x y : Int} : Rw l t x → y ∈ outF l x → Rw l t y
open Classical in
noncomputable def cycB (l : LkT) (t : Int) : Bool := decide (Rw l t t)
theorem cyc_t {l : LkT} {t : Int} (h : Rw l t t) : cycB l t = true := by unfold cycB; simp [h]
theorem cyc_f {l : LkT} {t : Int} (h : ¬ Rw l t t) : cycB l t = false := by unfold cycB; simp [h]
theorem nodup_len : ∀ {s n : List Int}, s.Nodup → (∀ x ∈ s, x ∈ n) → s.length ≤ n.length
  | [], _, _, _ => Nat.zero_le _
  | x :: s, n, hd, hs => by
    have hx := hs x (by simp)
    rw [List.nodup_cons] at hd
    have hmem : ∀ y ∈ s, y ∈ n.erase x := fun y hy => by
      rw [List.mem_erase_of_ne (fun e => hd.1 (by rw [← e]; exact hy))]
      exact hs y (by simp [hy])
    have ih := nodup_len hd.2 hmem
    rw [List.length_erase_of_mem hx] at ih
    have := List.length_pos_of_mem hx
    simp only [List.length_cons]; omega
/-! the impl's walk: what was seen, what is next -/
structure BI (l : LkT) (t : Int) (seen next : List Int) : Prop where
  sn : ∀ y ∈ seen, Rw l t y ∧ y ≠ t
  nx : ∀ y ∈ next, y = t ∨ y ∈ seen
  ex : ∀ y, (y = t ∨ y ∈ seen) → y ∈ next ∨ ∀ z ∈ outF l y, z ∈ seen
  nd : seen.Nodup
  nm : ∀ y ∈ seen, y ∈ names l
/-- while the outs of 'y' are looked at; 'todo' is left -/
structure BI2 (l : LkT) (t y : Int) (seen next todo : List Int) : Prop where
  sn : ∀ y ∈ seen, Rw l t y ∧ y ≠ t
  nx : ∀ y ∈ next, y = t ∨ y ∈ seen
  ex : ∀ x, (x = t ∨ x ∈ seen) → x ∈ next ∨ (∀ z ∈ outF l x, z ∈ seen) ∨ (x = y ∧ ∀ z ∈ outF l x, z ∈ seen ∨ z ∈ todo)
  nd : seen.Nodup
  nm : ∀ y ∈ seen, y ∈ names l
  yr : y = t ∨ Rw l t y
  td : ∀ z ∈ todo, z ∈ outF l y
theorem BI.init (l : LkT) (t : Int) : BI l t [] [t] :=
  ⟨fun _ h => (by cases h), fun y hy => .inl (by simpa using hy), fun y hy => .inl (by rcases hy with rfl | hy; simp; cases hy), List.nodup_nil, fun _ h => (by cases h)⟩
theorem BI.pop {l : LkT} {t y : Int} {seen next : List Int} (h : BI l t seen (y :: next)) : BI2 l t y seen next (outF l y) := by
  refine ⟨h.sn, fun z hz => h.nx z (by simp [hz]), fun x hx => ?_, h.nd, h.nm, ?_, fun z hz => hz⟩
  · rcases h.ex x hx with h1 | h1
    · rcases List.mem_cons.1 h1 with rfl | h1
      · exact .inr (.inr ⟨rfl, fun z hz => .inr hz⟩)
      · exact .inl h1
    · exact .inr (.inl h1)
  · rcases h.nx y (by simp) with h1 | h1
    · exact .inl h1
    · exact .inr (h.sn y h1).1
theorem BI2.rw {l : LkT} {t y z : Int} {seen next todo : List Int} (h : BI2 l t y seen next (z :: todo)) : Rw l t z := by
  have hz := h.td z (by simp)
  rcases h.yr with rfl | h1
  · exact .one hz
  · exact .step h1 hz
theorem BI2.cyc {l : LkT} {t y : Int} {seen next todo : List Int} (h : BI2 l t y seen next (t :: todo)) : cycB l t = true := cyc_t h.rw
theorem BI2.skip {l : LkT} {t y z : Int} {seen next todo : List Int} (h : BI2 l t y seen next (z :: todo)) (hz : z ∈ seen) : BI2 l t y seen next todo := by
  refine ⟨h.sn, h.nx, fun x hx => ?_, h.nd, h.nm, h.yr, fun w hw => h.td w (by simp [hw])⟩
  rcases h.ex x hx with h1 | h1 | ⟨h1, h2⟩
  · exact .inl h1
  · exact .inr (.inl h1)
  · refine .inr (.inr ⟨h1, fun w hw => ?_⟩)
    rcases h2 w hw with h3 | h3
    · exact .inl h3
    · rcases List.mem_cons.1 h3 with rfl | h3
      · exact .inl hz
      · exact .inr h3
theorem BI2.push {l : LkT} {t y z : Int} {seen next todo : List Int} (h : BI2 l t y seen next (z :: todo)) (hz : z ∉ seen) (ht : z ≠ t) : BI2 l t y (seen ++ [z]) (next ++ [z]) todo := by
  refine ⟨fun w hw => ?_, fun w hw => ?_, fun x hx => ?_, ?_, fun w hw => ?_, h.yr, fun w hw => h.td w (by simp [hw])⟩
  · rcases List.mem_append.1 hw with hw | hw
    · exact h.sn w hw
    · simp only [List.mem_singleton] at hw; subst hw; exact ⟨h.rw, ht⟩
  · rcases List.mem_append.1 hw with hw | hw
    · rcases h.nx w hw with h1 | h1
      · exact .inl h1
      · exact .inr (by simp [h1])
    · exact .inr (by simp only [List.mem_singleton] at hw; simp [hw])
  · have hx' : x = z ∨ (x = t ∨ x ∈ seen) := by
      rcases hx with hx | hx
      · exact .inr (.inl hx)
      · rcases List.mem_append.1 hx with hx | hx
        · exact .inr (.inr hx)
        · exact .inl (by simpa using hx)
    rcases hx' with rfl | hx'
    · exact .inl (by simp)
    · rcases h.ex x hx' with h1 | h1 | ⟨h1, h2⟩
      · exact .inl (by simp [h1])
      · exact .inr (.inl fun w hw => by simp [h1 w hw])
      · refine .inr (.inr ⟨h1, fun w hw => ?_⟩)
        rcases h2 w hw with h3 | h3
        · exact .inl (by simp [h3])
        · rcases List.mem_cons.1 h3 with rfl | h3
          · exact .inl (by simp)
          · exact .inr h3
  · rw [List.nodup_append]
    refine ⟨h.nd, by simp, fun a ha b hb => ?_⟩
    simp only [List.mem_singleton] at hb; subst hb
    exact fun e => hz (by rw [← e]; exact ha)
  · rcases List.mem_append.1 hw with hw | hw
    · exact h.nm w hw
    · simp only [List.mem_singleton] at hw; subst hw; exact outF_names (h.td w (by simp))
theorem BI2.done {l : LkT} {t y : Int} {seen next : List Int} (h : BI2 l t y seen next []) : BI l t seen next := by
  refine ⟨h.sn, h.nx, fun x hx => ?_, h.nd, h.nm⟩
  rcases h.ex x hx with h1 | h1 | ⟨h1, h2⟩
  · exact .inl h1
  · exact .inr h1
  · refine .inr fun z hz => ?_
    rcases h2 z hz with h3 | h3
    · exact h3
    · cases h3
theorem BI.done {l : LkT} {t : Int} {seen : List Int} (h : BI l t seen []) : cycB l t = false := by
  have key : ∀ y, Rw l t y → y ∈ seen := fun y hy => by
    induction hy with
    | one hy => rcases h.ex t (.inl rfl) with h1 | h1
                · cases h1
                · exact h1 _ hy
    | step _ hy ih => rcases h.ex _ (.inr ih) with h1 | h1
                      · cases h1
                      · exact h1 _ hy
  exact cyc_f fun hr => (h.sn t (key t hr)).2 rfl
theorem BI.len {l : LkT} {t : Int} {seen next : List Int} (h : BI l t seen next) : seen.length ≤ l.1.length + l.2.1.length := by
  have := nodup_len h.nd h.nm
  unfold names at this
  simpa using this
/-! the reference's walk: who was met, how many of them were looked at -/
structure SI (l : LkT) (t : Int) (met : List Int) (k : Nat) : Prop where
  m0 : t ∈ met
  sn : ∀ y ∈ met, y = t ∨ Rw l t y
  kl : k ≤ met.length
  ex : ∀ j y, j < k → met[j]? = some y → ∀ z ∈ outF l y, z ∈ met ∧ z ≠ t
  nd : met.Nodup
  nm : ∀ y ∈ met, y = t ∨ y ∈ names l
structure SI2 (l : LkT) (t : Int) (met : List Int) (k : Nat) (y : Int) (todo : List Int) : Prop where
  si : SI l t met k
  at_ : met[k]? = some y
  ex : ∀ z ∈ outF l y, z ∈ todo ∨ (z ∈ met ∧ z ≠ t)
  td : ∀ z ∈ todo, z ∈ outF l y
theorem SI.init (l : LkT) (t : Int) : SI l t [t] 0 :=
  ⟨by simp, fun y hy => .inl (by simpa using hy), by simp, fun j y hj => absurd hj (Nat.not_lt_zero _), by simp, fun y hy => .inl (by simpa using hy)⟩
theorem SI.look {l : LkT} {t y : Int} {met : List Int} {k : Nat} (h : SI l t met k) (hy : met[k]? = some y) : SI2 l t met k y (outF l y) := ⟨h, hy, fun z hz => .inl hz, fun z hz => hz⟩
theorem SI2.rw {l : LkT} {t y z : Int} {met : List Int} {k : Nat} {todo : List Int} (h : SI2 l t met k y (z :: todo)) : Rw l t z := by
  have hz := h.td z (by simp)
  rcases h.si.sn y (List.mem_of_getElem? h.at_) with rfl | h1
  · exact .one hz
  · exact .step h1 hz
theorem SI2.cyc {l : LkT} {t y : Int} {met : List Int} {k : Nat} {todo : List Int} (h : SI2 l t met k y (t :: todo)) : cycB l t = true := cyc_t h.rw
theorem SI2.skip {l : LkT} {t y z : Int} {met : List Int} {k : Nat} {todo : List Int} (h : SI2 l t met k y (z :: todo)) (hz : z ∈ met) (ht : z ≠ t) : SI2 l t met k y todo := by
  refine ⟨h.si, h.at_, fun w hw => ?_, fun w hw => h.td w (by simp [hw])⟩
  rcases h.ex w hw with h1 | h1
  · rcases List.mem_cons.1 h1 with rfl | h1
    · exact .inr ⟨hz, ht⟩
    · exact .inl h1
  · exact .inr h1
theorem SI2.push {l : LkT} {t y z : Int} {met : List Int} {k : Nat} {todo : List Int} (h : SI2 l t met k y (z :: todo)) (hz : z ∉ met) (ht : z ≠ t) : SI2 l t (met ++ [z]) k y todo := by
  have hk := (List.getElem?_eq_some_iff.1 h.at_).1
  refine ⟨⟨by simp [h.si.m0], fun w hw => ?_, by have := h.si.kl; simp; omega, fun j w hj hw x hx => ?_, ?_, fun w hw => ?_⟩, by rw [List.getElem?_append_left hk]; exact h.at_, fun w hw => ?_, fun w hw => h.td w (by simp [hw])⟩
  · rcases List.mem_append.1 hw with hw | hw
    · exact h.si.sn w hw
    · simp only [List.mem_singleton] at hw; subst hw; exact .inr h.rw
  · rw [List.getElem?_append_left (by omega)] at hw
    obtain ⟨a, b⟩ := h.si.ex j w hj hw x hx
    exact ⟨by simp [a], b⟩
  · rw [List.nodup_append]
    refine ⟨h.si.nd, by simp, fun a ha b hb => ?_⟩
    simp only [List.mem_singleton] at hb; subst hb
    exact fun e => hz (by rw [← e]; exact ha)
  · rcases List.mem_append.1 hw with hw | hw
    · exact h.si.nm w hw
    · simp only [List.mem_singleton] at hw; subst hw; exact .inr (outF_names (h.td w (by simp)))
  · rcases h.ex w hw with h1 | ⟨h1, h2⟩
    · rcases List.mem_cons.1 h1 with rfl | h1
      · exact .inr ⟨by simp, ht⟩
      · exact .inl h1
    · exact .inr ⟨by simp [h1], h2⟩
theorem SI2.done {l : LkT} {t y : Int} {met : List Int} {k : Nat} (h : SI2 l t met k y []) : SI l t met (k + 1) := by
  refine ⟨h.si.m0, h.si.sn, (List.getElem?_eq_some_iff.1 h.at_).1, fun j w hj hw x hx => ?_, h.si.nd, h.si.nm⟩
  rcases Nat.lt_or_ge j k with h' | h'
  · exact h.si.ex j w h' hw x hx
  · have : j = k := by omega
    subst this
    rw [h.at_] at hw; cases hw
    rcases h.ex x hx with h1 | h1
    · cases h1
    · exact h1
theorem SI.done {l : LkT} {t : Int} {met : List Int} (h : SI l t met met.length) : cycB l t = false := by
  have key : ∀ y, Rw l t y → y ∈ met ∧ y ≠ t := fun y hy => by
    induction hy with
    | one hy =>
      obtain ⟨j, hj, he⟩ := List.getElem_of_mem h.m0
      exact h.ex j t hj (by rw [List.getElem?_eq_getElem hj, he]) _ hy
    | step _ hy ih =>
      obtain ⟨j, hj, he⟩ := List.getElem_of_mem ih.1
      exact h.ex j _ hj (by rw [List.getElem?_eq_getElem hj, he]) _ hy
  exact cyc_f fun hr => (key t hr).2 rfl
theorem SI.len {l : LkT} {t : Int} {met : List Int} {k : Nat} (h : SI l t met k) : met.length ≤ 1 + l.1.length + l.2.1.length := by
  have := nodup_len (n := t :: names l) h.nd (fun y hy => by rcases h.nm y hy with rfl | h1; simp; simp [h1])
  unfold names at this
  simp only [List.length_cons, List.length_append, List.length_map] at this
  omega
/-! Stuck: the greatest who waits for himself -/
noncomputable def stuckF (l : LkT) : Int := l.2.1.foldl (fun o g => if (decide (g.1 > o) && cycB l g.1) = true then g.1 else o) 0
theorem stuck_acc {l : LkT} : ∀ (ws : List GrT) (o : Int), ws.foldl (fun o g => if (decide (g.1 > o) && cycB l g.1) = true then g.1 else o) o = o ∨ ∃ g ∈ ws, ws.foldl (fun o g => if (decide (g.1 > o) && cycB l g.1) = true then g.1 else o) o = g.1
  | [], o => .inl rfl
  | g :: ws, o => by
    rw [List.foldl_cons]
    split
    · rcases stuck_acc ws g.1 with h | ⟨x, hx, h⟩
      · exact .inr ⟨g, by simp, h⟩
      · exact .inr ⟨x, by simp [hx], h⟩
    · rcases stuck_acc ws o with h | ⟨x, hx, h⟩
      · exact .inl h
      · exact .inr ⟨x, by simp [hx], h⟩
/-- nobody who is dropped is stuck -/
theorem stuck_drop {l : LkT} (hl : LkOk l) (hn : l.1.length + l.2.1.length ≤ 60) {s : Int} (hs : s ≠ 0) : stuckF (dropF l s).1 ≠ s := by
  obtain ⟨_, _, h3, _⟩ := drop_ok hl s hn
  intro e
  rcases stuck_acc (l := (dropF l s).1) (dropF l s).1.2.1 0 with h | ⟨x, hx, h⟩
  · have : stuckF (dropF l s).1 = 0 := h
    exact hs (by rw [← e, this])
  · have h4 : stuckF (dropF l s).1 = x.1 := h
    exact h3 x hx (by rw [← h4, e])
end Qlk

namespace Q6
open Go Go.Vm Go.Proofs
set_option maxHeartbeats 4000000
set_option synthInstance.maxSize 2000
set_option synthInstance.maxHeartbeats 400000
set_option maxRecDepth 10000
set_option linter.unusedSimpArgs false
set_option linter.unusedVariables false

open Qlk
set_option linter.unusedVariables false
theorem eq4 (a b : Int) : (a == b) = decide (a = b) := rfl
theorem iMode_ok (a : Int) : CallR Try.prog 83 [.int .i64 a] [] (.bool (modeB a)) := by
  refine CallR.of_body (n := 5) (rs := [.tmp 2]) hY.ok Try.func83 rfl (by decide) rfl rfl rfl rfl (fun F => ?_)
  have fx := And.intro Y3 (Y4)
  have hG1 := fun u1 u2 u3 => in_ok u1 u2 u3
  have fy := Nat.add_zero
  refine goK ?_ ?_ ?_ ?_ ?_ ?_ ?_ ?_ ?_ ?_ ?_ ?_ ?_ ?_ ?_ ?_
  any_goals (first | exact True.intro | skip)
  all_goals (repeat (refine Wh.mk fun hcc => ?_))
  all_goals (first | rfl | ((try simp only [tupOf, fixEs]); (first | done | rfl | (simp_all [modeB]; done) | grind [modeB])))
theorem iGoes_ok (a b : Int) : CallR Try.prog 82 [.int .i64 a, .int .i64 b] [] (.bool (goesB a b)) := by
  refine CallR.of_body (n := 32) (rs := [.tmp 4]) hY.ok Try.func82 rfl (by decide) rfl rfl rfl rfl (fun F => ?_)
  have fx := And.intro Y3 (Y4)
  have hC1 := cx [] (iMode_ok a)
  have hC2 := cx [] (iMode_ok b)
  have fy := Nat.add_zero
  refine goK ?_ ?_ ?_ ?_ ?_ ?_ ?_ ?_ ?_ ?_ ?_ ?_ ?_ ?_ ?_ ?_
  any_goals (first | exact True.intro | skip)
  all_goals (repeat (refine Wh.mk fun hcc => ?_))
  all_goals (simp only [tupOf, fixEs]; unfold goesB; generalize modeB a = p at *; generalize modeB b = q at *; cases p <;> cases q <;> first | (simp_all; done) | (simp_all; rfl))
theorem iBoth_ok (a b : Int) : CallR Try.prog 24 [.int .i64 a, .int .i64 b] [] (.int .i64 (bothF a b)) := by
  refine CallR.of_body (n := 27) (rs := [.tmp 4]) hY.ok Try.func24 rfl (by decide) rfl rfl rfl rfl (fun F => ?_)
  have fx := And.intro Y3 (Y4)
  have hC1 := cx [] (iMode_ok a)
  have hC2 := cx [] (iMode_ok b)
  have fy := Nat.add_zero
  refine goK ?_ ?_ ?_ ?_ ?_ ?_ ?_ ?_ ?_ ?_ ?_ ?_ ?_ ?_ ?_ ?_
  any_goals (first | exact True.intro | skip)
  all_goals (repeat (refine Wh.mk fun hcc => ?_))
  all_goals (simp only [tupOf, fixEs]; unfold bothF; generalize modeB a = p at *; generalize modeB b = q at *; cases p <;> cases q <;> simp_all)
theorem iGrant_ok (x : GrT) : CallR Try.prog 68 [.nd [.int .i64 x.1, .int .i64 x.2.1, .int .i64 x.2.2.1]] [] (.bool (grB x)) := by
  refine CallR.of_body (n := 16) (rs := [.tmp 2]) hY.ok Try.func68 rfl (by decide) rfl rfl rfl rfl (fun F => ?_)
  have fx := And.intro Y1 (And.intro Y2 (And.intro Y3 (And.intro Y4 (Y50))))
  have hG1 := fun u1 u2 u3 => in_ok u1 u2 u3
  have hG2 := fun u1 => iMode_ok u1
  have fy := Nat.add_zero
  refine goK ?_ ?_ ?_ ?_ ?_ ?_ ?_ ?_ ?_ ?_ ?_ ?_ ?_ ?_ ?_ ?_
  any_goals (first | exact True.intro | skip)
  all_goals (repeat (refine Wh.mk fun hcc => ?_))
  all_goals (simp only [tupOf, fixEs]; unfold grB; first | rfl | simp_all)
theorem sMode_ok (a : Int) : CallR Try.prog 138 [.int .i64 a] [] (.bool (modeB a)) := by
  refine CallR.of_body (n := 5) (rs := [.tmp 2]) hY.ok Try.func138 rfl (by decide) rfl rfl rfl rfl (fun F => ?_)
  have fx := And.intro Y3 (Y4)
  have hG1 := fun u1 u2 u3 => l1In_ok u1 u2 u3
  have fy := Nat.add_zero
  refine goK ?_ ?_ ?_ ?_ ?_ ?_ ?_ ?_ ?_ ?_ ?_ ?_ ?_ ?_ ?_ ?_
  any_goals (first | exact True.intro | skip)
  all_goals (repeat (refine Wh.mk fun hcc => ?_))
  all_goals (first | rfl | ((try simp only [tupOf, fixEs]); (first | done | rfl | (simp_all [modeB]; done) | grind [modeB])))
theorem sGoes_ok (a b : Int) : CallR Try.prog 137 [.int .i64 a, .int .i64 b] [] (.bool (goesB a b)) := by
  refine CallR.of_body (n := 32) (rs := [.tmp 4]) hY.ok Try.func137 rfl (by decide) rfl rfl rfl rfl (fun F => ?_)
  have fx := And.intro Y3 (Y4)
  have hC1 := cx [] (sMode_ok a)
  have hC2 := cx [] (sMode_ok b)
  have fy := Nat.add_zero
  refine goK ?_ ?_ ?_ ?_ ?_ ?_ ?_ ?_ ?_ ?_ ?_ ?_ ?_ ?_ ?_ ?_
  any_goals (first | exact True.intro | skip)
  all_goals (repeat (refine Wh.mk fun hcc => ?_))
  all_goals (simp only [tupOf, fixEs]; unfold goesB; generalize modeB a = p at *; generalize modeB b = q at *; cases p <;> cases q <;> first | (simp_all; done) | (simp_all; rfl))
theorem sBoth_ok (a b : Int) : CallR Try.prog 175 [.int .i64 a, .int .i64 b] [] (.int .i64 (bothF a b)) := by
  refine CallR.of_body (n := 27) (rs := [.tmp 4]) hY.ok Try.func175 rfl (by decide) rfl rfl rfl rfl (fun F => ?_)
  have fx := And.intro Y3 (Y4)
  have hC1 := cx [] (sMode_ok a)
  have hC2 := cx [] (sMode_ok b)
  have fy := Nat.add_zero
  refine goK ?_ ?_ ?_ ?_ ?_ ?_ ?_ ?_ ?_ ?_ ?_ ?_ ?_ ?_ ?_ ?_
  any_goals (first | exact True.intro | skip)
  all_goals (repeat (refine Wh.mk fun hcc => ?_))
  all_goals (simp only [tupOf, fixEs]; unfold bothF; generalize modeB a = p at *; generalize modeB b = q at *; cases p <;> cases q <;> simp_all)
theorem sGrant_ok (x : GrT) : CallR Try.prog 78 [.nd [.int .i64 x.1, .int .i64 x.2.1, .int .i64 x.2.2.1]] [] (.bool (grB x)) := by
  refine CallR.of_body (n := 16) (rs := [.tmp 2]) hY.ok Try.func78 rfl (by decide) rfl rfl rfl rfl (fun F => ?_)
  have fx := And.intro Y1 (And.intro Y2 (And.intro Y3 (And.intro Y4 (Y50))))
  have hG1 := fun u1 u2 u3 => l1In_ok u1 u2 u3
  have hG2 := fun u1 => sMode_ok u1
  have fy := Nat.add_zero
  refine goK ?_ ?_ ?_ ?_ ?_ ?_ ?_ ?_ ?_ ?_ ?_ ?_ ?_ ?_ ?_ ?_
  any_goals (first | exact True.intro | skip)
  all_goals (repeat (refine Wh.mk fun hcc => ?_))
  all_goals (simp only [tupOf, fixEs]; unfold grB; first | rfl | simp_all)
theorem cl1_ok (x g : GrT) : CallR Try.prog 81 [.nd [.int .i64 x.1, .int .i64 x.2.1, .int .i64 x.2.2.1], .fp (.nd [.int .i64 g.1, .int .i64 g.2.1, .int .i64 g.2.2.1])] [] (.bool (decide (x.2.1 = g.2.1) && (decide (x.1 = g.1) || !goesB x.2.2.1 g.2.2.1))) := by
  refine CallR.of_body (n := 24) (rs := [.tmp 3]) hY.ok Try.func81 rfl (by decide) rfl rfl rfl rfl (fun F => ?_)
  have fx := And.intro Y1 (And.intro Y2 (And.intro Y3 (And.intro Y4 (Y50))))
  have hG1 := fun u1 u2 => iGoes_ok u1 u2
  have fy := Nat.add_zero
  refine goK ?_ ?_ ?_ ?_ ?_ ?_ ?_ ?_ ?_ ?_ ?_ ?_ ?_ ?_ ?_ ?_
  any_goals (first | exact True.intro | skip)
  all_goals (repeat (refine Wh.mk fun hcc => ?_))
  all_goals (simp only [tupOf, fixEs]; first | rfl | simp_all)
theorem clw_ok (x : GrT) (tx : Int) : CallR Try.prog 134 [.nd [.int .i64 x.1, .int .i64 x.2.1, .int .i64 x.2.2.1], .fp (.int .i64 tx)] [] (.bool (decide (x.1 = tx))) := by
  refine CallR.of_body (n := 8) (rs := [.tmp 3]) hY.ok Try.func134 rfl (by decide) rfl rfl rfl rfl (fun F => ?_)
  have fx := And.intro Y3 (And.intro Y4 (Y50))
  have fy := Nat.add_zero
  refine goK ?_ ?_ ?_ ?_ ?_ ?_ ?_ ?_ ?_ ?_ ?_ ?_ ?_ ?_ ?_ ?_
  any_goals (first | exact True.intro | skip)
  all_goals (repeat (refine Wh.mk fun hcc => ?_))
  all_goals (simp only [tupOf, fixEs]; first | rfl | simp_all)
theorem clg_ok (x : GrT) (tx res : Int) : CallR Try.prog 135 [.nd [.int .i64 x.1, .int .i64 x.2.1, .int .i64 x.2.2.1], .fp (.int .i64 tx), .fp (.int .i64 res)] [] (.bool (decide (x.1 = tx) && decide (x.2.1 = res))) := by
  refine CallR.of_body (n := 15) (rs := [.tmp 4]) hY.ok Try.func135 rfl (by decide) rfl rfl rfl rfl (fun F => ?_)
  have fx := And.intro Y1 (And.intro Y3 (And.intro Y4 (Y50)))
  have fy := Nat.add_zero
  refine goK ?_ ?_ ?_ ?_ ?_ ?_ ?_ ?_ ?_ ?_ ?_ ?_ ?_ ?_ ?_ ?_
  any_goals (first | exact True.intro | skip)
  all_goals (repeat (refine Wh.mk fun hcc => ?_))
  all_goals (simp only [tupOf, fixEs]; first | rfl | simp_all)
theorem cla_ok (x g : GrT) (m : Int) : CallR Try.prog 136 [.nd [.int .i64 x.1, .int .i64 x.2.1, .int .i64 x.2.2.1], .fp (.nd [.int .i64 g.1, .int .i64 g.2.1, .int .i64 g.2.2.1]), .fp (.int .i64 m)] [] (.bool (decide (x.2.1 = g.2.1) && !decide (x.1 = g.1) && !goesB m x.2.2.1)) := by
  refine CallR.of_body (n := 24) (rs := [.tmp 4]) hY.ok Try.func136 rfl (by decide) rfl rfl rfl rfl (fun F => ?_)
  have fx := And.intro Y1 (And.intro Y2 (And.intro Y3 (And.intro Y4 (Y50))))
  have hG1 := fun u1 u2 => iGoes_ok u1 u2
  have fy := Nat.add_zero
  refine goK ?_ ?_ ?_ ?_ ?_ ?_ ?_ ?_ ?_ ?_ ?_ ?_ ?_ ?_ ?_ ?_
  any_goals (first | exact True.intro | skip)
  all_goals (repeat (refine Wh.mk fun hcc => ?_))
  all_goals (simp only [tupOf, fixEs]; first | rfl | simp_all)
theorem clk_ok (x : GrT) (res : Int) : CallR Try.prog 73 [.nd [.int .i64 x.1, .int .i64 x.2.1, .int .i64 x.2.2.1], .fp (.int .i64 res)] [] (.bool (decide (x.2.1 = res))) := by
  refine CallR.of_body (n := 8) (rs := [.tmp 3]) hY.ok Try.func73 rfl (by decide) rfl rfl rfl rfl (fun F => ?_)
  have fx := And.intro Y1 (And.intro Y3 (And.intro Y4 (Y50)))
  have fy := Nat.add_zero
  refine goK ?_ ?_ ?_ ?_ ?_ ?_ ?_ ?_ ?_ ?_ ?_ ?_ ?_ ?_ ?_ ?_
  any_goals (first | exact True.intro | skip)
  all_goals (repeat (refine Wh.mk fun hcc => ?_))
  all_goals (simp only [tupOf, fixEs]; first | rfl | simp_all)
theorem cld_ok (x : GrT) (tx : Int) : CallR Try.prog 87 [.nd [.int .i64 x.1, .int .i64 x.2.1, .int .i64 x.2.2.1], .fp (.int .i64 tx)] [] (.bool (decide (x.1 = tx))) := by
  refine CallR.of_body (n := 8) (rs := [.tmp 3]) hY.ok Try.func87 rfl (by decide) rfl rfl rfl rfl (fun F => ?_)
  have fx := And.intro Y3 (And.intro Y4 (Y50))
  have fy := Nat.add_zero
  refine goK ?_ ?_ ?_ ?_ ?_ ?_ ?_ ?_ ?_ ?_ ?_ ?_ ?_ ?_ ?_ ?_
  any_goals (first | exact True.intro | skip)
  all_goals (repeat (refine Wh.mk fun hcc => ?_))
  all_goals (simp only [tupOf, fixEs]; first | rfl | simp_all)
theorem cle_ok (x g : GrT) : CallR Try.prog 89 [.nd [.int .i64 x.1, .int .i64 x.2.1, .int .i64 x.2.2.1], .fp (.nd [.int .i64 g.1, .int .i64 g.2.1, .int .i64 g.2.2.1])] [] (.bool (decide (x.2.1 = g.2.1))) := by
  refine CallR.of_body (n := 9) (rs := [.tmp 3]) hY.ok Try.func89 rfl (by decide) rfl rfl rfl rfl (fun F => ?_)
  have fx := And.intro Y1 (And.intro Y3 (And.intro Y4 (Y50)))
  have fy := Nat.add_zero
  refine goK ?_ ?_ ?_ ?_ ?_ ?_ ?_ ?_ ?_ ?_ ?_ ?_ ?_ ?_ ?_ ?_
  any_goals (first | exact True.intro | skip)
  all_goals (repeat (refine Wh.mk fun hcc => ?_))
  all_goals (simp only [tupOf, fixEs]; first | rfl | simp_all)
end Q6
