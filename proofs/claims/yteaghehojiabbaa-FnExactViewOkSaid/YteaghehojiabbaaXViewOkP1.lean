/- Shows what the parts of the program do that the claim reaches: a machine of values over the model, and the contracts of functions, for all arguments within the lengths that each theorem names. -/
import Derived.Test.YteaghehojiabbaaVm3
import Derived.Test.YteaghehojiabbaaRows
set_option linter.all false

namespace P1
open Go Go.Vm Go.Proofs
def tbl : List TyI := [
  ⟨.bad, 0, 0⟩,
  ⟨.fn, 1, 8⟩,
  ⟨.int .i64, 1, 8⟩,
  ⟨.int .i64, 1, 8⟩,
  ⟨.bool, 1, 1⟩,
  ⟨.int .u8, 1, 1⟩,
  ⟨.int .u8, 1, 1⟩,
  ⟨.st [(2, 0), (3, 1), (4, 2), (6, 3)], 4, 24⟩,
  ⟨.st [(2, 0), (3, 1), (4, 2), (6, 3)], 4, 24⟩,
  ⟨.str, 1, 16⟩,
  ⟨.str, 1, 16⟩,
  ⟨.str, 1, 16⟩,
  ⟨.int .u64, 1, 8⟩,
  ⟨.st [(9, 0), (12, 1)], 2, 24⟩,
  ⟨.st [(9, 0), (12, 1)], 2, 24⟩,
  ⟨.ptr 101, 1, 8⟩,
  ⟨.ptr 104, 1, 8⟩,
  ⟨.ptr 114, 1, 8⟩,
  ⟨.st [(17, 0)], 1, 8⟩,
  ⟨.st [(17, 0)], 1, 8⟩,
  ⟨.ifc, 1, 16⟩,
  ⟨.int .i32, 1, 4⟩,
  ⟨.sl 81, 1, 24⟩,
  ⟨.st [(3, 0), (22, 1)], 2, 32⟩,
  ⟨.st [(3, 0), (22, 1)], 2, 32⟩,
  ⟨.fn, 1, 8⟩,
  ⟨.fn, 1, 8⟩,
  ⟨.sl 50, 1, 24⟩,
  ⟨.st [(3, 0), (27, 1)], 2, 32⟩,
  ⟨.st [(3, 0), (27, 1)], 2, 32⟩,
  ⟨.fn, 1, 8⟩,
  ⟨.fn, 1, 8⟩,
  ⟨.fn, 1, 8⟩,
  ⟨.sl 57, 1, 24⟩,
  ⟨.fn, 1, 8⟩,
  ⟨.fn, 1, 8⟩,
  ⟨.sl 58, 1, 24⟩,
  ⟨.fn, 1, 8⟩,
  ⟨.fn, 1, 8⟩,
  ⟨.fn, 1, 8⟩,
  ⟨.sl 72, 1, 24⟩,
  ⟨.fn, 1, 8⟩,
  ⟨.fn, 1, 8⟩,
  ⟨.sl 75, 1, 24⟩,
  ⟨.fn, 1, 8⟩,
  ⟨.fn, 1, 8⟩,
  ⟨.fn, 1, 8⟩,
  ⟨.fn, 1, 8⟩,
  ⟨.fn, 1, 8⟩,
  ⟨.st [(3, 0), (3, 1)], 2, 16⟩,
  ⟨.st [(3, 0), (3, 1)], 2, 16⟩,
  ⟨.fn, 1, 8⟩,
  ⟨.fn, 1, 8⟩,
  ⟨.fn, 1, 8⟩,
  ⟨.fn, 1, 8⟩,
  ⟨.fn, 1, 8⟩,
  ⟨.fn, 1, 8⟩,
  ⟨.sl 85, 1, 24⟩,
  ⟨.sl 61, 1, 24⟩,
  ⟨.fn, 1, 8⟩,
  ⟨.st [(3, 0), (3, 1), (3, 2)], 3, 24⟩,
  ⟨.st [(3, 0), (3, 1), (3, 2)], 3, 24⟩,
  ⟨.fn, 1, 8⟩,
  ⟨.fn, 1, 8⟩,
  ⟨.fn, 1, 8⟩,
  ⟨.fn, 1, 8⟩,
  ⟨.fn, 1, 8⟩,
  ⟨.fn, 1, 8⟩,
  ⟨.sl 3, 1, 24⟩,
  ⟨.st [(3, 0), (68, 1), (68, 2)], 3, 56⟩,
  ⟨.st [(3, 0), (68, 1), (68, 2)], 3, 56⟩,
  ⟨.st [(4, 0), (70, 1)], 4, 64⟩,
  ⟨.st [(4, 0), (70, 1)], 4, 64⟩,
  ⟨.st [(3, 0), (68, 1), (68, 2)], 3, 56⟩,
  ⟨.st [(4, 0), (73, 1)], 4, 64⟩,
  ⟨.st [(4, 0), (73, 1)], 4, 64⟩,
  ⟨.fn, 1, 8⟩,
  ⟨.fn, 1, 8⟩,
  ⟨.fn, 1, 8⟩,
  ⟨.fn, 1, 8⟩,
  ⟨.fn, 1, 8⟩,
  ⟨.st [(3, 0), (3, 1)], 2, 16⟩,
  ⟨.fn, 1, 8⟩,
  ⟨.fn, 1, 8⟩,
  ⟨.fn, 1, 8⟩,
  ⟨.st [(3, 0), (3, 1), (3, 2)], 3, 24⟩,
  ⟨.fn, 1, 8⟩,
  ⟨.fn, 1, 8⟩,
  ⟨.fn, 1, 8⟩,
  ⟨.fn, 1, 8⟩,
  ⟨.fn, 1, 8⟩,
  ⟨.fn, 1, 8⟩,
  ⟨.fn, 1, 8⟩,
  ⟨.fn, 1, 8⟩,
  ⟨.fn, 1, 8⟩,
  ⟨.fn, 1, 8⟩,
  ⟨.fn, 1, 8⟩,
  ⟨.fn, 1, 8⟩,
  ⟨.fn, 1, 8⟩,
  ⟨.fn, 1, 8⟩,
  ⟨.st [(17, 0), (17, 1), (17, 2), (9, 3)], 4, 40⟩,
  ⟨.st [(17, 0), (17, 1), (17, 2), (9, 3)], 4, 40⟩,
  ⟨.bad, 0, 0⟩,
  ⟨.bad, 0, 0⟩,
  ⟨.bad, 0, 0⟩,
  ⟨.fn, 1, 8⟩,
  ⟨.int .u32, 1, 4⟩,
  ⟨.int .u8, 1, 1⟩,
  ⟨.int .u8, 1, 1⟩,
  ⟨.fn, 1, 8⟩,
  ⟨.ptr 5, 1, 8⟩,
  ⟨.int .i32, 1, 4⟩,
  ⟨.int .i32, 1, 4⟩,
  ⟨.bad, 0, 0⟩,
  ⟨.bad, 0, 0⟩,
  ⟨.bad, 0, 0⟩
]
def Y : TypeId → TyI := tblY tbl
theorem hY : TysW Try.prog Y := tysW_of (by kernel_rfl)
theorem Y1 : Y 1 = ⟨.fn, 1, 8⟩ := rfl
theorem Y2 : Y 2 = ⟨.int .i64, 1, 8⟩ := rfl
theorem Y3 : Y 3 = ⟨.int .i64, 1, 8⟩ := rfl
theorem Y4 : Y 4 = ⟨.bool, 1, 1⟩ := rfl
theorem Y5 : Y 5 = ⟨.int .u8, 1, 1⟩ := rfl
theorem Y6 : Y 6 = ⟨.int .u8, 1, 1⟩ := rfl
theorem Y7 : Y 7 = ⟨.st [(2, 0), (3, 1), (4, 2), (6, 3)], 4, 24⟩ := rfl
theorem Y8 : Y 8 = ⟨.st [(2, 0), (3, 1), (4, 2), (6, 3)], 4, 24⟩ := rfl
theorem Y9 : Y 9 = ⟨.str, 1, 16⟩ := rfl
theorem Y10 : Y 10 = ⟨.str, 1, 16⟩ := rfl
theorem Y11 : Y 11 = ⟨.str, 1, 16⟩ := rfl
theorem Y12 : Y 12 = ⟨.int .u64, 1, 8⟩ := rfl
theorem Y13 : Y 13 = ⟨.st [(9, 0), (12, 1)], 2, 24⟩ := rfl
theorem Y14 : Y 14 = ⟨.st [(9, 0), (12, 1)], 2, 24⟩ := rfl
theorem Y15 : Y 15 = ⟨.ptr 101, 1, 8⟩ := rfl
theorem Y16 : Y 16 = ⟨.ptr 104, 1, 8⟩ := rfl
theorem Y17 : Y 17 = ⟨.ptr 114, 1, 8⟩ := rfl
theorem Y18 : Y 18 = ⟨.st [(17, 0)], 1, 8⟩ := rfl
theorem Y19 : Y 19 = ⟨.st [(17, 0)], 1, 8⟩ := rfl
theorem Y20 : Y 20 = ⟨.ifc, 1, 16⟩ := rfl
theorem Y21 : Y 21 = ⟨.int .i32, 1, 4⟩ := rfl
theorem Y22 : Y 22 = ⟨.sl 81, 1, 24⟩ := rfl
theorem Y23 : Y 23 = ⟨.st [(3, 0), (22, 1)], 2, 32⟩ := rfl
theorem Y24 : Y 24 = ⟨.st [(3, 0), (22, 1)], 2, 32⟩ := rfl
theorem Y25 : Y 25 = ⟨.fn, 1, 8⟩ := rfl
theorem Y26 : Y 26 = ⟨.fn, 1, 8⟩ := rfl
theorem Y27 : Y 27 = ⟨.sl 50, 1, 24⟩ := rfl
theorem Y28 : Y 28 = ⟨.st [(3, 0), (27, 1)], 2, 32⟩ := rfl
theorem Y29 : Y 29 = ⟨.st [(3, 0), (27, 1)], 2, 32⟩ := rfl
theorem Y30 : Y 30 = ⟨.fn, 1, 8⟩ := rfl
theorem Y31 : Y 31 = ⟨.fn, 1, 8⟩ := rfl
theorem Y32 : Y 32 = ⟨.fn, 1, 8⟩ := rfl
theorem Y33 : Y 33 = ⟨.sl 57, 1, 24⟩ := rfl
theorem Y34 : Y 34 = ⟨.fn, 1, 8⟩ := rfl
theorem Y35 : Y 35 = ⟨.fn, 1, 8⟩ := rfl
theorem Y36 : Y 36 = ⟨.sl 58, 1, 24⟩ := rfl
theorem Y37 : Y 37 = ⟨.fn, 1, 8⟩ := rfl
theorem Y38 : Y 38 = ⟨.fn, 1, 8⟩ := rfl
theorem Y39 : Y 39 = ⟨.fn, 1, 8⟩ := rfl
theorem Y40 : Y 40 = ⟨.sl 72, 1, 24⟩ := rfl
theorem Y41 : Y 41 = ⟨.fn, 1, 8⟩ := rfl
theorem Y42 : Y 42 = ⟨.fn, 1, 8⟩ := rfl
theorem Y43 : Y 43 = ⟨.sl 75, 1, 24⟩ := rfl
theorem Y44 : Y 44 = ⟨.fn, 1, 8⟩ := rfl
theorem Y45 : Y 45 = ⟨.fn, 1, 8⟩ := rfl
theorem Y46 : Y 46 = ⟨.fn, 1, 8⟩ := rfl
theorem Y47 : Y 47 = ⟨.fn, 1, 8⟩ := rfl
theorem Y48 : Y 48 = ⟨.fn, 1, 8⟩ := rfl
theorem Y49 : Y 49 = ⟨.st [(3, 0), (3, 1)], 2, 16⟩ := rfl
theorem Y50 : Y 50 = ⟨.st [(3, 0), (3, 1)], 2, 16⟩ := rfl
theorem Y51 : Y 51 = ⟨.fn, 1, 8⟩ := rfl
theorem Y52 : Y 52 = ⟨.fn, 1, 8⟩ := rfl
theorem Y53 : Y 53 = ⟨.fn, 1, 8⟩ := rfl
theorem Y54 : Y 54 = ⟨.fn, 1, 8⟩ := rfl
theorem Y55 : Y 55 = ⟨.fn, 1, 8⟩ := rfl
theorem Y56 : Y 56 = ⟨.fn, 1, 8⟩ := rfl
theorem Y57 : Y 57 = ⟨.sl 85, 1, 24⟩ := rfl
theorem Y58 : Y 58 = ⟨.sl 61, 1, 24⟩ := rfl
theorem Y59 : Y 59 = ⟨.fn, 1, 8⟩ := rfl
theorem Y60 : Y 60 = ⟨.st [(3, 0), (3, 1), (3, 2)], 3, 24⟩ := rfl
theorem Y61 : Y 61 = ⟨.st [(3, 0), (3, 1), (3, 2)], 3, 24⟩ := rfl
theorem Y62 : Y 62 = ⟨.fn, 1, 8⟩ := rfl
theorem Y63 : Y 63 = ⟨.fn, 1, 8⟩ := rfl
theorem Y64 : Y 64 = ⟨.fn, 1, 8⟩ := rfl
theorem Y65 : Y 65 = ⟨.fn, 1, 8⟩ := rfl
theorem Y66 : Y 66 = ⟨.fn, 1, 8⟩ := rfl
theorem Y67 : Y 67 = ⟨.fn, 1, 8⟩ := rfl
theorem Y68 : Y 68 = ⟨.sl 3, 1, 24⟩ := rfl
theorem Y69 : Y 69 = ⟨.st [(3, 0), (68, 1), (68, 2)], 3, 56⟩ := rfl
theorem Y70 : Y 70 = ⟨.st [(3, 0), (68, 1), (68, 2)], 3, 56⟩ := rfl
theorem Y71 : Y 71 = ⟨.st [(4, 0), (70, 1)], 4, 64⟩ := rfl
theorem Y72 : Y 72 = ⟨.st [(4, 0), (70, 1)], 4, 64⟩ := rfl
theorem Y73 : Y 73 = ⟨.st [(3, 0), (68, 1), (68, 2)], 3, 56⟩ := rfl
theorem Y74 : Y 74 = ⟨.st [(4, 0), (73, 1)], 4, 64⟩ := rfl
theorem Y75 : Y 75 = ⟨.st [(4, 0), (73, 1)], 4, 64⟩ := rfl
theorem Y76 : Y 76 = ⟨.fn, 1, 8⟩ := rfl
theorem Y77 : Y 77 = ⟨.fn, 1, 8⟩ := rfl
theorem Y78 : Y 78 = ⟨.fn, 1, 8⟩ := rfl
theorem Y79 : Y 79 = ⟨.fn, 1, 8⟩ := rfl
theorem Y80 : Y 80 = ⟨.fn, 1, 8⟩ := rfl
theorem Y81 : Y 81 = ⟨.st [(3, 0), (3, 1)], 2, 16⟩ := rfl
theorem Y82 : Y 82 = ⟨.fn, 1, 8⟩ := rfl
theorem Y83 : Y 83 = ⟨.fn, 1, 8⟩ := rfl
theorem Y84 : Y 84 = ⟨.fn, 1, 8⟩ := rfl
theorem Y85 : Y 85 = ⟨.st [(3, 0), (3, 1), (3, 2)], 3, 24⟩ := rfl
theorem Y86 : Y 86 = ⟨.fn, 1, 8⟩ := rfl
theorem Y87 : Y 87 = ⟨.fn, 1, 8⟩ := rfl
theorem Y88 : Y 88 = ⟨.fn, 1, 8⟩ := rfl
theorem Y89 : Y 89 = ⟨.fn, 1, 8⟩ := rfl
theorem Y90 : Y 90 = ⟨.fn, 1, 8⟩ := rfl
theorem Y91 : Y 91 = ⟨.fn, 1, 8⟩ := rfl
theorem Y92 : Y 92 = ⟨.fn, 1, 8⟩ := rfl
theorem Y93 : Y 93 = ⟨.fn, 1, 8⟩ := rfl
theorem Y94 : Y 94 = ⟨.fn, 1, 8⟩ := rfl
theorem Y95 : Y 95 = ⟨.fn, 1, 8⟩ := rfl
theorem Y96 : Y 96 = ⟨.fn, 1, 8⟩ := rfl
theorem Y97 : Y 97 = ⟨.fn, 1, 8⟩ := rfl
theorem Y98 : Y 98 = ⟨.fn, 1, 8⟩ := rfl
theorem Y99 : Y 99 = ⟨.fn, 1, 8⟩ := rfl
theorem Y100 : Y 100 = ⟨.st [(17, 0), (17, 1), (17, 2), (9, 3)], 4, 40⟩ := rfl
theorem Y101 : Y 101 = ⟨.st [(17, 0), (17, 1), (17, 2), (9, 3)], 4, 40⟩ := rfl
theorem Y105 : Y 105 = ⟨.fn, 1, 8⟩ := rfl
theorem Y106 : Y 106 = ⟨.int .u32, 1, 4⟩ := rfl
theorem Y107 : Y 107 = ⟨.int .u8, 1, 1⟩ := rfl
theorem Y108 : Y 108 = ⟨.int .u8, 1, 1⟩ := rfl
theorem Y109 : Y 109 = ⟨.fn, 1, 8⟩ := rfl
theorem Y110 : Y 110 = ⟨.ptr 5, 1, 8⟩ := rfl
theorem Y111 : Y 111 = ⟨.int .i32, 1, 4⟩ := rfl
theorem Y112 : Y 112 = ⟨.int .i32, 1, 4⟩ := rfl
end P1

namespace P1
open Go Go.Vm Go.Proofs
set_option synthInstance.maxSize 2000
set_option synthInstance.maxHeartbeats 400000
set_option maxRecDepth 10000
set_option linter.unusedSimpArgs false
set_option linter.unusedVariables false

theorem laws_toIntS_ok (l : List Int) (hl : Enc.lim 1048576 l) : CallR Try.prog 63 [.sl .b (l.map Enc.b)] [] (.ow 1 (l.map Enc.o)) := by
  refine CallR.of_body (n := 22) (rs := [.tmp 2]) hY.ok Try.func63 rfl (by decide) rfl rfl rfl rfl (fun F => ?_)
  have hl1 : l.length ≤ 1048576 := hl.1
  repeat' first
    | (refine SW.ops_seq hY fun y1 hy1 => ?_; simp only [mk_fill _ 68 l hl.1 (.int .i64 0) 1 8 _ Y68 Y3 rfl rfl (by decide), eq_self, Int.natCast_nonneg, Int.toNat_natCast, List.length_map, indexAddrM, k0, k1, k2, k3, k4, k5, k6, k7, k9, k10, k11, vopl_nil, grown_t, grown_f, after_f, after_t, after_u, isCall, callT, opM, S.ev, S.put, entryS, thawAL, thawA, RM.run, RM.bind, RM.ofOpt, allocs, Heap.ups, Heap.put, Heap.at, List.replicate, List.length_cons, List.length_nil, List.append_nil, List.nil_append, List.cons_append, Nat.reduceAdd, Nat.reduceSub, ofConst, nilAs, if_false, if_true, Bool.false_eq_true, List.set_cons_succ, List.set_cons_zero, List.getD_cons_zero, List.getD_cons_succ, binT, binTy, unT, Option.map_some, Option.map_none, guardT, List.getElem?_toArray, List.getElem?_cons_succ, List.getElem?_cons_zero, Option.bind_some, pickT, quietK, stripT, openT, Bool.not_or_self, reduceIte, true_and, and_true, and_self, beq_true, Bool.not_not, boxM, allocM, loadM, storeM, fieldAddrM, lenT, extractT, subM, setOb, T.get, T.setp, T.offs, T.nw, nwL, T.cel, T.isNd, T.size, sizeL, TyI.agg, Ty.agg, Ty.isFn, zeroT, List.map_cons, List.map_nil, List.take_succ_cons, List.take_zero, Nat.add_zero, Nat.zero_add, Bool.and_self, Bool.and_true, Bool.true_and, Nat.reduceLT, Nat.lt_add_one, Nat.zero_lt_one, Nat.reduceEqDiff, List.toList_toArray, sumT, kill, Y1, Y2, Y3, Y4, Y5, Y6, Y7, Y8, Y9, Y10, Y11, Y12, Y13, Y14, Y15, Y16, Y17, Y18, Y19, Y20, Y21, Y68]; subst hy1)
    | (refine SW.ops hY ?_; simp only [mk_fill _ 68 l hl.1 (.int .i64 0) 1 8 _ Y68 Y3 rfl rfl (by decide), eq_self, Int.natCast_nonneg, Int.toNat_natCast, List.length_map, indexAddrM, k0, k1, k2, k3, k4, k5, k6, k7, k9, k10, k11, vopl_nil, grown_t, grown_f, after_f, after_t, after_u, isCall, callT, opM, S.ev, S.put, entryS, thawAL, thawA, RM.run, RM.bind, RM.ofOpt, allocs, Heap.ups, Heap.put, Heap.at, List.replicate, List.length_cons, List.length_nil, List.append_nil, List.nil_append, List.cons_append, Nat.reduceAdd, Nat.reduceSub, ofConst, nilAs, if_false, if_true, Bool.false_eq_true, List.set_cons_succ, List.set_cons_zero, List.getD_cons_zero, List.getD_cons_succ, binT, binTy, unT, Option.map_some, Option.map_none, guardT, List.getElem?_toArray, List.getElem?_cons_succ, List.getElem?_cons_zero, Option.bind_some, pickT, quietK, stripT, openT, Bool.not_or_self, reduceIte, true_and, and_true, and_self, beq_true, Bool.not_not, boxM, allocM, loadM, storeM, fieldAddrM, lenT, extractT, subM, setOb, T.get, T.setp, T.offs, T.nw, nwL, T.cel, T.isNd, T.size, sizeL, TyI.agg, Ty.agg, Ty.isFn, zeroT, List.map_cons, List.map_nil, List.take_succ_cons, List.take_zero, Nat.add_zero, Nat.zero_add, Bool.and_self, Bool.and_true, Bool.true_and, Nat.reduceLT, Nat.lt_add_one, Nat.zero_lt_one, Nat.reduceEqDiff, List.toList_toArray, sumT, kill, Y1, Y2, Y3, Y4, Y5, Y6, Y7, Y8, Y9, Y10, Y11, Y12, Y13, Y14, Y15, Y16, Y17, Y18, Y19, Y20, Y21, Y68]; try simp only [thenS, blockS, if_true, if_false, Nat.reduceEqDiff, reduceIte])
    | (simp only [k8]; refine ⟨fun hb => ?_, fun hb => ?_⟩ <;> (try replace hb := Bool.eq_false_iff.2 hb) <;> simp only [hb, mk_fill _ 68 l hl.1 (.int .i64 0) 1 8 _ Y68 Y3 rfl rfl (by decide), eq_self, Int.natCast_nonneg, Int.toNat_natCast, List.length_map, indexAddrM, k0, k1, k2, k3, k4, k5, k6, k7, k9, k10, k11, vopl_nil, grown_t, grown_f, after_f, after_t, after_u, isCall, callT, opM, S.ev, S.put, entryS, thawAL, thawA, RM.run, RM.bind, RM.ofOpt, allocs, Heap.ups, Heap.put, Heap.at, List.replicate, List.length_cons, List.length_nil, List.append_nil, List.nil_append, List.cons_append, Nat.reduceAdd, Nat.reduceSub, ofConst, nilAs, if_false, if_true, Bool.false_eq_true, List.set_cons_succ, List.set_cons_zero, List.getD_cons_zero, List.getD_cons_succ, binT, binTy, unT, Option.map_some, Option.map_none, guardT, List.getElem?_toArray, List.getElem?_cons_succ, List.getElem?_cons_zero, Option.bind_some, pickT, quietK, stripT, openT, Bool.not_or_self, reduceIte, true_and, and_true, and_self, beq_true, Bool.not_not, boxM, allocM, loadM, storeM, fieldAddrM, lenT, extractT, subM, setOb, T.get, T.setp, T.offs, T.nw, nwL, T.cel, T.isNd, T.size, sizeL, TyI.agg, Ty.agg, Ty.isFn, zeroT, List.map_cons, List.map_nil, List.take_succ_cons, List.take_zero, Nat.add_zero, Nat.zero_add, Bool.and_self, Bool.and_true, Bool.true_and, Nat.reduceLT, Nat.lt_add_one, Nat.zero_lt_one, Nat.reduceEqDiff, List.toList_toArray, sumT, kill, Y1, Y2, Y3, Y4, Y5, Y6, Y7, Y8, Y9, Y10, Y11, Y12, Y13, Y14, Y15, Y16, Y17, Y18, Y19, Y20, Y21, Y68])
    | refine SW.seq ?_
    | refine SW.block ?_
    | (refine SW.exit ?_; simp only [thenS, blockS, if_true, if_false, Nat.reduceEqDiff, reduceIte])
    | (refine SW.skip ?_; simp only [thenS, blockS])
  refine SW.loop (fun i : Nat => ⟨[.sl .b (l.map Enc.b), .undef, .undef, .ref 1 0 0 l.length, .int .i64 i, .undef, .undef, .undef, .undef, .undef, .undef, .undef, .undef, .undef, .undef, .undef, .undef, .undef, .undef, .undef, .undef, .undef], [[], [.arr 1 (fillG (.int .i64 0) l i) false]]⟩)
    (fun n i => n = l.length - i ∧ i ≤ l.length) (n := l.length) (x := 0) (Norm.to 0 rfl (by simp [weakL])) ⟨rfl, Nat.zero_le _⟩ ?_
  rintro n i ⟨hn, hi⟩
  repeat' first
    | (refine SW.ops_seq hY fun y1 hy1 => ?_; simp only [eq_self, Int.natCast_nonneg, Int.toNat_natCast, List.length_map, indexAddrM, k0, k1, k2, k3, k4, k5, k6, k7, k9, k10, k11, vopl_nil, grown_t, grown_f, after_f, after_t, after_u, isCall, callT, opM, S.ev, S.put, entryS, thawAL, thawA, RM.run, RM.bind, RM.ofOpt, allocs, Heap.ups, Heap.put, Heap.at, List.replicate, List.length_cons, List.length_nil, List.append_nil, List.nil_append, List.cons_append, Nat.reduceAdd, Nat.reduceSub, ofConst, nilAs, if_false, if_true, Bool.false_eq_true, List.set_cons_succ, List.set_cons_zero, List.getD_cons_zero, List.getD_cons_succ, binT, binTy, unT, Option.map_some, Option.map_none, guardT, List.getElem?_toArray, List.getElem?_cons_succ, List.getElem?_cons_zero, Option.bind_some, pickT, quietK, stripT, openT, Bool.not_or_self, reduceIte, true_and, and_true, and_self, beq_true, Bool.not_not, boxM, allocM, loadM, storeM, fieldAddrM, lenT, extractT, subM, setOb, T.get, T.setp, T.offs, T.nw, nwL, T.cel, T.isNd, T.size, sizeL, TyI.agg, Ty.agg, Ty.isFn, zeroT, List.map_cons, List.map_nil, List.take_succ_cons, List.take_zero, Nat.add_zero, Nat.zero_add, Bool.and_self, Bool.and_true, Bool.true_and, Nat.reduceLT, Nat.lt_add_one, Nat.zero_lt_one, Nat.reduceEqDiff, List.toList_toArray, sumT, kill, Y1, Y2, Y3, Y4, Y5, Y6, Y7, Y8, Y9, Y10, Y11, Y12, Y13, Y14, Y15, Y16, Y17, Y18, Y19, Y20, Y21, Y68]; subst hy1)
    | refine SW.seq ?_
  refine SW.cond rfl (fun hc => ?_) (fun hc => ?_)
  · have hlt : i < l.length := by simpa using hc
    have hltI : (i : Int) < (l.length : Int) := by omega
    have hg : (l.map Enc.b)[i]? = some (.int .i64 l[i]) := map_get Enc.b l i hlt
    have hf : (fillG (.int .i64 0) l i)[i]? = some (.int .i64 0) := fill_get _ l i hlt
    have hfl : (fillG (.int .i64 0) l i).length = l.length := fill_len _ l i hi
    repeat' first
      | (refine SW.ops_seq hY fun y1 hy1 => ?_; simp only [hg, hf, hfl, hltI, Nat.zero_add, eq_self, Int.natCast_nonneg, Int.toNat_natCast, List.length_map, indexAddrM, k0, k1, k2, k3, k4, k5, k6, k7, k9, k10, k11, vopl_nil, grown_t, grown_f, after_f, after_t, after_u, isCall, callT, opM, S.ev, S.put, entryS, thawAL, thawA, RM.run, RM.bind, RM.ofOpt, allocs, Heap.ups, Heap.put, Heap.at, List.replicate, List.length_cons, List.length_nil, List.append_nil, List.nil_append, List.cons_append, Nat.reduceAdd, Nat.reduceSub, ofConst, nilAs, if_false, if_true, Bool.false_eq_true, List.set_cons_succ, List.set_cons_zero, List.getD_cons_zero, List.getD_cons_succ, binT, binTy, unT, Option.map_some, Option.map_none, guardT, List.getElem?_toArray, List.getElem?_cons_succ, List.getElem?_cons_zero, Option.bind_some, pickT, quietK, stripT, openT, Bool.not_or_self, reduceIte, true_and, and_true, and_self, beq_true, Bool.not_not, boxM, allocM, loadM, storeM, fieldAddrM, lenT, extractT, subM, setOb, T.get, T.setp, T.offs, T.nw, nwL, T.cel, T.isNd, T.size, sizeL, TyI.agg, Ty.agg, Ty.isFn, zeroT, List.map_cons, List.map_nil, List.take_succ_cons, List.take_zero, Nat.add_zero, Nat.zero_add, Bool.and_self, Bool.and_true, Bool.true_and, Nat.reduceLT, Nat.lt_add_one, Nat.zero_lt_one, Nat.reduceEqDiff, List.toList_toArray, sumT, kill, Y1, Y2, Y3, Y4, Y5, Y6, Y7, Y8, Y9, Y10, Y11, Y12, Y13, Y14, Y15, Y16, Y17, Y18, Y19, Y20, Y21, Y68]; subst hy1)
      | (refine SW.ops hY ?_; simp only [hg, hf, hfl, hltI, Nat.zero_add, eq_self, Int.natCast_nonneg, Int.toNat_natCast, List.length_map, indexAddrM, k0, k1, k2, k3, k4, k5, k6, k7, k9, k10, k11, vopl_nil, grown_t, grown_f, after_f, after_t, after_u, isCall, callT, opM, S.ev, S.put, entryS, thawAL, thawA, RM.run, RM.bind, RM.ofOpt, allocs, Heap.ups, Heap.put, Heap.at, List.replicate, List.length_cons, List.length_nil, List.append_nil, List.nil_append, List.cons_append, Nat.reduceAdd, Nat.reduceSub, ofConst, nilAs, if_false, if_true, Bool.false_eq_true, List.set_cons_succ, List.set_cons_zero, List.getD_cons_zero, List.getD_cons_succ, binT, binTy, unT, Option.map_some, Option.map_none, guardT, List.getElem?_toArray, List.getElem?_cons_succ, List.getElem?_cons_zero, Option.bind_some, pickT, quietK, stripT, openT, Bool.not_or_self, reduceIte, true_and, and_true, and_self, beq_true, Bool.not_not, boxM, allocM, loadM, storeM, fieldAddrM, lenT, extractT, subM, setOb, T.get, T.setp, T.offs, T.nw, nwL, T.cel, T.isNd, T.size, sizeL, TyI.agg, Ty.agg, Ty.isFn, zeroT, List.map_cons, List.map_nil, List.take_succ_cons, List.take_zero, Nat.add_zero, Nat.zero_add, Bool.and_self, Bool.and_true, Bool.true_and, Nat.reduceLT, Nat.lt_add_one, Nat.zero_lt_one, Nat.reduceEqDiff, List.toList_toArray, sumT, kill, Y1, Y2, Y3, Y4, Y5, Y6, Y7, Y8, Y9, Y10, Y11, Y12, Y13, Y14, Y15, Y16, Y17, Y18, Y19, Y20, Y21, Y68]; try simp only [thenS, blockS, if_true, if_false, Nat.reduceEqDiff, reduceIte])
      | (simp only [k8]; refine ⟨fun hb => ?_, fun hb => ?_⟩ <;> (try replace hb := Bool.eq_false_iff.2 hb) <;> simp only [hb, hg, hf, hfl, hltI, Nat.zero_add, eq_self, Int.natCast_nonneg, Int.toNat_natCast, List.length_map, indexAddrM, k0, k1, k2, k3, k4, k5, k6, k7, k9, k10, k11, vopl_nil, grown_t, grown_f, after_f, after_t, after_u, isCall, callT, opM, S.ev, S.put, entryS, thawAL, thawA, RM.run, RM.bind, RM.ofOpt, allocs, Heap.ups, Heap.put, Heap.at, List.replicate, List.length_cons, List.length_nil, List.append_nil, List.nil_append, List.cons_append, Nat.reduceAdd, Nat.reduceSub, ofConst, nilAs, if_false, if_true, Bool.false_eq_true, List.set_cons_succ, List.set_cons_zero, List.getD_cons_zero, List.getD_cons_succ, binT, binTy, unT, Option.map_some, Option.map_none, guardT, List.getElem?_toArray, List.getElem?_cons_succ, List.getElem?_cons_zero, Option.bind_some, pickT, quietK, stripT, openT, Bool.not_or_self, reduceIte, true_and, and_true, and_self, beq_true, Bool.not_not, boxM, allocM, loadM, storeM, fieldAddrM, lenT, extractT, subM, setOb, T.get, T.setp, T.offs, T.nw, nwL, T.cel, T.isNd, T.size, sizeL, TyI.agg, Ty.agg, Ty.isFn, zeroT, List.map_cons, List.map_nil, List.take_succ_cons, List.take_zero, Nat.add_zero, Nat.zero_add, Bool.and_self, Bool.and_true, Bool.true_and, Nat.reduceLT, Nat.lt_add_one, Nat.zero_lt_one, Nat.reduceEqDiff, List.toList_toArray, sumT, kill, Y1, Y2, Y3, Y4, Y5, Y6, Y7, Y8, Y9, Y10, Y11, Y12, Y13, Y14, Y15, Y16, Y17, Y18, Y19, Y20, Y21, Y68])
      | refine SW.seq ?_
      | refine SW.block ?_
      | (refine SW.cond rfl (fun hcc => ?_) (fun hcc => ?_))
      | (refine SW.exit ?_; simp only [thenS, blockS, if_true, if_false, Nat.reduceEqDiff, reduceIte])
      | (refine SW.skip ?_; simp only [thenS, blockS])
    refine ⟨n - 1, i + 1, by omega, ⟨by omega, by omega⟩, ?_⟩
    rw [wrap64 _ (by omega) (by omega)]
    refine Norm.trans (Norm.fill (l := l) 1 0 rfl hlt (by first | rfl | (simp [soakS, soakL, Heap.at, Heap.put]; rfl))) ?_
    refine Norm.re [0, 1] (by decide) rfl ?_ (by simp [tmFits, T.ren])
    first | (simp [heapFits, rowFits, obFits, soakS, soakL, Heap.at, Heap.put]; exact renL_fill _ _ _ _ rfl) | exact ⟨trivial, ⟨rfl, rfl, renL_fill _ _ _ _ rfl⟩, trivial⟩
  · have hge : i = l.length := by
      have : ¬ i < l.length := by simpa using hc
      omega
    subst hge
    repeat' first
      | (refine SW.ops_seq hY fun y1 hy1 => ?_; simp only [eq_self, Int.natCast_nonneg, Int.toNat_natCast, List.length_map, indexAddrM, k0, k1, k2, k3, k4, k5, k6, k7, k9, k10, k11, vopl_nil, grown_t, grown_f, after_f, after_t, after_u, isCall, callT, opM, S.ev, S.put, entryS, thawAL, thawA, RM.run, RM.bind, RM.ofOpt, allocs, Heap.ups, Heap.put, Heap.at, List.replicate, List.length_cons, List.length_nil, List.append_nil, List.nil_append, List.cons_append, Nat.reduceAdd, Nat.reduceSub, ofConst, nilAs, if_false, if_true, Bool.false_eq_true, List.set_cons_succ, List.set_cons_zero, List.getD_cons_zero, List.getD_cons_succ, binT, binTy, unT, Option.map_some, Option.map_none, guardT, List.getElem?_toArray, List.getElem?_cons_succ, List.getElem?_cons_zero, Option.bind_some, pickT, quietK, stripT, openT, Bool.not_or_self, reduceIte, true_and, and_true, and_self, beq_true, Bool.not_not, boxM, allocM, loadM, storeM, fieldAddrM, lenT, extractT, subM, setOb, T.get, T.setp, T.offs, T.nw, nwL, T.cel, T.isNd, T.size, sizeL, TyI.agg, Ty.agg, Ty.isFn, zeroT, List.map_cons, List.map_nil, List.take_succ_cons, List.take_zero, Nat.add_zero, Nat.zero_add, Bool.and_self, Bool.and_true, Bool.true_and, Nat.reduceLT, Nat.lt_add_one, Nat.zero_lt_one, Nat.reduceEqDiff, List.toList_toArray, sumT, kill, Y1, Y2, Y3, Y4, Y5, Y6, Y7, Y8, Y9, Y10, Y11, Y12, Y13, Y14, Y15, Y16, Y17, Y18, Y19, Y20, Y21, Y68]; subst hy1)
      | (refine SW.ops hY ?_; simp only [eq_self, Int.natCast_nonneg, Int.toNat_natCast, List.length_map, indexAddrM, k0, k1, k2, k3, k4, k5, k6, k7, k9, k10, k11, vopl_nil, grown_t, grown_f, after_f, after_t, after_u, isCall, callT, opM, S.ev, S.put, entryS, thawAL, thawA, RM.run, RM.bind, RM.ofOpt, allocs, Heap.ups, Heap.put, Heap.at, List.replicate, List.length_cons, List.length_nil, List.append_nil, List.nil_append, List.cons_append, Nat.reduceAdd, Nat.reduceSub, ofConst, nilAs, if_false, if_true, Bool.false_eq_true, List.set_cons_succ, List.set_cons_zero, List.getD_cons_zero, List.getD_cons_succ, binT, binTy, unT, Option.map_some, Option.map_none, guardT, List.getElem?_toArray, List.getElem?_cons_succ, List.getElem?_cons_zero, Option.bind_some, pickT, quietK, stripT, openT, Bool.not_or_self, reduceIte, true_and, and_true, and_self, beq_true, Bool.not_not, boxM, allocM, loadM, storeM, fieldAddrM, lenT, extractT, subM, setOb, T.get, T.setp, T.offs, T.nw, nwL, T.cel, T.isNd, T.size, sizeL, TyI.agg, Ty.agg, Ty.isFn, zeroT, List.map_cons, List.map_nil, List.take_succ_cons, List.take_zero, Nat.add_zero, Nat.zero_add, Bool.and_self, Bool.and_true, Bool.true_and, Nat.reduceLT, Nat.lt_add_one, Nat.zero_lt_one, Nat.reduceEqDiff, List.toList_toArray, sumT, kill, Y1, Y2, Y3, Y4, Y5, Y6, Y7, Y8, Y9, Y10, Y11, Y12, Y13, Y14, Y15, Y16, Y17, Y18, Y19, Y20, Y21, Y68]; try simp only [thenS, blockS, if_true, if_false, Nat.reduceEqDiff, reduceIte])
      | (simp only [k8]; refine ⟨fun hb => ?_, fun hb => ?_⟩ <;> (try replace hb := Bool.eq_false_iff.2 hb) <;> simp only [hb, eq_self, Int.natCast_nonneg, Int.toNat_natCast, List.length_map, indexAddrM, k0, k1, k2, k3, k4, k5, k6, k7, k9, k10, k11, vopl_nil, grown_t, grown_f, after_f, after_t, after_u, isCall, callT, opM, S.ev, S.put, entryS, thawAL, thawA, RM.run, RM.bind, RM.ofOpt, allocs, Heap.ups, Heap.put, Heap.at, List.replicate, List.length_cons, List.length_nil, List.append_nil, List.nil_append, List.cons_append, Nat.reduceAdd, Nat.reduceSub, ofConst, nilAs, if_false, if_true, Bool.false_eq_true, List.set_cons_succ, List.set_cons_zero, List.getD_cons_zero, List.getD_cons_succ, binT, binTy, unT, Option.map_some, Option.map_none, guardT, List.getElem?_toArray, List.getElem?_cons_succ, List.getElem?_cons_zero, Option.bind_some, pickT, quietK, stripT, openT, Bool.not_or_self, reduceIte, true_and, and_true, and_self, beq_true, Bool.not_not, boxM, allocM, loadM, storeM, fieldAddrM, lenT, extractT, subM, setOb, T.get, T.setp, T.offs, T.nw, nwL, T.cel, T.isNd, T.size, sizeL, TyI.agg, Ty.agg, Ty.isFn, zeroT, List.map_cons, List.map_nil, List.take_succ_cons, List.take_zero, Nat.add_zero, Nat.zero_add, Bool.and_self, Bool.and_true, Bool.true_and, Nat.reduceLT, Nat.lt_add_one, Nat.zero_lt_one, Nat.reduceEqDiff, List.toList_toArray, sumT, kill, Y1, Y2, Y3, Y4, Y5, Y6, Y7, Y8, Y9, Y10, Y11, Y12, Y13, Y14, Y15, Y16, Y17, Y18, Y19, Y20, Y21, Y68])
      | refine SW.seq ?_
      | refine SW.block ?_
      | (refine SW.cond rfl (fun hcc => ?_) (fun hcc => ?_))
      | (refine SW.exit ?_; simp only [thenS, blockS, if_true, if_false, Nat.reduceEqDiff, reduceIte])
      | (refine SW.skip ?_; simp only [thenS, blockS])
    refine SW.ret (show RetQ _ _ _ _ _ _ _ from ⟨.inr rfl, [.ref 1 0 0 l.length], [1], [.ow 1 (l.map Enc.o)], [[], [.gone]], ⟨rfl, ?_, rfl, ?_, rfl, rfl⟩⟩)
    · simp [pass1, giveS, Heap.at, Heap.put, fill_all, fixEs, ioAt, T.cel, T.clo]
    · simp [cloL, T.clo]
theorem laws_toObj_ok (x : (Int × (List Int) × (List Int) × Unit)) (hx : Enc.lim 1048576 x) : CallR Try.prog 57 [.nd [.int .i64 x.1, .sl .b (x.2.1.map Enc.b), .sl .b (x.2.2.1.map Enc.b)]] [] (.nd [.int .i64 x.1, .ow 1 (x.2.1.map Enc.o), .ow 1 (x.2.2.1.map Enc.o)]) := by
  refine CallR.of_body (n := 16) (rs := [.cell 2 73]) hY.ok Try.func57 rfl (by decide) rfl rfl rfl rfl (fun F => ?_)
  repeat' first
    | (refine SW.ops_seq hY fun y1 hy1 => ?_; simp only [eq_self, Int.natCast_nonneg, Int.toNat_natCast, List.length_map, indexAddrM, k0, k1, k2, k3, k4, k5, k6, k7, k9, k10, k11, vopl_nil, grown_t, grown_f, after_f, after_t, after_u, isCall, callT, opM, S.ev, S.put, entryS, thawAL, thawA, RM.run, RM.bind, RM.ofOpt, allocs, Heap.ups, Heap.put, Heap.at, List.replicate, List.length_cons, List.length_nil, List.append_nil, List.nil_append, List.cons_append, Nat.reduceAdd, Nat.reduceSub, ofConst, nilAs, if_false, if_true, Bool.false_eq_true, List.set_cons_succ, List.set_cons_zero, List.getD_cons_zero, List.getD_cons_succ, binT, binTy, unT, Option.map_some, Option.map_none, guardT, List.getElem?_toArray, List.getElem?_cons_succ, List.getElem?_cons_zero, Option.bind_some, pickT, quietK, stripT, openT, Bool.not_or_self, reduceIte, true_and, and_true, and_self, beq_true, Bool.not_not, boxM, allocM, loadM, storeM, fieldAddrM, lenT, extractT, subM, setOb, T.get, T.setp, T.offs, T.nw, nwL, T.cel, T.isNd, T.size, sizeL, TyI.agg, Ty.agg, Ty.isFn, zeroT, List.map_cons, List.map_nil, List.take_succ_cons, List.take_zero, Nat.add_zero, Nat.zero_add, Bool.and_self, Bool.and_true, Bool.true_and, Nat.reduceLT, Nat.lt_add_one, Nat.zero_lt_one, Nat.reduceEqDiff, List.toList_toArray, sumT, kill, Y1, Y2, Y3, Y4, Y5, Y6, Y7, Y8, Y9, Y10, Y11, Y12, Y13, Y14, Y15, Y63, Y68, Y70, Y73]; subst hy1)
    | (refine SW.ops hY ?_; simp only [eq_self, Int.natCast_nonneg, Int.toNat_natCast, List.length_map, indexAddrM, k0, k1, k2, k3, k4, k5, k6, k7, k9, k10, k11, vopl_nil, grown_t, grown_f, after_f, after_t, after_u, isCall, callT, opM, S.ev, S.put, entryS, thawAL, thawA, RM.run, RM.bind, RM.ofOpt, allocs, Heap.ups, Heap.put, Heap.at, List.replicate, List.length_cons, List.length_nil, List.append_nil, List.nil_append, List.cons_append, Nat.reduceAdd, Nat.reduceSub, ofConst, nilAs, if_false, if_true, Bool.false_eq_true, List.set_cons_succ, List.set_cons_zero, List.getD_cons_zero, List.getD_cons_succ, binT, binTy, unT, Option.map_some, Option.map_none, guardT, List.getElem?_toArray, List.getElem?_cons_succ, List.getElem?_cons_zero, Option.bind_some, pickT, quietK, stripT, openT, Bool.not_or_self, reduceIte, true_and, and_true, and_self, beq_true, Bool.not_not, boxM, allocM, loadM, storeM, fieldAddrM, lenT, extractT, subM, setOb, T.get, T.setp, T.offs, T.nw, nwL, T.cel, T.isNd, T.size, sizeL, TyI.agg, Ty.agg, Ty.isFn, zeroT, List.map_cons, List.map_nil, List.take_succ_cons, List.take_zero, Nat.add_zero, Nat.zero_add, Bool.and_self, Bool.and_true, Bool.true_and, Nat.reduceLT, Nat.lt_add_one, Nat.zero_lt_one, Nat.reduceEqDiff, List.toList_toArray, sumT, kill, Y1, Y2, Y3, Y4, Y5, Y6, Y7, Y8, Y9, Y10, Y11, Y12, Y13, Y14, Y15, Y63, Y68, Y70, Y73]; try simp only [thenS, blockS, if_true, if_false, Nat.reduceEqDiff, reduceIte])
    | (refine vcall_to [] (laws_toIntS_ok x.2.1 hx.2.1) rfl (by first | rfl | (simp [pass2, lendM, lendA, lendAL, elemsM, Heap.at, RM.bind, RM.run]; done) | (simp [pass2, lendM, lendA, lendAL, elemsM, Heap.at, RM.bind, RM.run]; rfl)) (by first | rfl | simp [resClo, T.clo, cloL]) rfl ?_; simp only [eq_self, Int.natCast_nonneg, Int.toNat_natCast, List.length_map, indexAddrM, k0, k1, k2, k3, k4, k5, k6, k7, k9, k10, k11, vopl_nil, grown_t, grown_f, after_f, after_t, after_u, isCall, callT, opM, S.ev, S.put, entryS, thawAL, thawA, RM.run, RM.bind, RM.ofOpt, allocs, Heap.ups, Heap.put, Heap.at, List.replicate, List.length_cons, List.length_nil, List.append_nil, List.nil_append, List.cons_append, Nat.reduceAdd, Nat.reduceSub, ofConst, nilAs, if_false, if_true, Bool.false_eq_true, List.set_cons_succ, List.set_cons_zero, List.getD_cons_zero, List.getD_cons_succ, binT, binTy, unT, Option.map_some, Option.map_none, guardT, List.getElem?_toArray, List.getElem?_cons_succ, List.getElem?_cons_zero, Option.bind_some, pickT, quietK, stripT, openT, Bool.not_or_self, reduceIte, true_and, and_true, and_self, beq_true, Bool.not_not, boxM, allocM, loadM, storeM, fieldAddrM, lenT, extractT, subM, setOb, T.get, T.setp, T.offs, T.nw, nwL, T.cel, T.isNd, T.size, sizeL, TyI.agg, Ty.agg, Ty.isFn, zeroT, List.map_cons, List.map_nil, List.take_succ_cons, List.take_zero, Nat.add_zero, Nat.zero_add, Bool.and_self, Bool.and_true, Bool.true_and, Nat.reduceLT, Nat.lt_add_one, Nat.zero_lt_one, Nat.reduceEqDiff, List.toList_toArray, sumT, kill, Y1, Y2, Y3, Y4, Y5, Y6, Y7, Y8, Y9, Y10, Y11, Y12, Y13, Y14, Y15, Y63, Y68, Y70, Y73]; try simp only [thenS, blockS, if_true, if_false, Nat.reduceEqDiff, reduceIte])
    | (refine vcall_to [] (laws_toIntS_ok x.2.2.1 hx.2.2.1) rfl (by first | rfl | (simp [pass2, lendM, lendA, lendAL, elemsM, Heap.at, RM.bind, RM.run]; done) | (simp [pass2, lendM, lendA, lendAL, elemsM, Heap.at, RM.bind, RM.run]; rfl)) (by first | rfl | simp [resClo, T.clo, cloL]) rfl ?_; simp only [eq_self, Int.natCast_nonneg, Int.toNat_natCast, List.length_map, indexAddrM, k0, k1, k2, k3, k4, k5, k6, k7, k9, k10, k11, vopl_nil, grown_t, grown_f, after_f, after_t, after_u, isCall, callT, opM, S.ev, S.put, entryS, thawAL, thawA, RM.run, RM.bind, RM.ofOpt, allocs, Heap.ups, Heap.put, Heap.at, List.replicate, List.length_cons, List.length_nil, List.append_nil, List.nil_append, List.cons_append, Nat.reduceAdd, Nat.reduceSub, ofConst, nilAs, if_false, if_true, Bool.false_eq_true, List.set_cons_succ, List.set_cons_zero, List.getD_cons_zero, List.getD_cons_succ, binT, binTy, unT, Option.map_some, Option.map_none, guardT, List.getElem?_toArray, List.getElem?_cons_succ, List.getElem?_cons_zero, Option.bind_some, pickT, quietK, stripT, openT, Bool.not_or_self, reduceIte, true_and, and_true, and_self, beq_true, Bool.not_not, boxM, allocM, loadM, storeM, fieldAddrM, lenT, extractT, subM, setOb, T.get, T.setp, T.offs, T.nw, nwL, T.cel, T.isNd, T.size, sizeL, TyI.agg, Ty.agg, Ty.isFn, zeroT, List.map_cons, List.map_nil, List.take_succ_cons, List.take_zero, Nat.add_zero, Nat.zero_add, Bool.and_self, Bool.and_true, Bool.true_and, Nat.reduceLT, Nat.lt_add_one, Nat.zero_lt_one, Nat.reduceEqDiff, List.toList_toArray, sumT, kill, Y1, Y2, Y3, Y4, Y5, Y6, Y7, Y8, Y9, Y10, Y11, Y12, Y13, Y14, Y15, Y63, Y68, Y70, Y73]; try simp only [thenS, blockS, if_true, if_false, Nat.reduceEqDiff, reduceIte])
    | (simp only [k8]; refine ⟨fun hb => ?_, fun hb => ?_⟩ <;> (try replace hb := Bool.eq_false_iff.2 hb) <;> simp only [hb, eq_self, Int.natCast_nonneg, Int.toNat_natCast, List.length_map, indexAddrM, k0, k1, k2, k3, k4, k5, k6, k7, k9, k10, k11, vopl_nil, grown_t, grown_f, after_f, after_t, after_u, isCall, callT, opM, S.ev, S.put, entryS, thawAL, thawA, RM.run, RM.bind, RM.ofOpt, allocs, Heap.ups, Heap.put, Heap.at, List.replicate, List.length_cons, List.length_nil, List.append_nil, List.nil_append, List.cons_append, Nat.reduceAdd, Nat.reduceSub, ofConst, nilAs, if_false, if_true, Bool.false_eq_true, List.set_cons_succ, List.set_cons_zero, List.getD_cons_zero, List.getD_cons_succ, binT, binTy, unT, Option.map_some, Option.map_none, guardT, List.getElem?_toArray, List.getElem?_cons_succ, List.getElem?_cons_zero, Option.bind_some, pickT, quietK, stripT, openT, Bool.not_or_self, reduceIte, true_and, and_true, and_self, beq_true, Bool.not_not, boxM, allocM, loadM, storeM, fieldAddrM, lenT, extractT, subM, setOb, T.get, T.setp, T.offs, T.nw, nwL, T.cel, T.isNd, T.size, sizeL, TyI.agg, Ty.agg, Ty.isFn, zeroT, List.map_cons, List.map_nil, List.take_succ_cons, List.take_zero, Nat.add_zero, Nat.zero_add, Bool.and_self, Bool.and_true, Bool.true_and, Nat.reduceLT, Nat.lt_add_one, Nat.zero_lt_one, Nat.reduceEqDiff, List.toList_toArray, sumT, kill, Y1, Y2, Y3, Y4, Y5, Y6, Y7, Y8, Y9, Y10, Y11, Y12, Y13, Y14, Y15, Y63, Y68, Y70, Y73])
    | refine SW.seq ?_
    | refine SW.block ?_
    | (refine SW.cond rfl (fun hcc => ?_) (fun hcc => ?_))
    | (refine SW.exit ?_; simp only [thenS, blockS, if_true, if_false, Nat.reduceEqDiff, reduceIte])
    | (refine SW.skip ?_; simp only [thenS, blockS])
  refine SW.ret (show RetQ _ _ _ _ _ _ _ from ⟨.inr rfl, _, [0], [.nd [.int .i64 x.1, .ow 1 (x.2.1.map Enc.o), .ow 1 (x.2.2.1.map Enc.o)]], ?_, ⟨rfl, ?_, rfl, ?_, rfl, rfl⟩⟩)
  rotate_left
  · first | rfl | (simp [pass1, giveS, giveSL, Heap.at, Heap.put, fixEs, ioAt, T.cel, T.clo, cloL]; rfl)
  · first | rfl | simp [cloL, T.clo]
theorem laws_toSlot_ok (x : (Bool × ((Int × (List Int) × (List Int) × Unit)) × Unit)) (hx : Enc.lim 1048576 x) : CallR Try.prog 41 [.nd [.bool x.1, .nd [.int .i64 x.2.1.1, .sl .b (x.2.1.2.1.map Enc.b), .sl .b (x.2.1.2.2.1.map Enc.b)]]] [] (.nd [.bool x.1, .nd [.int .i64 x.2.1.1, .ow 1 (x.2.1.2.1.map Enc.o), .ow 1 (x.2.1.2.2.1.map Enc.o)]]) := by
  refine CallR.of_body (n := 12) (rs := [.cell 2 75]) hY.ok Try.func41 rfl (by decide) rfl rfl rfl rfl (fun F => ?_)
  repeat' first
    | (refine SW.ops_seq hY fun y1 hy1 => ?_; simp only [eq_self, Int.natCast_nonneg, Int.toNat_natCast, List.length_map, indexAddrM, k0, k1, k2, k3, k4, k5, k6, k7, k9, k10, k11, vopl_nil, grown_t, grown_f, after_f, after_t, after_u, isCall, callT, opM, S.ev, S.put, entryS, thawAL, thawA, RM.run, RM.bind, RM.ofOpt, allocs, Heap.ups, Heap.put, Heap.at, List.replicate, List.length_cons, List.length_nil, List.append_nil, List.nil_append, List.cons_append, Nat.reduceAdd, Nat.reduceSub, ofConst, nilAs, if_false, if_true, Bool.false_eq_true, List.set_cons_succ, List.set_cons_zero, List.getD_cons_zero, List.getD_cons_succ, binT, binTy, unT, Option.map_some, Option.map_none, guardT, List.getElem?_toArray, List.getElem?_cons_succ, List.getElem?_cons_zero, Option.bind_some, pickT, quietK, stripT, openT, Bool.not_or_self, reduceIte, true_and, and_true, and_self, beq_true, Bool.not_not, boxM, allocM, loadM, storeM, fieldAddrM, lenT, extractT, subM, setOb, T.get, T.setp, T.offs, T.nw, nwL, T.cel, T.isNd, T.size, sizeL, TyI.agg, Ty.agg, Ty.isFn, zeroT, List.map_cons, List.map_nil, List.take_succ_cons, List.take_zero, Nat.add_zero, Nat.zero_add, Bool.and_self, Bool.and_true, Bool.true_and, Nat.reduceLT, Nat.lt_add_one, Nat.zero_lt_one, Nat.reduceEqDiff, List.toList_toArray, sumT, kill, Y1, Y2, Y3, Y4, Y5, Y6, Y7, Y8, Y9, Y10, Y11, Y57, Y68, Y70, Y72, Y73, Y75, Y85]; subst hy1)
    | (refine SW.ops hY ?_; simp only [eq_self, Int.natCast_nonneg, Int.toNat_natCast, List.length_map, indexAddrM, k0, k1, k2, k3, k4, k5, k6, k7, k9, k10, k11, vopl_nil, grown_t, grown_f, after_f, after_t, after_u, isCall, callT, opM, S.ev, S.put, entryS, thawAL, thawA, RM.run, RM.bind, RM.ofOpt, allocs, Heap.ups, Heap.put, Heap.at, List.replicate, List.length_cons, List.length_nil, List.append_nil, List.nil_append, List.cons_append, Nat.reduceAdd, Nat.reduceSub, ofConst, nilAs, if_false, if_true, Bool.false_eq_true, List.set_cons_succ, List.set_cons_zero, List.getD_cons_zero, List.getD_cons_succ, binT, binTy, unT, Option.map_some, Option.map_none, guardT, List.getElem?_toArray, List.getElem?_cons_succ, List.getElem?_cons_zero, Option.bind_some, pickT, quietK, stripT, openT, Bool.not_or_self, reduceIte, true_and, and_true, and_self, beq_true, Bool.not_not, boxM, allocM, loadM, storeM, fieldAddrM, lenT, extractT, subM, setOb, T.get, T.setp, T.offs, T.nw, nwL, T.cel, T.isNd, T.size, sizeL, TyI.agg, Ty.agg, Ty.isFn, zeroT, List.map_cons, List.map_nil, List.take_succ_cons, List.take_zero, Nat.add_zero, Nat.zero_add, Bool.and_self, Bool.and_true, Bool.true_and, Nat.reduceLT, Nat.lt_add_one, Nat.zero_lt_one, Nat.reduceEqDiff, List.toList_toArray, sumT, kill, Y1, Y2, Y3, Y4, Y5, Y6, Y7, Y8, Y9, Y10, Y11, Y57, Y68, Y70, Y72, Y73, Y75, Y85]; try simp only [thenS, blockS, if_true, if_false, Nat.reduceEqDiff, reduceIte])
    | (refine vcall_to [] (laws_toObj_ok x.2.1 hx.2.1) rfl (by first | rfl | (simp [pass2, lendM, lendA, lendAL, elemsM, Heap.at, RM.bind, RM.run]; done) | (simp [pass2, lendM, lendA, lendAL, elemsM, Heap.at, RM.bind, RM.run]; rfl)) (by first | rfl | simp [resClo, T.clo, cloL]) rfl ?_; simp only [eq_self, Int.natCast_nonneg, Int.toNat_natCast, List.length_map, indexAddrM, k0, k1, k2, k3, k4, k5, k6, k7, k9, k10, k11, vopl_nil, grown_t, grown_f, after_f, after_t, after_u, isCall, callT, opM, S.ev, S.put, entryS, thawAL, thawA, RM.run, RM.bind, RM.ofOpt, allocs, Heap.ups, Heap.put, Heap.at, List.replicate, List.length_cons, List.length_nil, List.append_nil, List.nil_append, List.cons_append, Nat.reduceAdd, Nat.reduceSub, ofConst, nilAs, if_false, if_true, Bool.false_eq_true, List.set_cons_succ, List.set_cons_zero, List.getD_cons_zero, List.getD_cons_succ, binT, binTy, unT, Option.map_some, Option.map_none, guardT, List.getElem?_toArray, List.getElem?_cons_succ, List.getElem?_cons_zero, Option.bind_some, pickT, quietK, stripT, openT, Bool.not_or_self, reduceIte, true_and, and_true, and_self, beq_true, Bool.not_not, boxM, allocM, loadM, storeM, fieldAddrM, lenT, extractT, subM, setOb, T.get, T.setp, T.offs, T.nw, nwL, T.cel, T.isNd, T.size, sizeL, TyI.agg, Ty.agg, Ty.isFn, zeroT, List.map_cons, List.map_nil, List.take_succ_cons, List.take_zero, Nat.add_zero, Nat.zero_add, Bool.and_self, Bool.and_true, Bool.true_and, Nat.reduceLT, Nat.lt_add_one, Nat.zero_lt_one, Nat.reduceEqDiff, List.toList_toArray, sumT, kill, Y1, Y2, Y3, Y4, Y5, Y6, Y7, Y8, Y9, Y10, Y11, Y57, Y68, Y70, Y72, Y73, Y75, Y85]; try simp only [thenS, blockS, if_true, if_false, Nat.reduceEqDiff, reduceIte])
    | (simp only [k8]; refine ⟨fun hb => ?_, fun hb => ?_⟩ <;> (try replace hb := Bool.eq_false_iff.2 hb) <;> simp only [hb, eq_self, Int.natCast_nonneg, Int.toNat_natCast, List.length_map, indexAddrM, k0, k1, k2, k3, k4, k5, k6, k7, k9, k10, k11, vopl_nil, grown_t, grown_f, after_f, after_t, after_u, isCall, callT, opM, S.ev, S.put, entryS, thawAL, thawA, RM.run, RM.bind, RM.ofOpt, allocs, Heap.ups, Heap.put, Heap.at, List.replicate, List.length_cons, List.length_nil, List.append_nil, List.nil_append, List.cons_append, Nat.reduceAdd, Nat.reduceSub, ofConst, nilAs, if_false, if_true, Bool.false_eq_true, List.set_cons_succ, List.set_cons_zero, List.getD_cons_zero, List.getD_cons_succ, binT, binTy, unT, Option.map_some, Option.map_none, guardT, List.getElem?_toArray, List.getElem?_cons_succ, List.getElem?_cons_zero, Option.bind_some, pickT, quietK, stripT, openT, Bool.not_or_self, reduceIte, true_and, and_true, and_self, beq_true, Bool.not_not, boxM, allocM, loadM, storeM, fieldAddrM, lenT, extractT, subM, setOb, T.get, T.setp, T.offs, T.nw, nwL, T.cel, T.isNd, T.size, sizeL, TyI.agg, Ty.agg, Ty.isFn, zeroT, List.map_cons, List.map_nil, List.take_succ_cons, List.take_zero, Nat.add_zero, Nat.zero_add, Bool.and_self, Bool.and_true, Bool.true_and, Nat.reduceLT, Nat.lt_add_one, Nat.zero_lt_one, Nat.reduceEqDiff, List.toList_toArray, sumT, kill, Y1, Y2, Y3, Y4, Y5, Y6, Y7, Y8, Y9, Y10, Y11, Y57, Y68, Y70, Y72, Y73, Y75, Y85])
    | refine SW.seq ?_
    | refine SW.block ?_
    | (refine SW.cond rfl (fun hcc => ?_) (fun hcc => ?_))
    | (refine SW.exit ?_; simp only [thenS, blockS, if_true, if_false, Nat.reduceEqDiff, reduceIte])
    | (refine SW.skip ?_; simp only [thenS, blockS])
  refine SW.ret (show RetQ _ _ _ _ _ _ _ from ⟨.inr rfl, _, [0], [.nd [.bool x.1, .nd [.int .i64 x.2.1.1, .ow 1 (x.2.1.2.1.map Enc.o), .ow 1 (x.2.1.2.2.1.map Enc.o)]]], ?_, ⟨rfl, ?_, rfl, ?_, rfl, rfl⟩⟩)
  rotate_left
  · first | rfl | (simp [pass1, giveS, giveSL, Heap.at, Heap.put, fixEs, ioAt, T.cel, T.clo, cloL]; rfl)
  · first | rfl | simp [cloL, T.clo]
theorem laws_toSlotS_ok (l : List ((Bool × ((Int × (List Int) × (List Int) × Unit)) × Unit))) (hl : Enc.lim 1048576 l) : CallR Try.prog 18 [.sl .b (l.map Enc.b)] [] (.ow 4 (l.map Enc.o)) := by
  refine CallR.of_body (n := 23) (rs := [.tmp 2]) hY.ok Try.func18 rfl (by decide) rfl rfl rfl rfl (fun F => ?_)
  have hl1 : l.length ≤ 1048576 := hl.1
  repeat' first
    | (refine SW.ops_seq hY fun y1 hy1 => ?_; simp only [mk_fill _ 43 l hl.1 (.nd [.bool false, .nd [.int .i64 0, .nils 1, .nils 1]]) 4 64 _ Y43 Y75 rfl rfl (by decide), eq_self, Int.natCast_nonneg, Int.toNat_natCast, List.length_map, indexAddrM, k0, k1, k2, k3, k4, k5, k6, k7, k9, k10, k11, vopl_nil, grown_t, grown_f, after_f, after_t, after_u, isCall, callT, opM, S.ev, S.put, entryS, thawAL, thawA, RM.run, RM.bind, RM.ofOpt, allocs, Heap.ups, Heap.put, Heap.at, List.replicate, List.length_cons, List.length_nil, List.append_nil, List.nil_append, List.cons_append, Nat.reduceAdd, Nat.reduceSub, ofConst, nilAs, if_false, if_true, Bool.false_eq_true, List.set_cons_succ, List.set_cons_zero, List.getD_cons_zero, List.getD_cons_succ, binT, binTy, unT, Option.map_some, Option.map_none, guardT, List.getElem?_toArray, List.getElem?_cons_succ, List.getElem?_cons_zero, Option.bind_some, pickT, quietK, stripT, openT, Bool.not_or_self, reduceIte, true_and, and_true, and_self, beq_true, Bool.not_not, boxM, allocM, loadM, storeM, fieldAddrM, lenT, extractT, subM, setOb, T.get, T.setp, T.offs, T.nw, nwL, T.cel, T.isNd, T.size, sizeL, TyI.agg, Ty.agg, Ty.isFn, zeroT, List.map_cons, List.map_nil, List.take_succ_cons, List.take_zero, Nat.add_zero, Nat.zero_add, Bool.and_self, Bool.and_true, Bool.true_and, Nat.reduceLT, Nat.lt_add_one, Nat.zero_lt_one, Nat.reduceEqDiff, List.toList_toArray, sumT, kill, Y1, Y2, Y3, Y4, Y5, Y6, Y7, Y8, Y9, Y10, Y11, Y12, Y13, Y14, Y15, Y16, Y17, Y18, Y19, Y20, Y21, Y22, Y40, Y41, Y43, Y68, Y70, Y72, Y73, Y75, Y81]; subst hy1)
    | (refine SW.ops hY ?_; simp only [mk_fill _ 43 l hl.1 (.nd [.bool false, .nd [.int .i64 0, .nils 1, .nils 1]]) 4 64 _ Y43 Y75 rfl rfl (by decide), eq_self, Int.natCast_nonneg, Int.toNat_natCast, List.length_map, indexAddrM, k0, k1, k2, k3, k4, k5, k6, k7, k9, k10, k11, vopl_nil, grown_t, grown_f, after_f, after_t, after_u, isCall, callT, opM, S.ev, S.put, entryS, thawAL, thawA, RM.run, RM.bind, RM.ofOpt, allocs, Heap.ups, Heap.put, Heap.at, List.replicate, List.length_cons, List.length_nil, List.append_nil, List.nil_append, List.cons_append, Nat.reduceAdd, Nat.reduceSub, ofConst, nilAs, if_false, if_true, Bool.false_eq_true, List.set_cons_succ, List.set_cons_zero, List.getD_cons_zero, List.getD_cons_succ, binT, binTy, unT, Option.map_some, Option.map_none, guardT, List.getElem?_toArray, List.getElem?_cons_succ, List.getElem?_cons_zero, Option.bind_some, pickT, quietK, stripT, openT, Bool.not_or_self, reduceIte, true_and, and_true, and_self, beq_true, Bool.not_not, boxM, allocM, loadM, storeM, fieldAddrM, lenT, extractT, subM, setOb, T.get, T.setp, T.offs, T.nw, nwL, T.cel, T.isNd, T.size, sizeL, TyI.agg, Ty.agg, Ty.isFn, zeroT, List.map_cons, List.map_nil, List.take_succ_cons, List.take_zero, Nat.add_zero, Nat.zero_add, Bool.and_self, Bool.and_true, Bool.true_and, Nat.reduceLT, Nat.lt_add_one, Nat.zero_lt_one, Nat.reduceEqDiff, List.toList_toArray, sumT, kill, Y1, Y2, Y3, Y4, Y5, Y6, Y7, Y8, Y9, Y10, Y11, Y12, Y13, Y14, Y15, Y16, Y17, Y18, Y19, Y20, Y21, Y22, Y40, Y41, Y43, Y68, Y70, Y72, Y73, Y75, Y81]; try simp only [thenS, blockS, if_true, if_false, Nat.reduceEqDiff, reduceIte])
    | (simp only [k8]; refine ⟨fun hb => ?_, fun hb => ?_⟩ <;> (try replace hb := Bool.eq_false_iff.2 hb) <;> simp only [hb, mk_fill _ 43 l hl.1 (.nd [.bool false, .nd [.int .i64 0, .nils 1, .nils 1]]) 4 64 _ Y43 Y75 rfl rfl (by decide), eq_self, Int.natCast_nonneg, Int.toNat_natCast, List.length_map, indexAddrM, k0, k1, k2, k3, k4, k5, k6, k7, k9, k10, k11, vopl_nil, grown_t, grown_f, after_f, after_t, after_u, isCall, callT, opM, S.ev, S.put, entryS, thawAL, thawA, RM.run, RM.bind, RM.ofOpt, allocs, Heap.ups, Heap.put, Heap.at, List.replicate, List.length_cons, List.length_nil, List.append_nil, List.nil_append, List.cons_append, Nat.reduceAdd, Nat.reduceSub, ofConst, nilAs, if_false, if_true, Bool.false_eq_true, List.set_cons_succ, List.set_cons_zero, List.getD_cons_zero, List.getD_cons_succ, binT, binTy, unT, Option.map_some, Option.map_none, guardT, List.getElem?_toArray, List.getElem?_cons_succ, List.getElem?_cons_zero, Option.bind_some, pickT, quietK, stripT, openT, Bool.not_or_self, reduceIte, true_and, and_true, and_self, beq_true, Bool.not_not, boxM, allocM, loadM, storeM, fieldAddrM, lenT, extractT, subM, setOb, T.get, T.setp, T.offs, T.nw, nwL, T.cel, T.isNd, T.size, sizeL, TyI.agg, Ty.agg, Ty.isFn, zeroT, List.map_cons, List.map_nil, List.take_succ_cons, List.take_zero, Nat.add_zero, Nat.zero_add, Bool.and_self, Bool.and_true, Bool.true_and, Nat.reduceLT, Nat.lt_add_one, Nat.zero_lt_one, Nat.reduceEqDiff, List.toList_toArray, sumT, kill, Y1, Y2, Y3, Y4, Y5, Y6, Y7, Y8, Y9, Y10, Y11, Y12, Y13, Y14, Y15, Y16, Y17, Y18, Y19, Y20, Y21, Y22, Y40, Y41, Y43, Y68, Y70, Y72, Y73, Y75, Y81])
    | refine SW.seq ?_
    | refine SW.block ?_
    | (refine SW.exit ?_; simp only [thenS, blockS, if_true, if_false, Nat.reduceEqDiff, reduceIte])
    | (refine SW.skip ?_; simp only [thenS, blockS])
  refine SW.loop (fun i : Nat => ⟨[.sl .b (l.map Enc.b), .undef, .undef, .ref 1 0 0 l.length, .int .i64 i, .undef, .undef, .undef, .undef, .undef, .undef, .undef, .undef, .undef, .undef, .undef, .undef, .undef, .undef, .undef, .undef, .undef, .undef], [[], [.arr 4 (fillG (.nd [.bool false, .nd [.int .i64 0, .nils 1, .nils 1]]) l i) false]]⟩)
    (fun n i => n = l.length - i ∧ i ≤ l.length) (n := l.length) (x := 0) (Norm.to 0 rfl (by simp [weakL])) ⟨rfl, Nat.zero_le _⟩ ?_
  rintro n i ⟨hn, hi⟩
  repeat' first
    | (refine SW.ops_seq hY fun y1 hy1 => ?_; simp only [eq_self, Int.natCast_nonneg, Int.toNat_natCast, List.length_map, indexAddrM, k0, k1, k2, k3, k4, k5, k6, k7, k9, k10, k11, vopl_nil, grown_t, grown_f, after_f, after_t, after_u, isCall, callT, opM, S.ev, S.put, entryS, thawAL, thawA, RM.run, RM.bind, RM.ofOpt, allocs, Heap.ups, Heap.put, Heap.at, List.replicate, List.length_cons, List.length_nil, List.append_nil, List.nil_append, List.cons_append, Nat.reduceAdd, Nat.reduceSub, ofConst, nilAs, if_false, if_true, Bool.false_eq_true, List.set_cons_succ, List.set_cons_zero, List.getD_cons_zero, List.getD_cons_succ, binT, binTy, unT, Option.map_some, Option.map_none, guardT, List.getElem?_toArray, List.getElem?_cons_succ, List.getElem?_cons_zero, Option.bind_some, pickT, quietK, stripT, openT, Bool.not_or_self, reduceIte, true_and, and_true, and_self, beq_true, Bool.not_not, boxM, allocM, loadM, storeM, fieldAddrM, lenT, extractT, subM, setOb, T.get, T.setp, T.offs, T.nw, nwL, T.cel, T.isNd, T.size, sizeL, TyI.agg, Ty.agg, Ty.isFn, zeroT, List.map_cons, List.map_nil, List.take_succ_cons, List.take_zero, Nat.add_zero, Nat.zero_add, Bool.and_self, Bool.and_true, Bool.true_and, Nat.reduceLT, Nat.lt_add_one, Nat.zero_lt_one, Nat.reduceEqDiff, List.toList_toArray, sumT, kill, Y1, Y2, Y3, Y4, Y5, Y6, Y7, Y8, Y9, Y10, Y11, Y12, Y13, Y14, Y15, Y16, Y17, Y18, Y19, Y20, Y21, Y22, Y40, Y41, Y43, Y68, Y70, Y72, Y73, Y75, Y81]; subst hy1)
    | refine SW.seq ?_
  refine SW.cond rfl (fun hc => ?_) (fun hc => ?_)
  · have hlt : i < l.length := by simpa using hc
    have hltI : (i : Int) < (l.length : Int) := by omega
    have hg : (l.map Enc.b)[i]? = some (.nd [.bool l[i].1, .nd [.int .i64 l[i].2.1.1, .sl .b (l[i].2.1.2.1.map Enc.b), .sl .b (l[i].2.1.2.2.1.map Enc.b)]]) := map_get Enc.b l i hlt
    have hf : (fillG (.nd [.bool false, .nd [.int .i64 0, .nils 1, .nils 1]]) l i)[i]? = some (.nd [.bool false, .nd [.int .i64 0, .nils 1, .nils 1]]) := fill_get _ l i hlt
    have hfl : (fillG (.nd [.bool false, .nd [.int .i64 0, .nils 1, .nils 1]]) l i).length = l.length := fill_len _ l i hi
    repeat' first
      | (refine SW.ops_seq hY fun y1 hy1 => ?_; simp only [hg, hf, hfl, hltI, Nat.zero_add, eq_self, Int.natCast_nonneg, Int.toNat_natCast, List.length_map, indexAddrM, k0, k1, k2, k3, k4, k5, k6, k7, k9, k10, k11, vopl_nil, grown_t, grown_f, after_f, after_t, after_u, isCall, callT, opM, S.ev, S.put, entryS, thawAL, thawA, RM.run, RM.bind, RM.ofOpt, allocs, Heap.ups, Heap.put, Heap.at, List.replicate, List.length_cons, List.length_nil, List.append_nil, List.nil_append, List.cons_append, Nat.reduceAdd, Nat.reduceSub, ofConst, nilAs, if_false, if_true, Bool.false_eq_true, List.set_cons_succ, List.set_cons_zero, List.getD_cons_zero, List.getD_cons_succ, binT, binTy, unT, Option.map_some, Option.map_none, guardT, List.getElem?_toArray, List.getElem?_cons_succ, List.getElem?_cons_zero, Option.bind_some, pickT, quietK, stripT, openT, Bool.not_or_self, reduceIte, true_and, and_true, and_self, beq_true, Bool.not_not, boxM, allocM, loadM, storeM, fieldAddrM, lenT, extractT, subM, setOb, T.get, T.setp, T.offs, T.nw, nwL, T.cel, T.isNd, T.size, sizeL, TyI.agg, Ty.agg, Ty.isFn, zeroT, List.map_cons, List.map_nil, List.take_succ_cons, List.take_zero, Nat.add_zero, Nat.zero_add, Bool.and_self, Bool.and_true, Bool.true_and, Nat.reduceLT, Nat.lt_add_one, Nat.zero_lt_one, Nat.reduceEqDiff, List.toList_toArray, sumT, kill, Y1, Y2, Y3, Y4, Y5, Y6, Y7, Y8, Y9, Y10, Y11, Y12, Y13, Y14, Y15, Y16, Y17, Y18, Y19, Y20, Y21, Y22, Y40, Y41, Y43, Y68, Y70, Y72, Y73, Y75, Y81]; subst hy1)
      | (refine SW.ops hY ?_; simp only [hg, hf, hfl, hltI, Nat.zero_add, eq_self, Int.natCast_nonneg, Int.toNat_natCast, List.length_map, indexAddrM, k0, k1, k2, k3, k4, k5, k6, k7, k9, k10, k11, vopl_nil, grown_t, grown_f, after_f, after_t, after_u, isCall, callT, opM, S.ev, S.put, entryS, thawAL, thawA, RM.run, RM.bind, RM.ofOpt, allocs, Heap.ups, Heap.put, Heap.at, List.replicate, List.length_cons, List.length_nil, List.append_nil, List.nil_append, List.cons_append, Nat.reduceAdd, Nat.reduceSub, ofConst, nilAs, if_false, if_true, Bool.false_eq_true, List.set_cons_succ, List.set_cons_zero, List.getD_cons_zero, List.getD_cons_succ, binT, binTy, unT, Option.map_some, Option.map_none, guardT, List.getElem?_toArray, List.getElem?_cons_succ, List.getElem?_cons_zero, Option.bind_some, pickT, quietK, stripT, openT, Bool.not_or_self, reduceIte, true_and, and_true, and_self, beq_true, Bool.not_not, boxM, allocM, loadM, storeM, fieldAddrM, lenT, extractT, subM, setOb, T.get, T.setp, T.offs, T.nw, nwL, T.cel, T.isNd, T.size, sizeL, TyI.agg, Ty.agg, Ty.isFn, zeroT, List.map_cons, List.map_nil, List.take_succ_cons, List.take_zero, Nat.add_zero, Nat.zero_add, Bool.and_self, Bool.and_true, Bool.true_and, Nat.reduceLT, Nat.lt_add_one, Nat.zero_lt_one, Nat.reduceEqDiff, List.toList_toArray, sumT, kill, Y1, Y2, Y3, Y4, Y5, Y6, Y7, Y8, Y9, Y10, Y11, Y12, Y13, Y14, Y15, Y16, Y17, Y18, Y19, Y20, Y21, Y22, Y40, Y41, Y43, Y68, Y70, Y72, Y73, Y75, Y81]; try simp only [thenS, blockS, if_true, if_false, Nat.reduceEqDiff, reduceIte])
      | (refine vcall_to [] (laws_toSlot_ok l[i] (hl.2 _ (List.getElem_mem hlt))) rfl (by first | rfl | (simp [pass2, lendM, lendA, lendAL, elemsM, Heap.at, RM.bind, RM.run]; done) | (simp [pass2, lendM, lendA, lendAL, elemsM, Heap.at, RM.bind, RM.run]; rfl)) (by first | rfl | simp [resClo, T.clo, cloL]) rfl ?_; simp only [hg, hf, hfl, hltI, Nat.zero_add, eq_self, Int.natCast_nonneg, Int.toNat_natCast, List.length_map, indexAddrM, k0, k1, k2, k3, k4, k5, k6, k7, k9, k10, k11, vopl_nil, grown_t, grown_f, after_f, after_t, after_u, isCall, callT, opM, S.ev, S.put, entryS, thawAL, thawA, RM.run, RM.bind, RM.ofOpt, allocs, Heap.ups, Heap.put, Heap.at, List.replicate, List.length_cons, List.length_nil, List.append_nil, List.nil_append, List.cons_append, Nat.reduceAdd, Nat.reduceSub, ofConst, nilAs, if_false, if_true, Bool.false_eq_true, List.set_cons_succ, List.set_cons_zero, List.getD_cons_zero, List.getD_cons_succ, binT, binTy, unT, Option.map_some, Option.map_none, guardT, List.getElem?_toArray, List.getElem?_cons_succ, List.getElem?_cons_zero, Option.bind_some, pickT, quietK, stripT, openT, Bool.not_or_self, reduceIte, true_and, and_true, and_self, beq_true, Bool.not_not, boxM, allocM, loadM, storeM, fieldAddrM, lenT, extractT, subM, setOb, T.get, T.setp, T.offs, T.nw, nwL, T.cel, T.isNd, T.size, sizeL, TyI.agg, Ty.agg, Ty.isFn, zeroT, List.map_cons, List.map_nil, List.take_succ_cons, List.take_zero, Nat.add_zero, Nat.zero_add, Bool.and_self, Bool.and_true, Bool.true_and, Nat.reduceLT, Nat.lt_add_one, Nat.zero_lt_one, Nat.reduceEqDiff, List.toList_toArray, sumT, kill, Y1, Y2, Y3, Y4, Y5, Y6, Y7, Y8, Y9, Y10, Y11, Y12, Y13, Y14, Y15, Y16, Y17, Y18, Y19, Y20, Y21, Y22, Y40, Y41, Y43, Y68, Y70, Y72, Y73, Y75, Y81]; try simp only [thenS, blockS, if_true, if_false, Nat.reduceEqDiff, reduceIte])
      | (simp only [k8]; refine ⟨fun hb => ?_, fun hb => ?_⟩ <;> (try replace hb := Bool.eq_false_iff.2 hb) <;> simp only [hb, hg, hf, hfl, hltI, Nat.zero_add, eq_self, Int.natCast_nonneg, Int.toNat_natCast, List.length_map, indexAddrM, k0, k1, k2, k3, k4, k5, k6, k7, k9, k10, k11, vopl_nil, grown_t, grown_f, after_f, after_t, after_u, isCall, callT, opM, S.ev, S.put, entryS, thawAL, thawA, RM.run, RM.bind, RM.ofOpt, allocs, Heap.ups, Heap.put, Heap.at, List.replicate, List.length_cons, List.length_nil, List.append_nil, List.nil_append, List.cons_append, Nat.reduceAdd, Nat.reduceSub, ofConst, nilAs, if_false, if_true, Bool.false_eq_true, List.set_cons_succ, List.set_cons_zero, List.getD_cons_zero, List.getD_cons_succ, binT, binTy, unT, Option.map_some, Option.map_none, guardT, List.getElem?_toArray, List.getElem?_cons_succ, List.getElem?_cons_zero, Option.bind_some, pickT, quietK, stripT, openT, Bool.not_or_self, reduceIte, true_and, and_true, and_self, beq_true, Bool.not_not, boxM, allocM, loadM, storeM, fieldAddrM, lenT, extractT, subM, setOb, T.get, T.setp, T.offs, T.nw, nwL, T.cel, T.isNd, T.size, sizeL, TyI.agg, Ty.agg, Ty.isFn, zeroT, List.map_cons, List.map_nil, List.take_succ_cons, List.take_zero, Nat.add_zero, Nat.zero_add, Bool.and_self, Bool.and_true, Bool.true_and, Nat.reduceLT, Nat.lt_add_one, Nat.zero_lt_one, Nat.reduceEqDiff, List.toList_toArray, sumT, kill, Y1, Y2, Y3, Y4, Y5, Y6, Y7, Y8, Y9, Y10, Y11, Y12, Y13, Y14, Y15, Y16, Y17, Y18, Y19, Y20, Y21, Y22, Y40, Y41, Y43, Y68, Y70, Y72, Y73, Y75, Y81])
      | refine SW.seq ?_
      | refine SW.block ?_
      | (refine SW.cond rfl (fun hcc => ?_) (fun hcc => ?_))
      | (refine SW.exit ?_; simp only [thenS, blockS, if_true, if_false, Nat.reduceEqDiff, reduceIte])
      | (refine SW.skip ?_; simp only [thenS, blockS])
    refine ⟨n - 1, i + 1, by omega, ⟨by omega, by omega⟩, ?_⟩
    rw [wrap64 _ (by omega) (by omega)]
    refine Norm.trans (Norm.fill (l := l) 1 0 rfl hlt (by first | rfl | (simp [soakS, soakL, Heap.at, Heap.put]; rfl))) ?_
    refine Norm.re [0, 1] (by decide) rfl ?_ (by simp [tmFits, T.ren])
    first | (simp [heapFits, rowFits, obFits, soakS, soakL, Heap.at, Heap.put]; exact renL_fill _ _ _ _ rfl) | exact ⟨trivial, ⟨rfl, rfl, renL_fill _ _ _ _ rfl⟩, trivial⟩
  · have hge : i = l.length := by
      have : ¬ i < l.length := by simpa using hc
      omega
    subst hge
    repeat' first
      | (refine SW.ops_seq hY fun y1 hy1 => ?_; simp only [eq_self, Int.natCast_nonneg, Int.toNat_natCast, List.length_map, indexAddrM, k0, k1, k2, k3, k4, k5, k6, k7, k9, k10, k11, vopl_nil, grown_t, grown_f, after_f, after_t, after_u, isCall, callT, opM, S.ev, S.put, entryS, thawAL, thawA, RM.run, RM.bind, RM.ofOpt, allocs, Heap.ups, Heap.put, Heap.at, List.replicate, List.length_cons, List.length_nil, List.append_nil, List.nil_append, List.cons_append, Nat.reduceAdd, Nat.reduceSub, ofConst, nilAs, if_false, if_true, Bool.false_eq_true, List.set_cons_succ, List.set_cons_zero, List.getD_cons_zero, List.getD_cons_succ, binT, binTy, unT, Option.map_some, Option.map_none, guardT, List.getElem?_toArray, List.getElem?_cons_succ, List.getElem?_cons_zero, Option.bind_some, pickT, quietK, stripT, openT, Bool.not_or_self, reduceIte, true_and, and_true, and_self, beq_true, Bool.not_not, boxM, allocM, loadM, storeM, fieldAddrM, lenT, extractT, subM, setOb, T.get, T.setp, T.offs, T.nw, nwL, T.cel, T.isNd, T.size, sizeL, TyI.agg, Ty.agg, Ty.isFn, zeroT, List.map_cons, List.map_nil, List.take_succ_cons, List.take_zero, Nat.add_zero, Nat.zero_add, Bool.and_self, Bool.and_true, Bool.true_and, Nat.reduceLT, Nat.lt_add_one, Nat.zero_lt_one, Nat.reduceEqDiff, List.toList_toArray, sumT, kill, Y1, Y2, Y3, Y4, Y5, Y6, Y7, Y8, Y9, Y10, Y11, Y12, Y13, Y14, Y15, Y16, Y17, Y18, Y19, Y20, Y21, Y22, Y40, Y41, Y43, Y68, Y70, Y72, Y73, Y75, Y81]; subst hy1)
      | (refine SW.ops hY ?_; simp only [eq_self, Int.natCast_nonneg, Int.toNat_natCast, List.length_map, indexAddrM, k0, k1, k2, k3, k4, k5, k6, k7, k9, k10, k11, vopl_nil, grown_t, grown_f, after_f, after_t, after_u, isCall, callT, opM, S.ev, S.put, entryS, thawAL, thawA, RM.run, RM.bind, RM.ofOpt, allocs, Heap.ups, Heap.put, Heap.at, List.replicate, List.length_cons, List.length_nil, List.append_nil, List.nil_append, List.cons_append, Nat.reduceAdd, Nat.reduceSub, ofConst, nilAs, if_false, if_true, Bool.false_eq_true, List.set_cons_succ, List.set_cons_zero, List.getD_cons_zero, List.getD_cons_succ, binT, binTy, unT, Option.map_some, Option.map_none, guardT, List.getElem?_toArray, List.getElem?_cons_succ, List.getElem?_cons_zero, Option.bind_some, pickT, quietK, stripT, openT, Bool.not_or_self, reduceIte, true_and, and_true, and_self, beq_true, Bool.not_not, boxM, allocM, loadM, storeM, fieldAddrM, lenT, extractT, subM, setOb, T.get, T.setp, T.offs, T.nw, nwL, T.cel, T.isNd, T.size, sizeL, TyI.agg, Ty.agg, Ty.isFn, zeroT, List.map_cons, List.map_nil, List.take_succ_cons, List.take_zero, Nat.add_zero, Nat.zero_add, Bool.and_self, Bool.and_true, Bool.true_and, Nat.reduceLT, Nat.lt_add_one, Nat.zero_lt_one, Nat.reduceEqDiff, List.toList_toArray, sumT, kill, Y1, Y2, Y3, Y4, Y5, Y6, Y7, Y8, Y9, Y10, Y11, Y12, Y13, Y14, Y15, Y16, Y17, Y18, Y19, Y20, Y21, Y22, Y40, Y41, Y43, Y68, Y70, Y72, Y73, Y75, Y81]; try simp only [thenS, blockS, if_true, if_false, Nat.reduceEqDiff, reduceIte])
      | (simp only [k8]; refine ⟨fun hb => ?_, fun hb => ?_⟩ <;> (try replace hb := Bool.eq_false_iff.2 hb) <;> simp only [hb, eq_self, Int.natCast_nonneg, Int.toNat_natCast, List.length_map, indexAddrM, k0, k1, k2, k3, k4, k5, k6, k7, k9, k10, k11, vopl_nil, grown_t, grown_f, after_f, after_t, after_u, isCall, callT, opM, S.ev, S.put, entryS, thawAL, thawA, RM.run, RM.bind, RM.ofOpt, allocs, Heap.ups, Heap.put, Heap.at, List.replicate, List.length_cons, List.length_nil, List.append_nil, List.nil_append, List.cons_append, Nat.reduceAdd, Nat.reduceSub, ofConst, nilAs, if_false, if_true, Bool.false_eq_true, List.set_cons_succ, List.set_cons_zero, List.getD_cons_zero, List.getD_cons_succ, binT, binTy, unT, Option.map_some, Option.map_none, guardT, List.getElem?_toArray, List.getElem?_cons_succ, List.getElem?_cons_zero, Option.bind_some, pickT, quietK, stripT, openT, Bool.not_or_self, reduceIte, true_and, and_true, and_self, beq_true, Bool.not_not, boxM, allocM, loadM, storeM, fieldAddrM, lenT, extractT, subM, setOb, T.get, T.setp, T.offs, T.nw, nwL, T.cel, T.isNd, T.size, sizeL, TyI.agg, Ty.agg, Ty.isFn, zeroT, List.map_cons, List.map_nil, List.take_succ_cons, List.take_zero, Nat.add_zero, Nat.zero_add, Bool.and_self, Bool.and_true, Bool.true_and, Nat.reduceLT, Nat.lt_add_one, Nat.zero_lt_one, Nat.reduceEqDiff, List.toList_toArray, sumT, kill, Y1, Y2, Y3, Y4, Y5, Y6, Y7, Y8, Y9, Y10, Y11, Y12, Y13, Y14, Y15, Y16, Y17, Y18, Y19, Y20, Y21, Y22, Y40, Y41, Y43, Y68, Y70, Y72, Y73, Y75, Y81])
      | refine SW.seq ?_
      | refine SW.block ?_
      | (refine SW.cond rfl (fun hcc => ?_) (fun hcc => ?_))
      | (refine SW.exit ?_; simp only [thenS, blockS, if_true, if_false, Nat.reduceEqDiff, reduceIte])
      | (refine SW.skip ?_; simp only [thenS, blockS])
    refine SW.ret (show RetQ _ _ _ _ _ _ _ from ⟨.inr rfl, [.ref 1 0 0 l.length], [4], [.ow 4 (l.map Enc.o)], [[], [.gone]], ⟨rfl, ?_, rfl, ?_, rfl, rfl⟩⟩)
    · simp [pass1, giveS, Heap.at, Heap.put, fill_all, fixEs, ioAt, T.cel, T.clo]
    · simp [cloL, T.clo]
end P1
