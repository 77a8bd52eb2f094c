/- Shows what the parts of the program do that the claim reaches: a machine of values over the model, and the contracts of functions, for all arguments within the lengths that each theorem names. -/
import Derived.Test.YteaghehojiabbaaVm3
import Derived.Test.YteaghehojiabbaaRows
set_option linter.all false

namespace P1
open Go Go.Vm Go.Proofs
def tbl : List TyI := [
  ⟨.bad, 0, 0⟩,
  ⟨.fn, 1, 8⟩,
  ⟨.int .i64, 1, 8⟩,
  ⟨.int .i64, 1, 8⟩,
  ⟨.bool, 1, 1⟩,
  ⟨.int .u8, 1, 1⟩,
  ⟨.int .u8, 1, 1⟩,
  ⟨.st [(2, 0), (3, 1), (4, 2), (6, 3)], 4, 24⟩,
  ⟨.st [(2, 0), (3, 1), (4, 2), (6, 3)], 4, 24⟩,
  ⟨.str, 1, 16⟩,
  ⟨.str, 1, 16⟩,
  ⟨.str, 1, 16⟩,
  ⟨.int .u64, 1, 8⟩,
  ⟨.st [(9, 0), (12, 1)], 2, 24⟩,
  ⟨.st [(9, 0), (12, 1)], 2, 24⟩,
  ⟨.ptr 101, 1, 8⟩,
  ⟨.ptr 104, 1, 8⟩,
  ⟨.ptr 114, 1, 8⟩,
  ⟨.st [(17, 0)], 1, 8⟩,
  ⟨.st [(17, 0)], 1, 8⟩,
  ⟨.ifc, 1, 16⟩,
  ⟨.int .i32, 1, 4⟩,
  ⟨.sl 81, 1, 24⟩,
  ⟨.st [(3, 0), (22, 1)], 2, 32⟩,
  ⟨.st [(3, 0), (22, 1)], 2, 32⟩,
  ⟨.fn, 1, 8⟩,
  ⟨.fn, 1, 8⟩,
  ⟨.sl 50, 1, 24⟩,
  ⟨.st [(3, 0), (27, 1)], 2, 32⟩,
  ⟨.st [(3, 0), (27, 1)], 2, 32⟩,
  ⟨.fn, 1, 8⟩,
  ⟨.fn, 1, 8⟩,
  ⟨.fn, 1, 8⟩,
  ⟨.sl 57, 1, 24⟩,
  ⟨.fn, 1, 8⟩,
  ⟨.fn, 1, 8⟩,
  ⟨.sl 58, 1, 24⟩,
  ⟨.fn, 1, 8⟩,
  ⟨.fn, 1, 8⟩,
  ⟨.fn, 1, 8⟩,
  ⟨.sl 72, 1, 24⟩,
  ⟨.fn, 1, 8⟩,
  ⟨.fn, 1, 8⟩,
  ⟨.sl 75, 1, 24⟩,
  ⟨.fn, 1, 8⟩,
  ⟨.fn, 1, 8⟩,
  ⟨.fn, 1, 8⟩,
  ⟨.fn, 1, 8⟩,
  ⟨.fn, 1, 8⟩,
  ⟨.st [(3, 0), (3, 1)], 2, 16⟩,
  ⟨.st [(3, 0), (3, 1)], 2, 16⟩,
  ⟨.fn, 1, 8⟩,
  ⟨.fn, 1, 8⟩,
  ⟨.fn, 1, 8⟩,
  ⟨.fn, 1, 8⟩,
  ⟨.fn, 1, 8⟩,
  ⟨.fn, 1, 8⟩,
  ⟨.sl 85, 1, 24⟩,
  ⟨.sl 61, 1, 24⟩,
  ⟨.fn, 1, 8⟩,
  ⟨.st [(3, 0), (3, 1), (3, 2)], 3, 24⟩,
  ⟨.st [(3, 0), (3, 1), (3, 2)], 3, 24⟩,
  ⟨.fn, 1, 8⟩,
  ⟨.fn, 1, 8⟩,
  ⟨.fn, 1, 8⟩,
  ⟨.fn, 1, 8⟩,
  ⟨.fn, 1, 8⟩,
  ⟨.fn, 1, 8⟩,
  ⟨.sl 3, 1, 24⟩,
  ⟨.st [(3, 0), (68, 1), (68, 2)], 3, 56⟩,
  ⟨.st [(3, 0), (68, 1), (68, 2)], 3, 56⟩,
  ⟨.st [(4, 0), (70, 1)], 4, 64⟩,
  ⟨.st [(4, 0), (70, 1)], 4, 64⟩,
  ⟨.st [(3, 0), (68, 1), (68, 2)], 3, 56⟩,
  ⟨.st [(4, 0), (73, 1)], 4, 64⟩,
  ⟨.st [(4, 0), (73, 1)], 4, 64⟩,
  ⟨.fn, 1, 8⟩,
  ⟨.fn, 1, 8⟩,
  ⟨.fn, 1, 8⟩,
  ⟨.fn, 1, 8⟩,
  ⟨.fn, 1, 8⟩,
  ⟨.st [(3, 0), (3, 1)], 2, 16⟩,
  ⟨.fn, 1, 8⟩,
  ⟨.fn, 1, 8⟩,
  ⟨.fn, 1, 8⟩,
  ⟨.st [(3, 0), (3, 1), (3, 2)], 3, 24⟩,
  ⟨.fn, 1, 8⟩,
  ⟨.fn, 1, 8⟩,
  ⟨.fn, 1, 8⟩,
  ⟨.fn, 1, 8⟩,
  ⟨.fn, 1, 8⟩,
  ⟨.fn, 1, 8⟩,
  ⟨.fn, 1, 8⟩,
  ⟨.fn, 1, 8⟩,
  ⟨.fn, 1, 8⟩,
  ⟨.fn, 1, 8⟩,
  ⟨.fn, 1, 8⟩,
  ⟨.fn, 1, 8⟩,
  ⟨.fn, 1, 8⟩,
  ⟨.fn, 1, 8⟩,
  ⟨.st [(17, 0), (17, 1), (17, 2), (9, 3)], 4, 40⟩,
  ⟨.st [(17, 0), (17, 1), (17, 2), (9, 3)], 4, 40⟩,
  ⟨.bad, 0, 0⟩,
  ⟨.bad, 0, 0⟩,
  ⟨.bad, 0, 0⟩,
  ⟨.fn, 1, 8⟩,
  ⟨.int .u32, 1, 4⟩,
  ⟨.int .u8, 1, 1⟩,
  ⟨.int .u8, 1, 1⟩,
  ⟨.fn, 1, 8⟩,
  ⟨.ptr 5, 1, 8⟩,
  ⟨.int .i32, 1, 4⟩,
  ⟨.int .i32, 1, 4⟩,
  ⟨.bad, 0, 0⟩,
  ⟨.bad, 0, 0⟩,
  ⟨.bad, 0, 0⟩
]
def Y : TypeId → TyI := tblY tbl
theorem hY : TysW Try.prog Y := tysW_of (by kernel_rfl)
theorem Y1 : Y 1 = ⟨.fn, 1, 8⟩ := rfl
theorem Y2 : Y 2 = ⟨.int .i64, 1, 8⟩ := rfl
theorem Y3 : Y 3 = ⟨.int .i64, 1, 8⟩ := rfl
theorem Y4 : Y 4 = ⟨.bool, 1, 1⟩ := rfl
theorem Y5 : Y 5 = ⟨.int .u8, 1, 1⟩ := rfl
theorem Y6 : Y 6 = ⟨.int .u8, 1, 1⟩ := rfl
theorem Y7 : Y 7 = ⟨.st [(2, 0), (3, 1), (4, 2), (6, 3)], 4, 24⟩ := rfl
theorem Y8 : Y 8 = ⟨.st [(2, 0), (3, 1), (4, 2), (6, 3)], 4, 24⟩ := rfl
theorem Y9 : Y 9 = ⟨.str, 1, 16⟩ := rfl
theorem Y10 : Y 10 = ⟨.str, 1, 16⟩ := rfl
theorem Y11 : Y 11 = ⟨.str, 1, 16⟩ := rfl
theorem Y12 : Y 12 = ⟨.int .u64, 1, 8⟩ := rfl
theorem Y13 : Y 13 = ⟨.st [(9, 0), (12, 1)], 2, 24⟩ := rfl
theorem Y14 : Y 14 = ⟨.st [(9, 0), (12, 1)], 2, 24⟩ := rfl
theorem Y15 : Y 15 = ⟨.ptr 101, 1, 8⟩ := rfl
theorem Y16 : Y 16 = ⟨.ptr 104, 1, 8⟩ := rfl
theorem Y17 : Y 17 = ⟨.ptr 114, 1, 8⟩ := rfl
theorem Y18 : Y 18 = ⟨.st [(17, 0)], 1, 8⟩ := rfl
theorem Y19 : Y 19 = ⟨.st [(17, 0)], 1, 8⟩ := rfl
theorem Y20 : Y 20 = ⟨.ifc, 1, 16⟩ := rfl
theorem Y21 : Y 21 = ⟨.int .i32, 1, 4⟩ := rfl
theorem Y22 : Y 22 = ⟨.sl 81, 1, 24⟩ := rfl
theorem Y23 : Y 23 = ⟨.st [(3, 0), (22, 1)], 2, 32⟩ := rfl
theorem Y24 : Y 24 = ⟨.st [(3, 0), (22, 1)], 2, 32⟩ := rfl
theorem Y25 : Y 25 = ⟨.fn, 1, 8⟩ := rfl
theorem Y26 : Y 26 = ⟨.fn, 1, 8⟩ := rfl
theorem Y27 : Y 27 = ⟨.sl 50, 1, 24⟩ := rfl
theorem Y28 : Y 28 = ⟨.st [(3, 0), (27, 1)], 2, 32⟩ := rfl
theorem Y29 : Y 29 = ⟨.st [(3, 0), (27, 1)], 2, 32⟩ := rfl
theorem Y30 : Y 30 = ⟨.fn, 1, 8⟩ := rfl
theorem Y31 : Y 31 = ⟨.fn, 1, 8⟩ := rfl
theorem Y32 : Y 32 = ⟨.fn, 1, 8⟩ := rfl
theorem Y33 : Y 33 = ⟨.sl 57, 1, 24⟩ := rfl
theorem Y34 : Y 34 = ⟨.fn, 1, 8⟩ := rfl
theorem Y35 : Y 35 = ⟨.fn, 1, 8⟩ := rfl
theorem Y36 : Y 36 = ⟨.sl 58, 1, 24⟩ := rfl
theorem Y37 : Y 37 = ⟨.fn, 1, 8⟩ := rfl
theorem Y38 : Y 38 = ⟨.fn, 1, 8⟩ := rfl
theorem Y39 : Y 39 = ⟨.fn, 1, 8⟩ := rfl
theorem Y40 : Y 40 = ⟨.sl 72, 1, 24⟩ := rfl
theorem Y41 : Y 41 = ⟨.fn, 1, 8⟩ := rfl
theorem Y42 : Y 42 = ⟨.fn, 1, 8⟩ := rfl
theorem Y43 : Y 43 = ⟨.sl 75, 1, 24⟩ := rfl
theorem Y44 : Y 44 = ⟨.fn, 1, 8⟩ := rfl
theorem Y45 : Y 45 = ⟨.fn, 1, 8⟩ := rfl
theorem Y46 : Y 46 = ⟨.fn, 1, 8⟩ := rfl
theorem Y47 : Y 47 = ⟨.fn, 1, 8⟩ := rfl
theorem Y48 : Y 48 = ⟨.fn, 1, 8⟩ := rfl
theorem Y49 : Y 49 = ⟨.st [(3, 0), (3, 1)], 2, 16⟩ := rfl
theorem Y50 : Y 50 = ⟨.st [(3, 0), (3, 1)], 2, 16⟩ := rfl
theorem Y51 : Y 51 = ⟨.fn, 1, 8⟩ := rfl
theorem Y52 : Y 52 = ⟨.fn, 1, 8⟩ := rfl
theorem Y53 : Y 53 = ⟨.fn, 1, 8⟩ := rfl
theorem Y54 : Y 54 = ⟨.fn, 1, 8⟩ := rfl
theorem Y55 : Y 55 = ⟨.fn, 1, 8⟩ := rfl
theorem Y56 : Y 56 = ⟨.fn, 1, 8⟩ := rfl
theorem Y57 : Y 57 = ⟨.sl 85, 1, 24⟩ := rfl
theorem Y58 : Y 58 = ⟨.sl 61, 1, 24⟩ := rfl
theorem Y59 : Y 59 = ⟨.fn, 1, 8⟩ := rfl
theorem Y60 : Y 60 = ⟨.st [(3, 0), (3, 1), (3, 2)], 3, 24⟩ := rfl
theorem Y61 : Y 61 = ⟨.st [(3, 0), (3, 1), (3, 2)], 3, 24⟩ := rfl
theorem Y62 : Y 62 = ⟨.fn, 1, 8⟩ := rfl
theorem Y63 : Y 63 = ⟨.fn, 1, 8⟩ := rfl
theorem Y64 : Y 64 = ⟨.fn, 1, 8⟩ := rfl
theorem Y65 : Y 65 = ⟨.fn, 1, 8⟩ := rfl
theorem Y66 : Y 66 = ⟨.fn, 1, 8⟩ := rfl
theorem Y67 : Y 67 = ⟨.fn, 1, 8⟩ := rfl
theorem Y68 : Y 68 = ⟨.sl 3, 1, 24⟩ := rfl
theorem Y69 : Y 69 = ⟨.st [(3, 0), (68, 1), (68, 2)], 3, 56⟩ := rfl
theorem Y70 : Y 70 = ⟨.st [(3, 0), (68, 1), (68, 2)], 3, 56⟩ := rfl
theorem Y71 : Y 71 = ⟨.st [(4, 0), (70, 1)], 4, 64⟩ := rfl
theorem Y72 : Y 72 = ⟨.st [(4, 0), (70, 1)], 4, 64⟩ := rfl
theorem Y73 : Y 73 = ⟨.st [(3, 0), (68, 1), (68, 2)], 3, 56⟩ := rfl
theorem Y74 : Y 74 = ⟨.st [(4, 0), (73, 1)], 4, 64⟩ := rfl
theorem Y75 : Y 75 = ⟨.st [(4, 0), (73, 1)], 4, 64⟩ := rfl
theorem Y76 : Y 76 = ⟨.fn, 1, 8⟩ := rfl
theorem Y77 : Y 77 = ⟨.fn, 1, 8⟩ := rfl
theorem Y78 : Y 78 = ⟨.fn, 1, 8⟩ := rfl
theorem Y79 : Y 79 = ⟨.fn, 1, 8⟩ := rfl
theorem Y80 : Y 80 = ⟨.fn, 1, 8⟩ := rfl
theorem Y81 : Y 81 = ⟨.st [(3, 0), (3, 1)], 2, 16⟩ := rfl
theorem Y82 : Y 82 = ⟨.fn, 1, 8⟩ := rfl
theorem Y83 : Y 83 = ⟨.fn, 1, 8⟩ := rfl
theorem Y84 : Y 84 = ⟨.fn, 1, 8⟩ := rfl
theorem Y85 : Y 85 = ⟨.st [(3, 0), (3, 1), (3, 2)], 3, 24⟩ := rfl
theorem Y86 : Y 86 = ⟨.fn, 1, 8⟩ := rfl
theorem Y87 : Y 87 = ⟨.fn, 1, 8⟩ := rfl
theorem Y88 : Y 88 = ⟨.fn, 1, 8⟩ := rfl
theorem Y89 : Y 89 = ⟨.fn, 1, 8⟩ := rfl
theorem Y90 : Y 90 = ⟨.fn, 1, 8⟩ := rfl
theorem Y91 : Y 91 = ⟨.fn, 1, 8⟩ := rfl
theorem Y92 : Y 92 = ⟨.fn, 1, 8⟩ := rfl
theorem Y93 : Y 93 = ⟨.fn, 1, 8⟩ := rfl
theorem Y94 : Y 94 = ⟨.fn, 1, 8⟩ := rfl
theorem Y95 : Y 95 = ⟨.fn, 1, 8⟩ := rfl
theorem Y96 : Y 96 = ⟨.fn, 1, 8⟩ := rfl
theorem Y97 : Y 97 = ⟨.fn, 1, 8⟩ := rfl
theorem Y98 : Y 98 = ⟨.fn, 1, 8⟩ := rfl
theorem Y99 : Y 99 = ⟨.fn, 1, 8⟩ := rfl
theorem Y100 : Y 100 = ⟨.st [(17, 0), (17, 1), (17, 2), (9, 3)], 4, 40⟩ := rfl
theorem Y101 : Y 101 = ⟨.st [(17, 0), (17, 1), (17, 2), (9, 3)], 4, 40⟩ := rfl
theorem Y105 : Y 105 = ⟨.fn, 1, 8⟩ := rfl
theorem Y106 : Y 106 = ⟨.int .u32, 1, 4⟩ := rfl
theorem Y107 : Y 107 = ⟨.int .u8, 1, 1⟩ := rfl
theorem Y108 : Y 108 = ⟨.int .u8, 1, 1⟩ := rfl
theorem Y109 : Y 109 = ⟨.fn, 1, 8⟩ := rfl
theorem Y110 : Y 110 = ⟨.ptr 5, 1, 8⟩ := rfl
theorem Y111 : Y 111 = ⟨.int .i32, 1, 4⟩ := rfl
theorem Y112 : Y 112 = ⟨.int .i32, 1, 4⟩ := rfl
end P1

namespace P1
open Go Go.Vm Go.Proofs
set_option maxRecDepth 10000
set_option linter.unusedSimpArgs false

theorem in_ok (a b c : Int) : CallR Try.prog 48 [.int .i64 a, .int .i64 b, .int .i64 c] [] (.bool (decide (a ≥ b) && decide (a ≤ c))) := by
  refine CallR.of_body (n := 15) (rs := [.tmp 6]) hY.ok Try.func48 rfl (by decide) rfl rfl rfl rfl (fun F => ?_)
  refine SW.ops_seq hY fun y1 hy1 => ?_
  simp only [k0, k1, k2, k3, k4, k5, k6, k7, k9, k10, k11, vopl_nil, grown_t, grown_f, after_f, after_t, after_u, isCall, callT, opM, S.ev, S.put, entryS, thawAL, thawA, RM.run, RM.bind, RM.ofOpt, allocs, Heap.ups, Heap.put, Heap.at, List.replicate, List.length_cons, List.length_nil, List.append_nil, List.nil_append, List.cons_append, Nat.reduceAdd, Nat.reduceSub, ofConst, nilAs, if_false, if_true, Bool.false_eq_true, List.set_cons_succ, List.set_cons_zero, List.getD_cons_zero, List.getD_cons_succ, binT, binTy, unT, Option.map_some, Option.map_none, guardT, List.getElem?_toArray, List.getElem?_cons_succ, List.getElem?_cons_zero, Option.bind_some, pickT, quietK, stripT, openT, Bool.not_or_self, reduceIte, true_and, and_true, and_self, beq_true, Bool.not_not, boxM, allocM, loadM, storeM, fieldAddrM, lenT, extractT, subM, setOb, T.get, T.setp, T.offs, T.nw, nwL, T.cel, T.isNd, T.size, sizeL, TyI.agg, Ty.agg, Ty.isFn, zeroT, List.map_cons, List.map_nil, List.take_succ_cons, List.take_zero, Nat.add_zero, Nat.zero_add, Bool.and_self, Bool.and_true, Bool.true_and, Nat.reduceLT, Nat.lt_add_one, Nat.zero_lt_one, Nat.reduceEqDiff, List.toList_toArray, sumT, kill, Y3, Y4, Y22, Y23, Y24, Y27, Y29, Y50, Y81]
  subst hy1
  refine SW.ops_seq hY fun y1 hy1 => ?_
  simp only [k0, k1, k2, k3, k4, k5, k6, k7, k9, k10, k11, vopl_nil, grown_t, grown_f, after_f, after_t, after_u, isCall, callT, opM, S.ev, S.put, entryS, thawAL, thawA, RM.run, RM.bind, RM.ofOpt, allocs, Heap.ups, Heap.put, Heap.at, List.replicate, List.length_cons, List.length_nil, List.append_nil, List.nil_append, List.cons_append, Nat.reduceAdd, Nat.reduceSub, ofConst, nilAs, if_false, if_true, Bool.false_eq_true, List.set_cons_succ, List.set_cons_zero, List.getD_cons_zero, List.getD_cons_succ, binT, binTy, unT, Option.map_some, Option.map_none, guardT, List.getElem?_toArray, List.getElem?_cons_succ, List.getElem?_cons_zero, Option.bind_some, pickT, quietK, stripT, openT, Bool.not_or_self, reduceIte, true_and, and_true, and_self, beq_true, Bool.not_not, boxM, allocM, loadM, storeM, fieldAddrM, lenT, extractT, subM, setOb, T.get, T.setp, T.offs, T.nw, nwL, T.cel, T.isNd, T.size, sizeL, TyI.agg, Ty.agg, Ty.isFn, zeroT, List.map_cons, List.map_nil, List.take_succ_cons, List.take_zero, Nat.add_zero, Nat.zero_add, Bool.and_self, Bool.and_true, Bool.true_and, Nat.reduceLT, Nat.lt_add_one, Nat.zero_lt_one, Nat.reduceEqDiff, List.toList_toArray, sumT, kill, Y3, Y4, Y22, Y23, Y24, Y27, Y29, Y50, Y81]
  subst hy1
  refine SW.ret (show RetQ _ _ _ _ _ _ _ from ⟨.inr rfl, [_], [1], [_], _, rfl, rfl, rfl, rfl, rfl, ?_⟩)
  simp [tupOf, fixEs]
theorem l1In_ok (a b c : Int) : CallR Try.prog 23 [.int .i64 a, .int .i64 b, .int .i64 c] [] (.bool (decide (a ≥ b) && decide (a ≤ c))) := by
  refine CallR.of_body (n := 15) (rs := [.tmp 6]) hY.ok Try.func23 rfl (by decide) rfl rfl rfl rfl (fun F => ?_)
  refine SW.ops_seq hY fun y1 hy1 => ?_
  simp only [k0, k1, k2, k3, k4, k5, k6, k7, k9, k10, k11, vopl_nil, grown_t, grown_f, after_f, after_t, after_u, isCall, callT, opM, S.ev, S.put, entryS, thawAL, thawA, RM.run, RM.bind, RM.ofOpt, allocs, Heap.ups, Heap.put, Heap.at, List.replicate, List.length_cons, List.length_nil, List.append_nil, List.nil_append, List.cons_append, Nat.reduceAdd, Nat.reduceSub, ofConst, nilAs, if_false, if_true, Bool.false_eq_true, List.set_cons_succ, List.set_cons_zero, List.getD_cons_zero, List.getD_cons_succ, binT, binTy, unT, Option.map_some, Option.map_none, guardT, List.getElem?_toArray, List.getElem?_cons_succ, List.getElem?_cons_zero, Option.bind_some, pickT, quietK, stripT, openT, Bool.not_or_self, reduceIte, true_and, and_true, and_self, beq_true, Bool.not_not, boxM, allocM, loadM, storeM, fieldAddrM, lenT, extractT, subM, setOb, T.get, T.setp, T.offs, T.nw, nwL, T.cel, T.isNd, T.size, sizeL, TyI.agg, Ty.agg, Ty.isFn, zeroT, List.map_cons, List.map_nil, List.take_succ_cons, List.take_zero, Nat.add_zero, Nat.zero_add, Bool.and_self, Bool.and_true, Bool.true_and, Nat.reduceLT, Nat.lt_add_one, Nat.zero_lt_one, Nat.reduceEqDiff, List.toList_toArray, sumT, kill, Y3, Y4, Y22, Y23, Y24, Y27, Y29, Y50, Y81]
  subst hy1
  refine SW.ops_seq hY fun y1 hy1 => ?_
  simp only [k0, k1, k2, k3, k4, k5, k6, k7, k9, k10, k11, vopl_nil, grown_t, grown_f, after_f, after_t, after_u, isCall, callT, opM, S.ev, S.put, entryS, thawAL, thawA, RM.run, RM.bind, RM.ofOpt, allocs, Heap.ups, Heap.put, Heap.at, List.replicate, List.length_cons, List.length_nil, List.append_nil, List.nil_append, List.cons_append, Nat.reduceAdd, Nat.reduceSub, ofConst, nilAs, if_false, if_true, Bool.false_eq_true, List.set_cons_succ, List.set_cons_zero, List.getD_cons_zero, List.getD_cons_succ, binT, binTy, unT, Option.map_some, Option.map_none, guardT, List.getElem?_toArray, List.getElem?_cons_succ, List.getElem?_cons_zero, Option.bind_some, pickT, quietK, stripT, openT, Bool.not_or_self, reduceIte, true_and, and_true, and_self, beq_true, Bool.not_not, boxM, allocM, loadM, storeM, fieldAddrM, lenT, extractT, subM, setOb, T.get, T.setp, T.offs, T.nw, nwL, T.cel, T.isNd, T.size, sizeL, TyI.agg, Ty.agg, Ty.isFn, zeroT, List.map_cons, List.map_nil, List.take_succ_cons, List.take_zero, Nat.add_zero, Nat.zero_add, Bool.and_self, Bool.and_true, Bool.true_and, Nat.reduceLT, Nat.lt_add_one, Nat.zero_lt_one, Nat.reduceEqDiff, List.toList_toArray, sumT, kill, Y3, Y4, Y22, Y23, Y24, Y27, Y29, Y50, Y81]
  subst hy1
  refine SW.ret (show RetQ _ _ _ _ _ _ _ from ⟨.inr rfl, [_], [1], [_], _, rfl, rfl, rfl, rfl, rfl, ?_⟩)
  simp [tupOf, fixEs]
end P1

namespace P1
open Go Go.Vm Go.Proofs
set_option maxRecDepth 10000
set_option linter.unusedSimpArgs false

theorem oid_ok (a : Int) : CallR Try.prog 25 [.int .i64 a] [] (.bool (decide (a ≥ 1) && decide (a ≤ 31))) := by
  refine CallR.of_body (n := 5) (rs := [.tmp 2]) hY.ok Try.func25 rfl (by decide) rfl rfl rfl rfl (fun F => ?_)
  refine SW.ops_seq hY fun y1 hy1 => ?_
  simp only [k0, k1, k2, k3, k4, k5, k6, k7, k9, k10, k11, vopl_nil, grown_t, grown_f, after_f, after_t, after_u, isCall, callT, opM, S.ev, S.put, entryS, thawAL, thawA, RM.run, RM.bind, RM.ofOpt, allocs, Heap.ups, Heap.put, Heap.at, List.replicate, List.length_cons, List.length_nil, List.append_nil, List.nil_append, List.cons_append, Nat.reduceAdd, Nat.reduceSub, ofConst, nilAs, if_false, if_true, Bool.false_eq_true, List.set_cons_succ, List.set_cons_zero, List.getD_cons_zero, List.getD_cons_succ, binT, binTy, unT, Option.map_some, Option.map_none, guardT, List.getElem?_toArray, List.getElem?_cons_succ, List.getElem?_cons_zero, Option.bind_some, pickT, quietK, stripT, openT, Bool.not_or_self, reduceIte, true_and, and_true, and_self, beq_true, Bool.not_not, boxM, allocM, loadM, storeM, fieldAddrM, lenT, extractT, subM, setOb, T.get, T.setp, T.offs, T.nw, nwL, T.cel, T.isNd, T.size, sizeL, TyI.agg, Ty.agg, Ty.isFn, zeroT, List.map_cons, List.map_nil, List.take_succ_cons, List.take_zero, Nat.add_zero, Nat.zero_add, Bool.and_self, Bool.and_true, Bool.true_and, Nat.reduceLT, Nat.lt_add_one, Nat.zero_lt_one, Nat.reduceEqDiff, List.toList_toArray, sumT, kill, Y3, Y4, Y22, Y23, Y24, Y27, Y29, Y50, Y81]
  subst hy1
  refine SW.ops_seq hY fun y1 hy1 => ?_
  simp only [k0, k1, k2, k3, k4, k5, k6, k7, k9, k10, k11, vopl_nil, grown_t, grown_f, after_f, after_t, after_u, isCall, callT, opM, S.ev, S.put, entryS, thawAL, thawA, RM.run, RM.bind, RM.ofOpt, allocs, Heap.ups, Heap.put, Heap.at, List.replicate, List.length_cons, List.length_nil, List.append_nil, List.nil_append, List.cons_append, Nat.reduceAdd, Nat.reduceSub, ofConst, nilAs, if_false, if_true, Bool.false_eq_true, List.set_cons_succ, List.set_cons_zero, List.getD_cons_zero, List.getD_cons_succ, binT, binTy, unT, Option.map_some, Option.map_none, guardT, List.getElem?_toArray, List.getElem?_cons_succ, List.getElem?_cons_zero, Option.bind_some, pickT, quietK, stripT, openT, Bool.not_or_self, reduceIte, true_and, and_true, and_self, beq_true, Bool.not_not, boxM, allocM, loadM, storeM, fieldAddrM, lenT, extractT, subM, setOb, T.get, T.setp, T.offs, T.nw, nwL, T.cel, T.isNd, T.size, sizeL, TyI.agg, Ty.agg, Ty.isFn, zeroT, List.map_cons, List.map_nil, List.take_succ_cons, List.take_zero, Nat.add_zero, Nat.zero_add, Bool.and_self, Bool.and_true, Bool.true_and, Nat.reduceLT, Nat.lt_add_one, Nat.zero_lt_one, Nat.reduceEqDiff, List.toList_toArray, sumT, kill, Y3, Y4, Y22, Y23, Y24, Y27, Y29, Y50, Y81]
  refine vcall_to [] (in_ok _ _ _) rfl rfl rfl rfl ?_
  simp only [k0, k1, k2, k3, k4, k5, k6, k7, k9, k10, k11, vopl_nil, grown_t, grown_f, after_f, after_t, after_u, isCall, callT, opM, S.ev, S.put, entryS, thawAL, thawA, RM.run, RM.bind, RM.ofOpt, allocs, Heap.ups, Heap.put, Heap.at, List.replicate, List.length_cons, List.length_nil, List.append_nil, List.nil_append, List.cons_append, Nat.reduceAdd, Nat.reduceSub, ofConst, nilAs, if_false, if_true, Bool.false_eq_true, List.set_cons_succ, List.set_cons_zero, List.getD_cons_zero, List.getD_cons_succ, binT, binTy, unT, Option.map_some, Option.map_none, guardT, List.getElem?_toArray, List.getElem?_cons_succ, List.getElem?_cons_zero, Option.bind_some, pickT, quietK, stripT, openT, Bool.not_or_self, reduceIte, true_and, and_true, and_self, beq_true, Bool.not_not, boxM, allocM, loadM, storeM, fieldAddrM, lenT, extractT, subM, setOb, T.get, T.setp, T.offs, T.nw, nwL, T.cel, T.isNd, T.size, sizeL, TyI.agg, Ty.agg, Ty.isFn, zeroT, List.map_cons, List.map_nil, List.take_succ_cons, List.take_zero, Nat.add_zero, Nat.zero_add, Bool.and_self, Bool.and_true, Bool.true_and, Nat.reduceLT, Nat.lt_add_one, Nat.zero_lt_one, Nat.reduceEqDiff, List.toList_toArray, sumT, kill, Y3, Y4, Y22, Y23, Y24, Y27, Y29, Y50, Y81]
  subst hy1
  trace_state
  exact SW.ret (show RetQ _ _ _ _ _ _ _ from ⟨.inr rfl, [_], [1], [_], _, rfl, rfl, rfl, rfl, rfl, rfl⟩)
end P1

namespace P1
open Go Go.Vm Go.Proofs
set_option maxRecDepth 10000
set_option linter.unusedSimpArgs false


def stepB (k n : Int) : Bool :=
  if k = 1 then decide (0 ≤ n) && decide (n ≤ 9) else if k = 2 ∨ k = 3 then n == 0 else if k = 4 then decide (1 ≤ n) && decide (n ≤ 99)
  else if k = 5 then decide (-1000000 ≤ n) && decide (n ≤ 1000000) else false
def step (k n : Int) : T := .nd [.int .i64 k, .int .i64 n]

theorem stepOk_ok (k n : Int) : CallR Try.prog 28 [.nd [.int .i64 k, .int .i64 n]] [] (.bool (stepB k n)) := by
  refine CallR.of_body (n := 26) (rs := [.tmp 2]) hY.ok Try.func28 rfl (by decide) rfl rfl rfl rfl (fun F => ?_)
  repeat' first
    | (refine SW.ops_seq hY fun y1 hy1 => ?_; simp only [k0, k1, k2, k3, k4, k5, k6, k7, k9, k10, k11, vopl_nil, grown_t, grown_f, after_f, after_t, after_u, isCall, callT, opM, S.ev, S.put, entryS, thawAL, thawA, RM.run, RM.bind, RM.ofOpt, allocs, Heap.ups, Heap.put, Heap.at, List.replicate, List.length_cons, List.length_nil, List.append_nil, List.nil_append, List.cons_append, Nat.reduceAdd, Nat.reduceSub, ofConst, nilAs, if_false, if_true, Bool.false_eq_true, List.set_cons_succ, List.set_cons_zero, List.getD_cons_zero, List.getD_cons_succ, binT, binTy, unT, Option.map_some, Option.map_none, guardT, List.getElem?_toArray, List.getElem?_cons_succ, List.getElem?_cons_zero, Option.bind_some, pickT, quietK, stripT, openT, Bool.not_or_self, reduceIte, true_and, and_true, and_self, beq_true, Bool.not_not, boxM, allocM, loadM, storeM, fieldAddrM, lenT, extractT, subM, setOb, T.get, T.setp, T.offs, T.nw, nwL, T.cel, T.isNd, T.size, sizeL, TyI.agg, Ty.agg, Ty.isFn, zeroT, List.map_cons, List.map_nil, List.take_succ_cons, List.take_zero, Nat.add_zero, Nat.zero_add, Bool.and_self, Bool.and_true, Bool.true_and, Nat.reduceLT, Nat.lt_add_one, Nat.zero_lt_one, Nat.reduceEqDiff, List.toList_toArray, sumT, kill, Y3, Y4, Y22, Y23, Y24, Y27, Y29, Y50, Y81]; subst hy1)
    | (refine SW.ops hY ?_; simp only [k0, k1, k2, k3, k4, k5, k6, k7, k9, k10, k11, vopl_nil, grown_t, grown_f, after_f, after_t, after_u, isCall, callT, opM, S.ev, S.put, entryS, thawAL, thawA, RM.run, RM.bind, RM.ofOpt, allocs, Heap.ups, Heap.put, Heap.at, List.replicate, List.length_cons, List.length_nil, List.append_nil, List.nil_append, List.cons_append, Nat.reduceAdd, Nat.reduceSub, ofConst, nilAs, if_false, if_true, Bool.false_eq_true, List.set_cons_succ, List.set_cons_zero, List.getD_cons_zero, List.getD_cons_succ, binT, binTy, unT, Option.map_some, Option.map_none, guardT, List.getElem?_toArray, List.getElem?_cons_succ, List.getElem?_cons_zero, Option.bind_some, pickT, quietK, stripT, openT, Bool.not_or_self, reduceIte, true_and, and_true, and_self, beq_true, Bool.not_not, boxM, allocM, loadM, storeM, fieldAddrM, lenT, extractT, subM, setOb, T.get, T.setp, T.offs, T.nw, nwL, T.cel, T.isNd, T.size, sizeL, TyI.agg, Ty.agg, Ty.isFn, zeroT, List.map_cons, List.map_nil, List.take_succ_cons, List.take_zero, Nat.add_zero, Nat.zero_add, Bool.and_self, Bool.and_true, Bool.true_and, Nat.reduceLT, Nat.lt_add_one, Nat.zero_lt_one, Nat.reduceEqDiff, List.toList_toArray, sumT, kill, Y3, Y4, Y22, Y23, Y24, Y27, Y29, Y50, Y81]; simp only [thenS, blockS, if_true, if_false, Nat.reduceEqDiff, reduceIte])
    | (refine vcall_to [] (in_ok _ _ _) rfl (by first | rfl | simp [pass2, lendM, lendA, lendAL, RM.bind, RM.run]) rfl rfl ?_; simp only [k0, k1, k2, k3, k4, k5, k6, k7, k9, k10, k11, vopl_nil, grown_t, grown_f, after_f, after_t, after_u, isCall, callT, opM, S.ev, S.put, entryS, thawAL, thawA, RM.run, RM.bind, RM.ofOpt, allocs, Heap.ups, Heap.put, Heap.at, List.replicate, List.length_cons, List.length_nil, List.append_nil, List.nil_append, List.cons_append, Nat.reduceAdd, Nat.reduceSub, ofConst, nilAs, if_false, if_true, Bool.false_eq_true, List.set_cons_succ, List.set_cons_zero, List.getD_cons_zero, List.getD_cons_succ, binT, binTy, unT, Option.map_some, Option.map_none, guardT, List.getElem?_toArray, List.getElem?_cons_succ, List.getElem?_cons_zero, Option.bind_some, pickT, quietK, stripT, openT, Bool.not_or_self, reduceIte, true_and, and_true, and_self, beq_true, Bool.not_not, boxM, allocM, loadM, storeM, fieldAddrM, lenT, extractT, subM, setOb, T.get, T.setp, T.offs, T.nw, nwL, T.cel, T.isNd, T.size, sizeL, TyI.agg, Ty.agg, Ty.isFn, zeroT, List.map_cons, List.map_nil, List.take_succ_cons, List.take_zero, Nat.add_zero, Nat.zero_add, Bool.and_self, Bool.and_true, Bool.true_and, Nat.reduceLT, Nat.lt_add_one, Nat.zero_lt_one, Nat.reduceEqDiff, List.toList_toArray, sumT, kill, Y3, Y4, Y22, Y23, Y24, Y27, Y29, Y50, Y81]; try simp only [thenS])
    | (simp only [k8]; refine ⟨fun hb => ?_, fun hb => ?_⟩ <;> (try replace hb := Bool.eq_false_iff.2 hb) <;> simp only [hb, k0, k1, k2, k3, k4, k5, k6, k7, k9, k10, k11, vopl_nil, grown_t, grown_f, after_f, after_t, after_u, isCall, callT, opM, S.ev, S.put, entryS, thawAL, thawA, RM.run, RM.bind, RM.ofOpt, allocs, Heap.ups, Heap.put, Heap.at, List.replicate, List.length_cons, List.length_nil, List.append_nil, List.nil_append, List.cons_append, Nat.reduceAdd, Nat.reduceSub, ofConst, nilAs, if_false, if_true, Bool.false_eq_true, List.set_cons_succ, List.set_cons_zero, List.getD_cons_zero, List.getD_cons_succ, binT, binTy, unT, Option.map_some, Option.map_none, guardT, List.getElem?_toArray, List.getElem?_cons_succ, List.getElem?_cons_zero, Option.bind_some, pickT, quietK, stripT, openT, Bool.not_or_self, reduceIte, true_and, and_true, and_self, beq_true, Bool.not_not, boxM, allocM, loadM, storeM, fieldAddrM, lenT, extractT, subM, setOb, T.get, T.setp, T.offs, T.nw, nwL, T.cel, T.isNd, T.size, sizeL, TyI.agg, Ty.agg, Ty.isFn, zeroT, List.map_cons, List.map_nil, List.take_succ_cons, List.take_zero, Nat.add_zero, Nat.zero_add, Bool.and_self, Bool.and_true, Bool.true_and, Nat.reduceLT, Nat.lt_add_one, Nat.zero_lt_one, Nat.reduceEqDiff, List.toList_toArray, sumT, kill, Y3, Y4, Y22, Y23, Y24, Y27, Y29, Y50, Y81])
    | refine SW.seq ?_
    | refine SW.block ?_
    | (refine SW.cond rfl (fun _ => ?_) (fun _ => ?_))
    | (refine SW.exit ?_; simp only [thenS, blockS, if_true, if_false, Nat.reduceEqDiff, reduceIte])
    | (refine SW.skip ?_; simp only [thenS, blockS])
    | refine SW.ret (show RetQ _ _ _ _ _ _ _ from ⟨.inr rfl, [_], [1], [_], _, rfl, rfl, rfl, rfl, rfl, ?_⟩)
  all_goals simp_all [tupOf, fixEs, stepB]
theorem l12Step_ok (k n : Int) : CallR Try.prog 22 [.nd [.int .i64 k, .int .i64 n]] [] (.bool (stepB k n)) := by
  refine CallR.of_body (n := 26) (rs := [.tmp 2]) hY.ok Try.func22 rfl (by decide) rfl rfl rfl rfl (fun F => ?_)
  repeat' first
    | (refine SW.ops_seq hY fun y1 hy1 => ?_; simp only [k0, k1, k2, k3, k4, k5, k6, k7, k9, k10, k11, vopl_nil, grown_t, grown_f, after_f, after_t, after_u, isCall, callT, opM, S.ev, S.put, entryS, thawAL, thawA, RM.run, RM.bind, RM.ofOpt, allocs, Heap.ups, Heap.put, Heap.at, List.replicate, List.length_cons, List.length_nil, List.append_nil, List.nil_append, List.cons_append, Nat.reduceAdd, Nat.reduceSub, ofConst, nilAs, if_false, if_true, Bool.false_eq_true, List.set_cons_succ, List.set_cons_zero, List.getD_cons_zero, List.getD_cons_succ, binT, binTy, unT, Option.map_some, Option.map_none, guardT, List.getElem?_toArray, List.getElem?_cons_succ, List.getElem?_cons_zero, Option.bind_some, pickT, quietK, stripT, openT, Bool.not_or_self, reduceIte, true_and, and_true, and_self, beq_true, Bool.not_not, boxM, allocM, loadM, storeM, fieldAddrM, lenT, extractT, subM, setOb, T.get, T.setp, T.offs, T.nw, nwL, T.cel, T.isNd, T.size, sizeL, TyI.agg, Ty.agg, Ty.isFn, zeroT, List.map_cons, List.map_nil, List.take_succ_cons, List.take_zero, Nat.add_zero, Nat.zero_add, Bool.and_self, Bool.and_true, Bool.true_and, Nat.reduceLT, Nat.lt_add_one, Nat.zero_lt_one, Nat.reduceEqDiff, List.toList_toArray, sumT, kill, Y3, Y4, Y22, Y23, Y24, Y27, Y29, Y50, Y81]; subst hy1)
    | (refine SW.ops hY ?_; simp only [k0, k1, k2, k3, k4, k5, k6, k7, k9, k10, k11, vopl_nil, grown_t, grown_f, after_f, after_t, after_u, isCall, callT, opM, S.ev, S.put, entryS, thawAL, thawA, RM.run, RM.bind, RM.ofOpt, allocs, Heap.ups, Heap.put, Heap.at, List.replicate, List.length_cons, List.length_nil, List.append_nil, List.nil_append, List.cons_append, Nat.reduceAdd, Nat.reduceSub, ofConst, nilAs, if_false, if_true, Bool.false_eq_true, List.set_cons_succ, List.set_cons_zero, List.getD_cons_zero, List.getD_cons_succ, binT, binTy, unT, Option.map_some, Option.map_none, guardT, List.getElem?_toArray, List.getElem?_cons_succ, List.getElem?_cons_zero, Option.bind_some, pickT, quietK, stripT, openT, Bool.not_or_self, reduceIte, true_and, and_true, and_self, beq_true, Bool.not_not, boxM, allocM, loadM, storeM, fieldAddrM, lenT, extractT, subM, setOb, T.get, T.setp, T.offs, T.nw, nwL, T.cel, T.isNd, T.size, sizeL, TyI.agg, Ty.agg, Ty.isFn, zeroT, List.map_cons, List.map_nil, List.take_succ_cons, List.take_zero, Nat.add_zero, Nat.zero_add, Bool.and_self, Bool.and_true, Bool.true_and, Nat.reduceLT, Nat.lt_add_one, Nat.zero_lt_one, Nat.reduceEqDiff, List.toList_toArray, sumT, kill, Y3, Y4, Y22, Y23, Y24, Y27, Y29, Y50, Y81]; simp only [thenS, blockS, if_true, if_false, Nat.reduceEqDiff, reduceIte])
    | (refine vcall_to [] (l1In_ok _ _ _) rfl (by first | rfl | simp [pass2, lendM, lendA, lendAL, RM.bind, RM.run]) rfl rfl ?_; simp only [k0, k1, k2, k3, k4, k5, k6, k7, k9, k10, k11, vopl_nil, grown_t, grown_f, after_f, after_t, after_u, isCall, callT, opM, S.ev, S.put, entryS, thawAL, thawA, RM.run, RM.bind, RM.ofOpt, allocs, Heap.ups, Heap.put, Heap.at, List.replicate, List.length_cons, List.length_nil, List.append_nil, List.nil_append, List.cons_append, Nat.reduceAdd, Nat.reduceSub, ofConst, nilAs, if_false, if_true, Bool.false_eq_true, List.set_cons_succ, List.set_cons_zero, List.getD_cons_zero, List.getD_cons_succ, binT, binTy, unT, Option.map_some, Option.map_none, guardT, List.getElem?_toArray, List.getElem?_cons_succ, List.getElem?_cons_zero, Option.bind_some, pickT, quietK, stripT, openT, Bool.not_or_self, reduceIte, true_and, and_true, and_self, beq_true, Bool.not_not, boxM, allocM, loadM, storeM, fieldAddrM, lenT, extractT, subM, setOb, T.get, T.setp, T.offs, T.nw, nwL, T.cel, T.isNd, T.size, sizeL, TyI.agg, Ty.agg, Ty.isFn, zeroT, List.map_cons, List.map_nil, List.take_succ_cons, List.take_zero, Nat.add_zero, Nat.zero_add, Bool.and_self, Bool.and_true, Bool.true_and, Nat.reduceLT, Nat.lt_add_one, Nat.zero_lt_one, Nat.reduceEqDiff, List.toList_toArray, sumT, kill, Y3, Y4, Y22, Y23, Y24, Y27, Y29, Y50, Y81]; try simp only [thenS])
    | (simp only [k8]; refine ⟨fun hb => ?_, fun hb => ?_⟩ <;> (try replace hb := Bool.eq_false_iff.2 hb) <;> simp only [hb, k0, k1, k2, k3, k4, k5, k6, k7, k9, k10, k11, vopl_nil, grown_t, grown_f, after_f, after_t, after_u, isCall, callT, opM, S.ev, S.put, entryS, thawAL, thawA, RM.run, RM.bind, RM.ofOpt, allocs, Heap.ups, Heap.put, Heap.at, List.replicate, List.length_cons, List.length_nil, List.append_nil, List.nil_append, List.cons_append, Nat.reduceAdd, Nat.reduceSub, ofConst, nilAs, if_false, if_true, Bool.false_eq_true, List.set_cons_succ, List.set_cons_zero, List.getD_cons_zero, List.getD_cons_succ, binT, binTy, unT, Option.map_some, Option.map_none, guardT, List.getElem?_toArray, List.getElem?_cons_succ, List.getElem?_cons_zero, Option.bind_some, pickT, quietK, stripT, openT, Bool.not_or_self, reduceIte, true_and, and_true, and_self, beq_true, Bool.not_not, boxM, allocM, loadM, storeM, fieldAddrM, lenT, extractT, subM, setOb, T.get, T.setp, T.offs, T.nw, nwL, T.cel, T.isNd, T.size, sizeL, TyI.agg, Ty.agg, Ty.isFn, zeroT, List.map_cons, List.map_nil, List.take_succ_cons, List.take_zero, Nat.add_zero, Nat.zero_add, Bool.and_self, Bool.and_true, Bool.true_and, Nat.reduceLT, Nat.lt_add_one, Nat.zero_lt_one, Nat.reduceEqDiff, List.toList_toArray, sumT, kill, Y3, Y4, Y22, Y23, Y24, Y27, Y29, Y50, Y81])
    | refine SW.seq ?_
    | refine SW.block ?_
    | (refine SW.cond rfl (fun _ => ?_) (fun _ => ?_))
    | (refine SW.exit ?_; simp only [thenS, blockS, if_true, if_false, Nat.reduceEqDiff, reduceIte])
    | (refine SW.skip ?_; simp only [thenS, blockS])
    | refine SW.ret (show RetQ _ _ _ _ _ _ _ from ⟨.inr rfl, [_], [1], [_], _, rfl, rfl, rfl, rfl, rfl, ?_⟩)
  all_goals simp_all [tupOf, fixEs, stepB]
end P1

namespace P1
open Go Go.Vm Go.Proofs
set_option maxRecDepth 10000
set_option linter.unusedSimpArgs false


def steps (l : List (Int × Int)) : List T := l.map fun p => .nd [.int .i64 p.1, .int .i64 p.2]
theorem steps_get (l : List (Int × Int)) (i : Nat) (h : i < l.length) : (steps l)[i]? = some (.nd [.int .i64 l[i].1, .int .i64 l[i].2]) := by simp [steps, h]
theorem lendAL_steps (k : T → RM T) : ∀ l : List (Int × Int), lendAL k (steps l) = .pure (steps l)
  | [] => rfl
  | p :: l => by
    have := lendAL_steps k l
    simp only [steps, List.map_cons, lendAL, lendA, RM.bind] at this ⊢
    rw [this]; rfl
theorem steps_len (l : List (Int × Int)) : (steps l).length = l.length := by simp [steps]
def idxStep (l : List (Int × Int)) : Int := match l.findIdx? (fun p => !stepB p.1 p.2) with | some i => i | none => -1

theorem notStep_ok (k n : Int) : CallR Try.prog 27 [.nd [.int .i64 k, .int .i64 n]] [] (.bool (!stepB k n)) := by
  refine CallR.of_body (n := 6) (rs := [.tmp 2]) hY.ok Try.func27 rfl (by decide) rfl rfl rfl rfl (fun F => ?_)
  repeat' first
    | (refine SW.ops_seq hY fun y1 hy1 => ?_; simp only [k0, k1, k2, k3, k4, k5, k6, k7, k9, k10, k11, vopl_nil, grown_t, grown_f, after_f, after_t, after_u, isCall, callT, opM, S.ev, S.put, entryS, thawAL, thawA, RM.run, RM.bind, RM.ofOpt, allocs, Heap.ups, Heap.put, Heap.at, List.replicate, List.length_cons, List.length_nil, List.append_nil, List.nil_append, List.cons_append, Nat.reduceAdd, Nat.reduceSub, ofConst, nilAs, if_false, if_true, Bool.false_eq_true, List.set_cons_succ, List.set_cons_zero, List.getD_cons_zero, List.getD_cons_succ, binT, binTy, unT, Option.map_some, Option.map_none, guardT, List.getElem?_toArray, List.getElem?_cons_succ, List.getElem?_cons_zero, Option.bind_some, pickT, quietK, stripT, openT, Bool.not_or_self, reduceIte, true_and, and_true, and_self, beq_true, Bool.not_not, boxM, allocM, loadM, storeM, fieldAddrM, lenT, extractT, subM, setOb, T.get, T.setp, T.offs, T.nw, nwL, T.cel, T.isNd, T.size, sizeL, TyI.agg, Ty.agg, Ty.isFn, zeroT, List.map_cons, List.map_nil, List.take_succ_cons, List.take_zero, Nat.add_zero, Nat.zero_add, Bool.and_self, Bool.and_true, Bool.true_and, Nat.reduceLT, Nat.lt_add_one, Nat.zero_lt_one, Nat.reduceEqDiff, List.toList_toArray, sumT, kill, Y3, Y4, Y22, Y23, Y24, Y27, Y29, Y50, Y81]; subst hy1)
    | (refine SW.ops hY ?_; simp only [k0, k1, k2, k3, k4, k5, k6, k7, k9, k10, k11, vopl_nil, grown_t, grown_f, after_f, after_t, after_u, isCall, callT, opM, S.ev, S.put, entryS, thawAL, thawA, RM.run, RM.bind, RM.ofOpt, allocs, Heap.ups, Heap.put, Heap.at, List.replicate, List.length_cons, List.length_nil, List.append_nil, List.nil_append, List.cons_append, Nat.reduceAdd, Nat.reduceSub, ofConst, nilAs, if_false, if_true, Bool.false_eq_true, List.set_cons_succ, List.set_cons_zero, List.getD_cons_zero, List.getD_cons_succ, binT, binTy, unT, Option.map_some, Option.map_none, guardT, List.getElem?_toArray, List.getElem?_cons_succ, List.getElem?_cons_zero, Option.bind_some, pickT, quietK, stripT, openT, Bool.not_or_self, reduceIte, true_and, and_true, and_self, beq_true, Bool.not_not, boxM, allocM, loadM, storeM, fieldAddrM, lenT, extractT, subM, setOb, T.get, T.setp, T.offs, T.nw, nwL, T.cel, T.isNd, T.size, sizeL, TyI.agg, Ty.agg, Ty.isFn, zeroT, List.map_cons, List.map_nil, List.take_succ_cons, List.take_zero, Nat.add_zero, Nat.zero_add, Bool.and_self, Bool.and_true, Bool.true_and, Nat.reduceLT, Nat.lt_add_one, Nat.zero_lt_one, Nat.reduceEqDiff, List.toList_toArray, sumT, kill, Y3, Y4, Y22, Y23, Y24, Y27, Y29, Y50, Y81]; simp only [thenS, blockS, if_true, if_false, Nat.reduceEqDiff, reduceIte])
    | (refine vcall_to [] (stepOk_ok _ _) rfl (by first | rfl | simp [pass2, lendM, lendA, lendAL, lendAL_steps, RM.bind, RM.run]) rfl rfl ?_; simp only [k0, k1, k2, k3, k4, k5, k6, k7, k9, k10, k11, vopl_nil, grown_t, grown_f, after_f, after_t, after_u, isCall, callT, opM, S.ev, S.put, entryS, thawAL, thawA, RM.run, RM.bind, RM.ofOpt, allocs, Heap.ups, Heap.put, Heap.at, List.replicate, List.length_cons, List.length_nil, List.append_nil, List.nil_append, List.cons_append, Nat.reduceAdd, Nat.reduceSub, ofConst, nilAs, if_false, if_true, Bool.false_eq_true, List.set_cons_succ, List.set_cons_zero, List.getD_cons_zero, List.getD_cons_succ, binT, binTy, unT, Option.map_some, Option.map_none, guardT, List.getElem?_toArray, List.getElem?_cons_succ, List.getElem?_cons_zero, Option.bind_some, pickT, quietK, stripT, openT, Bool.not_or_self, reduceIte, true_and, and_true, and_self, beq_true, Bool.not_not, boxM, allocM, loadM, storeM, fieldAddrM, lenT, extractT, subM, setOb, T.get, T.setp, T.offs, T.nw, nwL, T.cel, T.isNd, T.size, sizeL, TyI.agg, Ty.agg, Ty.isFn, zeroT, List.map_cons, List.map_nil, List.take_succ_cons, List.take_zero, Nat.add_zero, Nat.zero_add, Bool.and_self, Bool.and_true, Bool.true_and, Nat.reduceLT, Nat.lt_add_one, Nat.zero_lt_one, Nat.reduceEqDiff, List.toList_toArray, sumT, kill, Y3, Y4, Y22, Y23, Y24, Y27, Y29, Y50, Y81]; try simp only [thenS])
    | (simp only [k8]; refine ⟨fun hb => ?_, fun hb => ?_⟩ <;> (try replace hb := Bool.eq_false_iff.2 hb) <;> simp only [hb, k0, k1, k2, k3, k4, k5, k6, k7, k9, k10, k11, vopl_nil, grown_t, grown_f, after_f, after_t, after_u, isCall, callT, opM, S.ev, S.put, entryS, thawAL, thawA, RM.run, RM.bind, RM.ofOpt, allocs, Heap.ups, Heap.put, Heap.at, List.replicate, List.length_cons, List.length_nil, List.append_nil, List.nil_append, List.cons_append, Nat.reduceAdd, Nat.reduceSub, ofConst, nilAs, if_false, if_true, Bool.false_eq_true, List.set_cons_succ, List.set_cons_zero, List.getD_cons_zero, List.getD_cons_succ, binT, binTy, unT, Option.map_some, Option.map_none, guardT, List.getElem?_toArray, List.getElem?_cons_succ, List.getElem?_cons_zero, Option.bind_some, pickT, quietK, stripT, openT, Bool.not_or_self, reduceIte, true_and, and_true, and_self, beq_true, Bool.not_not, boxM, allocM, loadM, storeM, fieldAddrM, lenT, extractT, subM, setOb, T.get, T.setp, T.offs, T.nw, nwL, T.cel, T.isNd, T.size, sizeL, TyI.agg, Ty.agg, Ty.isFn, zeroT, List.map_cons, List.map_nil, List.take_succ_cons, List.take_zero, Nat.add_zero, Nat.zero_add, Bool.and_self, Bool.and_true, Bool.true_and, Nat.reduceLT, Nat.lt_add_one, Nat.zero_lt_one, Nat.reduceEqDiff, List.toList_toArray, sumT, kill, Y3, Y4, Y22, Y23, Y24, Y27, Y29, Y50, Y81])
    | refine SW.seq ?_
    | refine SW.block ?_
    | (refine SW.cond rfl (fun _ => ?_) (fun _ => ?_))
    | (refine SW.exit ?_; simp only [thenS, blockS, if_true, if_false, Nat.reduceEqDiff, reduceIte])
    | (refine SW.skip ?_; simp only [thenS, blockS])
    | refine SW.ret (show RetQ _ _ _ _ _ _ _ from ⟨.inr rfl, [_], [1], [_], _, rfl, rfl, rfl, rfl, rfl, ?_⟩)
  all_goals simp_all [tupOf, fixEs]
theorem index_ok (l : List (Int × Int)) (hl : l.length ≤ 1099511627776) : CallR Try.prog 49 [.sl .b (steps l), .fn 27 [] []] [] (.int .i64 (idxStep l)) := by
  refine CallR.of_body (n := 19) (rs := [.tmp 4]) hY.ok Try.func49 rfl (by decide) rfl rfl rfl rfl (fun F => ?_)
  repeat' first
    | (refine SW.ops_seq hY fun y1 hy1 => ?_; simp only [eq_self, Int.natCast_nonneg, Int.toNat_natCast, List.length_map, indexAddrM, steps_len, k0, k1, k2, k3, k4, k5, k6, k7, k9, k10, k11, vopl_nil, grown_t, grown_f, after_f, after_t, after_u, isCall, callT, opM, S.ev, S.put, entryS, thawAL, thawA, RM.run, RM.bind, RM.ofOpt, allocs, Heap.ups, Heap.put, Heap.at, List.replicate, List.length_cons, List.length_nil, List.append_nil, List.nil_append, List.cons_append, Nat.reduceAdd, Nat.reduceSub, ofConst, nilAs, if_false, if_true, Bool.false_eq_true, List.set_cons_succ, List.set_cons_zero, List.getD_cons_zero, List.getD_cons_succ, binT, binTy, unT, Option.map_some, Option.map_none, guardT, List.getElem?_toArray, List.getElem?_cons_succ, List.getElem?_cons_zero, Option.bind_some, pickT, quietK, stripT, openT, Bool.not_or_self, reduceIte, true_and, and_true, and_self, beq_true, Bool.not_not, boxM, allocM, loadM, storeM, fieldAddrM, lenT, extractT, subM, setOb, T.get, T.setp, T.offs, T.nw, nwL, T.cel, T.isNd, T.size, sizeL, TyI.agg, Ty.agg, Ty.isFn, zeroT, List.map_cons, List.map_nil, List.take_succ_cons, List.take_zero, Nat.add_zero, Nat.zero_add, Bool.and_self, Bool.and_true, Bool.true_and, Nat.reduceLT, Nat.lt_add_one, Nat.zero_lt_one, Nat.reduceEqDiff, List.toList_toArray, sumT, kill, Y3, Y4, Y22, Y23, Y24, Y27, Y29, Y50, Y81]; subst hy1)
    | (refine SW.ops hY ?_; simp only [eq_self, Int.natCast_nonneg, Int.toNat_natCast, List.length_map, indexAddrM, steps_len, k0, k1, k2, k3, k4, k5, k6, k7, k9, k10, k11, vopl_nil, grown_t, grown_f, after_f, after_t, after_u, isCall, callT, opM, S.ev, S.put, entryS, thawAL, thawA, RM.run, RM.bind, RM.ofOpt, allocs, Heap.ups, Heap.put, Heap.at, List.replicate, List.length_cons, List.length_nil, List.append_nil, List.nil_append, List.cons_append, Nat.reduceAdd, Nat.reduceSub, ofConst, nilAs, if_false, if_true, Bool.false_eq_true, List.set_cons_succ, List.set_cons_zero, List.getD_cons_zero, List.getD_cons_succ, binT, binTy, unT, Option.map_some, Option.map_none, guardT, List.getElem?_toArray, List.getElem?_cons_succ, List.getElem?_cons_zero, Option.bind_some, pickT, quietK, stripT, openT, Bool.not_or_self, reduceIte, true_and, and_true, and_self, beq_true, Bool.not_not, boxM, allocM, loadM, storeM, fieldAddrM, lenT, extractT, subM, setOb, T.get, T.setp, T.offs, T.nw, nwL, T.cel, T.isNd, T.size, sizeL, TyI.agg, Ty.agg, Ty.isFn, zeroT, List.map_cons, List.map_nil, List.take_succ_cons, List.take_zero, Nat.add_zero, Nat.zero_add, Bool.and_self, Bool.and_true, Bool.true_and, Nat.reduceLT, Nat.lt_add_one, Nat.zero_lt_one, Nat.reduceEqDiff, List.toList_toArray, sumT, kill, Y3, Y4, Y22, Y23, Y24, Y27, Y29, Y50, Y81]; simp only [thenS, blockS, if_true, if_false, Nat.reduceEqDiff, reduceIte])
    | (simp only [k8]; refine ⟨fun hb => ?_, fun hb => ?_⟩ <;> (try replace hb := Bool.eq_false_iff.2 hb) <;> simp only [hb, eq_self, Int.natCast_nonneg, Int.toNat_natCast, List.length_map, indexAddrM, steps_len, k0, k1, k2, k3, k4, k5, k6, k7, k9, k10, k11, vopl_nil, grown_t, grown_f, after_f, after_t, after_u, isCall, callT, opM, S.ev, S.put, entryS, thawAL, thawA, RM.run, RM.bind, RM.ofOpt, allocs, Heap.ups, Heap.put, Heap.at, List.replicate, List.length_cons, List.length_nil, List.append_nil, List.nil_append, List.cons_append, Nat.reduceAdd, Nat.reduceSub, ofConst, nilAs, if_false, if_true, Bool.false_eq_true, List.set_cons_succ, List.set_cons_zero, List.getD_cons_zero, List.getD_cons_succ, binT, binTy, unT, Option.map_some, Option.map_none, guardT, List.getElem?_toArray, List.getElem?_cons_succ, List.getElem?_cons_zero, Option.bind_some, pickT, quietK, stripT, openT, Bool.not_or_self, reduceIte, true_and, and_true, and_self, beq_true, Bool.not_not, boxM, allocM, loadM, storeM, fieldAddrM, lenT, extractT, subM, setOb, T.get, T.setp, T.offs, T.nw, nwL, T.cel, T.isNd, T.size, sizeL, TyI.agg, Ty.agg, Ty.isFn, zeroT, List.map_cons, List.map_nil, List.take_succ_cons, List.take_zero, Nat.add_zero, Nat.zero_add, Bool.and_self, Bool.and_true, Bool.true_and, Nat.reduceLT, Nat.lt_add_one, Nat.zero_lt_one, Nat.reduceEqDiff, List.toList_toArray, sumT, kill, Y3, Y4, Y22, Y23, Y24, Y27, Y29, Y50, Y81])
    | refine SW.seq ?_
    | refine SW.block ?_
    | (refine SW.cond rfl (fun _ => ?_) (fun _ => ?_))
    | (refine SW.exit ?_; simp only [thenS, blockS, if_true, if_false, Nat.reduceEqDiff, reduceIte])
    | (refine SW.skip ?_; simp only [thenS, blockS])
    | refine SW.ret (show RetQ _ _ _ _ _ _ _ from ⟨.inr rfl, [_], [1], [_], _, rfl, rfl, rfl, rfl, rfl, ?_⟩)
  refine SW.loop (fun i : Nat => ⟨[.sl .b (steps l), .fn 27 [] [], .undef, .undef, .int .i64 0, .undef, .sl .b (steps l), .int .i64 l.length, .int .i64 i, .undef, .undef, .undef, .undef, .undef, .undef, .undef, .undef, .undef, .undef], [[]]⟩)
    (fun n i => n = l.length - i ∧ i ≤ l.length ∧ ∀ j (h : j < l.length), j < i → stepB l[j].1 l[j].2 = true) (n := l.length) (x := 0) (Norm.to 0 rfl (by simp [weakL])) ⟨rfl, Nat.zero_le _, fun j _ h => absurd h (Nat.not_lt_zero _)⟩ ?_
  rintro n i ⟨hn, hi, hp⟩
  refine SW.ops_seq hY fun y1 hy1 => ?_
  simp only [eq_self, Int.natCast_nonneg, Int.toNat_natCast, List.length_map, indexAddrM, steps_len, k0, k1, k2, k3, k4, k5, k6, k7, k9, k10, k11, vopl_nil, grown_t, grown_f, after_f, after_t, after_u, isCall, callT, opM, S.ev, S.put, entryS, thawAL, thawA, RM.run, RM.bind, RM.ofOpt, allocs, Heap.ups, Heap.put, Heap.at, List.replicate, List.length_cons, List.length_nil, List.append_nil, List.nil_append, List.cons_append, Nat.reduceAdd, Nat.reduceSub, ofConst, nilAs, if_false, if_true, Bool.false_eq_true, List.set_cons_succ, List.set_cons_zero, List.getD_cons_zero, List.getD_cons_succ, binT, binTy, unT, Option.map_some, Option.map_none, guardT, List.getElem?_toArray, List.getElem?_cons_succ, List.getElem?_cons_zero, Option.bind_some, pickT, quietK, stripT, openT, Bool.not_or_self, reduceIte, true_and, and_true, and_self, beq_true, Bool.not_not, boxM, allocM, loadM, storeM, fieldAddrM, lenT, extractT, subM, setOb, T.get, T.setp, T.offs, T.nw, nwL, T.cel, T.isNd, T.size, sizeL, TyI.agg, Ty.agg, Ty.isFn, zeroT, List.map_cons, List.map_nil, List.take_succ_cons, List.take_zero, Nat.add_zero, Nat.zero_add, Bool.and_self, Bool.and_true, Bool.true_and, Nat.reduceLT, Nat.lt_add_one, Nat.zero_lt_one, Nat.reduceEqDiff, List.toList_toArray, sumT, kill, Y3, Y4, Y22, Y23, Y24, Y27, Y29, Y50, Y81]
  subst hy1
  refine SW.seq ?_
  refine SW.cond rfl (fun hc => ?_) (fun hc => ?_)
  · have hlt : i < l.length := by simpa using hc
    repeat' first
      | (refine SW.ops_seq hY fun y1 hy1 => ?_; simp only [steps_get l i hlt, eq_self, Int.natCast_nonneg, Int.toNat_natCast, List.length_map, indexAddrM, steps_len, k0, k1, k2, k3, k4, k5, k6, k7, k9, k10, k11, vopl_nil, grown_t, grown_f, after_f, after_t, after_u, isCall, callT, opM, S.ev, S.put, entryS, thawAL, thawA, RM.run, RM.bind, RM.ofOpt, allocs, Heap.ups, Heap.put, Heap.at, List.replicate, List.length_cons, List.length_nil, List.append_nil, List.nil_append, List.cons_append, Nat.reduceAdd, Nat.reduceSub, ofConst, nilAs, if_false, if_true, Bool.false_eq_true, List.set_cons_succ, List.set_cons_zero, List.getD_cons_zero, List.getD_cons_succ, binT, binTy, unT, Option.map_some, Option.map_none, guardT, List.getElem?_toArray, List.getElem?_cons_succ, List.getElem?_cons_zero, Option.bind_some, pickT, quietK, stripT, openT, Bool.not_or_self, reduceIte, true_and, and_true, and_self, beq_true, Bool.not_not, boxM, allocM, loadM, storeM, fieldAddrM, lenT, extractT, subM, setOb, T.get, T.setp, T.offs, T.nw, nwL, T.cel, T.isNd, T.size, sizeL, TyI.agg, Ty.agg, Ty.isFn, zeroT, List.map_cons, List.map_nil, List.take_succ_cons, List.take_zero, Nat.add_zero, Nat.zero_add, Bool.and_self, Bool.and_true, Bool.true_and, Nat.reduceLT, Nat.lt_add_one, Nat.zero_lt_one, Nat.reduceEqDiff, List.toList_toArray, sumT, kill, Y3, Y4, Y22, Y23, Y24, Y27, Y29, Y50, Y81]; subst hy1)
      | (refine SW.ops hY ?_; simp only [steps_get l i hlt, eq_self, Int.natCast_nonneg, Int.toNat_natCast, List.length_map, indexAddrM, steps_len, k0, k1, k2, k3, k4, k5, k6, k7, k9, k10, k11, vopl_nil, grown_t, grown_f, after_f, after_t, after_u, isCall, callT, opM, S.ev, S.put, entryS, thawAL, thawA, RM.run, RM.bind, RM.ofOpt, allocs, Heap.ups, Heap.put, Heap.at, List.replicate, List.length_cons, List.length_nil, List.append_nil, List.nil_append, List.cons_append, Nat.reduceAdd, Nat.reduceSub, ofConst, nilAs, if_false, if_true, Bool.false_eq_true, List.set_cons_succ, List.set_cons_zero, List.getD_cons_zero, List.getD_cons_succ, binT, binTy, unT, Option.map_some, Option.map_none, guardT, List.getElem?_toArray, List.getElem?_cons_succ, List.getElem?_cons_zero, Option.bind_some, pickT, quietK, stripT, openT, Bool.not_or_self, reduceIte, true_and, and_true, and_self, beq_true, Bool.not_not, boxM, allocM, loadM, storeM, fieldAddrM, lenT, extractT, subM, setOb, T.get, T.setp, T.offs, T.nw, nwL, T.cel, T.isNd, T.size, sizeL, TyI.agg, Ty.agg, Ty.isFn, zeroT, List.map_cons, List.map_nil, List.take_succ_cons, List.take_zero, Nat.add_zero, Nat.zero_add, Bool.and_self, Bool.and_true, Bool.true_and, Nat.reduceLT, Nat.lt_add_one, Nat.zero_lt_one, Nat.reduceEqDiff, List.toList_toArray, sumT, kill, Y3, Y4, Y22, Y23, Y24, Y27, Y29, Y50, Y81]; simp only [thenS, blockS, if_true, if_false, Nat.reduceEqDiff, reduceIte])
      | (refine vcall_to [] (notStep_ok _ _) rfl (by first | rfl | simp [pass2, lendM, lendA, lendAL, lendAL_steps, RM.bind, RM.run]) rfl rfl ?_; simp only [steps_get l i hlt, eq_self, Int.natCast_nonneg, Int.toNat_natCast, List.length_map, indexAddrM, steps_len, k0, k1, k2, k3, k4, k5, k6, k7, k9, k10, k11, vopl_nil, grown_t, grown_f, after_f, after_t, after_u, isCall, callT, opM, S.ev, S.put, entryS, thawAL, thawA, RM.run, RM.bind, RM.ofOpt, allocs, Heap.ups, Heap.put, Heap.at, List.replicate, List.length_cons, List.length_nil, List.append_nil, List.nil_append, List.cons_append, Nat.reduceAdd, Nat.reduceSub, ofConst, nilAs, if_false, if_true, Bool.false_eq_true, List.set_cons_succ, List.set_cons_zero, List.getD_cons_zero, List.getD_cons_succ, binT, binTy, unT, Option.map_some, Option.map_none, guardT, List.getElem?_toArray, List.getElem?_cons_succ, List.getElem?_cons_zero, Option.bind_some, pickT, quietK, stripT, openT, Bool.not_or_self, reduceIte, true_and, and_true, and_self, beq_true, Bool.not_not, boxM, allocM, loadM, storeM, fieldAddrM, lenT, extractT, subM, setOb, T.get, T.setp, T.offs, T.nw, nwL, T.cel, T.isNd, T.size, sizeL, TyI.agg, Ty.agg, Ty.isFn, zeroT, List.map_cons, List.map_nil, List.take_succ_cons, List.take_zero, Nat.add_zero, Nat.zero_add, Bool.and_self, Bool.and_true, Bool.true_and, Nat.reduceLT, Nat.lt_add_one, Nat.zero_lt_one, Nat.reduceEqDiff, List.toList_toArray, sumT, kill, Y3, Y4, Y22, Y23, Y24, Y27, Y29, Y50, Y81]; try simp only [thenS])
      | (simp only [k8]; refine ⟨fun hb => ?_, fun hb => ?_⟩ <;> (try replace hb := Bool.eq_false_iff.2 hb) <;> simp only [hb, steps_get l i hlt, eq_self, Int.natCast_nonneg, Int.toNat_natCast, List.length_map, indexAddrM, steps_len, k0, k1, k2, k3, k4, k5, k6, k7, k9, k10, k11, vopl_nil, grown_t, grown_f, after_f, after_t, after_u, isCall, callT, opM, S.ev, S.put, entryS, thawAL, thawA, RM.run, RM.bind, RM.ofOpt, allocs, Heap.ups, Heap.put, Heap.at, List.replicate, List.length_cons, List.length_nil, List.append_nil, List.nil_append, List.cons_append, Nat.reduceAdd, Nat.reduceSub, ofConst, nilAs, if_false, if_true, Bool.false_eq_true, List.set_cons_succ, List.set_cons_zero, List.getD_cons_zero, List.getD_cons_succ, binT, binTy, unT, Option.map_some, Option.map_none, guardT, List.getElem?_toArray, List.getElem?_cons_succ, List.getElem?_cons_zero, Option.bind_some, pickT, quietK, stripT, openT, Bool.not_or_self, reduceIte, true_and, and_true, and_self, beq_true, Bool.not_not, boxM, allocM, loadM, storeM, fieldAddrM, lenT, extractT, subM, setOb, T.get, T.setp, T.offs, T.nw, nwL, T.cel, T.isNd, T.size, sizeL, TyI.agg, Ty.agg, Ty.isFn, zeroT, List.map_cons, List.map_nil, List.take_succ_cons, List.take_zero, Nat.add_zero, Nat.zero_add, Bool.and_self, Bool.and_true, Bool.true_and, Nat.reduceLT, Nat.lt_add_one, Nat.zero_lt_one, Nat.reduceEqDiff, List.toList_toArray, sumT, kill, Y3, Y4, Y22, Y23, Y24, Y27, Y29, Y50, Y81])
      | refine SW.seq ?_
      | refine SW.block ?_
      | (refine SW.cond rfl (fun _ => ?_) (fun _ => ?_))
      | (refine SW.exit ?_; simp only [thenS, blockS, if_true, if_false, Nat.reduceEqDiff, reduceIte])
      | (refine SW.skip ?_; simp only [thenS, blockS])
      | refine SW.ret (show RetQ _ _ _ _ _ _ _ from ⟨.inr rfl, [_], [1], [_], _, rfl, rfl, rfl, rfl, rfl, ?_⟩)
    · rename_i hx
      have hf : l.findIdx? (fun p => !stepB p.1 p.2) = some i := List.findIdx?_eq_some_iff_getElem.2 ⟨hlt, by simpa using hx, fun j hj => by simpa using hp j (by omega) hj⟩
      simp [tupOf, fixEs, idxStep, hf]
    · rename_i hx
      refine ⟨n - 1, i + 1, by omega, ⟨by omega, by omega, fun j hj hji => ?_⟩, ?_⟩
      · by_cases he : j = i
        · subst he; simpa using hx
        · exact hp j hj (by omega)
      · rw [wrap64 _ (by omega) (by omega)]
        exact Norm.to 1 rfl (by simp [weakL])
  · have hge : i = l.length := by have : ¬ i < l.length := by simpa using hc
                                  omega
    repeat' first
      | (refine SW.ops_seq hY fun y1 hy1 => ?_; simp only [eq_self, Int.natCast_nonneg, Int.toNat_natCast, List.length_map, indexAddrM, steps_len, k0, k1, k2, k3, k4, k5, k6, k7, k9, k10, k11, vopl_nil, grown_t, grown_f, after_f, after_t, after_u, isCall, callT, opM, S.ev, S.put, entryS, thawAL, thawA, RM.run, RM.bind, RM.ofOpt, allocs, Heap.ups, Heap.put, Heap.at, List.replicate, List.length_cons, List.length_nil, List.append_nil, List.nil_append, List.cons_append, Nat.reduceAdd, Nat.reduceSub, ofConst, nilAs, if_false, if_true, Bool.false_eq_true, List.set_cons_succ, List.set_cons_zero, List.getD_cons_zero, List.getD_cons_succ, binT, binTy, unT, Option.map_some, Option.map_none, guardT, List.getElem?_toArray, List.getElem?_cons_succ, List.getElem?_cons_zero, Option.bind_some, pickT, quietK, stripT, openT, Bool.not_or_self, reduceIte, true_and, and_true, and_self, beq_true, Bool.not_not, boxM, allocM, loadM, storeM, fieldAddrM, lenT, extractT, subM, setOb, T.get, T.setp, T.offs, T.nw, nwL, T.cel, T.isNd, T.size, sizeL, TyI.agg, Ty.agg, Ty.isFn, zeroT, List.map_cons, List.map_nil, List.take_succ_cons, List.take_zero, Nat.add_zero, Nat.zero_add, Bool.and_self, Bool.and_true, Bool.true_and, Nat.reduceLT, Nat.lt_add_one, Nat.zero_lt_one, Nat.reduceEqDiff, List.toList_toArray, sumT, kill, Y3, Y4, Y22, Y23, Y24, Y27, Y29, Y50, Y81]; subst hy1)
      | (refine SW.ops hY ?_; simp only [eq_self, Int.natCast_nonneg, Int.toNat_natCast, List.length_map, indexAddrM, steps_len, k0, k1, k2, k3, k4, k5, k6, k7, k9, k10, k11, vopl_nil, grown_t, grown_f, after_f, after_t, after_u, isCall, callT, opM, S.ev, S.put, entryS, thawAL, thawA, RM.run, RM.bind, RM.ofOpt, allocs, Heap.ups, Heap.put, Heap.at, List.replicate, List.length_cons, List.length_nil, List.append_nil, List.nil_append, List.cons_append, Nat.reduceAdd, Nat.reduceSub, ofConst, nilAs, if_false, if_true, Bool.false_eq_true, List.set_cons_succ, List.set_cons_zero, List.getD_cons_zero, List.getD_cons_succ, binT, binTy, unT, Option.map_some, Option.map_none, guardT, List.getElem?_toArray, List.getElem?_cons_succ, List.getElem?_cons_zero, Option.bind_some, pickT, quietK, stripT, openT, Bool.not_or_self, reduceIte, true_and, and_true, and_self, beq_true, Bool.not_not, boxM, allocM, loadM, storeM, fieldAddrM, lenT, extractT, subM, setOb, T.get, T.setp, T.offs, T.nw, nwL, T.cel, T.isNd, T.size, sizeL, TyI.agg, Ty.agg, Ty.isFn, zeroT, List.map_cons, List.map_nil, List.take_succ_cons, List.take_zero, Nat.add_zero, Nat.zero_add, Bool.and_self, Bool.and_true, Bool.true_and, Nat.reduceLT, Nat.lt_add_one, Nat.zero_lt_one, Nat.reduceEqDiff, List.toList_toArray, sumT, kill, Y3, Y4, Y22, Y23, Y24, Y27, Y29, Y50, Y81]; simp only [thenS, blockS, if_true, if_false, Nat.reduceEqDiff, reduceIte])
      | (simp only [k8]; refine ⟨fun hb => ?_, fun hb => ?_⟩ <;> (try replace hb := Bool.eq_false_iff.2 hb) <;> simp only [hb, eq_self, Int.natCast_nonneg, Int.toNat_natCast, List.length_map, indexAddrM, steps_len, k0, k1, k2, k3, k4, k5, k6, k7, k9, k10, k11, vopl_nil, grown_t, grown_f, after_f, after_t, after_u, isCall, callT, opM, S.ev, S.put, entryS, thawAL, thawA, RM.run, RM.bind, RM.ofOpt, allocs, Heap.ups, Heap.put, Heap.at, List.replicate, List.length_cons, List.length_nil, List.append_nil, List.nil_append, List.cons_append, Nat.reduceAdd, Nat.reduceSub, ofConst, nilAs, if_false, if_true, Bool.false_eq_true, List.set_cons_succ, List.set_cons_zero, List.getD_cons_zero, List.getD_cons_succ, binT, binTy, unT, Option.map_some, Option.map_none, guardT, List.getElem?_toArray, List.getElem?_cons_succ, List.getElem?_cons_zero, Option.bind_some, pickT, quietK, stripT, openT, Bool.not_or_self, reduceIte, true_and, and_true, and_self, beq_true, Bool.not_not, boxM, allocM, loadM, storeM, fieldAddrM, lenT, extractT, subM, setOb, T.get, T.setp, T.offs, T.nw, nwL, T.cel, T.isNd, T.size, sizeL, TyI.agg, Ty.agg, Ty.isFn, zeroT, List.map_cons, List.map_nil, List.take_succ_cons, List.take_zero, Nat.add_zero, Nat.zero_add, Bool.and_self, Bool.and_true, Bool.true_and, Nat.reduceLT, Nat.lt_add_one, Nat.zero_lt_one, Nat.reduceEqDiff, List.toList_toArray, sumT, kill, Y3, Y4, Y22, Y23, Y24, Y27, Y29, Y50, Y81])
      | refine SW.seq ?_
      | refine SW.block ?_
      | (refine SW.cond rfl (fun _ => ?_) (fun _ => ?_))
      | (refine SW.exit ?_; simp only [thenS, blockS, if_true, if_false, Nat.reduceEqDiff, reduceIte])
      | (refine SW.skip ?_; simp only [thenS, blockS])
      | refine SW.ret (show RetQ _ _ _ _ _ _ _ from ⟨.inr rfl, [_], [1], [_], _, rfl, rfl, rfl, rfl, rfl, ?_⟩)
    · have hf : l.findIdx? (fun p => !stepB p.1 p.2) = none := by
        rw [List.findIdx?_eq_none_iff]
        intro x hx
        obtain ⟨j, hj, rfl⟩ := List.getElem_of_mem hx
        simpa using hp j hj (by omega)
      simp [tupOf, fixEs, idxStep, hf]


def anyBad (l : List (Int × Int)) : Bool := l.any fun p => !stepB p.1 p.2
theorem idx_any (l : List (Int × Int)) : decide (idxStep l ≥ 0) = anyBad l := by
  unfold idxStep anyBad
  cases h : l.findIdx? (fun p => !stepB p.1 p.2) with
  | none =>
    rw [List.findIdx?_eq_none_iff] at h
    have : l.any (fun p => !stepB p.1 p.2) = false := by rw [List.any_eq_false]; intro x hx; simp [h x hx]
    rw [this]; decide
  | some i =>
    obtain ⟨hlt, h1, _⟩ := List.findIdx?_eq_some_iff_getElem.1 h
    have : l.any (fun p => !stepB p.1 p.2) = true := List.any_eq_true.2 ⟨l[i], List.getElem_mem hlt, h1⟩
    rw [this]; simp

theorem contains_ok (l : List (Int × Int)) (hl : l.length ≤ 1099511627776) : CallR Try.prog 26 [.sl .b (steps l), .fn 27 [] []] [] (.bool (anyBad l)) := by
  refine CallR.of_body (n := 9) (rs := [.tmp 4]) hY.ok Try.func26 rfl (by decide) rfl rfl rfl rfl (fun F => ?_)
  repeat' first
    | (refine SW.ops_seq hY fun y1 hy1 => ?_; simp only [eq_self, Int.natCast_nonneg, Int.toNat_natCast, List.length_map, indexAddrM, steps_len, k0, k1, k2, k3, k4, k5, k6, k7, k9, k10, k11, vopl_nil, grown_t, grown_f, after_f, after_t, after_u, isCall, callT, opM, S.ev, S.put, entryS, thawAL, thawA, RM.run, RM.bind, RM.ofOpt, allocs, Heap.ups, Heap.put, Heap.at, List.replicate, List.length_cons, List.length_nil, List.append_nil, List.nil_append, List.cons_append, Nat.reduceAdd, Nat.reduceSub, ofConst, nilAs, if_false, if_true, Bool.false_eq_true, List.set_cons_succ, List.set_cons_zero, List.getD_cons_zero, List.getD_cons_succ, binT, binTy, unT, Option.map_some, Option.map_none, guardT, List.getElem?_toArray, List.getElem?_cons_succ, List.getElem?_cons_zero, Option.bind_some, pickT, quietK, stripT, openT, Bool.not_or_self, reduceIte, true_and, and_true, and_self, beq_true, Bool.not_not, boxM, allocM, loadM, storeM, fieldAddrM, lenT, extractT, subM, setOb, T.get, T.setp, T.offs, T.nw, nwL, T.cel, T.isNd, T.size, sizeL, TyI.agg, Ty.agg, Ty.isFn, zeroT, List.map_cons, List.map_nil, List.take_succ_cons, List.take_zero, Nat.add_zero, Nat.zero_add, Bool.and_self, Bool.and_true, Bool.true_and, Nat.reduceLT, Nat.lt_add_one, Nat.zero_lt_one, Nat.reduceEqDiff, List.toList_toArray, sumT, kill, Y3, Y4, Y22, Y23, Y24, Y27, Y29, Y50, Y81]; subst hy1)
    | (refine SW.ops hY ?_; simp only [eq_self, Int.natCast_nonneg, Int.toNat_natCast, List.length_map, indexAddrM, steps_len, k0, k1, k2, k3, k4, k5, k6, k7, k9, k10, k11, vopl_nil, grown_t, grown_f, after_f, after_t, after_u, isCall, callT, opM, S.ev, S.put, entryS, thawAL, thawA, RM.run, RM.bind, RM.ofOpt, allocs, Heap.ups, Heap.put, Heap.at, List.replicate, List.length_cons, List.length_nil, List.append_nil, List.nil_append, List.cons_append, Nat.reduceAdd, Nat.reduceSub, ofConst, nilAs, if_false, if_true, Bool.false_eq_true, List.set_cons_succ, List.set_cons_zero, List.getD_cons_zero, List.getD_cons_succ, binT, binTy, unT, Option.map_some, Option.map_none, guardT, List.getElem?_toArray, List.getElem?_cons_succ, List.getElem?_cons_zero, Option.bind_some, pickT, quietK, stripT, openT, Bool.not_or_self, reduceIte, true_and, and_true, and_self, beq_true, Bool.not_not, boxM, allocM, loadM, storeM, fieldAddrM, lenT, extractT, subM, setOb, T.get, T.setp, T.offs, T.nw, nwL, T.cel, T.isNd, T.size, sizeL, TyI.agg, Ty.agg, Ty.isFn, zeroT, List.map_cons, List.map_nil, List.take_succ_cons, List.take_zero, Nat.add_zero, Nat.zero_add, Bool.and_self, Bool.and_true, Bool.true_and, Nat.reduceLT, Nat.lt_add_one, Nat.zero_lt_one, Nat.reduceEqDiff, List.toList_toArray, sumT, kill, Y3, Y4, Y22, Y23, Y24, Y27, Y29, Y50, Y81]; simp only [thenS, blockS, if_true, if_false, Nat.reduceEqDiff, reduceIte])
    | (refine vcall_to [] (index_ok _ hl) rfl (by first | rfl | simp [pass2, lendM, lendA, lendAL, lendAL_steps, RM.bind, RM.run]) rfl rfl ?_; simp only [eq_self, Int.natCast_nonneg, Int.toNat_natCast, List.length_map, indexAddrM, steps_len, k0, k1, k2, k3, k4, k5, k6, k7, k9, k10, k11, vopl_nil, grown_t, grown_f, after_f, after_t, after_u, isCall, callT, opM, S.ev, S.put, entryS, thawAL, thawA, RM.run, RM.bind, RM.ofOpt, allocs, Heap.ups, Heap.put, Heap.at, List.replicate, List.length_cons, List.length_nil, List.append_nil, List.nil_append, List.cons_append, Nat.reduceAdd, Nat.reduceSub, ofConst, nilAs, if_false, if_true, Bool.false_eq_true, List.set_cons_succ, List.set_cons_zero, List.getD_cons_zero, List.getD_cons_succ, binT, binTy, unT, Option.map_some, Option.map_none, guardT, List.getElem?_toArray, List.getElem?_cons_succ, List.getElem?_cons_zero, Option.bind_some, pickT, quietK, stripT, openT, Bool.not_or_self, reduceIte, true_and, and_true, and_self, beq_true, Bool.not_not, boxM, allocM, loadM, storeM, fieldAddrM, lenT, extractT, subM, setOb, T.get, T.setp, T.offs, T.nw, nwL, T.cel, T.isNd, T.size, sizeL, TyI.agg, Ty.agg, Ty.isFn, zeroT, List.map_cons, List.map_nil, List.take_succ_cons, List.take_zero, Nat.add_zero, Nat.zero_add, Bool.and_self, Bool.and_true, Bool.true_and, Nat.reduceLT, Nat.lt_add_one, Nat.zero_lt_one, Nat.reduceEqDiff, List.toList_toArray, sumT, kill, Y3, Y4, Y22, Y23, Y24, Y27, Y29, Y50, Y81]; try simp only [thenS])
    | (simp only [k8]; refine ⟨fun hb => ?_, fun hb => ?_⟩ <;> (try replace hb := Bool.eq_false_iff.2 hb) <;> simp only [hb, eq_self, Int.natCast_nonneg, Int.toNat_natCast, List.length_map, indexAddrM, steps_len, k0, k1, k2, k3, k4, k5, k6, k7, k9, k10, k11, vopl_nil, grown_t, grown_f, after_f, after_t, after_u, isCall, callT, opM, S.ev, S.put, entryS, thawAL, thawA, RM.run, RM.bind, RM.ofOpt, allocs, Heap.ups, Heap.put, Heap.at, List.replicate, List.length_cons, List.length_nil, List.append_nil, List.nil_append, List.cons_append, Nat.reduceAdd, Nat.reduceSub, ofConst, nilAs, if_false, if_true, Bool.false_eq_true, List.set_cons_succ, List.set_cons_zero, List.getD_cons_zero, List.getD_cons_succ, binT, binTy, unT, Option.map_some, Option.map_none, guardT, List.getElem?_toArray, List.getElem?_cons_succ, List.getElem?_cons_zero, Option.bind_some, pickT, quietK, stripT, openT, Bool.not_or_self, reduceIte, true_and, and_true, and_self, beq_true, Bool.not_not, boxM, allocM, loadM, storeM, fieldAddrM, lenT, extractT, subM, setOb, T.get, T.setp, T.offs, T.nw, nwL, T.cel, T.isNd, T.size, sizeL, TyI.agg, Ty.agg, Ty.isFn, zeroT, List.map_cons, List.map_nil, List.take_succ_cons, List.take_zero, Nat.add_zero, Nat.zero_add, Bool.and_self, Bool.and_true, Bool.true_and, Nat.reduceLT, Nat.lt_add_one, Nat.zero_lt_one, Nat.reduceEqDiff, List.toList_toArray, sumT, kill, Y3, Y4, Y22, Y23, Y24, Y27, Y29, Y50, Y81])
    | refine SW.seq ?_
    | refine SW.block ?_
    | (refine SW.cond rfl (fun _ => ?_) (fun _ => ?_))
    | (refine SW.exit ?_; simp only [thenS, blockS, if_true, if_false, Nat.reduceEqDiff, reduceIte])
    | (refine SW.skip ?_; simp only [thenS, blockS])
    | refine SW.ret (show RetQ _ _ _ _ _ _ _ from ⟨.inr rfl, [_], [1], [_], _, rfl, rfl, rfl, rfl, rfl, ?_⟩)
  all_goals simp [tupOf, fixEs, ← idx_any]
theorem implPathOk_ok (fr : Int) (l : List (Int × Int)) (hl : l.length ≤ 1099511627776) : CallR Try.prog 9 [.nd [.int .i64 fr, .sl .b (steps l)]] [] (.bool (decide (fr ≥ 1) && decide (fr ≤ 31) && decide (l.length ≤ 8) && !anyBad l)) := by
  refine CallR.of_body (n := 18) (rs := [.tmp 2]) hY.ok Try.func9 rfl (by decide) rfl rfl rfl rfl (fun F => ?_)
  repeat' first
    | (refine SW.ops_seq hY fun y1 hy1 => ?_; simp only [eq_self, Int.natCast_nonneg, Int.toNat_natCast, List.length_map, indexAddrM, steps_len, k0, k1, k2, k3, k4, k5, k6, k7, k9, k10, k11, vopl_nil, grown_t, grown_f, after_f, after_t, after_u, isCall, callT, opM, S.ev, S.put, entryS, thawAL, thawA, RM.run, RM.bind, RM.ofOpt, allocs, Heap.ups, Heap.put, Heap.at, List.replicate, List.length_cons, List.length_nil, List.append_nil, List.nil_append, List.cons_append, Nat.reduceAdd, Nat.reduceSub, ofConst, nilAs, if_false, if_true, Bool.false_eq_true, List.set_cons_succ, List.set_cons_zero, List.getD_cons_zero, List.getD_cons_succ, binT, binTy, unT, Option.map_some, Option.map_none, guardT, List.getElem?_toArray, List.getElem?_cons_succ, List.getElem?_cons_zero, Option.bind_some, pickT, quietK, stripT, openT, Bool.not_or_self, reduceIte, true_and, and_true, and_self, beq_true, Bool.not_not, boxM, allocM, loadM, storeM, fieldAddrM, lenT, extractT, subM, setOb, T.get, T.setp, T.offs, T.nw, nwL, T.cel, T.isNd, T.size, sizeL, TyI.agg, Ty.agg, Ty.isFn, zeroT, List.map_cons, List.map_nil, List.take_succ_cons, List.take_zero, Nat.add_zero, Nat.zero_add, Bool.and_self, Bool.and_true, Bool.true_and, Nat.reduceLT, Nat.lt_add_one, Nat.zero_lt_one, Nat.reduceEqDiff, List.toList_toArray, sumT, kill, Y3, Y4, Y22, Y23, Y24, Y27, Y29, Y50, Y81]; subst hy1)
    | (refine SW.ops hY ?_; simp only [eq_self, Int.natCast_nonneg, Int.toNat_natCast, List.length_map, indexAddrM, steps_len, k0, k1, k2, k3, k4, k5, k6, k7, k9, k10, k11, vopl_nil, grown_t, grown_f, after_f, after_t, after_u, isCall, callT, opM, S.ev, S.put, entryS, thawAL, thawA, RM.run, RM.bind, RM.ofOpt, allocs, Heap.ups, Heap.put, Heap.at, List.replicate, List.length_cons, List.length_nil, List.append_nil, List.nil_append, List.cons_append, Nat.reduceAdd, Nat.reduceSub, ofConst, nilAs, if_false, if_true, Bool.false_eq_true, List.set_cons_succ, List.set_cons_zero, List.getD_cons_zero, List.getD_cons_succ, binT, binTy, unT, Option.map_some, Option.map_none, guardT, List.getElem?_toArray, List.getElem?_cons_succ, List.getElem?_cons_zero, Option.bind_some, pickT, quietK, stripT, openT, Bool.not_or_self, reduceIte, true_and, and_true, and_self, beq_true, Bool.not_not, boxM, allocM, loadM, storeM, fieldAddrM, lenT, extractT, subM, setOb, T.get, T.setp, T.offs, T.nw, nwL, T.cel, T.isNd, T.size, sizeL, TyI.agg, Ty.agg, Ty.isFn, zeroT, List.map_cons, List.map_nil, List.take_succ_cons, List.take_zero, Nat.add_zero, Nat.zero_add, Bool.and_self, Bool.and_true, Bool.true_and, Nat.reduceLT, Nat.lt_add_one, Nat.zero_lt_one, Nat.reduceEqDiff, List.toList_toArray, sumT, kill, Y3, Y4, Y22, Y23, Y24, Y27, Y29, Y50, Y81]; simp only [thenS, blockS, if_true, if_false, Nat.reduceEqDiff, reduceIte])
    | (refine vcall_to [] (oid_ok _) rfl (by first | rfl | simp [pass2, lendM, lendA, lendAL, lendAL_steps, RM.bind, RM.run]) rfl rfl ?_; simp only [eq_self, Int.natCast_nonneg, Int.toNat_natCast, List.length_map, indexAddrM, steps_len, k0, k1, k2, k3, k4, k5, k6, k7, k9, k10, k11, vopl_nil, grown_t, grown_f, after_f, after_t, after_u, isCall, callT, opM, S.ev, S.put, entryS, thawAL, thawA, RM.run, RM.bind, RM.ofOpt, allocs, Heap.ups, Heap.put, Heap.at, List.replicate, List.length_cons, List.length_nil, List.append_nil, List.nil_append, List.cons_append, Nat.reduceAdd, Nat.reduceSub, ofConst, nilAs, if_false, if_true, Bool.false_eq_true, List.set_cons_succ, List.set_cons_zero, List.getD_cons_zero, List.getD_cons_succ, binT, binTy, unT, Option.map_some, Option.map_none, guardT, List.getElem?_toArray, List.getElem?_cons_succ, List.getElem?_cons_zero, Option.bind_some, pickT, quietK, stripT, openT, Bool.not_or_self, reduceIte, true_and, and_true, and_self, beq_true, Bool.not_not, boxM, allocM, loadM, storeM, fieldAddrM, lenT, extractT, subM, setOb, T.get, T.setp, T.offs, T.nw, nwL, T.cel, T.isNd, T.size, sizeL, TyI.agg, Ty.agg, Ty.isFn, zeroT, List.map_cons, List.map_nil, List.take_succ_cons, List.take_zero, Nat.add_zero, Nat.zero_add, Bool.and_self, Bool.and_true, Bool.true_and, Nat.reduceLT, Nat.lt_add_one, Nat.zero_lt_one, Nat.reduceEqDiff, List.toList_toArray, sumT, kill, Y3, Y4, Y22, Y23, Y24, Y27, Y29, Y50, Y81]; try simp only [thenS])
    | (refine vcall_to [] (contains_ok _ hl) rfl (by first | rfl | simp [pass2, lendM, lendA, lendAL, lendAL_steps, RM.bind, RM.run]) rfl rfl ?_; simp only [eq_self, Int.natCast_nonneg, Int.toNat_natCast, List.length_map, indexAddrM, steps_len, k0, k1, k2, k3, k4, k5, k6, k7, k9, k10, k11, vopl_nil, grown_t, grown_f, after_f, after_t, after_u, isCall, callT, opM, S.ev, S.put, entryS, thawAL, thawA, RM.run, RM.bind, RM.ofOpt, allocs, Heap.ups, Heap.put, Heap.at, List.replicate, List.length_cons, List.length_nil, List.append_nil, List.nil_append, List.cons_append, Nat.reduceAdd, Nat.reduceSub, ofConst, nilAs, if_false, if_true, Bool.false_eq_true, List.set_cons_succ, List.set_cons_zero, List.getD_cons_zero, List.getD_cons_succ, binT, binTy, unT, Option.map_some, Option.map_none, guardT, List.getElem?_toArray, List.getElem?_cons_succ, List.getElem?_cons_zero, Option.bind_some, pickT, quietK, stripT, openT, Bool.not_or_self, reduceIte, true_and, and_true, and_self, beq_true, Bool.not_not, boxM, allocM, loadM, storeM, fieldAddrM, lenT, extractT, subM, setOb, T.get, T.setp, T.offs, T.nw, nwL, T.cel, T.isNd, T.size, sizeL, TyI.agg, Ty.agg, Ty.isFn, zeroT, List.map_cons, List.map_nil, List.take_succ_cons, List.take_zero, Nat.add_zero, Nat.zero_add, Bool.and_self, Bool.and_true, Bool.true_and, Nat.reduceLT, Nat.lt_add_one, Nat.zero_lt_one, Nat.reduceEqDiff, List.toList_toArray, sumT, kill, Y3, Y4, Y22, Y23, Y24, Y27, Y29, Y50, Y81]; try simp only [thenS])
    | (simp only [k8]; refine ⟨fun hb => ?_, fun hb => ?_⟩ <;> (try replace hb := Bool.eq_false_iff.2 hb) <;> simp only [hb, eq_self, Int.natCast_nonneg, Int.toNat_natCast, List.length_map, indexAddrM, steps_len, k0, k1, k2, k3, k4, k5, k6, k7, k9, k10, k11, vopl_nil, grown_t, grown_f, after_f, after_t, after_u, isCall, callT, opM, S.ev, S.put, entryS, thawAL, thawA, RM.run, RM.bind, RM.ofOpt, allocs, Heap.ups, Heap.put, Heap.at, List.replicate, List.length_cons, List.length_nil, List.append_nil, List.nil_append, List.cons_append, Nat.reduceAdd, Nat.reduceSub, ofConst, nilAs, if_false, if_true, Bool.false_eq_true, List.set_cons_succ, List.set_cons_zero, List.getD_cons_zero, List.getD_cons_succ, binT, binTy, unT, Option.map_some, Option.map_none, guardT, List.getElem?_toArray, List.getElem?_cons_succ, List.getElem?_cons_zero, Option.bind_some, pickT, quietK, stripT, openT, Bool.not_or_self, reduceIte, true_and, and_true, and_self, beq_true, Bool.not_not, boxM, allocM, loadM, storeM, fieldAddrM, lenT, extractT, subM, setOb, T.get, T.setp, T.offs, T.nw, nwL, T.cel, T.isNd, T.size, sizeL, TyI.agg, Ty.agg, Ty.isFn, zeroT, List.map_cons, List.map_nil, List.take_succ_cons, List.take_zero, Nat.add_zero, Nat.zero_add, Bool.and_self, Bool.and_true, Bool.true_and, Nat.reduceLT, Nat.lt_add_one, Nat.zero_lt_one, Nat.reduceEqDiff, List.toList_toArray, sumT, kill, Y3, Y4, Y22, Y23, Y24, Y27, Y29, Y50, Y81])
    | refine SW.seq ?_
    | refine SW.block ?_
    | (refine SW.cond rfl (fun _ => ?_) (fun _ => ?_))
    | (refine SW.exit ?_; simp only [thenS, blockS, if_true, if_false, Nat.reduceEqDiff, reduceIte])
    | (refine SW.skip ?_; simp only [thenS, blockS])
    | refine SW.ret (show RetQ _ _ _ _ _ _ _ from ⟨.inr rfl, [_], [1], [_], _, rfl, rfl, rfl, rfl, rfl, ?_⟩)
  all_goals (simp only [tupOf, fixEs]; have e8 : decide ((l.length : Int) ≤ 8) = decide (l.length ≤ 8) := by simp only [decide_eq_decide]; omega)
  all_goals rw [e8] at hb
  · rw [show (decide (fr ≥ 1) && decide (fr ≤ 31) && decide (l.length ≤ 8)) = true by rw [← hb]; cases (decide (fr ≥ 1) && decide (fr ≤ 31)) <;> rfl]; simp
  · rw [show (decide (fr ≥ 1) && decide (fr ≤ 31) && decide (l.length ≤ 8)) = false by rw [← hb]; cases (decide (fr ≥ 1) && decide (fr ≤ 31)) <;> rfl]; simp
end P1

namespace P1
open Go Go.Vm Go.Proofs
set_option maxRecDepth 10000
set_option linter.unusedSimpArgs false

theorem toStep_ok (k n : Int) : CallR Try.prog 47 [.nd [.int .i64 k, .int .i64 n]] [] (.nd [.int .i64 k, .int .i64 n]) := by
  refine CallR.of_body (n := 11) (rs := [.cell 2 50]) hY.ok Try.func47 rfl (by decide) rfl rfl rfl rfl (fun F => ?_)
  repeat' first
    | (refine SW.ops_seq hY fun y1 hy1 => ?_; simp only [eq_self, Int.natCast_nonneg, Int.toNat_natCast, List.length_map, indexAddrM, steps_len, k0, k1, k2, k3, k4, k5, k6, k7, k9, k10, k11, vopl_nil, grown_t, grown_f, after_f, after_t, after_u, isCall, callT, opM, S.ev, S.put, entryS, thawAL, thawA, RM.run, RM.bind, RM.ofOpt, allocs, Heap.ups, Heap.put, Heap.at, List.replicate, List.length_cons, List.length_nil, List.append_nil, List.nil_append, List.cons_append, Nat.reduceAdd, Nat.reduceSub, ofConst, nilAs, if_false, if_true, Bool.false_eq_true, List.set_cons_succ, List.set_cons_zero, List.getD_cons_zero, List.getD_cons_succ, binT, binTy, unT, Option.map_some, Option.map_none, guardT, List.getElem?_toArray, List.getElem?_cons_succ, List.getElem?_cons_zero, Option.bind_some, pickT, quietK, stripT, openT, Bool.not_or_self, reduceIte, true_and, and_true, and_self, beq_true, Bool.not_not, boxM, allocM, loadM, storeM, fieldAddrM, lenT, extractT, subM, setOb, T.get, T.setp, T.offs, T.nw, nwL, T.cel, T.isNd, T.size, sizeL, TyI.agg, Ty.agg, Ty.isFn, zeroT, List.map_cons, List.map_nil, List.take_succ_cons, List.take_zero, Nat.add_zero, Nat.zero_add, Bool.and_self, Bool.and_true, Bool.true_and, Nat.reduceLT, Nat.lt_add_one, Nat.zero_lt_one, Nat.reduceEqDiff, List.toList_toArray, sumT, kill, Y3, Y4, Y22, Y23, Y24, Y27, Y29, Y50, Y81]; subst hy1)
    | (refine SW.ops hY ?_; simp only [eq_self, Int.natCast_nonneg, Int.toNat_natCast, List.length_map, indexAddrM, steps_len, k0, k1, k2, k3, k4, k5, k6, k7, k9, k10, k11, vopl_nil, grown_t, grown_f, after_f, after_t, after_u, isCall, callT, opM, S.ev, S.put, entryS, thawAL, thawA, RM.run, RM.bind, RM.ofOpt, allocs, Heap.ups, Heap.put, Heap.at, List.replicate, List.length_cons, List.length_nil, List.append_nil, List.nil_append, List.cons_append, Nat.reduceAdd, Nat.reduceSub, ofConst, nilAs, if_false, if_true, Bool.false_eq_true, List.set_cons_succ, List.set_cons_zero, List.getD_cons_zero, List.getD_cons_succ, binT, binTy, unT, Option.map_some, Option.map_none, guardT, List.getElem?_toArray, List.getElem?_cons_succ, List.getElem?_cons_zero, Option.bind_some, pickT, quietK, stripT, openT, Bool.not_or_self, reduceIte, true_and, and_true, and_self, beq_true, Bool.not_not, boxM, allocM, loadM, storeM, fieldAddrM, lenT, extractT, subM, setOb, T.get, T.setp, T.offs, T.nw, nwL, T.cel, T.isNd, T.size, sizeL, TyI.agg, Ty.agg, Ty.isFn, zeroT, List.map_cons, List.map_nil, List.take_succ_cons, List.take_zero, Nat.add_zero, Nat.zero_add, Bool.and_self, Bool.and_true, Bool.true_and, Nat.reduceLT, Nat.lt_add_one, Nat.zero_lt_one, Nat.reduceEqDiff, List.toList_toArray, sumT, kill, Y3, Y4, Y22, Y23, Y24, Y27, Y29, Y50, Y81]; try simp only [thenS, blockS, if_true, if_false, Nat.reduceEqDiff, reduceIte])
    | (simp only [k8]; refine ⟨fun hb => ?_, fun hb => ?_⟩ <;> (try replace hb := Bool.eq_false_iff.2 hb) <;> simp only [hb, eq_self, Int.natCast_nonneg, Int.toNat_natCast, List.length_map, indexAddrM, steps_len, k0, k1, k2, k3, k4, k5, k6, k7, k9, k10, k11, vopl_nil, grown_t, grown_f, after_f, after_t, after_u, isCall, callT, opM, S.ev, S.put, entryS, thawAL, thawA, RM.run, RM.bind, RM.ofOpt, allocs, Heap.ups, Heap.put, Heap.at, List.replicate, List.length_cons, List.length_nil, List.append_nil, List.nil_append, List.cons_append, Nat.reduceAdd, Nat.reduceSub, ofConst, nilAs, if_false, if_true, Bool.false_eq_true, List.set_cons_succ, List.set_cons_zero, List.getD_cons_zero, List.getD_cons_succ, binT, binTy, unT, Option.map_some, Option.map_none, guardT, List.getElem?_toArray, List.getElem?_cons_succ, List.getElem?_cons_zero, Option.bind_some, pickT, quietK, stripT, openT, Bool.not_or_self, reduceIte, true_and, and_true, and_self, beq_true, Bool.not_not, boxM, allocM, loadM, storeM, fieldAddrM, lenT, extractT, subM, setOb, T.get, T.setp, T.offs, T.nw, nwL, T.cel, T.isNd, T.size, sizeL, TyI.agg, Ty.agg, Ty.isFn, zeroT, List.map_cons, List.map_nil, List.take_succ_cons, List.take_zero, Nat.add_zero, Nat.zero_add, Bool.and_self, Bool.and_true, Bool.true_and, Nat.reduceLT, Nat.lt_add_one, Nat.zero_lt_one, Nat.reduceEqDiff, List.toList_toArray, sumT, kill, Y3, Y4, Y22, Y23, Y24, Y27, Y29, Y50, Y81])
    | refine SW.seq ?_
    | refine SW.block ?_
    | (refine SW.cond rfl (fun _ => ?_) (fun _ => ?_))
    | (refine SW.exit ?_; simp only [thenS, blockS, if_true, if_false, Nat.reduceEqDiff, reduceIte])
    | (refine SW.skip ?_; simp only [thenS, blockS])
    | refine SW.ret (show RetQ _ _ _ _ _ _ _ from ⟨.inr rfl, [_], [1], [_], _, rfl, rfl, rfl, rfl, rfl, ?_⟩)
  all_goals rfl

def lsteps (l : List (Int × Int)) : List T := steps l
theorem cloL_steps : ∀ l : List (Int × Int), cloL (steps l) = true
  | [] => rfl
  | p :: l => by
    have := cloL_steps l
    simp only [steps, List.map_cons, cloL, T.clo, Bool.and_true, Bool.true_and] at this ⊢
    exact this
/-- the array while it is filled -/
def fill (l : List (Int × Int)) (i : Nat) : List T := steps (l.take i) ++ List.replicate (l.length - i) (.nd [.int .i64 0, .int .i64 0])
theorem fill_zero (l : List (Int × Int)) : fill l 0 = List.replicate l.length (.nd [.int .i64 0, .int .i64 0]) := by simp [fill, steps]
theorem fill_all (l : List (Int × Int)) : fill l l.length = steps l := by simp [fill]
theorem fill_len (l : List (Int × Int)) (i : Nat) (h : i ≤ l.length) : (fill l i).length = l.length := by simp [fill, steps]; omega
theorem fill_get (l : List (Int × Int)) (i : Nat) (h : i < l.length) : (fill l i)[i]? = some (.nd [.int .i64 0, .int .i64 0]) := by
  unfold fill
  rw [List.getElem?_append_right (by simp [steps]; omega)]
  simp [steps, List.getElem?_replicate]; omega
theorem fill_set (l : List (Int × Int)) (i : Nat) (h : i < l.length) : (fill l i).set i (.nd [.int .i64 l[i].1, .int .i64 l[i].2]) = fill l (i + 1) := by
  unfold fill
  rw [List.set_append_right _ _ (by simp [steps]; omega)]
  have e1 : l.length - i = (l.length - (i + 1)) + 1 := by omega
  rw [e1, List.replicate_succ]
  have e2 : i - (steps (l.take i)).length = 0 := by simp [steps]; omega
  have e3 : steps (l.take (i + 1)) = steps (l.take i) ++ [.nd [.int .i64 l[i].1, .int .i64 l[i].2]] := by
    unfold steps
    rw [List.take_succ_eq_append_getElem h, List.map_append]; rfl
  rw [e2, List.set_cons_zero, e3]
  simp
theorem mk_steps (own : Nat) (l : List (Int × Int)) (hl : l.length ≤ 1048576) : makeSliceM Y own 27 (.int .i64 l.length) (.int .i64 l.length) =
    .pure { v := .ref own 0 0 l.length, news := [.arr 2 (fill l 0) false] } := by
  rw [fill_zero]
  simp [makeSliceM, Y27, Y50, zeroT, Y3, Ty.isFn]
  omega

theorem toSteps_ok (l : List (Int × Int)) (hl : l.length ≤ 1048576) : CallR Try.prog 24 [.sl .b (steps l)] [] (.ow 2 (steps l)) := by
  refine CallR.of_body (n := 23) (rs := [.tmp 2]) hY.ok Try.func24 rfl (by decide) rfl rfl rfl rfl (fun F => ?_)
  repeat' first
    | (refine SW.ops_seq hY fun y1 hy1 => ?_; simp only [mk_steps _ l hl, eq_self, Int.natCast_nonneg, Int.toNat_natCast, List.length_map, indexAddrM, steps_len, k0, k1, k2, k3, k4, k5, k6, k7, k9, k10, k11, vopl_nil, grown_t, grown_f, after_f, after_t, after_u, isCall, callT, opM, S.ev, S.put, entryS, thawAL, thawA, RM.run, RM.bind, RM.ofOpt, allocs, Heap.ups, Heap.put, Heap.at, List.replicate, List.length_cons, List.length_nil, List.append_nil, List.nil_append, List.cons_append, Nat.reduceAdd, Nat.reduceSub, ofConst, nilAs, if_false, if_true, Bool.false_eq_true, List.set_cons_succ, List.set_cons_zero, List.getD_cons_zero, List.getD_cons_succ, binT, binTy, unT, Option.map_some, Option.map_none, guardT, List.getElem?_toArray, List.getElem?_cons_succ, List.getElem?_cons_zero, Option.bind_some, pickT, quietK, stripT, openT, Bool.not_or_self, reduceIte, true_and, and_true, and_self, beq_true, Bool.not_not, boxM, allocM, loadM, storeM, fieldAddrM, lenT, extractT, subM, setOb, T.get, T.setp, T.offs, T.nw, nwL, T.cel, T.isNd, T.size, sizeL, TyI.agg, Ty.agg, Ty.isFn, zeroT, List.map_cons, List.map_nil, List.take_succ_cons, List.take_zero, Nat.add_zero, Nat.zero_add, Bool.and_self, Bool.and_true, Bool.true_and, Nat.reduceLT, Nat.lt_add_one, Nat.zero_lt_one, Nat.reduceEqDiff, List.toList_toArray, sumT, kill, Y3, Y4, Y22, Y23, Y24, Y27, Y29, Y50, Y81]; subst hy1)
    | (refine SW.ops hY ?_; simp only [mk_steps _ l hl, eq_self, Int.natCast_nonneg, Int.toNat_natCast, List.length_map, indexAddrM, steps_len, k0, k1, k2, k3, k4, k5, k6, k7, k9, k10, k11, vopl_nil, grown_t, grown_f, after_f, after_t, after_u, isCall, callT, opM, S.ev, S.put, entryS, thawAL, thawA, RM.run, RM.bind, RM.ofOpt, allocs, Heap.ups, Heap.put, Heap.at, List.replicate, List.length_cons, List.length_nil, List.append_nil, List.nil_append, List.cons_append, Nat.reduceAdd, Nat.reduceSub, ofConst, nilAs, if_false, if_true, Bool.false_eq_true, List.set_cons_succ, List.set_cons_zero, List.getD_cons_zero, List.getD_cons_succ, binT, binTy, unT, Option.map_some, Option.map_none, guardT, List.getElem?_toArray, List.getElem?_cons_succ, List.getElem?_cons_zero, Option.bind_some, pickT, quietK, stripT, openT, Bool.not_or_self, reduceIte, true_and, and_true, and_self, beq_true, Bool.not_not, boxM, allocM, loadM, storeM, fieldAddrM, lenT, extractT, subM, setOb, T.get, T.setp, T.offs, T.nw, nwL, T.cel, T.isNd, T.size, sizeL, TyI.agg, Ty.agg, Ty.isFn, zeroT, List.map_cons, List.map_nil, List.take_succ_cons, List.take_zero, Nat.add_zero, Nat.zero_add, Bool.and_self, Bool.and_true, Bool.true_and, Nat.reduceLT, Nat.lt_add_one, Nat.zero_lt_one, Nat.reduceEqDiff, List.toList_toArray, sumT, kill, Y3, Y4, Y22, Y23, Y24, Y27, Y29, Y50, Y81]; try simp only [thenS, blockS, if_true, if_false, Nat.reduceEqDiff, reduceIte])
    | (simp only [k8]; refine ⟨fun hb => ?_, fun hb => ?_⟩ <;> (try replace hb := Bool.eq_false_iff.2 hb) <;> simp only [hb, mk_steps _ l hl, eq_self, Int.natCast_nonneg, Int.toNat_natCast, List.length_map, indexAddrM, steps_len, k0, k1, k2, k3, k4, k5, k6, k7, k9, k10, k11, vopl_nil, grown_t, grown_f, after_f, after_t, after_u, isCall, callT, opM, S.ev, S.put, entryS, thawAL, thawA, RM.run, RM.bind, RM.ofOpt, allocs, Heap.ups, Heap.put, Heap.at, List.replicate, List.length_cons, List.length_nil, List.append_nil, List.nil_append, List.cons_append, Nat.reduceAdd, Nat.reduceSub, ofConst, nilAs, if_false, if_true, Bool.false_eq_true, List.set_cons_succ, List.set_cons_zero, List.getD_cons_zero, List.getD_cons_succ, binT, binTy, unT, Option.map_some, Option.map_none, guardT, List.getElem?_toArray, List.getElem?_cons_succ, List.getElem?_cons_zero, Option.bind_some, pickT, quietK, stripT, openT, Bool.not_or_self, reduceIte, true_and, and_true, and_self, beq_true, Bool.not_not, boxM, allocM, loadM, storeM, fieldAddrM, lenT, extractT, subM, setOb, T.get, T.setp, T.offs, T.nw, nwL, T.cel, T.isNd, T.size, sizeL, TyI.agg, Ty.agg, Ty.isFn, zeroT, List.map_cons, List.map_nil, List.take_succ_cons, List.take_zero, Nat.add_zero, Nat.zero_add, Bool.and_self, Bool.and_true, Bool.true_and, Nat.reduceLT, Nat.lt_add_one, Nat.zero_lt_one, Nat.reduceEqDiff, List.toList_toArray, sumT, kill, Y3, Y4, Y22, Y23, Y24, Y27, Y29, Y50, Y81])
    | refine SW.seq ?_
    | refine SW.block ?_
    | (refine SW.cond rfl (fun _ => ?_) (fun _ => ?_))
    | (refine SW.exit ?_; simp only [thenS, blockS, if_true, if_false, Nat.reduceEqDiff, reduceIte])
    | (refine SW.skip ?_; simp only [thenS, blockS])
    | refine SW.ret (show RetQ _ _ _ _ _ _ _ from ⟨.inr rfl, [_], [1], [_], _, rfl, rfl, rfl, rfl, rfl, ?_⟩)
  refine SW.loop (fun i : Nat => ⟨[.sl .b (steps l), .undef, .nils 2, .ref 1 0 0 l.length, .int .i64 i, .undef, .undef, .undef, .undef, .undef, .undef, .undef, .undef, .undef, .undef, .undef, .undef, .undef, .undef, .undef, .undef, .undef, .undef], [[], [.arr 2 (fill l i) false]]⟩)
    (fun n i => n = l.length - i ∧ i ≤ l.length) (n := l.length) (x := 0) (Norm.to 0 rfl (by simp [weakL])) ⟨rfl, Nat.zero_le _⟩ ?_
  rintro n i ⟨hn, hi⟩
  repeat' first
    | (refine SW.ops_seq hY fun y1 hy1 => ?_; simp only [eq_self, Int.natCast_nonneg, Int.toNat_natCast, List.length_map, indexAddrM, steps_len, k0, k1, k2, k3, k4, k5, k6, k7, k9, k10, k11, vopl_nil, grown_t, grown_f, after_f, after_t, after_u, isCall, callT, opM, S.ev, S.put, entryS, thawAL, thawA, RM.run, RM.bind, RM.ofOpt, allocs, Heap.ups, Heap.put, Heap.at, List.replicate, List.length_cons, List.length_nil, List.append_nil, List.nil_append, List.cons_append, Nat.reduceAdd, Nat.reduceSub, ofConst, nilAs, if_false, if_true, Bool.false_eq_true, List.set_cons_succ, List.set_cons_zero, List.getD_cons_zero, List.getD_cons_succ, binT, binTy, unT, Option.map_some, Option.map_none, guardT, List.getElem?_toArray, List.getElem?_cons_succ, List.getElem?_cons_zero, Option.bind_some, pickT, quietK, stripT, openT, Bool.not_or_self, reduceIte, true_and, and_true, and_self, beq_true, Bool.not_not, boxM, allocM, loadM, storeM, fieldAddrM, lenT, extractT, subM, setOb, T.get, T.setp, T.offs, T.nw, nwL, T.cel, T.isNd, T.size, sizeL, TyI.agg, Ty.agg, Ty.isFn, zeroT, List.map_cons, List.map_nil, List.take_succ_cons, List.take_zero, Nat.add_zero, Nat.zero_add, Bool.and_self, Bool.and_true, Bool.true_and, Nat.reduceLT, Nat.lt_add_one, Nat.zero_lt_one, Nat.reduceEqDiff, List.toList_toArray, sumT, kill, Y3, Y4, Y22, Y23, Y24, Y27, Y29, Y50, Y81]; subst hy1)
    | refine SW.seq ?_
  refine SW.cond rfl (fun hc => ?_) (fun hc => ?_)
  · have hlt : i < l.length := by simpa using hc
    have hltI : (i : Int) < (l.length : Int) := by omega
    repeat' first
      | (refine SW.ops_seq hY fun y1 hy1 => ?_; simp only [steps_get l i hlt, fill_get l i hlt, fill_set l i hlt, hltI, Nat.zero_add, eq_self, Int.natCast_nonneg, Int.toNat_natCast, List.length_map, indexAddrM, steps_len, k0, k1, k2, k3, k4, k5, k6, k7, k9, k10, k11, vopl_nil, grown_t, grown_f, after_f, after_t, after_u, isCall, callT, opM, S.ev, S.put, entryS, thawAL, thawA, RM.run, RM.bind, RM.ofOpt, allocs, Heap.ups, Heap.put, Heap.at, List.replicate, List.length_cons, List.length_nil, List.append_nil, List.nil_append, List.cons_append, Nat.reduceAdd, Nat.reduceSub, ofConst, nilAs, if_false, if_true, Bool.false_eq_true, List.set_cons_succ, List.set_cons_zero, List.getD_cons_zero, List.getD_cons_succ, binT, binTy, unT, Option.map_some, Option.map_none, guardT, List.getElem?_toArray, List.getElem?_cons_succ, List.getElem?_cons_zero, Option.bind_some, pickT, quietK, stripT, openT, Bool.not_or_self, reduceIte, true_and, and_true, and_self, beq_true, Bool.not_not, boxM, allocM, loadM, storeM, fieldAddrM, lenT, extractT, subM, setOb, T.get, T.setp, T.offs, T.nw, nwL, T.cel, T.isNd, T.size, sizeL, TyI.agg, Ty.agg, Ty.isFn, zeroT, List.map_cons, List.map_nil, List.take_succ_cons, List.take_zero, Nat.add_zero, Nat.zero_add, Bool.and_self, Bool.and_true, Bool.true_and, Nat.reduceLT, Nat.lt_add_one, Nat.zero_lt_one, Nat.reduceEqDiff, List.toList_toArray, sumT, kill, Y3, Y4, Y22, Y23, Y24, Y27, Y29, Y50, Y81]; subst hy1)
      | (refine SW.ops hY ?_; simp only [steps_get l i hlt, fill_get l i hlt, fill_set l i hlt, hltI, Nat.zero_add, eq_self, Int.natCast_nonneg, Int.toNat_natCast, List.length_map, indexAddrM, steps_len, k0, k1, k2, k3, k4, k5, k6, k7, k9, k10, k11, vopl_nil, grown_t, grown_f, after_f, after_t, after_u, isCall, callT, opM, S.ev, S.put, entryS, thawAL, thawA, RM.run, RM.bind, RM.ofOpt, allocs, Heap.ups, Heap.put, Heap.at, List.replicate, List.length_cons, List.length_nil, List.append_nil, List.nil_append, List.cons_append, Nat.reduceAdd, Nat.reduceSub, ofConst, nilAs, if_false, if_true, Bool.false_eq_true, List.set_cons_succ, List.set_cons_zero, List.getD_cons_zero, List.getD_cons_succ, binT, binTy, unT, Option.map_some, Option.map_none, guardT, List.getElem?_toArray, List.getElem?_cons_succ, List.getElem?_cons_zero, Option.bind_some, pickT, quietK, stripT, openT, Bool.not_or_self, reduceIte, true_and, and_true, and_self, beq_true, Bool.not_not, boxM, allocM, loadM, storeM, fieldAddrM, lenT, extractT, subM, setOb, T.get, T.setp, T.offs, T.nw, nwL, T.cel, T.isNd, T.size, sizeL, TyI.agg, Ty.agg, Ty.isFn, zeroT, List.map_cons, List.map_nil, List.take_succ_cons, List.take_zero, Nat.add_zero, Nat.zero_add, Bool.and_self, Bool.and_true, Bool.true_and, Nat.reduceLT, Nat.lt_add_one, Nat.zero_lt_one, Nat.reduceEqDiff, List.toList_toArray, sumT, kill, Y3, Y4, Y22, Y23, Y24, Y27, Y29, Y50, Y81]; try simp only [thenS, blockS, if_true, if_false, Nat.reduceEqDiff, reduceIte])
      | (refine vcall_to [] (toStep_ok _ _) rfl (by first | rfl | simp [pass2, lendM, lendA, lendAL, lendAL_steps, RM.bind, RM.run]) (by first | rfl | simp [resClo, T.clo, cloL]) rfl ?_; simp only [steps_get l i hlt, fill_get l i hlt, fill_set l i hlt, hltI, Nat.zero_add, eq_self, Int.natCast_nonneg, Int.toNat_natCast, List.length_map, indexAddrM, steps_len, k0, k1, k2, k3, k4, k5, k6, k7, k9, k10, k11, vopl_nil, grown_t, grown_f, after_f, after_t, after_u, isCall, callT, opM, S.ev, S.put, entryS, thawAL, thawA, RM.run, RM.bind, RM.ofOpt, allocs, Heap.ups, Heap.put, Heap.at, List.replicate, List.length_cons, List.length_nil, List.append_nil, List.nil_append, List.cons_append, Nat.reduceAdd, Nat.reduceSub, ofConst, nilAs, if_false, if_true, Bool.false_eq_true, List.set_cons_succ, List.set_cons_zero, List.getD_cons_zero, List.getD_cons_succ, binT, binTy, unT, Option.map_some, Option.map_none, guardT, List.getElem?_toArray, List.getElem?_cons_succ, List.getElem?_cons_zero, Option.bind_some, pickT, quietK, stripT, openT, Bool.not_or_self, reduceIte, true_and, and_true, and_self, beq_true, Bool.not_not, boxM, allocM, loadM, storeM, fieldAddrM, lenT, extractT, subM, setOb, T.get, T.setp, T.offs, T.nw, nwL, T.cel, T.isNd, T.size, sizeL, TyI.agg, Ty.agg, Ty.isFn, zeroT, List.map_cons, List.map_nil, List.take_succ_cons, List.take_zero, Nat.add_zero, Nat.zero_add, Bool.and_self, Bool.and_true, Bool.true_and, Nat.reduceLT, Nat.lt_add_one, Nat.zero_lt_one, Nat.reduceEqDiff, List.toList_toArray, sumT, kill, Y3, Y4, Y22, Y23, Y24, Y27, Y29, Y50, Y81]; try simp only [thenS, blockS, if_true, if_false, Nat.reduceEqDiff, reduceIte])
      | (simp only [k8]; refine ⟨fun hb => ?_, fun hb => ?_⟩ <;> (try replace hb := Bool.eq_false_iff.2 hb) <;> simp only [hb, steps_get l i hlt, fill_get l i hlt, fill_set l i hlt, hltI, Nat.zero_add, eq_self, Int.natCast_nonneg, Int.toNat_natCast, List.length_map, indexAddrM, steps_len, k0, k1, k2, k3, k4, k5, k6, k7, k9, k10, k11, vopl_nil, grown_t, grown_f, after_f, after_t, after_u, isCall, callT, opM, S.ev, S.put, entryS, thawAL, thawA, RM.run, RM.bind, RM.ofOpt, allocs, Heap.ups, Heap.put, Heap.at, List.replicate, List.length_cons, List.length_nil, List.append_nil, List.nil_append, List.cons_append, Nat.reduceAdd, Nat.reduceSub, ofConst, nilAs, if_false, if_true, Bool.false_eq_true, List.set_cons_succ, List.set_cons_zero, List.getD_cons_zero, List.getD_cons_succ, binT, binTy, unT, Option.map_some, Option.map_none, guardT, List.getElem?_toArray, List.getElem?_cons_succ, List.getElem?_cons_zero, Option.bind_some, pickT, quietK, stripT, openT, Bool.not_or_self, reduceIte, true_and, and_true, and_self, beq_true, Bool.not_not, boxM, allocM, loadM, storeM, fieldAddrM, lenT, extractT, subM, setOb, T.get, T.setp, T.offs, T.nw, nwL, T.cel, T.isNd, T.size, sizeL, TyI.agg, Ty.agg, Ty.isFn, zeroT, List.map_cons, List.map_nil, List.take_succ_cons, List.take_zero, Nat.add_zero, Nat.zero_add, Bool.and_self, Bool.and_true, Bool.true_and, Nat.reduceLT, Nat.lt_add_one, Nat.zero_lt_one, Nat.reduceEqDiff, List.toList_toArray, sumT, kill, Y3, Y4, Y22, Y23, Y24, Y27, Y29, Y50, Y81])
      | refine SW.seq ?_
      | refine SW.block ?_
      | (refine SW.cond rfl (fun _ => ?_) (fun _ => ?_))
      | (refine SW.exit ?_; simp only [thenS, blockS, if_true, if_false, Nat.reduceEqDiff, reduceIte])
      | (refine SW.skip ?_; simp only [thenS, blockS])
      | refine SW.ret (show RetQ _ _ _ _ _ _ _ from ⟨.inr rfl, [_], [1], [_], _, rfl, rfl, rfl, rfl, rfl, ?_⟩)
    refine ⟨n - 1, i + 1, by omega, ⟨by omega, by omega⟩, ?_⟩
    rw [wrap64 _ (by omega) (by omega)]
    exact Norm.to 1 rfl (by simp [weakL])
  · have hge : i = l.length := by
      have : ¬ i < l.length := by simpa using hc
      omega
    subst hge
    repeat' first
      | (refine SW.ops_seq hY fun y1 hy1 => ?_; simp only [eq_self, Int.natCast_nonneg, Int.toNat_natCast, List.length_map, indexAddrM, steps_len, k0, k1, k2, k3, k4, k5, k6, k7, k9, k10, k11, vopl_nil, grown_t, grown_f, after_f, after_t, after_u, isCall, callT, opM, S.ev, S.put, entryS, thawAL, thawA, RM.run, RM.bind, RM.ofOpt, allocs, Heap.ups, Heap.put, Heap.at, List.replicate, List.length_cons, List.length_nil, List.append_nil, List.nil_append, List.cons_append, Nat.reduceAdd, Nat.reduceSub, ofConst, nilAs, if_false, if_true, Bool.false_eq_true, List.set_cons_succ, List.set_cons_zero, List.getD_cons_zero, List.getD_cons_succ, binT, binTy, unT, Option.map_some, Option.map_none, guardT, List.getElem?_toArray, List.getElem?_cons_succ, List.getElem?_cons_zero, Option.bind_some, pickT, quietK, stripT, openT, Bool.not_or_self, reduceIte, true_and, and_true, and_self, beq_true, Bool.not_not, boxM, allocM, loadM, storeM, fieldAddrM, lenT, extractT, subM, setOb, T.get, T.setp, T.offs, T.nw, nwL, T.cel, T.isNd, T.size, sizeL, TyI.agg, Ty.agg, Ty.isFn, zeroT, List.map_cons, List.map_nil, List.take_succ_cons, List.take_zero, Nat.add_zero, Nat.zero_add, Bool.and_self, Bool.and_true, Bool.true_and, Nat.reduceLT, Nat.lt_add_one, Nat.zero_lt_one, Nat.reduceEqDiff, List.toList_toArray, sumT, kill, Y3, Y4, Y22, Y23, Y24, Y27, Y29, Y50, Y81]; subst hy1)
      | (refine SW.ops hY ?_; simp only [eq_self, Int.natCast_nonneg, Int.toNat_natCast, List.length_map, indexAddrM, steps_len, k0, k1, k2, k3, k4, k5, k6, k7, k9, k10, k11, vopl_nil, grown_t, grown_f, after_f, after_t, after_u, isCall, callT, opM, S.ev, S.put, entryS, thawAL, thawA, RM.run, RM.bind, RM.ofOpt, allocs, Heap.ups, Heap.put, Heap.at, List.replicate, List.length_cons, List.length_nil, List.append_nil, List.nil_append, List.cons_append, Nat.reduceAdd, Nat.reduceSub, ofConst, nilAs, if_false, if_true, Bool.false_eq_true, List.set_cons_succ, List.set_cons_zero, List.getD_cons_zero, List.getD_cons_succ, binT, binTy, unT, Option.map_some, Option.map_none, guardT, List.getElem?_toArray, List.getElem?_cons_succ, List.getElem?_cons_zero, Option.bind_some, pickT, quietK, stripT, openT, Bool.not_or_self, reduceIte, true_and, and_true, and_self, beq_true, Bool.not_not, boxM, allocM, loadM, storeM, fieldAddrM, lenT, extractT, subM, setOb, T.get, T.setp, T.offs, T.nw, nwL, T.cel, T.isNd, T.size, sizeL, TyI.agg, Ty.agg, Ty.isFn, zeroT, List.map_cons, List.map_nil, List.take_succ_cons, List.take_zero, Nat.add_zero, Nat.zero_add, Bool.and_self, Bool.and_true, Bool.true_and, Nat.reduceLT, Nat.lt_add_one, Nat.zero_lt_one, Nat.reduceEqDiff, List.toList_toArray, sumT, kill, Y3, Y4, Y22, Y23, Y24, Y27, Y29, Y50, Y81]; try simp only [thenS, blockS, if_true, if_false, Nat.reduceEqDiff, reduceIte])
      | (simp only [k8]; refine ⟨fun hb => ?_, fun hb => ?_⟩ <;> (try replace hb := Bool.eq_false_iff.2 hb) <;> simp only [hb, eq_self, Int.natCast_nonneg, Int.toNat_natCast, List.length_map, indexAddrM, steps_len, k0, k1, k2, k3, k4, k5, k6, k7, k9, k10, k11, vopl_nil, grown_t, grown_f, after_f, after_t, after_u, isCall, callT, opM, S.ev, S.put, entryS, thawAL, thawA, RM.run, RM.bind, RM.ofOpt, allocs, Heap.ups, Heap.put, Heap.at, List.replicate, List.length_cons, List.length_nil, List.append_nil, List.nil_append, List.cons_append, Nat.reduceAdd, Nat.reduceSub, ofConst, nilAs, if_false, if_true, Bool.false_eq_true, List.set_cons_succ, List.set_cons_zero, List.getD_cons_zero, List.getD_cons_succ, binT, binTy, unT, Option.map_some, Option.map_none, guardT, List.getElem?_toArray, List.getElem?_cons_succ, List.getElem?_cons_zero, Option.bind_some, pickT, quietK, stripT, openT, Bool.not_or_self, reduceIte, true_and, and_true, and_self, beq_true, Bool.not_not, boxM, allocM, loadM, storeM, fieldAddrM, lenT, extractT, subM, setOb, T.get, T.setp, T.offs, T.nw, nwL, T.cel, T.isNd, T.size, sizeL, TyI.agg, Ty.agg, Ty.isFn, zeroT, List.map_cons, List.map_nil, List.take_succ_cons, List.take_zero, Nat.add_zero, Nat.zero_add, Bool.and_self, Bool.and_true, Bool.true_and, Nat.reduceLT, Nat.lt_add_one, Nat.zero_lt_one, Nat.reduceEqDiff, List.toList_toArray, sumT, kill, Y3, Y4, Y22, Y23, Y24, Y27, Y29, Y50, Y81])
      | refine SW.seq ?_
      | refine SW.block ?_
      | (refine SW.cond rfl (fun _ => ?_) (fun _ => ?_))
      | (refine SW.exit ?_; simp only [thenS, blockS, if_true, if_false, Nat.reduceEqDiff, reduceIte])
      | (refine SW.skip ?_; simp only [thenS, blockS])
    refine SW.ret (show RetQ _ _ _ _ _ _ _ from ⟨.inr rfl, [.ref 1 0 0 l.length], [2], [.ow 2 (steps l)], [[], [.gone]], ⟨rfl, ?_, rfl, ?_, rfl, rfl⟩⟩)
    · simp [pass1, giveS, Heap.at, Heap.put, fill_all, cloL_steps, steps_len, fixEs, ioAt, T.cel, T.clo]
    · simp [cloL, T.clo, cloL_steps]
theorem toPath_ok (fr : Int) (l : List (Int × Int)) (hl : l.length ≤ 1048576) : CallR Try.prog 8 [.nd [.int .i64 fr, .sl .b (steps l)]] [] (.nd [.int .i64 fr, .ow 2 (steps l)]) := by
  refine CallR.of_body (n := 12) (rs := [.cell 2 29]) hY.ok Try.func8 rfl (by decide) rfl rfl rfl rfl (fun F => ?_)
  repeat' first
    | (refine SW.ops_seq hY fun y1 hy1 => ?_; simp only [eq_self, Int.natCast_nonneg, Int.toNat_natCast, List.length_map, indexAddrM, steps_len, k0, k1, k2, k3, k4, k5, k6, k7, k9, k10, k11, vopl_nil, grown_t, grown_f, after_f, after_t, after_u, isCall, callT, opM, S.ev, S.put, entryS, thawAL, thawA, RM.run, RM.bind, RM.ofOpt, allocs, Heap.ups, Heap.put, Heap.at, List.replicate, List.length_cons, List.length_nil, List.append_nil, List.nil_append, List.cons_append, Nat.reduceAdd, Nat.reduceSub, ofConst, nilAs, if_false, if_true, Bool.false_eq_true, List.set_cons_succ, List.set_cons_zero, List.getD_cons_zero, List.getD_cons_succ, binT, binTy, unT, Option.map_some, Option.map_none, guardT, List.getElem?_toArray, List.getElem?_cons_succ, List.getElem?_cons_zero, Option.bind_some, pickT, quietK, stripT, openT, Bool.not_or_self, reduceIte, true_and, and_true, and_self, beq_true, Bool.not_not, boxM, allocM, loadM, storeM, fieldAddrM, lenT, extractT, subM, setOb, T.get, T.setp, T.offs, T.nw, nwL, T.cel, T.isNd, T.size, sizeL, TyI.agg, Ty.agg, Ty.isFn, zeroT, List.map_cons, List.map_nil, List.take_succ_cons, List.take_zero, Nat.add_zero, Nat.zero_add, Bool.and_self, Bool.and_true, Bool.true_and, Nat.reduceLT, Nat.lt_add_one, Nat.zero_lt_one, Nat.reduceEqDiff, List.toList_toArray, sumT, kill, Y3, Y4, Y22, Y23, Y24, Y27, Y29, Y50, Y81]; subst hy1)
    | (refine SW.ops hY ?_; simp only [eq_self, Int.natCast_nonneg, Int.toNat_natCast, List.length_map, indexAddrM, steps_len, k0, k1, k2, k3, k4, k5, k6, k7, k9, k10, k11, vopl_nil, grown_t, grown_f, after_f, after_t, after_u, isCall, callT, opM, S.ev, S.put, entryS, thawAL, thawA, RM.run, RM.bind, RM.ofOpt, allocs, Heap.ups, Heap.put, Heap.at, List.replicate, List.length_cons, List.length_nil, List.append_nil, List.nil_append, List.cons_append, Nat.reduceAdd, Nat.reduceSub, ofConst, nilAs, if_false, if_true, Bool.false_eq_true, List.set_cons_succ, List.set_cons_zero, List.getD_cons_zero, List.getD_cons_succ, binT, binTy, unT, Option.map_some, Option.map_none, guardT, List.getElem?_toArray, List.getElem?_cons_succ, List.getElem?_cons_zero, Option.bind_some, pickT, quietK, stripT, openT, Bool.not_or_self, reduceIte, true_and, and_true, and_self, beq_true, Bool.not_not, boxM, allocM, loadM, storeM, fieldAddrM, lenT, extractT, subM, setOb, T.get, T.setp, T.offs, T.nw, nwL, T.cel, T.isNd, T.size, sizeL, TyI.agg, Ty.agg, Ty.isFn, zeroT, List.map_cons, List.map_nil, List.take_succ_cons, List.take_zero, Nat.add_zero, Nat.zero_add, Bool.and_self, Bool.and_true, Bool.true_and, Nat.reduceLT, Nat.lt_add_one, Nat.zero_lt_one, Nat.reduceEqDiff, List.toList_toArray, sumT, kill, Y3, Y4, Y22, Y23, Y24, Y27, Y29, Y50, Y81]; try simp only [thenS, blockS, if_true, if_false, Nat.reduceEqDiff, reduceIte])
    | (refine vcall_to [] (toSteps_ok _ hl) rfl (by first | rfl | simp [pass2, lendM, lendA, lendAL, lendAL_steps, RM.bind, RM.run]) (by first | rfl | simp [resClo, T.clo, cloL, cloL_steps]) rfl ?_; simp only [eq_self, Int.natCast_nonneg, Int.toNat_natCast, List.length_map, indexAddrM, steps_len, k0, k1, k2, k3, k4, k5, k6, k7, k9, k10, k11, vopl_nil, grown_t, grown_f, after_f, after_t, after_u, isCall, callT, opM, S.ev, S.put, entryS, thawAL, thawA, RM.run, RM.bind, RM.ofOpt, allocs, Heap.ups, Heap.put, Heap.at, List.replicate, List.length_cons, List.length_nil, List.append_nil, List.nil_append, List.cons_append, Nat.reduceAdd, Nat.reduceSub, ofConst, nilAs, if_false, if_true, Bool.false_eq_true, List.set_cons_succ, List.set_cons_zero, List.getD_cons_zero, List.getD_cons_succ, binT, binTy, unT, Option.map_some, Option.map_none, guardT, List.getElem?_toArray, List.getElem?_cons_succ, List.getElem?_cons_zero, Option.bind_some, pickT, quietK, stripT, openT, Bool.not_or_self, reduceIte, true_and, and_true, and_self, beq_true, Bool.not_not, boxM, allocM, loadM, storeM, fieldAddrM, lenT, extractT, subM, setOb, T.get, T.setp, T.offs, T.nw, nwL, T.cel, T.isNd, T.size, sizeL, TyI.agg, Ty.agg, Ty.isFn, zeroT, List.map_cons, List.map_nil, List.take_succ_cons, List.take_zero, Nat.add_zero, Nat.zero_add, Bool.and_self, Bool.and_true, Bool.true_and, Nat.reduceLT, Nat.lt_add_one, Nat.zero_lt_one, Nat.reduceEqDiff, List.toList_toArray, sumT, kill, Y3, Y4, Y22, Y23, Y24, Y27, Y29, Y50, Y81]; try simp only [thenS, blockS, if_true, if_false, Nat.reduceEqDiff, reduceIte])
    | (simp only [k8]; refine ⟨fun hb => ?_, fun hb => ?_⟩ <;> (try replace hb := Bool.eq_false_iff.2 hb) <;> simp only [hb, eq_self, Int.natCast_nonneg, Int.toNat_natCast, List.length_map, indexAddrM, steps_len, k0, k1, k2, k3, k4, k5, k6, k7, k9, k10, k11, vopl_nil, grown_t, grown_f, after_f, after_t, after_u, isCall, callT, opM, S.ev, S.put, entryS, thawAL, thawA, RM.run, RM.bind, RM.ofOpt, allocs, Heap.ups, Heap.put, Heap.at, List.replicate, List.length_cons, List.length_nil, List.append_nil, List.nil_append, List.cons_append, Nat.reduceAdd, Nat.reduceSub, ofConst, nilAs, if_false, if_true, Bool.false_eq_true, List.set_cons_succ, List.set_cons_zero, List.getD_cons_zero, List.getD_cons_succ, binT, binTy, unT, Option.map_some, Option.map_none, guardT, List.getElem?_toArray, List.getElem?_cons_succ, List.getElem?_cons_zero, Option.bind_some, pickT, quietK, stripT, openT, Bool.not_or_self, reduceIte, true_and, and_true, and_self, beq_true, Bool.not_not, boxM, allocM, loadM, storeM, fieldAddrM, lenT, extractT, subM, setOb, T.get, T.setp, T.offs, T.nw, nwL, T.cel, T.isNd, T.size, sizeL, TyI.agg, Ty.agg, Ty.isFn, zeroT, List.map_cons, List.map_nil, List.take_succ_cons, List.take_zero, Nat.add_zero, Nat.zero_add, Bool.and_self, Bool.and_true, Bool.true_and, Nat.reduceLT, Nat.lt_add_one, Nat.zero_lt_one, Nat.reduceEqDiff, List.toList_toArray, sumT, kill, Y3, Y4, Y22, Y23, Y24, Y27, Y29, Y50, Y81])
    | refine SW.seq ?_
    | refine SW.block ?_
    | (refine SW.cond rfl (fun _ => ?_) (fun _ => ?_))
    | (refine SW.exit ?_; simp only [thenS, blockS, if_true, if_false, Nat.reduceEqDiff, reduceIte])
    | (refine SW.skip ?_; simp only [thenS, blockS])
  refine SW.ret (show RetQ _ _ _ _ _ _ _ from ⟨.inr rfl, [.nd [.int .i64 fr, .ref 4 0 0 l.length]], [0], [.nd [.int .i64 fr, .ow 2 (steps l)]], ?_, ⟨?_, ?_, rfl, ?_, rfl, rfl⟩⟩)
  rotate_left
  · rfl
  · simp [pass1, giveS, giveSL, Heap.at, Heap.put, cloL_steps, steps_len, fixEs, ioAt, T.cel, T.clo]; rfl
  · simp [cloL, T.clo, cloL_steps]
end P1
