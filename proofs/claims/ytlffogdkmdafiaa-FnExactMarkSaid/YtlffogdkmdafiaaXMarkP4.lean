/- Shows what the parts of the program do that the claim reaches: a machine of values over the model, and the contracts of functions, for all arguments within the lengths that each theorem names. -/
import Derived.Test.YtlffogdkmdafiaaXMarkP3
import Derived.Test.YtlffogdkmdafiaaVm4
set_option linter.all false

namespace Q1
open Go Go.Vm Go.Proofs
set_option maxHeartbeats 4000000
set_option synthInstance.maxSize 2000
set_option synthInstance.maxHeartbeats 400000
set_option maxRecDepth 10000
set_option linter.unusedSimpArgs false
set_option linter.unusedVariables false

theorem implMark_y (v : List SlotT) (hvl : Enc.lim 1048576 v) (a most : Int) (hvw : viewB v = true) (ha : 1 ≤ a ∧ a ≤ 31) (hm : 1 ≤ most ∧ most ≤ 40) : CallR Try.prog 22 [.sl .b (v.map Enc.b), .int .i64 a, .int .i64 most] [] (.tup [.ow 1 ((markR v a.toNat most).1.map Enc.o), .int .i64 ((markR v a.toNat most).2 : Int)]) := by
  refine CallR.of_body (n := 89) (rs := [.tmp 6, .tmp 7]) hY.ok Try.func22 rfl (by decide) rfl rfl rfl rfl (fun F => ?_)
  have hV := implViewOk_ok v hvl
  have hO := oid_ok a
  have hI := in_ok most 1 40
  rw [hvw] at hV
  rw [show (decide (a ≥ 1) && decide (a ≤ 31)) = true by simp [ha]] at hO
  rw [show (decide (most ≥ 1) && decide (most ≤ 40)) = true by simp [hm]] at hI
  have hv := vok_of hvw
  have hG0 := ms0_good (v := v) (root := a.toNat) hm.1 (by omega)
  have hD0 := drn_ok hv hm.2 hG0
  have hal : a.toNat < v.length := by rw [hv.len]; omega
  have ha0 : 0 ≤ a := by omega
  have ha32 : a < ((32 : Nat) : Int) := by omega
  have hha : hasA v a.toNat = v[a.toNat].1 := by unfold hasA; rw [List.getElem?_eq_getElem hal]
  have hDr := drain_ok 0 v hv hvl (ms0 v a.toNat) most hm.2 hG0
  have hout := outOk_of hv hm.1 hm.2 34 hD0.1 hD0.2.1 (by have := cnt_le32 hD0.1; omega)
  have hlen := outD_len hv hm.1 hm.2 34 0 hD0.1 hD0.2.1
  have hRdef : markR v a.toNat most = outD v most 34 (drn v most (ms0 v a.toNat)) 0 := rfl
  have hgv : (v.map Enc.b)[a.toNat]? = some (.nd [.bool v[a.toNat].1, .nd [.int .i64 v[a.toNat].2.1.1, .sl .b (v[a.toNat].2.1.2.1.map Enc.b), .sl .b (v[a.toNat].2.1.2.2.1.map Enc.b)]]) := map_get Enc.b v _ hal
  cases hh : v[a.toNat].1 with
  | true =>
    rw [hh] at hgv hha
    have hm0 : ms0 v a.toNat = ⟨(List.replicate 32 false).set a.toNat true, [a], false⟩ := by unfold ms0; rw [if_pos hha]; simp; omega
    have hP := put_ok 0 v ⟨(List.replicate 32 false).set a.toNat true, [], false⟩ most a (by simp)
    have hP1 : put1 most ⟨(List.replicate 32 false).set a.toNat true, [], false⟩ a = ms0 v a.toNat := by rw [hm0]; unfold put1; rw [if_pos (by simp; omega)]; rfl
    rw [hP1] at hP
    have hgr : (rep32.map (Enc.o : Bool → T))[a.toNat]? = some (.bool false) := by rw [List.getElem?_map, List.getElem?_eq_getElem (by simp [rep32]; omega), rep32_get]; rfl
    have hsr : (rep32.map (Enc.o : Bool → T)).set a.toNat (.bool true) = ((List.replicate 32 false).set a.toNat true).map Enc.o := set_o rep32 a.toNat true
    simp only [List.map_nil] at hP
    generalize ms0 v a.toNat = s0 at *
    repeat' first
      | ((have hk8 := Nat.add_zero); (first | refine SW.ops_seq hY fun y1 hy1 => ?_ | refine SW.ops hY ?_ | refine SW.draw_seq hY mixed (by kernel_rfl) fun y1 hy1 => ?_ | refine SW.draw hY mixed (by kernel_rfl) ?_ | refine vcall_to [] (hV) (by first | rfl | (simp [-List.map_set, -List.map_append, pass1, modeOf, giveS, giveSL, fixEs, Heap.at, Heap.put, T.cel, cloL, cloAL, T.cloA]; first | rfl | exact ⟨rfl, rfl, rfl⟩)) (by first | rfl | (simp [-List.map_set, -List.map_append, pass2, T.tg, tgL, upT, lendM, lendA, lendAL, elemsM, Heap.at, marks_len, subM, T.get, T.offs, RM.bind, RM.run]; done) | (simp [-List.map_set, -List.map_append, pass2, T.tg, tgL, upT, lendM, lendA, lendAL, elemsM, Heap.at, marks_len, subM, T.get, T.offs, RM.bind, RM.run]; rfl)) (by first | rfl | simp [resClo, T.clo, cloL, T.clP, clPL]) (by first | rfl | (simp [-List.map_set, -List.map_append, fillB, T.cloO, T.clo, cloL, T.asArr, T.tg, tgL, dnT, obOf, Heap.at, Heap.put]; try rfl)) ?_ | refine vcall_to [] (hO) (by first | rfl | (simp [-List.map_set, -List.map_append, pass1, modeOf, giveS, giveSL, fixEs, Heap.at, Heap.put, T.cel, cloL, cloAL, T.cloA]; first | rfl | exact ⟨rfl, rfl, rfl⟩)) (by first | rfl | (simp [-List.map_set, -List.map_append, pass2, T.tg, tgL, upT, lendM, lendA, lendAL, elemsM, Heap.at, marks_len, subM, T.get, T.offs, RM.bind, RM.run]; done) | (simp [-List.map_set, -List.map_append, pass2, T.tg, tgL, upT, lendM, lendA, lendAL, elemsM, Heap.at, marks_len, subM, T.get, T.offs, RM.bind, RM.run]; rfl)) (by first | rfl | simp [resClo, T.clo, cloL, T.clP, clPL]) (by first | rfl | (simp [-List.map_set, -List.map_append, fillB, T.cloO, T.clo, cloL, T.asArr, T.tg, tgL, dnT, obOf, Heap.at, Heap.put]; try rfl)) ?_ | refine vcall_to [] (hI) (by first | rfl | (simp [-List.map_set, -List.map_append, pass1, modeOf, giveS, giveSL, fixEs, Heap.at, Heap.put, T.cel, cloL, cloAL, T.cloA]; first | rfl | exact ⟨rfl, rfl, rfl⟩)) (by first | rfl | (simp [-List.map_set, -List.map_append, pass2, T.tg, tgL, upT, lendM, lendA, lendAL, elemsM, Heap.at, marks_len, subM, T.get, T.offs, RM.bind, RM.run]; done) | (simp [-List.map_set, -List.map_append, pass2, T.tg, tgL, upT, lendM, lendA, lendAL, elemsM, Heap.at, marks_len, subM, T.get, T.offs, RM.bind, RM.run]; rfl)) (by first | rfl | simp [resClo, T.clo, cloL, T.clP, clPL]) (by first | rfl | (simp [-List.map_set, -List.map_append, fillB, T.cloO, T.clo, cloL, T.asArr, T.tg, tgL, dnT, obOf, Heap.at, Heap.put]; try rfl)) ?_ | refine vcall_to [.io] (hP) (by first | rfl | (simp [-List.map_set, -List.map_append, pass1, modeOf, giveS, giveSL, fixEs, Heap.at, Heap.put, T.cel, cloL, cloAL, T.cloA]; first | rfl | exact ⟨rfl, rfl, rfl⟩)) (by first | rfl | (simp [-List.map_set, -List.map_append, pass2, T.tg, tgL, upT, lendM, lendA, lendAL, elemsM, Heap.at, marks_len, subM, T.get, T.offs, RM.bind, RM.run]; done) | (simp [-List.map_set, -List.map_append, pass2, T.tg, tgL, upT, lendM, lendA, lendAL, elemsM, Heap.at, marks_len, subM, T.get, T.offs, RM.bind, RM.run]; rfl)) (by first | rfl | simp [resClo, T.clo, cloL, T.clP, clPL]) (by first | rfl | (simp [-List.map_set, -List.map_append, fillB, T.cloO, T.clo, cloL, T.asArr, T.tg, tgL, dnT, obOf, Heap.at, Heap.put]; try rfl)) ?_ | refine vcall_to [.io] (hDr) (by first | rfl | (simp [-List.map_set, -List.map_append, pass1, modeOf, giveS, giveSL, fixEs, Heap.at, Heap.put, T.cel, cloL, cloAL, T.cloA]; first | rfl | exact ⟨rfl, rfl, rfl⟩)) (by first | rfl | (simp [-List.map_set, -List.map_append, pass2, T.tg, tgL, upT, lendM, lendA, lendAL, elemsM, Heap.at, marks_len, subM, T.get, T.offs, RM.bind, RM.run]; done) | (simp [-List.map_set, -List.map_append, pass2, T.tg, tgL, upT, lendM, lendA, lendAL, elemsM, Heap.at, marks_len, subM, T.get, T.offs, RM.bind, RM.run]; rfl)) (by first | rfl | simp [resClo, T.clo, cloL, T.clP, clPL]) (by first | rfl | (simp [-List.map_set, -List.map_append, fillB, T.cloO, T.clo, cloL, T.asArr, T.tg, tgL, dnT, obOf, Heap.at, Heap.put]; try rfl)) ?_ | (simp only [k8]; refine ⟨fun hb => ?_, fun hb => ?_⟩ <;> (try replace hb := Bool.eq_false_iff.2 hb) <;> (first | exact absurd hb (by decide) | replace hk8 := hb))) <;> (simp only [hk8, hgv, hgr, hsr, mk32, ha0, ha32, tgL_up0, tgL_up, tgL_dn, tgL_dn0, Int.toNat_zero, Int.toNat_one, Int.le_refl, Int.zero_le_ofNat, Nat.zero_add, Int.toNat_natCast, T.asArr, T.tg, tgL, dnT, indexAddrM, wk, wl, eq_self, isCall, callT, opM, S.ev, S.put, entryS, thawAL, thawA, RM.run, RM.bind, RM.ofOpt, allocs, Heap.ups, Heap.put, Heap.at, List.replicate, Nat.reduceAdd, Nat.reduceSub, ofConst, nilAs, if_false, if_true, binT, binTy, unT, guardT, pickT, quietK, stripT, openT, reduceIte, boxM, allocM, loadM, storeM, fieldAddrM, lenT, extractT, subM, setOb, T.get, T.setp, T.offs, T.nw, nwL, T.cel, T.isNd, T.size, sizeL, TyI.agg, Ty.agg, Ty.isFn, zeroT, Nat.reduceLT, Nat.reduceEqDiff, sumT, kill, Y1, Y2, Y3, Y4, Y24, Y27, Y30, Y32, Y37, Y87, Y92, Y94]; clear hk8; first | subst hy1 | (try simp only [thenS, blockS, if_true, if_false, Nat.reduceEqDiff, reduceIte])))
      | exact absurd trivial hb
      | exact absurd hb (by decide)
      | exact absurd hcc (by decide)
      | refine SW.seq ?_
      | refine SW.block ?_
      | (refine SW.cond rfl (fun hcc => ?_) (fun hcc => ?_))
      | (refine SW.exit ?_; simp only [thenS, blockS, if_true, if_false, Nat.reduceEqDiff, reduceIte])
      | (refine SW.skip ?_; simp only [thenS, blockS])
    generalize hD0e : drn v most s0 = D0 at *
    rw [hRdef]
    generalize hRe : outD v most 34 D0 0 = R at *
    refine SW.loop (fun x : MS × Nat => ⟨[.sl .b (v.map Enc.b), .int .i64 a, .int .i64 most, .undef, .undef, .undef, .undef, .undef, .ptr 1 0 [] 0, .int .i64 ((x.2 : Nat) : Int), .undef, .undef, .undef, .undef, .undef, .undef, .undef, .undef, .undef, .undef, .undef, .undef, .undef, .undef, .undef, .undef, .undef, .undef, .undef, .undef, .undef, .undef, .undef, .undef, .undef, .undef, .undef, .undef, .undef, .undef, .undef, .undef, .undef, .undef, .undef, .undef, .undef, .undef, .undef, .undef, .undef, .undef, .undef, .undef, .undef, .undef, .undef, .undef, .undef, .undef, .undef, .undef, .undef, .undef, .undef, .undef, .undef, .undef, .undef, .undef, .undef, .undef, .undef, .undef, .undef, .undef, .undef, .undef, .undef, .undef, .undef, .undef, .undef, .undef, .undef, .undef, .undef, .undef, .undef], [[], [.var (.nd [.sl .b (v.map Enc.b), .ref 2 0 0 (x.1.m).length, .ref 2 1 0 (x.1.q).length, .int .i64 most, .bool x.1.o])], [.arr 1 ((x.1.m).map Enc.o) false, .arr 1 ((x.1.q).map Enc.o) false]]⟩)
      (fun n x => n ≤ 34 ∧ Good most x.1 ∧ x.1.q = [] ∧ outOk v most n x.1 ∧ outD v most n x.1 x.2 = R ∧ x.2 + n ≤ 34) (n := 34) (x := (D0, 0)) (Norm.trans (Norm.re [0, 5] (by decide) rfl (by simp [heapFits, rowFits, obFits, T.ren, renL]) (by simp [tmFits, T.ren])) (openO v _ D0 most)) ⟨Nat.le_refl _, hD0.1, hD0.2.1, hout, hRe, Nat.le_refl _⟩ ?_
    rintro n ⟨d, t⟩ ⟨hn, hd, hq, hok, hR, ht⟩
    simp only at hd hq hok hR ht ⊢
    repeat' first
      | (refine SW.ops_seq hY fun y1 hy1 => ?_; simp only [T.asArr, T.tg, tgL, dnT, indexAddrM, wk, wl, eq_self, isCall, callT, opM, S.ev, S.put, entryS, thawAL, thawA, RM.run, RM.bind, RM.ofOpt, allocs, Heap.ups, Heap.put, Heap.at, List.replicate, Nat.reduceAdd, Nat.reduceSub, ofConst, nilAs, if_false, if_true, binT, binTy, unT, guardT, pickT, quietK, stripT, openT, reduceIte, boxM, allocM, loadM, storeM, fieldAddrM, lenT, extractT, subM, setOb, T.get, T.setp, T.offs, T.nw, nwL, T.cel, T.isNd, T.size, sizeL, TyI.agg, Ty.agg, Ty.isFn, zeroT, Nat.reduceLT, Nat.reduceEqDiff, sumT, kill, Y1, Y2, Y3, Y4, Y24, Y27, Y30, Y32, Y37, Y87, Y92, Y94]; subst hy1)
      | refine SW.seq ?_
    refine SW.cond rfl (fun hc => ?_) (fun hc => ?_)
    · obtain ⟨n, rfl⟩ : ∃ m, n = m + 1 := by
        cases n with
        | zero => exfalso; simp only [outOk] at hok; rw [hok] at hc; cases hc
        | succ m => exact ⟨m, rfl⟩
      have hR' : outD v most n (drn v most (scanA v most d 32)) (t + 1) = R := by rw [← hR]; simp only [outD, hc, if_true]
      have hok' := hok hc
      have hwt : IntKind.i64.wrap ((t : Int) + 1) = ((t + 1 : Nat) : Int) := by rw [wrap64 _ (by omega) (by omega)]; omega
      have hml := hd.ml
      have hCl := cloneB_ok d.m (by omega)
      have hsc := scanA_ok (v := v) hm.1 hd hq
      repeat' first
        | ((have hk8 := Nat.add_zero); (first | refine SW.ops_seq hY fun y1 hy1 => ?_ | refine SW.ops hY ?_ | refine SW.draw_seq hY mixed (by kernel_rfl) fun y1 hy1 => ?_ | refine SW.draw hY mixed (by kernel_rfl) ?_ | refine vcall_to [] (hCl) (by first | rfl | (simp [-List.map_set, -List.map_append, pass1, modeOf, giveS, giveSL, fixEs, Heap.at, Heap.put, T.cel, cloL, cloAL, T.cloA]; first | rfl | exact ⟨rfl, rfl, rfl⟩)) (by first | rfl | (simp [-List.map_set, -List.map_append, pass2, T.tg, tgL, upT, lendM, lendA, lendAL, elemsM, Heap.at, marks_len, subM, T.get, T.offs, RM.bind, RM.run]; done) | (simp [-List.map_set, -List.map_append, pass2, T.tg, tgL, upT, lendM, lendA, lendAL, elemsM, Heap.at, marks_len, subM, T.get, T.offs, RM.bind, RM.run]; rfl)) (by first | rfl | simp [resClo, T.clo, cloL, T.clP, clPL]) (by first | rfl | (simp [-List.map_set, -List.map_append, fillB, T.cloO, T.clo, cloL, T.asArr, T.tg, tgL, dnT, obOf, Heap.at, Heap.put]; try rfl)) ?_) <;> (simp only [hk8, hwt, tgL_up0, tgL_up, tgL_dn, tgL_dn0, Int.toNat_zero, Int.toNat_one, Int.le_refl, Int.zero_le_ofNat, Nat.zero_add, Int.toNat_natCast, T.asArr, T.tg, tgL, dnT, indexAddrM, wk, wl, eq_self, isCall, callT, opM, S.ev, S.put, entryS, thawAL, thawA, RM.run, RM.bind, RM.ofOpt, allocs, Heap.ups, Heap.put, Heap.at, List.replicate, Nat.reduceAdd, Nat.reduceSub, ofConst, nilAs, if_false, if_true, binT, binTy, unT, guardT, pickT, quietK, stripT, openT, reduceIte, boxM, allocM, loadM, storeM, fieldAddrM, lenT, extractT, subM, setOb, T.get, T.setp, T.offs, T.nw, nwL, T.cel, T.isNd, T.size, sizeL, TyI.agg, Ty.agg, Ty.isFn, zeroT, Nat.reduceLT, Nat.reduceEqDiff, sumT, kill, Y1, Y2, Y3, Y4, Y24, Y27, Y30, Y32, Y37, Y87, Y92, Y94]; clear hk8; first | subst hy1 | (try simp only [thenS, blockS, if_true, if_false, Nat.reduceEqDiff, reduceIte])))
        | exact absurd trivial hb
        | exact absurd hb (by decide)
        | exact absurd hcc (by decide)
        | refine SW.seq ?_
        | refine SW.block ?_
        | (refine SW.exit ?_; simp only [thenS, blockS, if_true, if_false, Nat.reduceEqDiff, reduceIte])
        | (refine SW.skip ?_; simp only [thenS, blockS])
      refine SW.loop (fun x2 : MS × Nat => ⟨[.sl .b (v.map Enc.b), .int .i64 a, .int .i64 most, .undef, .undef, .undef, .undef, .undef, .ptr 1 0 [] 0, .int .i64 ((t + 1 : Nat) : Int), .undef, .undef, .undef, .undef, .undef, .undef, .undef, .undef, .undef, .undef, .undef, .undef, .undef, .undef, .undef, .undef, .undef, .undef, .undef, .undef, .undef, .undef, .undef, .undef, .undef, .undef, .undef, .undef, .undef, .undef, .undef, .undef, .undef, .undef, .undef, .undef, .undef, .undef, .undef, .undef, .undef, .undef, .undef, .undef, .undef, .undef, .undef, .undef, .undef, .undef, .undef, .ref 2 0 0 d.m.length, .int .i64 d.m.length, .int .i64 x2.2, .undef, .undef, .undef, .undef, .undef, .undef, .undef, .undef, .undef, .undef, .undef, .undef, .undef, .undef, .undef, .undef, .undef, .undef, .undef, .undef, .undef, .undef, .undef, .undef, .undef], [[], [.var (.nd [.sl .b (v.map Enc.b), .ref 3 0 0 (x2.1.m).length, .ref 3 1 0 (x2.1.q).length, .int .i64 most, .bool x2.1.o])], [.arr 1 ((d.m).map Enc.o) false], [.arr 1 ((x2.1.m).map Enc.o) false, .arr 1 ((x2.1.q).map Enc.o) false]]⟩)
        (fun N x2 => N = 32 - x2.2 ∧ x2.2 ≤ 32 ∧ x2.1 = scanA v most d x2.2) (n := 32) (x := (⟨d.m, d.q, false⟩, 0)) (Norm.re [0, 1, 3, 2] (by decide) rfl (by simp only [eq_self, heapFits, rowFits, obFits, List.getElem?_cons_zero, List.getElem?_cons_succ, renL_o, renL_b, true_and, and_true, and_self, renL_t, renL_cons, renL_nil, T.ren]) (by simp [tmFits, T.ren])) ⟨rfl, Nat.zero_le _, rfl⟩ ?_
      rintro N ⟨y, i⟩ ⟨hN, hi, hyy⟩
      simp only at hN hi hyy ⊢
      repeat' first
        | (refine SW.ops_seq hY fun y1 hy1 => ?_; simp only [T.asArr, T.tg, tgL, dnT, indexAddrM, wk, wl, eq_self, isCall, callT, opM, S.ev, S.put, entryS, thawAL, thawA, RM.run, RM.bind, RM.ofOpt, allocs, Heap.ups, Heap.put, Heap.at, List.replicate, Nat.reduceAdd, Nat.reduceSub, ofConst, nilAs, if_false, if_true, binT, binTy, unT, guardT, pickT, quietK, stripT, openT, reduceIte, boxM, allocM, loadM, storeM, fieldAddrM, lenT, extractT, subM, setOb, T.get, T.setp, T.offs, T.nw, nwL, T.cel, T.isNd, T.size, sizeL, TyI.agg, Ty.agg, Ty.isFn, zeroT, Nat.reduceLT, Nat.reduceEqDiff, sumT, kill, Y1, Y2, Y3, Y4, Y24, Y27, Y30, Y32, Y37, Y87, Y92, Y94]; subst hy1)
        | refine SW.seq ?_
      refine SW.cond rfl (fun hc2 => ?_) (fun hc2 => ?_)
      · have hlt : i < 32 := by rw [hml] at hc2; simp at hc2; omega
        obtain ⟨hy, hym, _, _⟩ := hsc i hi
        rw [← hyy] at hy hym
        have hlc : (i : Int) < (d.m.length : Int) := by omega
        have hgc : (d.m.map (Enc.o : Bool → T))[i]? = some (.bool (mrk d.m i)) := by rw [List.getElem?_map, List.getElem?_eq_getElem (by omega)]; simp [mrk, List.getElem?_eq_getElem (show i < d.m.length by omega), o_bool]
        have hil : i < v.length := by rw [hv.len]; exact hlt
        have hgvi : (v.map Enc.b)[i]? = some (.nd [.bool v[i].1, .nd [.int .i64 v[i].2.1.1, .sl .b (v[i].2.1.2.1.map Enc.b), .sl .b (v[i].2.1.2.2.1.map Enc.b)]]) := map_get Enc.b v _ hil
        have hrf : refsA v i = v[i].2.1.2.2.1 := by unfold refsA; rw [List.getElem?_eq_getElem hil]
        have hlimr : Enc.lim 1048576 v[i].2.1.2.2.1 := (hvl.2 _ (List.getElem_mem hil)).2.1.2.2.1
        have hrr := hv.rf i
        rw [hrf] at hrr
        have hA := anyUn_ok v[i].2.1.2.2.1 hlimr v y most hv hy.ml hrr
        have hlk0 : lacks v y.m i = v[i].2.1.2.2.1.any (lackB v y.m) := by unfold lacks; rw [hrf]
        rw [← hlk0] at hA
        have hwi : IntKind.i64.wrap ((i : Int) + 1) = ((i + 1 : Nat) : Int) := by rw [wrap64 _ (by omega) (by omega)]; omega
        have hstep : scanA v most d (i + 1) = scan1 v most y i := by rw [hyy]; unfold scanA; rw [List.range_succ, List.foldl_append]; rfl
        have hmy : mrk y.m i = mrk d.m i := by rw [hym]
        have hqy := hy.ql
        have hP := put_ok 0 v y most i (by omega)
        cases hmk : mrk d.m i with
        | false =>
          rw [hmk] at hgc hmy
          repeat' first
            | ((have hk8 := Nat.add_zero); (first | refine SW.ops_seq hY fun y1 hy1 => ?_ | refine SW.ops hY ?_ | refine SW.draw_seq hY mixed (by kernel_rfl) fun y1 hy1 => ?_ | refine SW.draw hY mixed (by kernel_rfl) ?_ | refine vcall_to [] (hA) (by first | rfl | (simp [-List.map_set, -List.map_append, pass1, modeOf, giveS, giveSL, fixEs, Heap.at, Heap.put, T.cel, cloL, cloAL, T.cloA]; first | rfl | exact ⟨rfl, rfl, rfl⟩)) (by first | rfl | (simp [-List.map_set, -List.map_append, pass2, T.tg, tgL, upT, lendM, lendA, lendAL, elemsM, Heap.at, marks_len, subM, T.get, T.offs, RM.bind, RM.run]; done) | (simp [-List.map_set, -List.map_append, pass2, T.tg, tgL, upT, lendM, lendA, lendAL, elemsM, Heap.at, marks_len, subM, T.get, T.offs, RM.bind, RM.run]; rfl)) (by first | rfl | simp [resClo, T.clo, cloL, T.clP, clPL]) (by first | rfl | (simp [-List.map_set, -List.map_append, fillB, T.cloO, T.clo, cloL, T.asArr, T.tg, tgL, dnT, obOf, Heap.at, Heap.put]; try rfl)) ?_ | (simp only [k8]; refine ⟨fun hb => ?_, fun hb => ?_⟩ <;> (try replace hb := Bool.eq_false_iff.2 hb) <;> (first | exact absurd hb (by decide) | replace hk8 := hb))) <;> (simp only [hk8, hgc, hgvi, hlc, hwi, tgL_up0, tgL_up, tgL_dn, tgL_dn0, Int.toNat_zero, Int.toNat_one, Int.le_refl, Int.zero_le_ofNat, Nat.zero_add, Int.toNat_natCast, T.asArr, T.tg, tgL, dnT, indexAddrM, wk, wl, eq_self, isCall, callT, opM, S.ev, S.put, entryS, thawAL, thawA, RM.run, RM.bind, RM.ofOpt, allocs, Heap.ups, Heap.put, Heap.at, List.replicate, Nat.reduceAdd, Nat.reduceSub, ofConst, nilAs, if_false, if_true, binT, binTy, unT, guardT, pickT, quietK, stripT, openT, reduceIte, boxM, allocM, loadM, storeM, fieldAddrM, lenT, extractT, subM, setOb, T.get, T.setp, T.offs, T.nw, nwL, T.cel, T.isNd, T.size, sizeL, TyI.agg, Ty.agg, Ty.isFn, zeroT, Nat.reduceLT, Nat.reduceEqDiff, sumT, kill, Y1, Y2, Y3, Y4, Y24, Y27, Y30, Y32, Y37, Y87, Y92, Y94]; clear hk8; first | subst hy1 | (try simp only [thenS, blockS, if_true, if_false, Nat.reduceEqDiff, reduceIte])))
            | exact absurd trivial hb
            | exact absurd hb (by decide)
            | exact absurd hcc (by decide)
            | refine SW.seq ?_
            | refine SW.block ?_
            | (refine SW.cond rfl (fun hcc => ?_) (fun hcc => ?_))
            | (refine SW.exit ?_; simp only [thenS, blockS, if_true, if_false, Nat.reduceEqDiff, reduceIte])
            | (refine SW.skip ?_; simp only [thenS, blockS])
          refine ⟨N - 1, (y, i + 1), by omega, ⟨by simp only; omega, by simp only; omega, by simp only; rw [hstep]; unfold scan1; simp [hmy]⟩, Norm.re [0, 1, 2, 3] (by decide) rfl (by simp only [eq_self, heapFits, rowFits, obFits, List.getElem?_cons_zero, List.getElem?_cons_succ, renL_o, renL_b, true_and, and_true, and_self, renL_t, renL_cons, renL_nil, T.ren]) (by simp [tmFits, T.ren])⟩
        | true =>
          rw [hmk] at hgc hmy
          cases hlk : lacks v y.m i with
          | false =>
            rw [hlk] at hA
            repeat' first
              | ((have hk8 := Nat.add_zero); (first | refine SW.ops_seq hY fun y1 hy1 => ?_ | refine SW.ops hY ?_ | refine SW.draw_seq hY mixed (by kernel_rfl) fun y1 hy1 => ?_ | refine SW.draw hY mixed (by kernel_rfl) ?_ | refine vcall_to [] (hA) (by first | rfl | (simp [-List.map_set, -List.map_append, pass1, modeOf, giveS, giveSL, fixEs, Heap.at, Heap.put, T.cel, cloL, cloAL, T.cloA]; first | rfl | exact ⟨rfl, rfl, rfl⟩)) (by first | rfl | (simp [-List.map_set, -List.map_append, pass2, T.tg, tgL, upT, lendM, lendA, lendAL, elemsM, Heap.at, marks_len, subM, T.get, T.offs, RM.bind, RM.run]; done) | (simp [-List.map_set, -List.map_append, pass2, T.tg, tgL, upT, lendM, lendA, lendAL, elemsM, Heap.at, marks_len, subM, T.get, T.offs, RM.bind, RM.run]; rfl)) (by first | rfl | simp [resClo, T.clo, cloL, T.clP, clPL]) (by first | rfl | (simp [-List.map_set, -List.map_append, fillB, T.cloO, T.clo, cloL, T.asArr, T.tg, tgL, dnT, obOf, Heap.at, Heap.put]; try rfl)) ?_ | (simp only [k8]; refine ⟨fun hb => ?_, fun hb => ?_⟩ <;> (try replace hb := Bool.eq_false_iff.2 hb) <;> (first | exact absurd hb (by decide) | replace hk8 := hb))) <;> (simp only [hk8, hgc, hgvi, hlc, hwi, tgL_up0, tgL_up, tgL_dn, tgL_dn0, Int.toNat_zero, Int.toNat_one, Int.le_refl, Int.zero_le_ofNat, Nat.zero_add, Int.toNat_natCast, T.asArr, T.tg, tgL, dnT, indexAddrM, wk, wl, eq_self, isCall, callT, opM, S.ev, S.put, entryS, thawAL, thawA, RM.run, RM.bind, RM.ofOpt, allocs, Heap.ups, Heap.put, Heap.at, List.replicate, Nat.reduceAdd, Nat.reduceSub, ofConst, nilAs, if_false, if_true, binT, binTy, unT, guardT, pickT, quietK, stripT, openT, reduceIte, boxM, allocM, loadM, storeM, fieldAddrM, lenT, extractT, subM, setOb, T.get, T.setp, T.offs, T.nw, nwL, T.cel, T.isNd, T.size, sizeL, TyI.agg, Ty.agg, Ty.isFn, zeroT, Nat.reduceLT, Nat.reduceEqDiff, sumT, kill, Y1, Y2, Y3, Y4, Y24, Y27, Y30, Y32, Y37, Y87, Y92, Y94]; clear hk8; first | subst hy1 | (try simp only [thenS, blockS, if_true, if_false, Nat.reduceEqDiff, reduceIte])))
              | exact absurd trivial hb
              | exact absurd hb (by decide)
              | exact absurd hcc (by decide)
              | refine SW.seq ?_
              | refine SW.block ?_
              | (refine SW.cond rfl (fun hcc => ?_) (fun hcc => ?_))
              | (refine SW.exit ?_; simp only [thenS, blockS, if_true, if_false, Nat.reduceEqDiff, reduceIte])
              | (refine SW.skip ?_; simp only [thenS, blockS])
            refine ⟨N - 1, (y, i + 1), by omega, ⟨by simp only; omega, by simp only; omega, by simp only; rw [hstep]; unfold scan1; simp [hlk]⟩, Norm.re [0, 1, 2, 3] (by decide) rfl (by simp only [eq_self, heapFits, rowFits, obFits, List.getElem?_cons_zero, List.getElem?_cons_succ, renL_o, renL_b, true_and, and_true, and_self, renL_t, renL_cons, renL_nil, T.ren]) (by simp [tmFits, T.ren])⟩
          | true =>
            rw [hlk] at hA
            have hsce : scan1 v most y i = put1 most y i := by unfold scan1; rw [hmy, hlk]; rfl
            generalize put1 most y i = y' at *
            repeat' first
              | ((have hk8 := Nat.add_zero); (first | refine SW.ops_seq hY fun y1 hy1 => ?_ | refine SW.ops hY ?_ | refine SW.draw_seq hY mixed (by kernel_rfl) fun y1 hy1 => ?_ | refine SW.draw hY mixed (by kernel_rfl) ?_ | refine vcall_to [] (hA) (by first | rfl | (simp [-List.map_set, -List.map_append, pass1, modeOf, giveS, giveSL, fixEs, Heap.at, Heap.put, T.cel, cloL, cloAL, T.cloA]; first | rfl | exact ⟨rfl, rfl, rfl⟩)) (by first | rfl | (simp [-List.map_set, -List.map_append, pass2, T.tg, tgL, upT, lendM, lendA, lendAL, elemsM, Heap.at, marks_len, subM, T.get, T.offs, RM.bind, RM.run]; done) | (simp [-List.map_set, -List.map_append, pass2, T.tg, tgL, upT, lendM, lendA, lendAL, elemsM, Heap.at, marks_len, subM, T.get, T.offs, RM.bind, RM.run]; rfl)) (by first | rfl | simp [resClo, T.clo, cloL, T.clP, clPL]) (by first | rfl | (simp [-List.map_set, -List.map_append, fillB, T.cloO, T.clo, cloL, T.asArr, T.tg, tgL, dnT, obOf, Heap.at, Heap.put]; try rfl)) ?_ | refine vcall_to [.io] (hP) (by first | rfl | (simp [-List.map_set, -List.map_append, pass1, modeOf, giveS, giveSL, fixEs, Heap.at, Heap.put, T.cel, cloL, cloAL, T.cloA]; first | rfl | exact ⟨rfl, rfl, rfl⟩)) (by first | rfl | (simp [-List.map_set, -List.map_append, pass2, T.tg, tgL, upT, lendM, lendA, lendAL, elemsM, Heap.at, marks_len, subM, T.get, T.offs, RM.bind, RM.run]; done) | (simp [-List.map_set, -List.map_append, pass2, T.tg, tgL, upT, lendM, lendA, lendAL, elemsM, Heap.at, marks_len, subM, T.get, T.offs, RM.bind, RM.run]; rfl)) (by first | rfl | simp [resClo, T.clo, cloL, T.clP, clPL]) (by first | rfl | (simp [-List.map_set, -List.map_append, fillB, T.cloO, T.clo, cloL, T.asArr, T.tg, tgL, dnT, obOf, Heap.at, Heap.put]; try rfl)) ?_ | (simp only [k8]; refine ⟨fun hb => ?_, fun hb => ?_⟩ <;> (try replace hb := Bool.eq_false_iff.2 hb) <;> (first | exact absurd hb (by decide) | replace hk8 := hb))) <;> (simp only [hk8, hgc, hgvi, hlc, hwi, tgL_up0, tgL_up, tgL_dn, tgL_dn0, Int.toNat_zero, Int.toNat_one, Int.le_refl, Int.zero_le_ofNat, Nat.zero_add, Int.toNat_natCast, T.asArr, T.tg, tgL, dnT, indexAddrM, wk, wl, eq_self, isCall, callT, opM, S.ev, S.put, entryS, thawAL, thawA, RM.run, RM.bind, RM.ofOpt, allocs, Heap.ups, Heap.put, Heap.at, List.replicate, Nat.reduceAdd, Nat.reduceSub, ofConst, nilAs, if_false, if_true, binT, binTy, unT, guardT, pickT, quietK, stripT, openT, reduceIte, boxM, allocM, loadM, storeM, fieldAddrM, lenT, extractT, subM, setOb, T.get, T.setp, T.offs, T.nw, nwL, T.cel, T.isNd, T.size, sizeL, TyI.agg, Ty.agg, Ty.isFn, zeroT, Nat.reduceLT, Nat.reduceEqDiff, sumT, kill, Y1, Y2, Y3, Y4, Y24, Y27, Y30, Y32, Y37, Y87, Y92, Y94]; clear hk8; first | subst hy1 | (try simp only [thenS, blockS, if_true, if_false, Nat.reduceEqDiff, reduceIte])))
              | exact absurd trivial hb
              | exact absurd hb (by decide)
              | exact absurd hcc (by decide)
              | refine SW.seq ?_
              | refine SW.block ?_
              | (refine SW.cond rfl (fun hcc => ?_) (fun hcc => ?_))
              | (refine SW.exit ?_; simp only [thenS, blockS, if_true, if_false, Nat.reduceEqDiff, reduceIte])
              | (refine SW.skip ?_; simp only [thenS, blockS])
            refine ⟨N - 1, (y', i + 1), by omega, ⟨by simp only; omega, by simp only; omega, by simp only; rw [hstep, hsce]⟩, ?_⟩
            exact Norm.trans (Norm.re [0, 1, 2] (by decide) rfl (by simp [heapFits, rowFits, obFits, T.ren, renL]) (by simp [tmFits, T.ren])) (openI v _ y' most d.m)
      · have hge : i = 32 := by
          have : ¬ i < 32 := by rw [hml] at hc2; simp at hc2; omega
          omega
        subst hge
        obtain ⟨hy, hym, _, _⟩ := hsc 32 (Nat.le_refl _)
        rw [← hyy] at hy hR' hok'
        have hDr2 := drain_ok 0 v hv hvl y most hm.2 hy
        have hD2 := drn_ok hv hm.2 hy
        generalize drn v most y = D2 at *
        repeat' first
          | ((have hk8 := Nat.add_zero); (first | refine SW.ops_seq hY fun y1 hy1 => ?_ | refine SW.ops hY ?_ | refine SW.draw_seq hY mixed (by kernel_rfl) fun y1 hy1 => ?_ | refine SW.draw hY mixed (by kernel_rfl) ?_ | refine vcall_to [.io] (hDr2) (by first | rfl | (simp [-List.map_set, -List.map_append, pass1, modeOf, giveS, giveSL, fixEs, Heap.at, Heap.put, T.cel, cloL, cloAL, T.cloA]; first | rfl | exact ⟨rfl, rfl, rfl⟩)) (by first | rfl | (simp [-List.map_set, -List.map_append, pass2, T.tg, tgL, upT, lendM, lendA, lendAL, elemsM, Heap.at, marks_len, subM, T.get, T.offs, RM.bind, RM.run]; done) | (simp [-List.map_set, -List.map_append, pass2, T.tg, tgL, upT, lendM, lendA, lendAL, elemsM, Heap.at, marks_len, subM, T.get, T.offs, RM.bind, RM.run]; rfl)) (by first | rfl | simp [resClo, T.clo, cloL, T.clP, clPL]) (by first | rfl | (simp [-List.map_set, -List.map_append, fillB, T.cloO, T.clo, cloL, T.asArr, T.tg, tgL, dnT, obOf, Heap.at, Heap.put]; try rfl)) ?_ | (simp only [k8]; refine ⟨fun hb => ?_, fun hb => ?_⟩ <;> (try replace hb := Bool.eq_false_iff.2 hb) <;> (first | exact absurd hb (by decide) | replace hk8 := hb))) <;> (simp only [hk8, tgL_up0, tgL_up, tgL_dn, tgL_dn0, Int.toNat_zero, Int.toNat_one, Int.le_refl, Int.zero_le_ofNat, Nat.zero_add, Int.toNat_natCast, T.asArr, T.tg, tgL, dnT, indexAddrM, wk, wl, eq_self, isCall, callT, opM, S.ev, S.put, entryS, thawAL, thawA, RM.run, RM.bind, RM.ofOpt, allocs, Heap.ups, Heap.put, Heap.at, List.replicate, Nat.reduceAdd, Nat.reduceSub, ofConst, nilAs, if_false, if_true, binT, binTy, unT, guardT, pickT, quietK, stripT, openT, reduceIte, boxM, allocM, loadM, storeM, fieldAddrM, lenT, extractT, subM, setOb, T.get, T.setp, T.offs, T.nw, nwL, T.cel, T.isNd, T.size, sizeL, TyI.agg, Ty.agg, Ty.isFn, zeroT, Nat.reduceLT, Nat.reduceEqDiff, sumT, kill, Y1, Y2, Y3, Y4, Y24, Y27, Y30, Y32, Y37, Y87, Y92, Y94]; clear hk8; first | subst hy1 | (try simp only [thenS, blockS, if_true, if_false, Nat.reduceEqDiff, reduceIte])))
          | exact absurd trivial hb
          | exact absurd hb (by decide)
          | exact absurd hcc (by decide)
          | refine SW.seq ?_
          | refine SW.block ?_
          | (refine SW.cond rfl (fun hcc => ?_) (fun hcc => ?_))
          | (refine SW.exit ?_; simp only [thenS, blockS, if_true, if_false, Nat.reduceEqDiff, reduceIte])
          | (refine SW.skip ?_; simp only [thenS, blockS])
        refine ⟨n, (D2, t + 1), by omega, ⟨by omega, hD2.1, hD2.2.1, hok', hR', by simp only; omega⟩, ?_⟩
        exact Norm.trans (Norm.re [0, 1] (by decide) rfl (by simp [heapFits, rowFits, obFits, T.ren, renL]) (by simp [tmFits, T.ren])) (openO v _ D2 most)
    · have hRR : R = (d.m, t) := by rw [← hR]; cases n <;> simp [outD, hc]
      subst hRR
      repeat' first
        | ((have hk8 := Nat.add_zero); (first | refine SW.ops_seq hY fun y1 hy1 => ?_ | refine SW.ops hY ?_ | refine SW.draw_seq hY mixed (by kernel_rfl) fun y1 hy1 => ?_ | refine SW.draw hY mixed (by kernel_rfl) ?_ | (simp only [k8]; refine ⟨fun hb => ?_, fun hb => ?_⟩ <;> (try replace hb := Bool.eq_false_iff.2 hb) <;> (first | exact absurd hb (by decide) | replace hk8 := hb))) <;> (simp only [hk8, tgL_up0, tgL_up, tgL_dn, tgL_dn0, Int.toNat_zero, Int.toNat_one, Int.le_refl, Int.zero_le_ofNat, Nat.zero_add, Int.toNat_natCast, T.asArr, T.tg, tgL, dnT, indexAddrM, wk, wl, eq_self, isCall, callT, opM, S.ev, S.put, entryS, thawAL, thawA, RM.run, RM.bind, RM.ofOpt, allocs, Heap.ups, Heap.put, Heap.at, List.replicate, Nat.reduceAdd, Nat.reduceSub, ofConst, nilAs, if_false, if_true, binT, binTy, unT, guardT, pickT, quietK, stripT, openT, reduceIte, boxM, allocM, loadM, storeM, fieldAddrM, lenT, extractT, subM, setOb, T.get, T.setp, T.offs, T.nw, nwL, T.cel, T.isNd, T.size, sizeL, TyI.agg, Ty.agg, Ty.isFn, zeroT, Nat.reduceLT, Nat.reduceEqDiff, sumT, kill, Y1, Y2, Y3, Y4, Y24, Y27, Y30, Y32, Y37, Y87, Y92, Y94]; clear hk8; first | subst hy1 | (try simp only [thenS, blockS, if_true, if_false, Nat.reduceEqDiff, reduceIte])))
        | exact absurd trivial hb
        | exact absurd hb (by decide)
        | exact absurd hcc (by decide)
        | refine SW.seq ?_
        | refine SW.block ?_
        | (refine SW.cond rfl (fun hcc => ?_) (fun hcc => ?_))
        | (refine SW.exit ?_; simp only [thenS, blockS, if_true, if_false, Nat.reduceEqDiff, reduceIte])
        | (refine SW.skip ?_; simp only [thenS, blockS])
      refine SW.ret (show RetQ _ _ _ _ _ _ _ from ⟨.inr rfl, _, [1, 0], [.ow 1 (d.m.map Enc.o), .int .i64 (t : Int)], ?_, ⟨rfl, ?_, rfl, ?_, rfl, rfl⟩⟩)
      rotate_left
      · first | rfl | (simp [-List.map_set, -List.map_append, pass1, modeOf, giveS, giveSL, Heap.at, Heap.put, fixEs, ioAt, ioKs, ioM, ioT, T.cel, T.clo, cloL, T.cloA, cloAL]; rfl)
      · first | rfl | simp [-List.map_set, -List.map_append, cloL, T.clo, T.clP, clPL]
  | false =>
    rw [hh] at hgv hha
    have hm0 : ms0 v a.toNat = ⟨List.replicate 32 false, [], false⟩ := by unfold ms0; rw [hha]; rfl
    have hDr' : CallR Try.prog 74 [.io (.nd [.sl (.r 0) (tgL (cst 0) (v.map Enc.b)), .ow 1 ((rep32).map Enc.o), .ow 1 ((([] : List Int)).map Enc.o), .int .i64 most, .bool false])] [.nd [.sl (.r 0) (tgL (cst 0) (v.map Enc.b)), .ow 1 (((drn v most (ms0 v a.toNat)).m).map Enc.o), .ow 1 (((drn v most (ms0 v a.toNat)).q).map Enc.o), .int .i64 most, .bool (drn v most (ms0 v a.toNat)).o]] (.tup []) := by rw [hm0] at hDr ⊢; exact hDr
    simp only [List.map_nil] at hDr'
    clear hDr
    generalize ms0 v a.toNat = s0 at *
    repeat' first
      | ((have hk8 := Nat.add_zero); (first | refine SW.ops_seq hY fun y1 hy1 => ?_ | refine SW.ops hY ?_ | refine SW.draw_seq hY mixed (by kernel_rfl) fun y1 hy1 => ?_ | refine SW.draw hY mixed (by kernel_rfl) ?_ | refine vcall_to [] (hV) (by first | rfl | (simp [-List.map_set, -List.map_append, pass1, modeOf, giveS, giveSL, fixEs, Heap.at, Heap.put, T.cel, cloL, cloAL, T.cloA]; first | rfl | exact ⟨rfl, rfl, rfl⟩)) (by first | rfl | (simp [-List.map_set, -List.map_append, pass2, T.tg, tgL, upT, lendM, lendA, lendAL, elemsM, Heap.at, marks_len, subM, T.get, T.offs, RM.bind, RM.run]; done) | (simp [-List.map_set, -List.map_append, pass2, T.tg, tgL, upT, lendM, lendA, lendAL, elemsM, Heap.at, marks_len, subM, T.get, T.offs, RM.bind, RM.run]; rfl)) (by first | rfl | simp [resClo, T.clo, cloL, T.clP, clPL]) (by first | rfl | (simp [-List.map_set, -List.map_append, fillB, T.cloO, T.clo, cloL, T.asArr, T.tg, tgL, dnT, obOf, Heap.at, Heap.put]; try rfl)) ?_ | refine vcall_to [] (hO) (by first | rfl | (simp [-List.map_set, -List.map_append, pass1, modeOf, giveS, giveSL, fixEs, Heap.at, Heap.put, T.cel, cloL, cloAL, T.cloA]; first | rfl | exact ⟨rfl, rfl, rfl⟩)) (by first | rfl | (simp [-List.map_set, -List.map_append, pass2, T.tg, tgL, upT, lendM, lendA, lendAL, elemsM, Heap.at, marks_len, subM, T.get, T.offs, RM.bind, RM.run]; done) | (simp [-List.map_set, -List.map_append, pass2, T.tg, tgL, upT, lendM, lendA, lendAL, elemsM, Heap.at, marks_len, subM, T.get, T.offs, RM.bind, RM.run]; rfl)) (by first | rfl | simp [resClo, T.clo, cloL, T.clP, clPL]) (by first | rfl | (simp [-List.map_set, -List.map_append, fillB, T.cloO, T.clo, cloL, T.asArr, T.tg, tgL, dnT, obOf, Heap.at, Heap.put]; try rfl)) ?_ | refine vcall_to [] (hI) (by first | rfl | (simp [-List.map_set, -List.map_append, pass1, modeOf, giveS, giveSL, fixEs, Heap.at, Heap.put, T.cel, cloL, cloAL, T.cloA]; first | rfl | exact ⟨rfl, rfl, rfl⟩)) (by first | rfl | (simp [-List.map_set, -List.map_append, pass2, T.tg, tgL, upT, lendM, lendA, lendAL, elemsM, Heap.at, marks_len, subM, T.get, T.offs, RM.bind, RM.run]; done) | (simp [-List.map_set, -List.map_append, pass2, T.tg, tgL, upT, lendM, lendA, lendAL, elemsM, Heap.at, marks_len, subM, T.get, T.offs, RM.bind, RM.run]; rfl)) (by first | rfl | simp [resClo, T.clo, cloL, T.clP, clPL]) (by first | rfl | (simp [-List.map_set, -List.map_append, fillB, T.cloO, T.clo, cloL, T.asArr, T.tg, tgL, dnT, obOf, Heap.at, Heap.put]; try rfl)) ?_ | refine vcall_to [.io] (hDr') (by first | rfl | (simp [-List.map_set, -List.map_append, pass1, modeOf, giveS, giveSL, fixEs, Heap.at, Heap.put, T.cel, cloL, cloAL, T.cloA]; first | rfl | exact ⟨rfl, rfl, rfl⟩)) (by first | rfl | (simp [-List.map_set, -List.map_append, pass2, T.tg, tgL, upT, lendM, lendA, lendAL, elemsM, Heap.at, marks_len, subM, T.get, T.offs, RM.bind, RM.run]; done) | (simp [-List.map_set, -List.map_append, pass2, T.tg, tgL, upT, lendM, lendA, lendAL, elemsM, Heap.at, marks_len, subM, T.get, T.offs, RM.bind, RM.run]; rfl)) (by first | rfl | simp [resClo, T.clo, cloL, T.clP, clPL]) (by first | rfl | (simp [-List.map_set, -List.map_append, fillB, T.cloO, T.clo, cloL, T.asArr, T.tg, tgL, dnT, obOf, Heap.at, Heap.put]; try rfl)) ?_ | (simp only [k8]; refine ⟨fun hb => ?_, fun hb => ?_⟩ <;> (try replace hb := Bool.eq_false_iff.2 hb) <;> (first | exact absurd hb (by decide) | replace hk8 := hb))) <;> (simp only [hk8, hgv, mk32, ha0, ha32, tgL_up0, tgL_up, tgL_dn, tgL_dn0, Int.toNat_zero, Int.toNat_one, Int.le_refl, Int.zero_le_ofNat, Nat.zero_add, Int.toNat_natCast, T.asArr, T.tg, tgL, dnT, indexAddrM, wk, wl, eq_self, isCall, callT, opM, S.ev, S.put, entryS, thawAL, thawA, RM.run, RM.bind, RM.ofOpt, allocs, Heap.ups, Heap.put, Heap.at, List.replicate, Nat.reduceAdd, Nat.reduceSub, ofConst, nilAs, if_false, if_true, binT, binTy, unT, guardT, pickT, quietK, stripT, openT, reduceIte, boxM, allocM, loadM, storeM, fieldAddrM, lenT, extractT, subM, setOb, T.get, T.setp, T.offs, T.nw, nwL, T.cel, T.isNd, T.size, sizeL, TyI.agg, Ty.agg, Ty.isFn, zeroT, Nat.reduceLT, Nat.reduceEqDiff, sumT, kill, Y1, Y2, Y3, Y4, Y24, Y27, Y30, Y32, Y37, Y87, Y92, Y94]; clear hk8; first | subst hy1 | (try simp only [thenS, blockS, if_true, if_false, Nat.reduceEqDiff, reduceIte])))
      | exact absurd trivial hb
      | exact absurd hb (by decide)
      | exact absurd hcc (by decide)
      | refine SW.seq ?_
      | refine SW.block ?_
      | (refine SW.cond rfl (fun hcc => ?_) (fun hcc => ?_))
      | (refine SW.exit ?_; simp only [thenS, blockS, if_true, if_false, Nat.reduceEqDiff, reduceIte])
      | (refine SW.skip ?_; simp only [thenS, blockS])
    generalize hD0e : drn v most s0 = D0 at *
    rw [hRdef]
    generalize hRe : outD v most 34 D0 0 = R at *
    refine SW.loop (fun x : MS × Nat => ⟨[.sl .b (v.map Enc.b), .int .i64 a, .int .i64 most, .undef, .undef, .undef, .undef, .undef, .ptr 1 0 [] 0, .int .i64 ((x.2 : Nat) : Int), .undef, .undef, .undef, .undef, .undef, .undef, .undef, .undef, .undef, .undef, .undef, .undef, .undef, .undef, .undef, .undef, .undef, .undef, .undef, .undef, .undef, .undef, .undef, .undef, .undef, .undef, .undef, .undef, .undef, .undef, .undef, .undef, .undef, .undef, .undef, .undef, .undef, .undef, .undef, .undef, .undef, .undef, .undef, .undef, .undef, .undef, .undef, .undef, .undef, .undef, .undef, .undef, .undef, .undef, .undef, .undef, .undef, .undef, .undef, .undef, .undef, .undef, .undef, .undef, .undef, .undef, .undef, .undef, .undef, .undef, .undef, .undef, .undef, .undef, .undef, .undef, .undef, .undef, .undef], [[], [.var (.nd [.sl .b (v.map Enc.b), .ref 2 0 0 (x.1.m).length, .ref 2 1 0 (x.1.q).length, .int .i64 most, .bool x.1.o])], [.arr 1 ((x.1.m).map Enc.o) false, .arr 1 ((x.1.q).map Enc.o) false]]⟩)
      (fun n x => n ≤ 34 ∧ Good most x.1 ∧ x.1.q = [] ∧ outOk v most n x.1 ∧ outD v most n x.1 x.2 = R ∧ x.2 + n ≤ 34) (n := 34) (x := (D0, 0)) (Norm.trans (Norm.re [0, 5] (by decide) rfl (by simp [heapFits, rowFits, obFits, T.ren, renL]) (by simp [tmFits, T.ren])) (openO v _ D0 most)) ⟨Nat.le_refl _, hD0.1, hD0.2.1, hout, hRe, Nat.le_refl _⟩ ?_
    rintro n ⟨d, t⟩ ⟨hn, hd, hq, hok, hR, ht⟩
    simp only at hd hq hok hR ht ⊢
    repeat' first
      | (refine SW.ops_seq hY fun y1 hy1 => ?_; simp only [T.asArr, T.tg, tgL, dnT, indexAddrM, wk, wl, eq_self, isCall, callT, opM, S.ev, S.put, entryS, thawAL, thawA, RM.run, RM.bind, RM.ofOpt, allocs, Heap.ups, Heap.put, Heap.at, List.replicate, Nat.reduceAdd, Nat.reduceSub, ofConst, nilAs, if_false, if_true, binT, binTy, unT, guardT, pickT, quietK, stripT, openT, reduceIte, boxM, allocM, loadM, storeM, fieldAddrM, lenT, extractT, subM, setOb, T.get, T.setp, T.offs, T.nw, nwL, T.cel, T.isNd, T.size, sizeL, TyI.agg, Ty.agg, Ty.isFn, zeroT, Nat.reduceLT, Nat.reduceEqDiff, sumT, kill, Y1, Y2, Y3, Y4, Y24, Y27, Y30, Y32, Y37, Y87, Y92, Y94]; subst hy1)
      | refine SW.seq ?_
    refine SW.cond rfl (fun hc => ?_) (fun hc => ?_)
    · obtain ⟨n, rfl⟩ : ∃ m, n = m + 1 := by
        cases n with
        | zero => exfalso; simp only [outOk] at hok; rw [hok] at hc; cases hc
        | succ m => exact ⟨m, rfl⟩
      have hR' : outD v most n (drn v most (scanA v most d 32)) (t + 1) = R := by rw [← hR]; simp only [outD, hc, if_true]
      have hok' := hok hc
      have hwt : IntKind.i64.wrap ((t : Int) + 1) = ((t + 1 : Nat) : Int) := by rw [wrap64 _ (by omega) (by omega)]; omega
      have hml := hd.ml
      have hCl := cloneB_ok d.m (by omega)
      have hsc := scanA_ok (v := v) hm.1 hd hq
      repeat' first
        | ((have hk8 := Nat.add_zero); (first | refine SW.ops_seq hY fun y1 hy1 => ?_ | refine SW.ops hY ?_ | refine SW.draw_seq hY mixed (by kernel_rfl) fun y1 hy1 => ?_ | refine SW.draw hY mixed (by kernel_rfl) ?_ | refine vcall_to [] (hCl) (by first | rfl | (simp [-List.map_set, -List.map_append, pass1, modeOf, giveS, giveSL, fixEs, Heap.at, Heap.put, T.cel, cloL, cloAL, T.cloA]; first | rfl | exact ⟨rfl, rfl, rfl⟩)) (by first | rfl | (simp [-List.map_set, -List.map_append, pass2, T.tg, tgL, upT, lendM, lendA, lendAL, elemsM, Heap.at, marks_len, subM, T.get, T.offs, RM.bind, RM.run]; done) | (simp [-List.map_set, -List.map_append, pass2, T.tg, tgL, upT, lendM, lendA, lendAL, elemsM, Heap.at, marks_len, subM, T.get, T.offs, RM.bind, RM.run]; rfl)) (by first | rfl | simp [resClo, T.clo, cloL, T.clP, clPL]) (by first | rfl | (simp [-List.map_set, -List.map_append, fillB, T.cloO, T.clo, cloL, T.asArr, T.tg, tgL, dnT, obOf, Heap.at, Heap.put]; try rfl)) ?_) <;> (simp only [hk8, hwt, tgL_up0, tgL_up, tgL_dn, tgL_dn0, Int.toNat_zero, Int.toNat_one, Int.le_refl, Int.zero_le_ofNat, Nat.zero_add, Int.toNat_natCast, T.asArr, T.tg, tgL, dnT, indexAddrM, wk, wl, eq_self, isCall, callT, opM, S.ev, S.put, entryS, thawAL, thawA, RM.run, RM.bind, RM.ofOpt, allocs, Heap.ups, Heap.put, Heap.at, List.replicate, Nat.reduceAdd, Nat.reduceSub, ofConst, nilAs, if_false, if_true, binT, binTy, unT, guardT, pickT, quietK, stripT, openT, reduceIte, boxM, allocM, loadM, storeM, fieldAddrM, lenT, extractT, subM, setOb, T.get, T.setp, T.offs, T.nw, nwL, T.cel, T.isNd, T.size, sizeL, TyI.agg, Ty.agg, Ty.isFn, zeroT, Nat.reduceLT, Nat.reduceEqDiff, sumT, kill, Y1, Y2, Y3, Y4, Y24, Y27, Y30, Y32, Y37, Y87, Y92, Y94]; clear hk8; first | subst hy1 | (try simp only [thenS, blockS, if_true, if_false, Nat.reduceEqDiff, reduceIte])))
        | exact absurd trivial hb
        | exact absurd hb (by decide)
        | exact absurd hcc (by decide)
        | refine SW.seq ?_
        | refine SW.block ?_
        | (refine SW.exit ?_; simp only [thenS, blockS, if_true, if_false, Nat.reduceEqDiff, reduceIte])
        | (refine SW.skip ?_; simp only [thenS, blockS])
      refine SW.loop (fun x2 : MS × Nat => ⟨[.sl .b (v.map Enc.b), .int .i64 a, .int .i64 most, .undef, .undef, .undef, .undef, .undef, .ptr 1 0 [] 0, .int .i64 ((t + 1 : Nat) : Int), .undef, .undef, .undef, .undef, .undef, .undef, .undef, .undef, .undef, .undef, .undef, .undef, .undef, .undef, .undef, .undef, .undef, .undef, .undef, .undef, .undef, .undef, .undef, .undef, .undef, .undef, .undef, .undef, .undef, .undef, .undef, .undef, .undef, .undef, .undef, .undef, .undef, .undef, .undef, .undef, .undef, .undef, .undef, .undef, .undef, .undef, .undef, .undef, .undef, .undef, .undef, .ref 2 0 0 d.m.length, .int .i64 d.m.length, .int .i64 x2.2, .undef, .undef, .undef, .undef, .undef, .undef, .undef, .undef, .undef, .undef, .undef, .undef, .undef, .undef, .undef, .undef, .undef, .undef, .undef, .undef, .undef, .undef, .undef, .undef, .undef], [[], [.var (.nd [.sl .b (v.map Enc.b), .ref 3 0 0 (x2.1.m).length, .ref 3 1 0 (x2.1.q).length, .int .i64 most, .bool x2.1.o])], [.arr 1 ((d.m).map Enc.o) false], [.arr 1 ((x2.1.m).map Enc.o) false, .arr 1 ((x2.1.q).map Enc.o) false]]⟩)
        (fun N x2 => N = 32 - x2.2 ∧ x2.2 ≤ 32 ∧ x2.1 = scanA v most d x2.2) (n := 32) (x := (⟨d.m, d.q, false⟩, 0)) (Norm.re [0, 1, 3, 2] (by decide) rfl (by simp only [eq_self, heapFits, rowFits, obFits, List.getElem?_cons_zero, List.getElem?_cons_succ, renL_o, renL_b, true_and, and_true, and_self, renL_t, renL_cons, renL_nil, T.ren]) (by simp [tmFits, T.ren])) ⟨rfl, Nat.zero_le _, rfl⟩ ?_
      rintro N ⟨y, i⟩ ⟨hN, hi, hyy⟩
      simp only at hN hi hyy ⊢
      repeat' first
        | (refine SW.ops_seq hY fun y1 hy1 => ?_; simp only [T.asArr, T.tg, tgL, dnT, indexAddrM, wk, wl, eq_self, isCall, callT, opM, S.ev, S.put, entryS, thawAL, thawA, RM.run, RM.bind, RM.ofOpt, allocs, Heap.ups, Heap.put, Heap.at, List.replicate, Nat.reduceAdd, Nat.reduceSub, ofConst, nilAs, if_false, if_true, binT, binTy, unT, guardT, pickT, quietK, stripT, openT, reduceIte, boxM, allocM, loadM, storeM, fieldAddrM, lenT, extractT, subM, setOb, T.get, T.setp, T.offs, T.nw, nwL, T.cel, T.isNd, T.size, sizeL, TyI.agg, Ty.agg, Ty.isFn, zeroT, Nat.reduceLT, Nat.reduceEqDiff, sumT, kill, Y1, Y2, Y3, Y4, Y24, Y27, Y30, Y32, Y37, Y87, Y92, Y94]; subst hy1)
        | refine SW.seq ?_
      refine SW.cond rfl (fun hc2 => ?_) (fun hc2 => ?_)
      · have hlt : i < 32 := by rw [hml] at hc2; simp at hc2; omega
        obtain ⟨hy, hym, _, _⟩ := hsc i hi
        rw [← hyy] at hy hym
        have hlc : (i : Int) < (d.m.length : Int) := by omega
        have hgc : (d.m.map (Enc.o : Bool → T))[i]? = some (.bool (mrk d.m i)) := by rw [List.getElem?_map, List.getElem?_eq_getElem (by omega)]; simp [mrk, List.getElem?_eq_getElem (show i < d.m.length by omega), o_bool]
        have hil : i < v.length := by rw [hv.len]; exact hlt
        have hgvi : (v.map Enc.b)[i]? = some (.nd [.bool v[i].1, .nd [.int .i64 v[i].2.1.1, .sl .b (v[i].2.1.2.1.map Enc.b), .sl .b (v[i].2.1.2.2.1.map Enc.b)]]) := map_get Enc.b v _ hil
        have hrf : refsA v i = v[i].2.1.2.2.1 := by unfold refsA; rw [List.getElem?_eq_getElem hil]
        have hlimr : Enc.lim 1048576 v[i].2.1.2.2.1 := (hvl.2 _ (List.getElem_mem hil)).2.1.2.2.1
        have hrr := hv.rf i
        rw [hrf] at hrr
        have hA := anyUn_ok v[i].2.1.2.2.1 hlimr v y most hv hy.ml hrr
        have hlk0 : lacks v y.m i = v[i].2.1.2.2.1.any (lackB v y.m) := by unfold lacks; rw [hrf]
        rw [← hlk0] at hA
        have hwi : IntKind.i64.wrap ((i : Int) + 1) = ((i + 1 : Nat) : Int) := by rw [wrap64 _ (by omega) (by omega)]; omega
        have hstep : scanA v most d (i + 1) = scan1 v most y i := by rw [hyy]; unfold scanA; rw [List.range_succ, List.foldl_append]; rfl
        have hmy : mrk y.m i = mrk d.m i := by rw [hym]
        have hqy := hy.ql
        have hP := put_ok 0 v y most i (by omega)
        cases hmk : mrk d.m i with
        | false =>
          rw [hmk] at hgc hmy
          repeat' first
            | ((have hk8 := Nat.add_zero); (first | refine SW.ops_seq hY fun y1 hy1 => ?_ | refine SW.ops hY ?_ | refine SW.draw_seq hY mixed (by kernel_rfl) fun y1 hy1 => ?_ | refine SW.draw hY mixed (by kernel_rfl) ?_ | refine vcall_to [] (hA) (by first | rfl | (simp [-List.map_set, -List.map_append, pass1, modeOf, giveS, giveSL, fixEs, Heap.at, Heap.put, T.cel, cloL, cloAL, T.cloA]; first | rfl | exact ⟨rfl, rfl, rfl⟩)) (by first | rfl | (simp [-List.map_set, -List.map_append, pass2, T.tg, tgL, upT, lendM, lendA, lendAL, elemsM, Heap.at, marks_len, subM, T.get, T.offs, RM.bind, RM.run]; done) | (simp [-List.map_set, -List.map_append, pass2, T.tg, tgL, upT, lendM, lendA, lendAL, elemsM, Heap.at, marks_len, subM, T.get, T.offs, RM.bind, RM.run]; rfl)) (by first | rfl | simp [resClo, T.clo, cloL, T.clP, clPL]) (by first | rfl | (simp [-List.map_set, -List.map_append, fillB, T.cloO, T.clo, cloL, T.asArr, T.tg, tgL, dnT, obOf, Heap.at, Heap.put]; try rfl)) ?_ | (simp only [k8]; refine ⟨fun hb => ?_, fun hb => ?_⟩ <;> (try replace hb := Bool.eq_false_iff.2 hb) <;> (first | exact absurd hb (by decide) | replace hk8 := hb))) <;> (simp only [hk8, hgc, hgvi, hlc, hwi, tgL_up0, tgL_up, tgL_dn, tgL_dn0, Int.toNat_zero, Int.toNat_one, Int.le_refl, Int.zero_le_ofNat, Nat.zero_add, Int.toNat_natCast, T.asArr, T.tg, tgL, dnT, indexAddrM, wk, wl, eq_self, isCall, callT, opM, S.ev, S.put, entryS, thawAL, thawA, RM.run, RM.bind, RM.ofOpt, allocs, Heap.ups, Heap.put, Heap.at, List.replicate, Nat.reduceAdd, Nat.reduceSub, ofConst, nilAs, if_false, if_true, binT, binTy, unT, guardT, pickT, quietK, stripT, openT, reduceIte, boxM, allocM, loadM, storeM, fieldAddrM, lenT, extractT, subM, setOb, T.get, T.setp, T.offs, T.nw, nwL, T.cel, T.isNd, T.size, sizeL, TyI.agg, Ty.agg, Ty.isFn, zeroT, Nat.reduceLT, Nat.reduceEqDiff, sumT, kill, Y1, Y2, Y3, Y4, Y24, Y27, Y30, Y32, Y37, Y87, Y92, Y94]; clear hk8; first | subst hy1 | (try simp only [thenS, blockS, if_true, if_false, Nat.reduceEqDiff, reduceIte])))
            | exact absurd trivial hb
            | exact absurd hb (by decide)
            | exact absurd hcc (by decide)
            | refine SW.seq ?_
            | refine SW.block ?_
            | (refine SW.cond rfl (fun hcc => ?_) (fun hcc => ?_))
            | (refine SW.exit ?_; simp only [thenS, blockS, if_true, if_false, Nat.reduceEqDiff, reduceIte])
            | (refine SW.skip ?_; simp only [thenS, blockS])
          refine ⟨N - 1, (y, i + 1), by omega, ⟨by simp only; omega, by simp only; omega, by simp only; rw [hstep]; unfold scan1; simp [hmy]⟩, Norm.re [0, 1, 2, 3] (by decide) rfl (by simp only [eq_self, heapFits, rowFits, obFits, List.getElem?_cons_zero, List.getElem?_cons_succ, renL_o, renL_b, true_and, and_true, and_self, renL_t, renL_cons, renL_nil, T.ren]) (by simp [tmFits, T.ren])⟩
        | true =>
          rw [hmk] at hgc hmy
          cases hlk : lacks v y.m i with
          | false =>
            rw [hlk] at hA
            repeat' first
              | ((have hk8 := Nat.add_zero); (first | refine SW.ops_seq hY fun y1 hy1 => ?_ | refine SW.ops hY ?_ | refine SW.draw_seq hY mixed (by kernel_rfl) fun y1 hy1 => ?_ | refine SW.draw hY mixed (by kernel_rfl) ?_ | refine vcall_to [] (hA) (by first | rfl | (simp [-List.map_set, -List.map_append, pass1, modeOf, giveS, giveSL, fixEs, Heap.at, Heap.put, T.cel, cloL, cloAL, T.cloA]; first | rfl | exact ⟨rfl, rfl, rfl⟩)) (by first | rfl | (simp [-List.map_set, -List.map_append, pass2, T.tg, tgL, upT, lendM, lendA, lendAL, elemsM, Heap.at, marks_len, subM, T.get, T.offs, RM.bind, RM.run]; done) | (simp [-List.map_set, -List.map_append, pass2, T.tg, tgL, upT, lendM, lendA, lendAL, elemsM, Heap.at, marks_len, subM, T.get, T.offs, RM.bind, RM.run]; rfl)) (by first | rfl | simp [resClo, T.clo, cloL, T.clP, clPL]) (by first | rfl | (simp [-List.map_set, -List.map_append, fillB, T.cloO, T.clo, cloL, T.asArr, T.tg, tgL, dnT, obOf, Heap.at, Heap.put]; try rfl)) ?_ | (simp only [k8]; refine ⟨fun hb => ?_, fun hb => ?_⟩ <;> (try replace hb := Bool.eq_false_iff.2 hb) <;> (first | exact absurd hb (by decide) | replace hk8 := hb))) <;> (simp only [hk8, hgc, hgvi, hlc, hwi, tgL_up0, tgL_up, tgL_dn, tgL_dn0, Int.toNat_zero, Int.toNat_one, Int.le_refl, Int.zero_le_ofNat, Nat.zero_add, Int.toNat_natCast, T.asArr, T.tg, tgL, dnT, indexAddrM, wk, wl, eq_self, isCall, callT, opM, S.ev, S.put, entryS, thawAL, thawA, RM.run, RM.bind, RM.ofOpt, allocs, Heap.ups, Heap.put, Heap.at, List.replicate, Nat.reduceAdd, Nat.reduceSub, ofConst, nilAs, if_false, if_true, binT, binTy, unT, guardT, pickT, quietK, stripT, openT, reduceIte, boxM, allocM, loadM, storeM, fieldAddrM, lenT, extractT, subM, setOb, T.get, T.setp, T.offs, T.nw, nwL, T.cel, T.isNd, T.size, sizeL, TyI.agg, Ty.agg, Ty.isFn, zeroT, Nat.reduceLT, Nat.reduceEqDiff, sumT, kill, Y1, Y2, Y3, Y4, Y24, Y27, Y30, Y32, Y37, Y87, Y92, Y94]; clear hk8; first | subst hy1 | (try simp only [thenS, blockS, if_true, if_false, Nat.reduceEqDiff, reduceIte])))
              | exact absurd trivial hb
              | exact absurd hb (by decide)
              | exact absurd hcc (by decide)
              | refine SW.seq ?_
              | refine SW.block ?_
              | (refine SW.cond rfl (fun hcc => ?_) (fun hcc => ?_))
              | (refine SW.exit ?_; simp only [thenS, blockS, if_true, if_false, Nat.reduceEqDiff, reduceIte])
              | (refine SW.skip ?_; simp only [thenS, blockS])
            refine ⟨N - 1, (y, i + 1), by omega, ⟨by simp only; omega, by simp only; omega, by simp only; rw [hstep]; unfold scan1; simp [hlk]⟩, Norm.re [0, 1, 2, 3] (by decide) rfl (by simp only [eq_self, heapFits, rowFits, obFits, List.getElem?_cons_zero, List.getElem?_cons_succ, renL_o, renL_b, true_and, and_true, and_self, renL_t, renL_cons, renL_nil, T.ren]) (by simp [tmFits, T.ren])⟩
          | true =>
            rw [hlk] at hA
            have hsce : scan1 v most y i = put1 most y i := by unfold scan1; rw [hmy, hlk]; rfl
            generalize put1 most y i = y' at *
            repeat' first
              | ((have hk8 := Nat.add_zero); (first | refine SW.ops_seq hY fun y1 hy1 => ?_ | refine SW.ops hY ?_ | refine SW.draw_seq hY mixed (by kernel_rfl) fun y1 hy1 => ?_ | refine SW.draw hY mixed (by kernel_rfl) ?_ | refine vcall_to [] (hA) (by first | rfl | (simp [-List.map_set, -List.map_append, pass1, modeOf, giveS, giveSL, fixEs, Heap.at, Heap.put, T.cel, cloL, cloAL, T.cloA]; first | rfl | exact ⟨rfl, rfl, rfl⟩)) (by first | rfl | (simp [-List.map_set, -List.map_append, pass2, T.tg, tgL, upT, lendM, lendA, lendAL, elemsM, Heap.at, marks_len, subM, T.get, T.offs, RM.bind, RM.run]; done) | (simp [-List.map_set, -List.map_append, pass2, T.tg, tgL, upT, lendM, lendA, lendAL, elemsM, Heap.at, marks_len, subM, T.get, T.offs, RM.bind, RM.run]; rfl)) (by first | rfl | simp [resClo, T.clo, cloL, T.clP, clPL]) (by first | rfl | (simp [-List.map_set, -List.map_append, fillB, T.cloO, T.clo, cloL, T.asArr, T.tg, tgL, dnT, obOf, Heap.at, Heap.put]; try rfl)) ?_ | refine vcall_to [.io] (hP) (by first | rfl | (simp [-List.map_set, -List.map_append, pass1, modeOf, giveS, giveSL, fixEs, Heap.at, Heap.put, T.cel, cloL, cloAL, T.cloA]; first | rfl | exact ⟨rfl, rfl, rfl⟩)) (by first | rfl | (simp [-List.map_set, -List.map_append, pass2, T.tg, tgL, upT, lendM, lendA, lendAL, elemsM, Heap.at, marks_len, subM, T.get, T.offs, RM.bind, RM.run]; done) | (simp [-List.map_set, -List.map_append, pass2, T.tg, tgL, upT, lendM, lendA, lendAL, elemsM, Heap.at, marks_len, subM, T.get, T.offs, RM.bind, RM.run]; rfl)) (by first | rfl | simp [resClo, T.clo, cloL, T.clP, clPL]) (by first | rfl | (simp [-List.map_set, -List.map_append, fillB, T.cloO, T.clo, cloL, T.asArr, T.tg, tgL, dnT, obOf, Heap.at, Heap.put]; try rfl)) ?_ | (simp only [k8]; refine ⟨fun hb => ?_, fun hb => ?_⟩ <;> (try replace hb := Bool.eq_false_iff.2 hb) <;> (first | exact absurd hb (by decide) | replace hk8 := hb))) <;> (simp only [hk8, hgc, hgvi, hlc, hwi, tgL_up0, tgL_up, tgL_dn, tgL_dn0, Int.toNat_zero, Int.toNat_one, Int.le_refl, Int.zero_le_ofNat, Nat.zero_add, Int.toNat_natCast, T.asArr, T.tg, tgL, dnT, indexAddrM, wk, wl, eq_self, isCall, callT, opM, S.ev, S.put, entryS, thawAL, thawA, RM.run, RM.bind, RM.ofOpt, allocs, Heap.ups, Heap.put, Heap.at, List.replicate, Nat.reduceAdd, Nat.reduceSub, ofConst, nilAs, if_false, if_true, binT, binTy, unT, guardT, pickT, quietK, stripT, openT, reduceIte, boxM, allocM, loadM, storeM, fieldAddrM, lenT, extractT, subM, setOb, T.get, T.setp, T.offs, T.nw, nwL, T.cel, T.isNd, T.size, sizeL, TyI.agg, Ty.agg, Ty.isFn, zeroT, Nat.reduceLT, Nat.reduceEqDiff, sumT, kill, Y1, Y2, Y3, Y4, Y24, Y27, Y30, Y32, Y37, Y87, Y92, Y94]; clear hk8; first | subst hy1 | (try simp only [thenS, blockS, if_true, if_false, Nat.reduceEqDiff, reduceIte])))
              | exact absurd trivial hb
              | exact absurd hb (by decide)
              | exact absurd hcc (by decide)
              | refine SW.seq ?_
              | refine SW.block ?_
              | (refine SW.cond rfl (fun hcc => ?_) (fun hcc => ?_))
              | (refine SW.exit ?_; simp only [thenS, blockS, if_true, if_false, Nat.reduceEqDiff, reduceIte])
              | (refine SW.skip ?_; simp only [thenS, blockS])
            refine ⟨N - 1, (y', i + 1), by omega, ⟨by simp only; omega, by simp only; omega, by simp only; rw [hstep, hsce]⟩, ?_⟩
            exact Norm.trans (Norm.re [0, 1, 2] (by decide) rfl (by simp [heapFits, rowFits, obFits, T.ren, renL]) (by simp [tmFits, T.ren])) (openI v _ y' most d.m)
      · have hge : i = 32 := by
          have : ¬ i < 32 := by rw [hml] at hc2; simp at hc2; omega
          omega
        subst hge
        obtain ⟨hy, hym, _, _⟩ := hsc 32 (Nat.le_refl _)
        rw [← hyy] at hy hR' hok'
        have hDr2 := drain_ok 0 v hv hvl y most hm.2 hy
        have hD2 := drn_ok hv hm.2 hy
        generalize drn v most y = D2 at *
        repeat' first
          | ((have hk8 := Nat.add_zero); (first | refine SW.ops_seq hY fun y1 hy1 => ?_ | refine SW.ops hY ?_ | refine SW.draw_seq hY mixed (by kernel_rfl) fun y1 hy1 => ?_ | refine SW.draw hY mixed (by kernel_rfl) ?_ | refine vcall_to [.io] (hDr2) (by first | rfl | (simp [-List.map_set, -List.map_append, pass1, modeOf, giveS, giveSL, fixEs, Heap.at, Heap.put, T.cel, cloL, cloAL, T.cloA]; first | rfl | exact ⟨rfl, rfl, rfl⟩)) (by first | rfl | (simp [-List.map_set, -List.map_append, pass2, T.tg, tgL, upT, lendM, lendA, lendAL, elemsM, Heap.at, marks_len, subM, T.get, T.offs, RM.bind, RM.run]; done) | (simp [-List.map_set, -List.map_append, pass2, T.tg, tgL, upT, lendM, lendA, lendAL, elemsM, Heap.at, marks_len, subM, T.get, T.offs, RM.bind, RM.run]; rfl)) (by first | rfl | simp [resClo, T.clo, cloL, T.clP, clPL]) (by first | rfl | (simp [-List.map_set, -List.map_append, fillB, T.cloO, T.clo, cloL, T.asArr, T.tg, tgL, dnT, obOf, Heap.at, Heap.put]; try rfl)) ?_ | (simp only [k8]; refine ⟨fun hb => ?_, fun hb => ?_⟩ <;> (try replace hb := Bool.eq_false_iff.2 hb) <;> (first | exact absurd hb (by decide) | replace hk8 := hb))) <;> (simp only [hk8, tgL_up0, tgL_up, tgL_dn, tgL_dn0, Int.toNat_zero, Int.toNat_one, Int.le_refl, Int.zero_le_ofNat, Nat.zero_add, Int.toNat_natCast, T.asArr, T.tg, tgL, dnT, indexAddrM, wk, wl, eq_self, isCall, callT, opM, S.ev, S.put, entryS, thawAL, thawA, RM.run, RM.bind, RM.ofOpt, allocs, Heap.ups, Heap.put, Heap.at, List.replicate, Nat.reduceAdd, Nat.reduceSub, ofConst, nilAs, if_false, if_true, binT, binTy, unT, guardT, pickT, quietK, stripT, openT, reduceIte, boxM, allocM, loadM, storeM, fieldAddrM, lenT, extractT, subM, setOb, T.get, T.setp, T.offs, T.nw, nwL, T.cel, T.isNd, T.size, sizeL, TyI.agg, Ty.agg, Ty.isFn, zeroT, Nat.reduceLT, Nat.reduceEqDiff, sumT, kill, Y1, Y2, Y3, Y4, Y24, Y27, Y30, Y32, Y37, Y87, Y92, Y94]; clear hk8; first | subst hy1 | (try simp only [thenS, blockS, if_true, if_false, Nat.reduceEqDiff, reduceIte])))
          | exact absurd trivial hb
          | exact absurd hb (by decide)
          | exact absurd hcc (by decide)
          | refine SW.seq ?_
          | refine SW.block ?_
          | (refine SW.cond rfl (fun hcc => ?_) (fun hcc => ?_))
          | (refine SW.exit ?_; simp only [thenS, blockS, if_true, if_false, Nat.reduceEqDiff, reduceIte])
          | (refine SW.skip ?_; simp only [thenS, blockS])
        refine ⟨n, (D2, t + 1), by omega, ⟨by omega, hD2.1, hD2.2.1, hok', hR', by simp only; omega⟩, ?_⟩
        exact Norm.trans (Norm.re [0, 1] (by decide) rfl (by simp [heapFits, rowFits, obFits, T.ren, renL]) (by simp [tmFits, T.ren])) (openO v _ D2 most)
    · have hRR : R = (d.m, t) := by rw [← hR]; cases n <;> simp [outD, hc]
      subst hRR
      repeat' first
        | ((have hk8 := Nat.add_zero); (first | refine SW.ops_seq hY fun y1 hy1 => ?_ | refine SW.ops hY ?_ | refine SW.draw_seq hY mixed (by kernel_rfl) fun y1 hy1 => ?_ | refine SW.draw hY mixed (by kernel_rfl) ?_ | (simp only [k8]; refine ⟨fun hb => ?_, fun hb => ?_⟩ <;> (try replace hb := Bool.eq_false_iff.2 hb) <;> (first | exact absurd hb (by decide) | replace hk8 := hb))) <;> (simp only [hk8, tgL_up0, tgL_up, tgL_dn, tgL_dn0, Int.toNat_zero, Int.toNat_one, Int.le_refl, Int.zero_le_ofNat, Nat.zero_add, Int.toNat_natCast, T.asArr, T.tg, tgL, dnT, indexAddrM, wk, wl, eq_self, isCall, callT, opM, S.ev, S.put, entryS, thawAL, thawA, RM.run, RM.bind, RM.ofOpt, allocs, Heap.ups, Heap.put, Heap.at, List.replicate, Nat.reduceAdd, Nat.reduceSub, ofConst, nilAs, if_false, if_true, binT, binTy, unT, guardT, pickT, quietK, stripT, openT, reduceIte, boxM, allocM, loadM, storeM, fieldAddrM, lenT, extractT, subM, setOb, T.get, T.setp, T.offs, T.nw, nwL, T.cel, T.isNd, T.size, sizeL, TyI.agg, Ty.agg, Ty.isFn, zeroT, Nat.reduceLT, Nat.reduceEqDiff, sumT, kill, Y1, Y2, Y3, Y4, Y24, Y27, Y30, Y32, Y37, Y87, Y92, Y94]; clear hk8; first | subst hy1 | (try simp only [thenS, blockS, if_true, if_false, Nat.reduceEqDiff, reduceIte])))
        | exact absurd trivial hb
        | exact absurd hb (by decide)
        | exact absurd hcc (by decide)
        | refine SW.seq ?_
        | refine SW.block ?_
        | (refine SW.cond rfl (fun hcc => ?_) (fun hcc => ?_))
        | (refine SW.exit ?_; simp only [thenS, blockS, if_true, if_false, Nat.reduceEqDiff, reduceIte])
        | (refine SW.skip ?_; simp only [thenS, blockS])
      refine SW.ret (show RetQ _ _ _ _ _ _ _ from ⟨.inr rfl, _, [1, 0], [.ow 1 (d.m.map Enc.o), .int .i64 (t : Int)], ?_, ⟨rfl, ?_, rfl, ?_, rfl, rfl⟩⟩)
      rotate_left
      · first | rfl | (simp [-List.map_set, -List.map_append, pass1, modeOf, giveS, giveSL, Heap.at, Heap.put, fixEs, ioAt, ioKs, ioM, ioT, T.cel, T.clo, cloL, T.cloA, cloAL]; rfl)
      · first | rfl | simp [-List.map_set, -List.map_append, cloL, T.clo, T.clP, clPL]
end Q1

namespace Q1
open Go Go.Vm Go.Proofs
set_option maxHeartbeats 4000000
set_option synthInstance.maxSize 2000
set_option synthInstance.maxHeartbeats 400000
set_option maxRecDepth 10000
set_option linter.unusedSimpArgs false
set_option linter.unusedVariables false

theorem l11Lacks_ok (v : List SlotT) (hv : VOk v) (m : List Bool) (hm : m.length = 32) (i : Nat) (hi : i < 32) : CallR Try.prog 119 [.sl .b (v.map Enc.b), .sl .b (m.map Enc.b), .int .i64 i] [] (.bool (lacks v m i)) := by
  refine CallR.of_body (n := 39) (rs := [.tmp 6]) hY.ok Try.func119 rfl (by decide) rfl rfl rfl rfl (fun F => ?_)
  have hil : i < v.length := by rw [hv.len]; exact hi
  have hgvi : (v.map Enc.b)[i]? = some (.nd [.bool v[i].1, .nd [.int .i64 v[i].2.1.1, .sl .b (v[i].2.1.2.1.map Enc.b), .sl .b (v[i].2.1.2.2.1.map Enc.b)]]) := map_get Enc.b v _ hil
  have hrf : refsA v i = v[i].2.1.2.2.1 := by unfold refsA; rw [List.getElem?_eq_getElem hil]
  have hrr := hv.rf i
  have hrl := hv.rl i
  rw [hrf] at hrr hrl
  have hlk : lacks v m i = v[i].2.1.2.2.1.any (lackB v m) := by unfold lacks; rw [hrf]
  rw [hlk]
  generalize hRR : v[i].2.1.2.2.1 = refs at *
  repeat' first
    | ((have hk8 := Nat.add_zero); (first | refine SW.ops_seq hY fun y1 hy1 => ?_ | refine SW.ops hY ?_ | refine SW.draw_seq hY mixed (by kernel_rfl) fun y1 hy1 => ?_ | refine SW.draw hY mixed (by kernel_rfl) ?_) <;> (simp only [hk8, hgvi, Int.toNat_zero, Int.toNat_one, Int.le_refl, Int.zero_le_ofNat, Nat.zero_add, Int.toNat_natCast, T.asArr, T.tg, tgL, dnT, indexAddrM, wk, wl, eq_self, isCall, callT, opM, S.ev, S.put, entryS, thawAL, thawA, RM.run, RM.bind, RM.ofOpt, allocs, Heap.ups, Heap.put, Heap.at, List.replicate, Nat.reduceAdd, Nat.reduceSub, ofConst, nilAs, if_false, if_true, binT, binTy, unT, guardT, pickT, quietK, stripT, openT, reduceIte, boxM, allocM, loadM, storeM, fieldAddrM, lenT, extractT, subM, setOb, T.get, T.setp, T.offs, T.nw, nwL, T.cel, T.isNd, T.size, sizeL, TyI.agg, Ty.agg, Ty.isFn, zeroT, Nat.reduceLT, Nat.reduceEqDiff, sumT, kill, Y1, Y2, Y3, Y4, Y24, Y27, Y30, Y32, Y37]; clear hk8; first | subst hy1 | (try simp only [thenS, blockS, if_true, if_false, Nat.reduceEqDiff, reduceIte])))
    | exact absurd trivial hb
    | exact absurd hb (by decide)
    | exact absurd hcc (by decide)
    | refine SW.seq ?_
    | refine SW.block ?_
    | (refine SW.exit ?_; simp only [thenS, blockS, if_true, if_false, Nat.reduceEqDiff, reduceIte])
    | (refine SW.skip ?_; simp only [thenS, blockS])
  refine SW.loop (fun j : Nat => ⟨[.sl .b (v.map Enc.b), .sl .b (m.map Enc.b), .undef, .undef, .undef, .undef, .undef, .sl .b (refs.map Enc.b), .int .i64 j, .undef, .undef, .undef, .undef, .undef, .undef, .undef, .undef, .undef, .undef, .undef, .undef, .undef, .undef, .undef, .undef, .undef, .undef, .undef, .undef, .undef, .undef, .undef, .undef, .undef, .undef, .undef, .undef, .undef, .undef], [[]]⟩)
    (fun n j => n = refs.length - j ∧ j ≤ refs.length ∧ ∀ k (h : k < refs.length), k < j → lackB v m refs[k] = false) (n := refs.length) (x := 0) (Norm.to 0 rfl (by simp [weakL])) ⟨rfl, Nat.zero_le _, fun k _ h => absurd h (Nat.not_lt_zero _)⟩ ?_
  rintro n j ⟨hn, hj, hp⟩
  repeat' first
    | (refine SW.ops_seq hY fun y1 hy1 => ?_; simp only [T.asArr, T.tg, tgL, dnT, indexAddrM, wk, wl, eq_self, isCall, callT, opM, S.ev, S.put, entryS, thawAL, thawA, RM.run, RM.bind, RM.ofOpt, allocs, Heap.ups, Heap.put, Heap.at, List.replicate, Nat.reduceAdd, Nat.reduceSub, ofConst, nilAs, if_false, if_true, binT, binTy, unT, guardT, pickT, quietK, stripT, openT, reduceIte, boxM, allocM, loadM, storeM, fieldAddrM, lenT, extractT, subM, setOb, T.get, T.setp, T.offs, T.nw, nwL, T.cel, T.isNd, T.size, sizeL, TyI.agg, Ty.agg, Ty.isFn, zeroT, Nat.reduceLT, Nat.reduceEqDiff, sumT, kill, Y1, Y2, Y3, Y4, Y24, Y27, Y30, Y32, Y37]; subst hy1)
    | refine SW.seq ?_
  refine SW.cond rfl (fun hc => ?_) (fun hc => ?_)
  · have hlt : j < refs.length := by simp at hc; omega
    have hr := hrr refs[j] (List.getElem_mem hlt)
    have hr0 : 0 ≤ refs[j] := hr.1
    have hgr : (refs.map Enc.b)[j]? = some (T.int .i64 refs[j]) := map_get Enc.b refs j hlt
    have hrl2 : refs[j].toNat < v.length := by rw [hv.len]; omega
    have hrm : refs[j].toNat < m.length := by omega
    have hg2 : (v.map Enc.b)[refs[j].toNat]? = some (.nd [.bool v[refs[j].toNat].1, .nd [.int .i64 v[refs[j].toNat].2.1.1, .sl .b (v[refs[j].toNat].2.1.2.1.map Enc.b), .sl .b (v[refs[j].toNat].2.1.2.2.1.map Enc.b)]]) := map_get Enc.b v _ hrl2
    have hgm : (m.map Enc.b)[refs[j].toNat]? = some (T.bool m[refs[j].toNat]) := map_get Enc.b m _ hrm
    have hha : hasA v refs[j].toNat = v[refs[j].toNat].1 := by unfold hasA; rw [List.getElem?_eq_getElem hrl2]
    have hmr : mrk m refs[j].toNat = m[refs[j].toNat] := by unfold mrk; rw [List.getD_eq_getElem?_getD, List.getElem?_eq_getElem hrm]; rfl
    have hlb : lackB v m refs[j] = (v[refs[j].toNat].1 && !m[refs[j].toNat]) := by unfold lackB; rw [hha, hmr]
    have hwi : IntKind.i64.wrap ((j : Int) + 1) = ((j + 1 : Nat) : Int) := by rw [wrap64 _ (by omega) (by omega)]; omega
    generalize v[refs[j].toNat].1 = A at *
    generalize m[refs[j].toNat] = B at *
    cases A <;> cases B
    · simp only [Bool.false_and, Bool.true_and, Bool.not_true, Bool.not_false] at hlb
      repeat' first
        | ((have hk8 := Nat.add_zero); (first | refine SW.ops_seq hY fun y1 hy1 => ?_ | refine SW.ops hY ?_ | refine SW.draw_seq hY mixed (by kernel_rfl) fun y1 hy1 => ?_ | refine SW.draw hY mixed (by kernel_rfl) ?_ | (simp only [k8]; refine ⟨fun hb => ?_, fun hb => ?_⟩ <;> (try replace hb := Bool.eq_false_iff.2 hb) <;> (first | exact absurd hb (by decide) | replace hk8 := hb))) <;> (simp only [hk8, hgr, hr0, hg2, hgm, hwi, Int.toNat_zero, Int.toNat_one, Int.le_refl, Int.zero_le_ofNat, Nat.zero_add, Int.toNat_natCast, T.asArr, T.tg, tgL, dnT, indexAddrM, wk, wl, eq_self, isCall, callT, opM, S.ev, S.put, entryS, thawAL, thawA, RM.run, RM.bind, RM.ofOpt, allocs, Heap.ups, Heap.put, Heap.at, List.replicate, Nat.reduceAdd, Nat.reduceSub, ofConst, nilAs, if_false, if_true, binT, binTy, unT, guardT, pickT, quietK, stripT, openT, reduceIte, boxM, allocM, loadM, storeM, fieldAddrM, lenT, extractT, subM, setOb, T.get, T.setp, T.offs, T.nw, nwL, T.cel, T.isNd, T.size, sizeL, TyI.agg, Ty.agg, Ty.isFn, zeroT, Nat.reduceLT, Nat.reduceEqDiff, sumT, kill, Y1, Y2, Y3, Y4, Y24, Y27, Y30, Y32, Y37]; clear hk8; first | subst hy1 | (try simp only [thenS, blockS, if_true, if_false, Nat.reduceEqDiff, reduceIte])))
        | exact absurd trivial hb
        | exact absurd hb (by decide)
        | exact absurd hcc (by decide)
        | refine SW.seq ?_
        | refine SW.block ?_
        | (refine SW.cond rfl (fun hcc => ?_) (fun hcc => ?_))
        | (refine SW.exit ?_; simp only [thenS, blockS, if_true, if_false, Nat.reduceEqDiff, reduceIte])
        | (refine SW.skip ?_; simp only [thenS, blockS])
      refine ⟨n - 1, j + 1, by omega, ⟨by omega, by omega, fun k hk hkj => ?_⟩, Norm.to 0 rfl (by simp [weakL])⟩
      by_cases he : k = j
      · subst he; exact hlb
      · exact hp k hk (by omega)
    · simp only [Bool.false_and, Bool.true_and, Bool.not_true, Bool.not_false] at hlb
      repeat' first
        | ((have hk8 := Nat.add_zero); (first | refine SW.ops_seq hY fun y1 hy1 => ?_ | refine SW.ops hY ?_ | refine SW.draw_seq hY mixed (by kernel_rfl) fun y1 hy1 => ?_ | refine SW.draw hY mixed (by kernel_rfl) ?_ | (simp only [k8]; refine ⟨fun hb => ?_, fun hb => ?_⟩ <;> (try replace hb := Bool.eq_false_iff.2 hb) <;> (first | exact absurd hb (by decide) | replace hk8 := hb))) <;> (simp only [hk8, hgr, hr0, hg2, hgm, hwi, Int.toNat_zero, Int.toNat_one, Int.le_refl, Int.zero_le_ofNat, Nat.zero_add, Int.toNat_natCast, T.asArr, T.tg, tgL, dnT, indexAddrM, wk, wl, eq_self, isCall, callT, opM, S.ev, S.put, entryS, thawAL, thawA, RM.run, RM.bind, RM.ofOpt, allocs, Heap.ups, Heap.put, Heap.at, List.replicate, Nat.reduceAdd, Nat.reduceSub, ofConst, nilAs, if_false, if_true, binT, binTy, unT, guardT, pickT, quietK, stripT, openT, reduceIte, boxM, allocM, loadM, storeM, fieldAddrM, lenT, extractT, subM, setOb, T.get, T.setp, T.offs, T.nw, nwL, T.cel, T.isNd, T.size, sizeL, TyI.agg, Ty.agg, Ty.isFn, zeroT, Nat.reduceLT, Nat.reduceEqDiff, sumT, kill, Y1, Y2, Y3, Y4, Y24, Y27, Y30, Y32, Y37]; clear hk8; first | subst hy1 | (try simp only [thenS, blockS, if_true, if_false, Nat.reduceEqDiff, reduceIte])))
        | exact absurd trivial hb
        | exact absurd hb (by decide)
        | exact absurd hcc (by decide)
        | refine SW.seq ?_
        | refine SW.block ?_
        | (refine SW.cond rfl (fun hcc => ?_) (fun hcc => ?_))
        | (refine SW.exit ?_; simp only [thenS, blockS, if_true, if_false, Nat.reduceEqDiff, reduceIte])
        | (refine SW.skip ?_; simp only [thenS, blockS])
      refine ⟨n - 1, j + 1, by omega, ⟨by omega, by omega, fun k hk hkj => ?_⟩, Norm.to 0 rfl (by simp [weakL])⟩
      by_cases he : k = j
      · subst he; exact hlb
      · exact hp k hk (by omega)
    · simp only [Bool.false_and, Bool.true_and, Bool.not_true, Bool.not_false] at hlb
      repeat' first
        | ((have hk8 := Nat.add_zero); (first | refine SW.ops_seq hY fun y1 hy1 => ?_ | refine SW.ops hY ?_ | refine SW.draw_seq hY mixed (by kernel_rfl) fun y1 hy1 => ?_ | refine SW.draw hY mixed (by kernel_rfl) ?_ | (simp only [k8]; refine ⟨fun hb => ?_, fun hb => ?_⟩ <;> (try replace hb := Bool.eq_false_iff.2 hb) <;> (first | exact absurd hb (by decide) | replace hk8 := hb))) <;> (simp only [hk8, hgr, hr0, hg2, hgm, hwi, Int.toNat_zero, Int.toNat_one, Int.le_refl, Int.zero_le_ofNat, Nat.zero_add, Int.toNat_natCast, T.asArr, T.tg, tgL, dnT, indexAddrM, wk, wl, eq_self, isCall, callT, opM, S.ev, S.put, entryS, thawAL, thawA, RM.run, RM.bind, RM.ofOpt, allocs, Heap.ups, Heap.put, Heap.at, List.replicate, Nat.reduceAdd, Nat.reduceSub, ofConst, nilAs, if_false, if_true, binT, binTy, unT, guardT, pickT, quietK, stripT, openT, reduceIte, boxM, allocM, loadM, storeM, fieldAddrM, lenT, extractT, subM, setOb, T.get, T.setp, T.offs, T.nw, nwL, T.cel, T.isNd, T.size, sizeL, TyI.agg, Ty.agg, Ty.isFn, zeroT, Nat.reduceLT, Nat.reduceEqDiff, sumT, kill, Y1, Y2, Y3, Y4, Y24, Y27, Y30, Y32, Y37]; clear hk8; first | subst hy1 | (try simp only [thenS, blockS, if_true, if_false, Nat.reduceEqDiff, reduceIte])))
        | exact absurd trivial hb
        | exact absurd hb (by decide)
        | exact absurd hcc (by decide)
        | refine SW.seq ?_
        | refine SW.block ?_
        | (refine SW.cond rfl (fun hcc => ?_) (fun hcc => ?_))
        | (refine SW.exit ?_; simp only [thenS, blockS, if_true, if_false, Nat.reduceEqDiff, reduceIte])
        | (refine SW.skip ?_; simp only [thenS, blockS])
      refine SW.ret (show RetQ _ _ _ _ _ _ _ from ⟨.inr rfl, [_], [1], [_], _, rfl, rfl, rfl, rfl, rfl, ?_⟩)
      have : refs.any (lackB v m) = true := List.any_eq_true.2 ⟨_, List.getElem_mem hlt, hlb⟩
      simp [tupOf, fixEs, this]
    · simp only [Bool.false_and, Bool.true_and, Bool.not_true, Bool.not_false] at hlb
      repeat' first
        | ((have hk8 := Nat.add_zero); (first | refine SW.ops_seq hY fun y1 hy1 => ?_ | refine SW.ops hY ?_ | refine SW.draw_seq hY mixed (by kernel_rfl) fun y1 hy1 => ?_ | refine SW.draw hY mixed (by kernel_rfl) ?_ | (simp only [k8]; refine ⟨fun hb => ?_, fun hb => ?_⟩ <;> (try replace hb := Bool.eq_false_iff.2 hb) <;> (first | exact absurd hb (by decide) | replace hk8 := hb))) <;> (simp only [hk8, hgr, hr0, hg2, hgm, hwi, Int.toNat_zero, Int.toNat_one, Int.le_refl, Int.zero_le_ofNat, Nat.zero_add, Int.toNat_natCast, T.asArr, T.tg, tgL, dnT, indexAddrM, wk, wl, eq_self, isCall, callT, opM, S.ev, S.put, entryS, thawAL, thawA, RM.run, RM.bind, RM.ofOpt, allocs, Heap.ups, Heap.put, Heap.at, List.replicate, Nat.reduceAdd, Nat.reduceSub, ofConst, nilAs, if_false, if_true, binT, binTy, unT, guardT, pickT, quietK, stripT, openT, reduceIte, boxM, allocM, loadM, storeM, fieldAddrM, lenT, extractT, subM, setOb, T.get, T.setp, T.offs, T.nw, nwL, T.cel, T.isNd, T.size, sizeL, TyI.agg, Ty.agg, Ty.isFn, zeroT, Nat.reduceLT, Nat.reduceEqDiff, sumT, kill, Y1, Y2, Y3, Y4, Y24, Y27, Y30, Y32, Y37]; clear hk8; first | subst hy1 | (try simp only [thenS, blockS, if_true, if_false, Nat.reduceEqDiff, reduceIte])))
        | exact absurd trivial hb
        | exact absurd hb (by decide)
        | exact absurd hcc (by decide)
        | refine SW.seq ?_
        | refine SW.block ?_
        | (refine SW.cond rfl (fun hcc => ?_) (fun hcc => ?_))
        | (refine SW.exit ?_; simp only [thenS, blockS, if_true, if_false, Nat.reduceEqDiff, reduceIte])
        | (refine SW.skip ?_; simp only [thenS, blockS])
      refine ⟨n - 1, j + 1, by omega, ⟨by omega, by omega, fun k hk hkj => ?_⟩, Norm.to 0 rfl (by simp [weakL])⟩
      by_cases he : k = j
      · subst he; exact hlb
      · exact hp k hk (by omega)
  · have hge : j = refs.length := by
      have : ¬ j < refs.length := by simp at hc; omega
      omega
    have : refs.any (lackB v m) = false := by
      rw [List.any_eq_false]
      intro x hx
      obtain ⟨k, hk, rfl⟩ := List.mem_iff_getElem.1 hx
      simp [hp k hk (by omega)]
    rw [this]
    repeat' first
      | ((have hk8 := Nat.add_zero); (first | refine SW.ops_seq hY fun y1 hy1 => ?_ | refine SW.ops hY ?_ | refine SW.draw_seq hY mixed (by kernel_rfl) fun y1 hy1 => ?_ | refine SW.draw hY mixed (by kernel_rfl) ?_ | (simp only [k8]; refine ⟨fun hb => ?_, fun hb => ?_⟩ <;> (try replace hb := Bool.eq_false_iff.2 hb) <;> (first | exact absurd hb (by decide) | replace hk8 := hb))) <;> (simp only [hk8, T.asArr, T.tg, tgL, dnT, indexAddrM, wk, wl, eq_self, isCall, callT, opM, S.ev, S.put, entryS, thawAL, thawA, RM.run, RM.bind, RM.ofOpt, allocs, Heap.ups, Heap.put, Heap.at, List.replicate, Nat.reduceAdd, Nat.reduceSub, ofConst, nilAs, if_false, if_true, binT, binTy, unT, guardT, pickT, quietK, stripT, openT, reduceIte, boxM, allocM, loadM, storeM, fieldAddrM, lenT, extractT, subM, setOb, T.get, T.setp, T.offs, T.nw, nwL, T.cel, T.isNd, T.size, sizeL, TyI.agg, Ty.agg, Ty.isFn, zeroT, Nat.reduceLT, Nat.reduceEqDiff, sumT, kill, Y1, Y2, Y3, Y4, Y24, Y27, Y30, Y32, Y37]; clear hk8; first | subst hy1 | (try simp only [thenS, blockS, if_true, if_false, Nat.reduceEqDiff, reduceIte])))
      | exact absurd trivial hb
      | exact absurd hb (by decide)
      | exact absurd hcc (by decide)
      | refine SW.seq ?_
      | refine SW.block ?_
      | (refine SW.cond rfl (fun hcc => ?_) (fun hcc => ?_))
      | (refine SW.exit ?_; simp only [thenS, blockS, if_true, if_false, Nat.reduceEqDiff, reduceIte])
      | (refine SW.skip ?_; simp only [thenS, blockS])
      | refine SW.ret (show RetQ _ _ _ _ _ _ _ from ⟨.inr rfl, [_], [1], [_], _, rfl, rfl, rfl, rfl, rfl, ?_⟩)
    simp [tupOf, fixEs]
end Q1
