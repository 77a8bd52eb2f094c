/- Shows what the parts of the program do that the claim reaches: a machine of values over the model, and the contracts of functions, for all arguments within the lengths that each theorem names. -/
import Derived.Test.YtlffogdkmdafiaaXMarkP4
import Derived.Test.YtlffogdkmdafiaaVm4
set_option linter.all false

namespace Q1
open Go Go.Vm Go.Proofs
set_option maxHeartbeats 4000000
set_option synthInstance.maxSize 2000
set_option synthInstance.maxHeartbeats 400000
set_option maxRecDepth 10000
set_option linter.unusedSimpArgs false
set_option linter.unusedVariables false

theorem specMark_n (l : List SlotT) (hl : Enc.lim 1048576 l) (a most : Int) (hn : (callB l a && inB most) = false) : CallR Try.prog 50 [.sl .b (l.map Enc.b), .int .i64 a, .int .i64 most] [] (.tup [.ow 1 [], .int .i64 0]) := by
  refine CallR.of_body (n := 135) (rs := [.tmp 6, .tmp 7]) hY.ok Try.func50 rfl (by decide) rfl rfl rfl rfl (fun F => ?_)
  have hV := l11Call_ok l hl a
  have hI := l1In_ok most 1 40
  unfold inB at hn
  cases hv : callB l a with
  | false =>
    rw [hv] at hV
    repeat' first
      | ((have hk8 := Nat.add_zero); (first | refine SW.ops_seq hY fun y1 hy1 => ?_ | refine SW.ops hY ?_ | refine SW.draw_seq hY mixed (by kernel_rfl) fun y1 hy1 => ?_ | refine SW.draw hY mixed (by kernel_rfl) ?_ | refine vcall_to [] (hV) rfl (by first | rfl | (simp [pass2, T.tg, tgL, upT, lendM, lendA, lendAL, elemsM, Heap.at, RM.bind, RM.run]; done) | (simp [pass2, T.tg, tgL, upT, lendM, lendA, lendAL, elemsM, Heap.at, RM.bind, RM.run]; rfl)) (by first | rfl | simp [resClo, T.clo, cloL, T.clP, clPL]) rfl ?_ | (simp only [k8]; refine ⟨fun hb => ?_, fun hb => ?_⟩ <;> (try replace hb := Bool.eq_false_iff.2 hb) <;> (first | exact absurd hb (by decide) | replace hk8 := hb))) <;> (simp only [hk8, build0 (t := 37) Y37 Y4 rfl (by decide), T.asArr, T.tg, tgL, dnT, indexAddrM, wk, wl, eq_self, isCall, callT, opM, S.ev, S.put, entryS, thawAL, thawA, RM.run, RM.bind, RM.ofOpt, allocs, Heap.ups, Heap.put, Heap.at, List.replicate, Nat.reduceAdd, Nat.reduceSub, ofConst, nilAs, if_false, if_true, binT, binTy, unT, guardT, pickT, quietK, stripT, openT, reduceIte, boxM, allocM, loadM, storeM, fieldAddrM, lenT, extractT, subM, setOb, T.get, T.setp, T.offs, T.nw, nwL, T.cel, T.isNd, T.size, sizeL, TyI.agg, Ty.agg, Ty.isFn, zeroT, Nat.reduceLT, Nat.reduceEqDiff, sumT, kill, Y1, Y2, Y3, Y4, Y24, Y27, Y30, Y32, Y37]; clear hk8; first | subst hy1 | (try simp only [thenS, blockS, if_true, if_false, Nat.reduceEqDiff, reduceIte])))
      | exact absurd trivial hb
      | exact absurd hb (by decide)
      | exact absurd hcc (by decide)
      | refine SW.seq ?_
      | refine SW.block ?_
      | (refine SW.cond rfl (fun hcc => ?_) (fun hcc => ?_))
      | (refine SW.exit ?_; simp only [thenS, blockS, if_true, if_false, Nat.reduceEqDiff, reduceIte])
      | (refine SW.skip ?_; simp only [thenS, blockS])
    refine SW.ret (show RetQ _ _ _ _ _ _ _ from ⟨.inr rfl, _, [1, 0], [.ow 1 ([]), .int .i64 (0)], ?_, ⟨rfl, ?_, rfl, ?_, rfl, rfl⟩⟩)
    rotate_left
    · first | rfl | (simp [-List.map_set, -List.map_append, pass1, modeOf, giveS, giveSL, Heap.at, Heap.put, fixEs, ioAt, ioKs, ioM, ioT, T.cel, T.clo, cloL, T.cloA, cloAL]; rfl)
    · first | rfl | simp [-List.map_set, -List.map_append, cloL, T.clo, T.clP, clPL]
  | true =>
    rw [hv] at hV hn
    rw [Bool.true_and] at hn
    rw [hn] at hI
    repeat' first
      | ((have hk8 := Nat.add_zero); (first | refine SW.ops_seq hY fun y1 hy1 => ?_ | refine SW.ops hY ?_ | refine SW.draw_seq hY mixed (by kernel_rfl) fun y1 hy1 => ?_ | refine SW.draw hY mixed (by kernel_rfl) ?_ | refine vcall_to [] (hV) rfl (by first | rfl | (simp [pass2, T.tg, tgL, upT, lendM, lendA, lendAL, elemsM, Heap.at, RM.bind, RM.run]; done) | (simp [pass2, T.tg, tgL, upT, lendM, lendA, lendAL, elemsM, Heap.at, RM.bind, RM.run]; rfl)) (by first | rfl | simp [resClo, T.clo, cloL, T.clP, clPL]) rfl ?_ | refine vcall_to [] (hI) rfl (by first | rfl | (simp [pass2, T.tg, tgL, upT, lendM, lendA, lendAL, elemsM, Heap.at, RM.bind, RM.run]; done) | (simp [pass2, T.tg, tgL, upT, lendM, lendA, lendAL, elemsM, Heap.at, RM.bind, RM.run]; rfl)) (by first | rfl | simp [resClo, T.clo, cloL, T.clP, clPL]) rfl ?_ | (simp only [k8]; refine ⟨fun hb => ?_, fun hb => ?_⟩ <;> (try replace hb := Bool.eq_false_iff.2 hb) <;> (first | exact absurd hb (by decide) | replace hk8 := hb))) <;> (simp only [hk8, build0 (t := 37) Y37 Y4 rfl (by decide), T.asArr, T.tg, tgL, dnT, indexAddrM, wk, wl, eq_self, isCall, callT, opM, S.ev, S.put, entryS, thawAL, thawA, RM.run, RM.bind, RM.ofOpt, allocs, Heap.ups, Heap.put, Heap.at, List.replicate, Nat.reduceAdd, Nat.reduceSub, ofConst, nilAs, if_false, if_true, binT, binTy, unT, guardT, pickT, quietK, stripT, openT, reduceIte, boxM, allocM, loadM, storeM, fieldAddrM, lenT, extractT, subM, setOb, T.get, T.setp, T.offs, T.nw, nwL, T.cel, T.isNd, T.size, sizeL, TyI.agg, Ty.agg, Ty.isFn, zeroT, Nat.reduceLT, Nat.reduceEqDiff, sumT, kill, Y1, Y2, Y3, Y4, Y24, Y27, Y30, Y32, Y37]; clear hk8; first | subst hy1 | (try simp only [thenS, blockS, if_true, if_false, Nat.reduceEqDiff, reduceIte])))
      | exact absurd trivial hb
      | exact absurd hb (by decide)
      | exact absurd hcc (by decide)
      | refine SW.seq ?_
      | refine SW.block ?_
      | (refine SW.cond rfl (fun hcc => ?_) (fun hcc => ?_))
      | (refine SW.exit ?_; simp only [thenS, blockS, if_true, if_false, Nat.reduceEqDiff, reduceIte])
      | (refine SW.skip ?_; simp only [thenS, blockS])
    refine SW.ret (show RetQ _ _ _ _ _ _ _ from ⟨.inr rfl, _, [1, 0], [.ow 1 ([]), .int .i64 (0)], ?_, ⟨rfl, ?_, rfl, ?_, rfl, rfl⟩⟩)
    rotate_left
    · first | rfl | (simp [-List.map_set, -List.map_append, pass1, modeOf, giveS, giveSL, Heap.at, Heap.put, fixEs, ioAt, ioKs, ioM, ioT, T.cel, T.clo, cloL, T.cloA, cloAL]; rfl)
    · first | rfl | simp [-List.map_set, -List.map_append, cloL, T.clo, T.clP, clPL]
theorem specMark_y (v : List SlotT) (hvl : Enc.lim 1048576 v) (a most : Int) (hvw : viewB v = true) (ha : 1 ≤ a ∧ a ≤ 31) (hm : 1 ≤ most ∧ most ≤ 40) : CallR Try.prog 50 [.sl .b (v.map Enc.b), .int .i64 a, .int .i64 most] [] (.tup [.ow 1 ((markR v a.toNat most).1.map Enc.o), .int .i64 ((markR v a.toNat most).2 : Int)]) := by
  refine CallR.of_body (n := 135) (rs := [.tmp 6, .tmp 7]) hY.ok Try.func50 rfl (by decide) rfl rfl rfl rfl (fun F => ?_)
  have hV := l11Call_ok v hvl a
  have hI := l1In_ok most 1 40
  rw [callB_t hvw ha] at hV
  rw [show (decide (most ≥ 1) && decide (most ≤ 40)) = true by simp [hm]] at hI
  have hv := vok_of hvw
  have hlen : v.length = 32 := hv.len
  have hL : ((v.length : Nat) : Int) = 32 := by omega
  have hG0 := ms0_good (v := v) (root := a.toNat) hm.1 (by omega)
  have hD0 := drn_ok hv hm.2 hG0
  have hal : a.toNat < v.length := by rw [hv.len]; omega
  have ha0 : 0 ≤ a := by omega
  have ha32 : a < ((32 : Nat) : Int) := by omega
  have hha : hasA v a.toNat = v[a.toNat].1 := by unfold hasA; rw [List.getElem?_eq_getElem hal]
  have hout := outOk_of hv hm.1 hm.2 34 hD0.1 hD0.2.1 (by have := cnt_le32 hD0.1; omega)
  have hRdef : markR v a.toNat most = outD v most 34 (drn v most (ms0 v a.toNat)) 0 := rfl
  have hgv0 : (v.map Enc.b)[a.toNat]? = some (.nd [.bool v[a.toNat].1, .nd [.int .i64 v[a.toNat].2.1.1, .sl .b (v[a.toNat].2.1.2.1.map Enc.b), .sl .b (v[a.toNat].2.1.2.2.1.map Enc.b)]]) := map_get Enc.b v _ hal
  have hgr : (rep32.map (Enc.o : Bool → T))[a.toNat]? = some (.bool false) := by rw [List.getElem?_map, List.getElem?_eq_getElem (by simp [rep32]; omega), rep32_get]; rfl
  obtain ⟨m0, hm0e⟩ : ∃ m0, m0 = (List.replicate 32 false).set a.toNat true := ⟨_, rfl⟩
  have hml0 : m0.length = 32 := by rw [hm0e]; simp
  have hsr : (rep32.map (Enc.o : Bool → T)).set a.toNat (.bool true) = m0.map Enc.o := by rw [hm0e]; exact set_o rep32 a.toNat true
  cases hh : v[a.toNat].1 with
  | true =>
    rw [hh] at hgv0 hha
    have hm0 : ms0 v a.toNat = ⟨m0, [] ++ [a], false⟩ := by unfold ms0; rw [if_pos hha, hm0e]; simp; omega
    have hap := append_runP (Y := Y) (H := [[], [], [], [.arr 1 (m0.map Enc.o) false], [.arr 1 [] false], [.arr 1 [.int .i64 a] false], []]) (own := 6) (t := 27) (u := 27) (e := 4) (j := 0) (off := 0) (n := 0) (e2 := 5) (j2 := 0) (f := []) (l := []) (x := a) Y27 Y27 Y3 rfl (by decide) rfl rfl rfl (by simp) (by omega) rfl rfl
    repeat' first
      | ((have hk8 := Nat.add_zero); (first | refine SW.ops_seq hY fun y1 hy1 => ?_ | refine SW.ops hY ?_ | refine SW.draw_seq hY mixed (by kernel_rfl) fun y1 hy1 => ?_ | refine SW.draw hY mixed (by kernel_rfl) ?_ | refine vcall_to [] (hV) rfl (by first | rfl | (simp [pass2, T.tg, tgL, upT, lendM, lendA, lendAL, elemsM, Heap.at, RM.bind, RM.run]; done) | (simp [pass2, T.tg, tgL, upT, lendM, lendA, lendAL, elemsM, Heap.at, RM.bind, RM.run]; rfl)) (by first | rfl | simp [resClo, T.clo, cloL, T.clP, clPL]) rfl ?_ | refine vcall_to [] (hI) rfl (by first | rfl | (simp [pass2, T.tg, tgL, upT, lendM, lendA, lendAL, elemsM, Heap.at, RM.bind, RM.run]; done) | (simp [pass2, T.tg, tgL, upT, lendM, lendA, lendAL, elemsM, Heap.at, RM.bind, RM.run]; rfl)) (by first | rfl | simp [resClo, T.clo, cloL, T.clP, clPL]) rfl ?_ | (simp only [k8]; refine ⟨fun hb => ?_, fun hb => ?_⟩ <;> (try replace hb := Bool.eq_false_iff.2 hb) <;> (first | exact absurd hb (by decide) | replace hk8 := hb))) <;> (simp only [hk8, hL, mk32, hgv0, ha0, ha32, hgr, hsr, hap, bs1_27, build0 (t := 27) Y27 Y3 rfl (by decide), Int.toNat_zero, Int.toNat_one, Int.le_refl, Int.zero_le_ofNat, Nat.zero_add, Int.toNat_natCast, T.asArr, T.tg, tgL, dnT, indexAddrM, wk, wl, eq_self, isCall, callT, opM, S.ev, S.put, entryS, thawAL, thawA, RM.run, RM.bind, RM.ofOpt, allocs, Heap.ups, Heap.put, Heap.at, List.replicate, Nat.reduceAdd, Nat.reduceSub, ofConst, nilAs, if_false, if_true, binT, binTy, unT, guardT, pickT, quietK, stripT, openT, reduceIte, boxM, allocM, loadM, storeM, fieldAddrM, lenT, extractT, subM, setOb, T.get, T.setp, T.offs, T.nw, nwL, T.cel, T.isNd, T.size, sizeL, TyI.agg, Ty.agg, Ty.isFn, zeroT, Nat.reduceLT, Nat.reduceEqDiff, sumT, kill, Y1, Y2, Y3, Y4, Y24, Y27, Y30, Y32, Y37]; clear hk8; first | subst hy1 | (try simp only [thenS, blockS, if_true, if_false, Nat.reduceEqDiff, reduceIte])))
      | exact absurd trivial hb
      | exact absurd hb (by decide)
      | exact absurd hcc (by decide)
      | refine SW.seq ?_
      | refine SW.block ?_
      | (refine SW.cond rfl (fun hcc => ?_) (fun hcc => ?_))
      | (refine SW.exit ?_; simp only [thenS, blockS, if_true, if_false, Nat.reduceEqDiff, reduceIte])
      | (refine SW.skip ?_; simp only [thenS, blockS])
    generalize hs0 : ms0 v a.toNat = s0 at *
    rw [hRdef]
    generalize hRe : outD v most 34 (drn v most s0) 0 = R at *
    refine SW.loop (fun x : MS × Nat => ⟨[.sl .b (v.map Enc.b), .int .i64 a, .int .i64 most, .undef, .undef, .undef, .undef, .undef, .ref 1 0 0 x.1.m.length, .ref 2 0 0 x.1.q.length, .int .i64 ((x.2 : Nat) : Int), .bool x.1.o, .undef, .undef, .undef, .undef, .undef, .undef, .undef, .undef, .undef, .undef, .undef, .undef, .undef, .undef, .undef, .undef, .undef, .undef, .undef, .undef, .undef, .undef, .undef, .undef, .undef, .undef, .undef, .undef, .undef, .undef, .undef, .undef, .undef, .undef, .undef, .undef, .undef, .undef, .undef, .undef, .undef, .undef, .undef, .undef, .undef, .undef, .undef, .undef, .undef, .undef, .undef, .undef, .undef, .undef, .undef, .undef, .undef, .undef, .undef, .undef, .undef, .undef, .undef, .undef, .undef, .undef, .undef, .undef, .undef, .undef, .undef, .undef, .undef, .undef, .undef, .undef, .undef, .undef, .undef, .undef, .undef, .undef, .undef, .undef, .undef, .undef, .undef, .undef, .undef, .undef, .undef, .undef, .undef, .undef, .undef, .undef, .undef, .undef, .undef, .undef, .undef, .undef, .undef, .undef, .undef, .undef, .undef, .undef, .undef, .undef, .undef, .undef, .undef, .undef, .undef, .undef, .undef, .undef, .undef, .undef, .undef, .undef, .undef], [[], [.arr 1 ((x.1.m).map Enc.o) false], [.arr 1 ((x.1.q).map Enc.o) false]]⟩)
      (fun n x => n ≤ 34 ∧ Good most x.1 ∧ outOk v most n (drn v most x.1) ∧ outD v most n (drn v most x.1) x.2 = R ∧ x.2 + n ≤ 34) (n := 34) (x := (s0, 0)) (by subst hm0; refine Norm.re [0, 3, 6] (by decide) rfl (by simp only [eq_self, heapFits, rowFits, obFits, List.getElem?_cons_zero, List.getElem?_cons_succ, renL_o, renL_b, true_and, and_true, and_self, renL_t, renL_cons, renL_nil, T.ren, List.nil_append, List.map_cons, List.map_nil, o_int, ren_int]) ?_; simp only [hml0, List.nil_append, List.length_singleton]; simp [tmFits, T.ren]) ⟨Nat.le_refl _, hG0, hout, hRe, Nat.le_refl _⟩ ?_
    rintro n ⟨s, t⟩ ⟨hn, hs, hok, hR, ht⟩
    simp only at hs hok hR ht ⊢
    have hD := drn_ok hv hm.2 hs
    refine SW.block ?_
    refine SW.seq ?_
    refine SW.block ?_
    refine SW.loop (fun x : MS => ⟨[.sl .b (v.map Enc.b), .int .i64 a, .int .i64 most, .undef, .undef, .undef, .undef, .undef, .ref 1 0 0 x.m.length, .ref 2 0 0 x.q.length, .int .i64 ((t : Nat) : Int), .bool x.o, .undef, .undef, .undef, .undef, .undef, .undef, .undef, .undef, .undef, .undef, .undef, .undef, .undef, .undef, .undef, .undef, .undef, .undef, .undef, .undef, .undef, .undef, .undef, .undef, .undef, .undef, .undef, .undef, .undef, .undef, .undef, .undef, .undef, .undef, .undef, .undef, .undef, .undef, .undef, .undef, .undef, .undef, .undef, .undef, .undef, .undef, .undef, .undef, .undef, .undef, .undef, .undef, .undef, .undef, .undef, .undef, .undef, .undef, .undef, .undef, .undef, .undef, .undef, .undef, .undef, .undef, .undef, .undef, .undef, .undef, .undef, .undef, .undef, .undef, .undef, .undef, .undef, .undef, .undef, .undef, .undef, .undef, .undef, .undef, .undef, .undef, .undef, .undef, .undef, .undef, .undef, .undef, .undef, .undef, .undef, .undef, .undef, .undef, .undef, .undef, .undef, .undef, .undef, .undef, .undef, .undef, .undef, .undef, .undef, .undef, .undef, .undef, .undef, .undef, .undef, .undef, .undef, .undef, .undef, .undef, .undef, .undef, .undef], [[], [.arr 1 ((x.m).map Enc.o) false], [.arr 1 ((x.q).map Enc.o) false]]⟩)
      (fun n2 x => n2 ≤ 200 ∧ Good most x ∧ drainF v most n2 x = drn v most s) (n := 200) (x := s) (Norm.refl _) ⟨Nat.le_refl _, hs, rfl⟩ ?_
    rintro n2 x ⟨hn2, hx, hdr⟩
    simp only
    repeat' first
      | (refine SW.ops_seq hY fun y1 hy1 => ?_; simp only [T.asArr, T.tg, tgL, dnT, indexAddrM, wk, wl, eq_self, isCall, callT, opM, S.ev, S.put, entryS, thawAL, thawA, RM.run, RM.bind, RM.ofOpt, allocs, Heap.ups, Heap.put, Heap.at, List.replicate, Nat.reduceAdd, Nat.reduceSub, ofConst, nilAs, if_false, if_true, binT, binTy, unT, guardT, pickT, quietK, stripT, openT, reduceIte, boxM, allocM, loadM, storeM, fieldAddrM, lenT, extractT, subM, setOb, T.get, T.setp, T.offs, T.nw, nwL, T.cel, T.isNd, T.size, sizeL, TyI.agg, Ty.agg, Ty.isFn, zeroT, Nat.reduceLT, Nat.reduceEqDiff, sumT, kill, Y1, Y2, Y3, Y4, Y24, Y27, Y30, Y32, Y37]; subst hy1)
      | refine SW.seq ?_
    refine SW.cond rfl (fun hc => ?_) (fun hc => ?_)
    · have hqn : 0 < x.q.length := by simp at hc; omega
      obtain ⟨z, hz⟩ : ∃ z, x.q.getLast? = some z := by
        cases h : x.q.getLast? with
        | none => rw [List.getLast?_eq_none_iff] at h; rw [h] at hqn; simp at hqn
        | some z => exact ⟨z, rfl⟩
      obtain ⟨n2, rfl⟩ : ∃ m, n2 = m + 1 := by
        cases n2 with
        | zero => exfalso; have h := hD.2.1; rw [← hdr] at h; simp only [drainF] at h; rw [h] at hqn; simp at hqn
        | succ m => exact ⟨m, rfl⟩
      obtain ⟨hp1, hp2, hp3⟩ := hx.pop hz
      have hql := hx.ql
      have hdl : x.q.dropLast.length = x.q.length - 1 := List.length_dropLast ..
      have hw : IntKind.i64.wrap ((x.q.length : Int) - 1) = ((x.q.length - 1 : Nat) : Int) := by rw [wrap64 _ (by omega) (by omega)]; omega
      have hltI : ((x.q.length - 1 : Nat) : Int) < (x.q.length : Int) := by omega
      have hleI : ((x.q.length - 1 : Nat) : Int) ≤ (x.q.length : Int) := by omega
      have hgz : (x.q.map (Enc.o : Int → T))[x.q.length - 1]? = some (.int .i64 z) := by rw [List.getElem?_map, ← List.getLast?_eq_getElem?, hz]; rfl
      have hz0 : 0 ≤ z := hp2.1
      have hzl : z.toNat < v.length := by rw [hv.len]; omega
      have hgv : (v.map Enc.b)[z.toNat]? = some (.nd [.bool v[z.toNat].1, .nd [.int .i64 v[z.toNat].2.1.1, .sl .b (v[z.toNat].2.1.2.1.map Enc.b), .sl .b (v[z.toNat].2.1.2.2.1.map Enc.b)]]) := map_get Enc.b v _ hzl
      have hrf : refsA v z.toNat = v[z.toNat].2.1.2.2.1 := by unfold refsA; rw [List.getElem?_eq_getElem hzl]
      have hrr := hv.rf z.toNat
      have hrl := hv.rl z.toNat
      have hdr' : drainF v most n2 (seeA v most ⟨x.m, x.q.dropLast, x.o⟩ (refsA v z.toNat)) = drn v most s := by rw [← hdr]; simp only [drainF, hz]
      rw [hrf] at hrr hrl hdr'
      generalize hRR : v[z.toNat].2.1.2.2.1 = refs at *
      repeat' first
        | ((have hk8 := Nat.add_zero); (first | refine SW.ops_seq hY fun y1 hy1 => ?_ | refine SW.ops hY ?_ | refine SW.draw_seq hY mixed (by kernel_rfl) fun y1 hy1 => ?_ | refine SW.draw hY mixed (by kernel_rfl) ?_) <;> (simp only [hk8, hw, hltI, hleI, hgz, hz0, hgv, sliceM, loF, hiF, Int.le_refl, Nat.sub_zero, Int.toNat_zero, Int.toNat_one, Int.le_refl, Int.zero_le_ofNat, Nat.zero_add, Int.toNat_natCast, T.asArr, T.tg, tgL, dnT, indexAddrM, wk, wl, eq_self, isCall, callT, opM, S.ev, S.put, entryS, thawAL, thawA, RM.run, RM.bind, RM.ofOpt, allocs, Heap.ups, Heap.put, Heap.at, List.replicate, Nat.reduceAdd, Nat.reduceSub, ofConst, nilAs, if_false, if_true, binT, binTy, unT, guardT, pickT, quietK, stripT, openT, reduceIte, boxM, allocM, loadM, storeM, fieldAddrM, lenT, extractT, subM, setOb, T.get, T.setp, T.offs, T.nw, nwL, T.cel, T.isNd, T.size, sizeL, TyI.agg, Ty.agg, Ty.isFn, zeroT, Nat.reduceLT, Nat.reduceEqDiff, sumT, kill, Y1, Y2, Y3, Y4, Y24, Y27, Y30, Y32, Y37]; clear hk8; first | subst hy1 | (try simp only [thenS, blockS, if_true, if_false, Nat.reduceEqDiff, reduceIte])))
        | exact absurd trivial hb
        | exact absurd hb (by decide)
        | exact absurd hcc (by decide)
        | refine SW.seq ?_
        | refine SW.block ?_
        | (refine SW.exit ?_; simp only [thenS, blockS, if_true, if_false, Nat.reduceEqDiff, reduceIte])
        | (refine SW.skip ?_; simp only [thenS, blockS])
      refine SW.loop (fun x2 : MS × Nat => ⟨[.sl .b (v.map Enc.b), .int .i64 a, .int .i64 most, .undef, .undef, .undef, .undef, .undef, .ref 1 0 0 x2.1.m.length, .ref 2 0 0 x2.1.q.length, .int .i64 ((t : Nat) : Int), .bool x2.1.o, .undef, .sl .b (refs.map Enc.b), .int .i64 x2.2, .undef, .undef, .undef, .undef, .undef, .undef, .undef, .undef, .undef, .undef, .undef, .undef, .undef, .undef, .undef, .undef, .undef, .undef, .undef, .undef, .undef, .undef, .undef, .undef, .undef, .undef, .undef, .undef, .undef, .undef, .undef, .undef, .undef, .undef, .undef, .undef, .undef, .undef, .undef, .undef, .undef, .undef, .undef, .undef, .undef, .undef, .undef, .undef, .undef, .undef, .undef, .undef, .undef, .undef, .undef, .undef, .undef, .undef, .undef, .undef, .undef, .undef, .undef, .undef, .undef, .undef, .undef, .undef, .undef, .undef, .undef, .undef, .undef, .undef, .undef, .undef, .undef, .undef, .undef, .undef, .undef, .undef, .undef, .undef, .undef, .undef, .undef, .undef, .undef, .undef, .undef, .undef, .undef, .undef, .undef, .undef, .undef, .undef, .undef, .undef, .undef, .undef, .undef, .undef, .undef, .undef, .undef, .undef, .undef, .undef, .undef, .undef, .undef, .undef, .undef, .undef, .undef, .undef, .undef, .undef], [[], [.arr 1 ((x2.1.m).map Enc.o) false], [.arr 1 ((x2.1.q).map Enc.o) false]]⟩)
        (fun N x2 => N = refs.length - x2.2 ∧ x2.2 ≤ refs.length ∧ Good most x2.1 ∧ x2.1 = seeA v most ⟨x.m, x.q.dropLast, x.o⟩ (refs.take x2.2)) (n := refs.length) (x := (⟨x.m, x.q.dropLast, x.o⟩, 0)) ?_ ⟨rfl, Nat.zero_le _, hp1, rfl⟩ ?_
      · refine Norm.trans (Norm.trunc 2 0 (x.q.length - 1) rfl) ?_
        have htk : (x.q.map (Enc.o : Int → T)).take (x.q.length - 1) = x.q.dropLast.map Enc.o := by rw [← List.map_take, List.dropLast_eq_take]
        simp only [Heap.put, List.getElem?_cons_zero, List.getElem?_cons_succ, List.set_cons_zero, List.set_cons_succ, htk, hdl]
        exact Norm.to 0 rfl (by simp [weakL])
      · rintro N ⟨y, i⟩ ⟨hN, hi, hy, hyy⟩
        simp only at hN hi hy hyy ⊢
        repeat' first
          | (refine SW.ops_seq hY fun y1 hy1 => ?_; simp only [T.asArr, T.tg, tgL, dnT, indexAddrM, wk, wl, eq_self, isCall, callT, opM, S.ev, S.put, entryS, thawAL, thawA, RM.run, RM.bind, RM.ofOpt, allocs, Heap.ups, Heap.put, Heap.at, List.replicate, Nat.reduceAdd, Nat.reduceSub, ofConst, nilAs, if_false, if_true, binT, binTy, unT, guardT, pickT, quietK, stripT, openT, reduceIte, boxM, allocM, loadM, storeM, fieldAddrM, lenT, extractT, subM, setOb, T.get, T.setp, T.offs, T.nw, nwL, T.cel, T.isNd, T.size, sizeL, TyI.agg, Ty.agg, Ty.isFn, zeroT, Nat.reduceLT, Nat.reduceEqDiff, sumT, kill, Y1, Y2, Y3, Y4, Y24, Y27, Y30, Y32, Y37]; subst hy1)
          | refine SW.seq ?_
        refine SW.cond rfl (fun hc2 => ?_) (fun hc2 => ?_)
        · have hlt : i < refs.length := by simp at hc2; omega
          have hgr : (refs.map Enc.b)[i]? = some (T.int .i64 refs[i]) := map_get Enc.b refs i hlt
          have hr := hrr refs[i] (List.getElem_mem hlt)
          have hr0 : 0 ≤ refs[i] := hr.1
          have hrm : refs[i] < (y.m.length : Int) := by rw [hy.ml]; omega
          have hr2 : refs[i].toNat < v.length := by rw [hv.len]; omega
          have hg2 : (v.map Enc.b)[refs[i].toNat]? = some (.nd [.bool v[refs[i].toNat].1, .nd [.int .i64 v[refs[i].toNat].2.1.1, .sl .b (v[refs[i].toNat].2.1.2.1.map Enc.b), .sl .b (v[refs[i].toNat].2.1.2.2.1.map Enc.b)]]) := map_get Enc.b v _ hr2
          have hha2 : hasA v refs[i].toNat = v[refs[i].toNat].1 := by unfold hasA; rw [List.getElem?_eq_getElem hr2]
          have hgm : (y.m.map (Enc.o : Bool → T))[refs[i].toNat]? = some (.bool (mrk y.m refs[i].toNat)) := by have hh : refs[i].toNat < y.m.length := by { rw [hy.ml]; omega }; rw [List.getElem?_map, List.getElem?_eq_getElem hh]; simp [mrk, List.getElem?_eq_getElem hh, o_bool]
          have hlb : lackB v y.m refs[i] = (v[refs[i].toNat].1 && !mrk y.m refs[i].toNat) := by unfold lackB; rw [hha2]
          have hstep : seeA v most ⟨x.m, x.q.dropLast, x.o⟩ (refs.take (i + 1)) = see1 v most y refs[i] := by
            rw [hyy, List.take_add_one, List.getElem?_eq_getElem hlt]; unfold seeA; rw [List.foldl_append]; rfl
          have hgood := hy.see1 (v := v) hr
          rw [← hstep] at hgood
          have hwi : IntKind.i64.wrap ((i : Int) + 1) = ((i + 1 : Nat) : Int) := by rw [wrap64 _ (by omega) (by omega)]; omega
          have hsm : (y.m.map (Enc.o : Bool → T)).set refs[i].toNat (.bool true) = (y.m.set refs[i].toNat true).map Enc.o := set_o y.m _ true
          have hml : (y.m.set refs[i].toNat true).length = y.m.length := List.length_set ..
          have hqy := hy.ql
          generalize v[refs[i].toNat].1 = A at *
          cases A with
          | false =>
            have hsee : see1 v most y refs[i] = y := by unfold see1; rw [hlb]; rfl
            repeat' first
              | ((have hk8 := Nat.add_zero); (first | refine SW.ops_seq hY fun y1 hy1 => ?_ | refine SW.ops hY ?_ | refine SW.draw_seq hY mixed (by kernel_rfl) fun y1 hy1 => ?_ | refine SW.draw hY mixed (by kernel_rfl) ?_ | (simp only [k8]; refine ⟨fun hb => ?_, fun hb => ?_⟩ <;> (try replace hb := Bool.eq_false_iff.2 hb) <;> (first | exact absurd hb (by decide) | replace hk8 := hb))) <;> (simp only [hk8, hgr, hr0, hrm, hg2, hgm, hsm, hwi, Int.toNat_zero, Int.toNat_one, Int.le_refl, Int.zero_le_ofNat, Nat.zero_add, Int.toNat_natCast, T.asArr, T.tg, tgL, dnT, indexAddrM, wk, wl, eq_self, isCall, callT, opM, S.ev, S.put, entryS, thawAL, thawA, RM.run, RM.bind, RM.ofOpt, allocs, Heap.ups, Heap.put, Heap.at, List.replicate, Nat.reduceAdd, Nat.reduceSub, ofConst, nilAs, if_false, if_true, binT, binTy, unT, guardT, pickT, quietK, stripT, openT, reduceIte, boxM, allocM, loadM, storeM, fieldAddrM, lenT, extractT, subM, setOb, T.get, T.setp, T.offs, T.nw, nwL, T.cel, T.isNd, T.size, sizeL, TyI.agg, Ty.agg, Ty.isFn, zeroT, Nat.reduceLT, Nat.reduceEqDiff, sumT, kill, Y1, Y2, Y3, Y4, Y24, Y27, Y30, Y32, Y37]; clear hk8; first | subst hy1 | (try simp only [thenS, blockS, if_true, if_false, Nat.reduceEqDiff, reduceIte])))
              | exact absurd trivial hb
              | exact absurd hb (by decide)
              | exact absurd hcc (by decide)
              | refine SW.seq ?_
              | refine SW.block ?_
              | (refine SW.cond rfl (fun hcc => ?_) (fun hcc => ?_))
              | (refine SW.exit ?_; simp only [thenS, blockS, if_true, if_false, Nat.reduceEqDiff, reduceIte])
              | (refine SW.skip ?_; simp only [thenS, blockS])
            refine ⟨N - 1, (y, i + 1), by omega, ⟨by simp only; omega, by simp only; omega, by simp only; first | exact hy | (rw [← hsee, ← hstep]; exact hgood), by simp only; rw [hstep, hsee]⟩, ?_⟩
            exact Norm.to 0 rfl (by simp [weakL])
          | true =>
            cases hmk : mrk y.m refs[i].toNat with
            | true =>
              rw [hmk] at hgm hlb
              have hsee : see1 v most y refs[i] = y := by unfold see1; rw [hlb]; rfl
              repeat' first
                | ((have hk8 := Nat.add_zero); (first | refine SW.ops_seq hY fun y1 hy1 => ?_ | refine SW.ops hY ?_ | refine SW.draw_seq hY mixed (by kernel_rfl) fun y1 hy1 => ?_ | refine SW.draw hY mixed (by kernel_rfl) ?_ | (simp only [k8]; refine ⟨fun hb => ?_, fun hb => ?_⟩ <;> (try replace hb := Bool.eq_false_iff.2 hb) <;> (first | exact absurd hb (by decide) | replace hk8 := hb))) <;> (simp only [hk8, hgr, hr0, hrm, hg2, hgm, hsm, hwi, Int.toNat_zero, Int.toNat_one, Int.le_refl, Int.zero_le_ofNat, Nat.zero_add, Int.toNat_natCast, T.asArr, T.tg, tgL, dnT, indexAddrM, wk, wl, eq_self, isCall, callT, opM, S.ev, S.put, entryS, thawAL, thawA, RM.run, RM.bind, RM.ofOpt, allocs, Heap.ups, Heap.put, Heap.at, List.replicate, Nat.reduceAdd, Nat.reduceSub, ofConst, nilAs, if_false, if_true, binT, binTy, unT, guardT, pickT, quietK, stripT, openT, reduceIte, boxM, allocM, loadM, storeM, fieldAddrM, lenT, extractT, subM, setOb, T.get, T.setp, T.offs, T.nw, nwL, T.cel, T.isNd, T.size, sizeL, TyI.agg, Ty.agg, Ty.isFn, zeroT, Nat.reduceLT, Nat.reduceEqDiff, sumT, kill, Y1, Y2, Y3, Y4, Y24, Y27, Y30, Y32, Y37]; clear hk8; first | subst hy1 | (try simp only [thenS, blockS, if_true, if_false, Nat.reduceEqDiff, reduceIte])))
                | exact absurd trivial hb
                | exact absurd hb (by decide)
                | exact absurd hcc (by decide)
                | refine SW.seq ?_
                | refine SW.block ?_
                | (refine SW.cond rfl (fun hcc => ?_) (fun hcc => ?_))
                | (refine SW.exit ?_; simp only [thenS, blockS, if_true, if_false, Nat.reduceEqDiff, reduceIte])
                | (refine SW.skip ?_; simp only [thenS, blockS])
              refine ⟨N - 1, (y, i + 1), by omega, ⟨by simp only; omega, by simp only; omega, by simp only; first | exact hy | (rw [← hsee, ← hstep]; exact hgood), by simp only; rw [hstep, hsee]⟩, ?_⟩
              exact Norm.to 0 rfl (by simp [weakL])
            | false =>
              rw [hmk] at hgm hlb
              have hsee0 : see1 v most y refs[i] = put1 most ⟨y.m.set refs[i].toNat true, y.q, y.o⟩ refs[i] := by unfold see1; rw [hlb]; rfl
              by_cases hq : (y.q.length : Int) < most
              · have hsee : see1 v most y refs[i] = ⟨y.m.set refs[i].toNat true, y.q ++ [refs[i]], y.o⟩ := by rw [hsee0]; unfold put1; rw [if_pos hq]
                have hqd : decide ((y.q.length : Int) < most) = true := by simpa using hq
                have hap := append_runP (Y := Y) (H := [[], [.arr 1 ((y.m.set refs[i].toNat true).map Enc.o) false], [.arr 1 (y.q.map Enc.o) false], [.arr 1 [.int .i64 refs[i]] false], []]) (own := 4) (t := 27) (u := 27) (e := 2) (j := 0) (off := 0) (n := y.q.length) (e2 := 3) (j2 := 0) (f := (y.q.map Enc.o)) (l := y.q) (x := refs[i]) Y27 Y27 Y3 rfl (by decide) rfl rfl (by simp) (by simp) (by omega) rfl rfl
                repeat' first
                  | ((have hk8 := Nat.add_zero); (first | refine SW.ops_seq hY fun y1 hy1 => ?_ | refine SW.ops hY ?_ | refine SW.draw_seq hY mixed (by kernel_rfl) fun y1 hy1 => ?_ | refine SW.draw hY mixed (by kernel_rfl) ?_ | (simp only [k8]; refine ⟨fun hb => ?_, fun hb => ?_⟩ <;> (try replace hb := Bool.eq_false_iff.2 hb) <;> (first | exact absurd hb (by decide) | replace hk8 := hb))) <;> (simp only [hk8, hgr, hr0, hrm, hg2, hgm, hsm, hwi, Int.toNat_zero, Int.toNat_one, Int.le_refl, Int.zero_le_ofNat, Nat.zero_add, Int.toNat_natCast, hqd, hap, bs1_27, T.asArr, T.tg, tgL, dnT, indexAddrM, wk, wl, eq_self, isCall, callT, opM, S.ev, S.put, entryS, thawAL, thawA, RM.run, RM.bind, RM.ofOpt, allocs, Heap.ups, Heap.put, Heap.at, List.replicate, Nat.reduceAdd, Nat.reduceSub, ofConst, nilAs, if_false, if_true, binT, binTy, unT, guardT, pickT, quietK, stripT, openT, reduceIte, boxM, allocM, loadM, storeM, fieldAddrM, lenT, extractT, subM, setOb, T.get, T.setp, T.offs, T.nw, nwL, T.cel, T.isNd, T.size, sizeL, TyI.agg, Ty.agg, Ty.isFn, zeroT, Nat.reduceLT, Nat.reduceEqDiff, sumT, kill, Y1, Y2, Y3, Y4, Y24, Y27, Y30, Y32, Y37]; clear hk8; first | subst hy1 | (try simp only [thenS, blockS, if_true, if_false, Nat.reduceEqDiff, reduceIte])))
                  | exact absurd trivial hb
                  | exact absurd hb (by decide)
                  | exact absurd hcc (by decide)
                  | refine SW.seq ?_
                  | refine SW.block ?_
                  | (refine SW.cond rfl (fun hcc => ?_) (fun hcc => ?_))
                  | (refine SW.exit ?_; simp only [thenS, blockS, if_true, if_false, Nat.reduceEqDiff, reduceIte])
                  | (refine SW.skip ?_; simp only [thenS, blockS])
                refine ⟨N - 1, (⟨y.m.set refs[i].toNat true, y.q ++ [refs[i]], y.o⟩, i + 1), by omega, ⟨by simp only; omega, by simp only; omega, by simp only; first | exact hy | (rw [← hsee, ← hstep]; exact hgood), by simp only; rw [hstep, hsee]⟩, ?_⟩
                refine Norm.re [0, 1, 4] (by decide) rfl (by simp only [eq_self, heapFits, rowFits, obFits, List.getElem?_cons_zero, List.getElem?_cons_succ, renL_o, renL_b, true_and, and_true, and_self, renL_t, renL_cons, renL_nil, T.ren]) ?_
                simp only [List.length_append, List.length_singleton, hml]
                simp [tmFits, T.ren]
              · have hsee : see1 v most y refs[i] = ⟨y.m.set refs[i].toNat true, y.q, true⟩ := by rw [hsee0]; unfold put1; rw [if_neg hq]
                have hqd : decide ((y.q.length : Int) < most) = false := by simpa using hq
                repeat' first
                  | ((have hk8 := Nat.add_zero); (first | refine SW.ops_seq hY fun y1 hy1 => ?_ | refine SW.ops hY ?_ | refine SW.draw_seq hY mixed (by kernel_rfl) fun y1 hy1 => ?_ | refine SW.draw hY mixed (by kernel_rfl) ?_ | (simp only [k8]; refine ⟨fun hb => ?_, fun hb => ?_⟩ <;> (try replace hb := Bool.eq_false_iff.2 hb) <;> (first | exact absurd hb (by decide) | replace hk8 := hb))) <;> (simp only [hk8, hgr, hr0, hrm, hg2, hgm, hsm, hwi, Int.toNat_zero, Int.toNat_one, Int.le_refl, Int.zero_le_ofNat, Nat.zero_add, Int.toNat_natCast, hqd, T.asArr, T.tg, tgL, dnT, indexAddrM, wk, wl, eq_self, isCall, callT, opM, S.ev, S.put, entryS, thawAL, thawA, RM.run, RM.bind, RM.ofOpt, allocs, Heap.ups, Heap.put, Heap.at, List.replicate, Nat.reduceAdd, Nat.reduceSub, ofConst, nilAs, if_false, if_true, binT, binTy, unT, guardT, pickT, quietK, stripT, openT, reduceIte, boxM, allocM, loadM, storeM, fieldAddrM, lenT, extractT, subM, setOb, T.get, T.setp, T.offs, T.nw, nwL, T.cel, T.isNd, T.size, sizeL, TyI.agg, Ty.agg, Ty.isFn, zeroT, Nat.reduceLT, Nat.reduceEqDiff, sumT, kill, Y1, Y2, Y3, Y4, Y24, Y27, Y30, Y32, Y37]; clear hk8; first | subst hy1 | (try simp only [thenS, blockS, if_true, if_false, Nat.reduceEqDiff, reduceIte])))
                  | exact absurd trivial hb
                  | exact absurd hb (by decide)
                  | exact absurd hcc (by decide)
                  | refine SW.seq ?_
                  | refine SW.block ?_
                  | (refine SW.cond rfl (fun hcc => ?_) (fun hcc => ?_))
                  | (refine SW.exit ?_; simp only [thenS, blockS, if_true, if_false, Nat.reduceEqDiff, reduceIte])
                  | (refine SW.skip ?_; simp only [thenS, blockS])
                refine ⟨N - 1, (⟨y.m.set refs[i].toNat true, y.q, true⟩, i + 1), by omega, ⟨by simp only; omega, by simp only; omega, by simp only; first | exact hy | (rw [← hsee, ← hstep]; exact hgood), by simp only; rw [hstep, hsee]⟩, ?_⟩
                simp only [hml]
                exact Norm.to 0 rfl (by simp [weakL])
        · have hge : i = refs.length := by
            have : ¬ i < refs.length := by simp at hc2; omega
            omega
          subst hge
          rw [List.take_length] at hyy
          repeat' first
            | ((have hk8 := Nat.add_zero); (first | refine SW.ops_seq hY fun y1 hy1 => ?_ | refine SW.ops hY ?_ | refine SW.draw_seq hY mixed (by kernel_rfl) fun y1 hy1 => ?_ | refine SW.draw hY mixed (by kernel_rfl) ?_ | (simp only [k8]; refine ⟨fun hb => ?_, fun hb => ?_⟩ <;> (try replace hb := Bool.eq_false_iff.2 hb) <;> (first | exact absurd hb (by decide) | replace hk8 := hb))) <;> (simp only [hk8, T.asArr, T.tg, tgL, dnT, indexAddrM, wk, wl, eq_self, isCall, callT, opM, S.ev, S.put, entryS, thawAL, thawA, RM.run, RM.bind, RM.ofOpt, allocs, Heap.ups, Heap.put, Heap.at, List.replicate, Nat.reduceAdd, Nat.reduceSub, ofConst, nilAs, if_false, if_true, binT, binTy, unT, guardT, pickT, quietK, stripT, openT, reduceIte, boxM, allocM, loadM, storeM, fieldAddrM, lenT, extractT, subM, setOb, T.get, T.setp, T.offs, T.nw, nwL, T.cel, T.isNd, T.size, sizeL, TyI.agg, Ty.agg, Ty.isFn, zeroT, Nat.reduceLT, Nat.reduceEqDiff, sumT, kill, Y1, Y2, Y3, Y4, Y24, Y27, Y30, Y32, Y37]; clear hk8; first | subst hy1 | (try simp only [thenS, blockS, if_true, if_false, Nat.reduceEqDiff, reduceIte])))
            | exact absurd trivial hb
            | exact absurd hb (by decide)
            | exact absurd hcc (by decide)
            | refine SW.seq ?_
            | refine SW.block ?_
            | (refine SW.cond rfl (fun hcc => ?_) (fun hcc => ?_))
            | (refine SW.exit ?_; simp only [thenS, blockS, if_true, if_false, Nat.reduceEqDiff, reduceIte])
            | (refine SW.skip ?_; simp only [thenS, blockS])
          exact ⟨n2, y, by omega, ⟨by omega, hy, by rw [hyy]; exact hdr'⟩, Norm.to 0 rfl (by simp [weakL])⟩
    · have hq0 : x.q = [] := by simp at hc; exact hc
      have hxd : x = drn v most s := by rw [← hdr]; cases n2 <;> simp [drainF, hq0]
      rw [← hxd] at hok hR hD
      cases hxo : x.o with
      | false =>
        have hRR : R = (x.m, t) := by rw [← hR]; cases n <;> simp [outD, hxo]
        subst hRR
        repeat' first
          | ((have hk8 := Nat.add_zero); (first | refine SW.ops_seq hY fun y1 hy1 => ?_ | refine SW.ops hY ?_ | refine SW.draw_seq hY mixed (by kernel_rfl) fun y1 hy1 => ?_ | refine SW.draw hY mixed (by kernel_rfl) ?_ | (simp only [k8]; refine ⟨fun hb => ?_, fun hb => ?_⟩ <;> (try replace hb := Bool.eq_false_iff.2 hb) <;> (first | exact absurd hb (by decide) | replace hk8 := hb))) <;> (simp only [hk8, hxo, T.asArr, T.tg, tgL, dnT, indexAddrM, wk, wl, eq_self, isCall, callT, opM, S.ev, S.put, entryS, thawAL, thawA, RM.run, RM.bind, RM.ofOpt, allocs, Heap.ups, Heap.put, Heap.at, List.replicate, Nat.reduceAdd, Nat.reduceSub, ofConst, nilAs, if_false, if_true, binT, binTy, unT, guardT, pickT, quietK, stripT, openT, reduceIte, boxM, allocM, loadM, storeM, fieldAddrM, lenT, extractT, subM, setOb, T.get, T.setp, T.offs, T.nw, nwL, T.cel, T.isNd, T.size, sizeL, TyI.agg, Ty.agg, Ty.isFn, zeroT, Nat.reduceLT, Nat.reduceEqDiff, sumT, kill, Y1, Y2, Y3, Y4, Y24, Y27, Y30, Y32, Y37]; clear hk8; first | subst hy1 | (try simp only [thenS, blockS, if_true, if_false, Nat.reduceEqDiff, reduceIte])))
          | exact absurd trivial hb
          | exact absurd hb (by decide)
          | exact absurd hcc (by decide)
          | refine SW.seq ?_
          | refine SW.block ?_
          | (refine SW.cond rfl (fun hcc => ?_) (fun hcc => ?_))
          | (refine SW.exit ?_; simp only [thenS, blockS, if_true, if_false, Nat.reduceEqDiff, reduceIte])
          | (refine SW.skip ?_; simp only [thenS, blockS])
        refine SW.ret (show RetQ _ _ _ _ _ _ _ from ⟨.inr rfl, _, [1, 0], [.ow 1 (x.m.map Enc.o), .int .i64 (t : Int)], ?_, ⟨rfl, ?_, rfl, ?_, rfl, rfl⟩⟩)
        rotate_left
        · first | rfl | (simp [-List.map_set, -List.map_append, pass1, modeOf, giveS, giveSL, Heap.at, Heap.put, fixEs, ioAt, ioKs, ioM, ioT, T.cel, T.clo, cloL, T.cloA, cloAL]; rfl)
        · first | rfl | simp [-List.map_set, -List.map_append, cloL, T.clo, T.clP, clPL]
      | true =>
        obtain ⟨n, rfl⟩ : ∃ m, n = m + 1 := by
          cases n with
          | zero => exfalso; simp only [outOk] at hok; rw [hok] at hxo; cases hxo
          | succ m => exact ⟨m, rfl⟩
        have hR' : outD v most n (drn v most (scanA v most x 32)) (t + 1) = R := by rw [← hR]; simp only [outD, hxo, if_true]
        have hok' := hok hxo
        have hwt : IntKind.i64.wrap ((t : Int) + 1) = ((t + 1 : Nat) : Int) := by rw [wrap64 _ (by omega) (by omega)]; omega
        have hsc := scanA_ok (v := v) hm.1 hx hq0
        repeat' first
          | ((have hk8 := Nat.add_zero); (first | refine SW.ops_seq hY fun y1 hy1 => ?_ | refine SW.ops hY ?_ | refine SW.draw_seq hY mixed (by kernel_rfl) fun y1 hy1 => ?_ | refine SW.draw hY mixed (by kernel_rfl) ?_) <;> (simp only [hk8, hxo, hwt, T.asArr, T.tg, tgL, dnT, indexAddrM, wk, wl, eq_self, isCall, callT, opM, S.ev, S.put, entryS, thawAL, thawA, RM.run, RM.bind, RM.ofOpt, allocs, Heap.ups, Heap.put, Heap.at, List.replicate, Nat.reduceAdd, Nat.reduceSub, ofConst, nilAs, if_false, if_true, binT, binTy, unT, guardT, pickT, quietK, stripT, openT, reduceIte, boxM, allocM, loadM, storeM, fieldAddrM, lenT, extractT, subM, setOb, T.get, T.setp, T.offs, T.nw, nwL, T.cel, T.isNd, T.size, sizeL, TyI.agg, Ty.agg, Ty.isFn, zeroT, Nat.reduceLT, Nat.reduceEqDiff, sumT, kill, Y1, Y2, Y3, Y4, Y24, Y27, Y30, Y32, Y37]; clear hk8; first | subst hy1 | (try simp only [thenS, blockS, if_true, if_false, Nat.reduceEqDiff, reduceIte])))
          | exact absurd trivial hb
          | exact absurd hb (by decide)
          | exact absurd hcc (by decide)
          | refine SW.seq ?_
          | refine SW.block ?_
          | (refine SW.cond rfl (fun hcc => ?_) (fun hcc => ?_))
          | (refine SW.exit ?_; simp only [thenS, blockS, if_true, if_false, Nat.reduceEqDiff, reduceIte])
          | (refine SW.skip ?_; simp only [thenS, blockS])
        refine SW.loop (fun x2 : MS × Nat => ⟨[.sl .b (v.map Enc.b), .int .i64 a, .int .i64 most, .undef, .undef, .undef, .undef, .undef, .ref 1 0 0 x2.1.m.length, .ref 2 0 0 x2.1.q.length, .int .i64 (((t + 1) : Nat) : Int), .bool x2.1.o, .undef, .undef, .undef, .int .i64 x2.2, .undef, .undef, .undef, .undef, .undef, .undef, .undef, .undef, .undef, .undef, .undef, .undef, .undef, .undef, .undef, .undef, .undef, .undef, .undef, .undef, .undef, .undef, .undef, .undef, .undef, .undef, .undef, .undef, .undef, .undef, .undef, .undef, .undef, .undef, .undef, .undef, .undef, .undef, .undef, .undef, .undef, .undef, .undef, .undef, .undef, .undef, .undef, .undef, .undef, .undef, .undef, .undef, .undef, .undef, .undef, .undef, .undef, .undef, .undef, .undef, .undef, .undef, .undef, .undef, .undef, .undef, .undef, .undef, .undef, .undef, .undef, .undef, .undef, .undef, .undef, .undef, .undef, .undef, .undef, .undef, .undef, .undef, .undef, .undef, .undef, .undef, .undef, .undef, .undef, .undef, .undef, .undef, .undef, .undef, .undef, .undef, .undef, .undef, .undef, .undef, .undef, .undef, .undef, .undef, .undef, .undef, .undef, .undef, .undef, .undef, .undef, .undef, .undef, .undef, .undef, .undef, .undef, .undef, .undef], [[], [.arr 1 ((x2.1.m).map Enc.o) false], [.arr 1 ((x2.1.q).map Enc.o) false]]⟩)
          (fun N x2 => N = 32 - x2.2 ∧ x2.2 ≤ 32 ∧ x2.1 = scanA v most x x2.2) (n := 32) (x := (⟨x.m, x.q, false⟩, 0)) (Norm.to 0 rfl (by simp [weakL])) ⟨rfl, Nat.zero_le _, rfl⟩ ?_
        rintro N ⟨y, i⟩ ⟨hN, hi, hyy⟩
        simp only at hN hi hyy ⊢
        obtain ⟨hy, hym, _, _⟩ := hsc i hi
        rw [← hyy] at hy hym
        have hyl := hy.ml
        repeat' first
          | (refine SW.ops_seq hY fun y1 hy1 => ?_; simp only [T.asArr, T.tg, tgL, dnT, indexAddrM, wk, wl, eq_self, isCall, callT, opM, S.ev, S.put, entryS, thawAL, thawA, RM.run, RM.bind, RM.ofOpt, allocs, Heap.ups, Heap.put, Heap.at, List.replicate, Nat.reduceAdd, Nat.reduceSub, ofConst, nilAs, if_false, if_true, binT, binTy, unT, guardT, pickT, quietK, stripT, openT, reduceIte, boxM, allocM, loadM, storeM, fieldAddrM, lenT, extractT, subM, setOb, T.get, T.setp, T.offs, T.nw, nwL, T.cel, T.isNd, T.size, sizeL, TyI.agg, Ty.agg, Ty.isFn, zeroT, Nat.reduceLT, Nat.reduceEqDiff, sumT, kill, Y1, Y2, Y3, Y4, Y24, Y27, Y30, Y32, Y37]; subst hy1)
          | refine SW.seq ?_
        refine SW.cond rfl (fun hc2 => ?_) (fun hc2 => ?_)
        · have hlt : i < 32 := by rw [hyl] at hc2; simp at hc2; omega
          have hlc : (i : Int) < (y.m.length : Int) := by omega
          have hgc : (y.m.map (Enc.o : Bool → T))[i]? = some (.bool (mrk y.m i)) := by rw [List.getElem?_map, List.getElem?_eq_getElem (by omega)]; simp [mrk, List.getElem?_eq_getElem (show i < y.m.length by omega), o_bool]
          have hK := l11Lacks_ok v hv y.m hyl i hlt
          have hwi : IntKind.i64.wrap ((i : Int) + 1) = ((i + 1 : Nat) : Int) := by rw [wrap64 _ (by omega) (by omega)]; omega
          have hstep : scanA v most x (i + 1) = scan1 v most y i := by rw [hyy]; unfold scanA; rw [List.range_succ, List.foldl_append]; rfl
          have hqy := hy.ql
          cases hmk : mrk y.m i with
          | false =>
            rw [hmk] at hgc
            repeat' first
              | ((have hk8 := Nat.add_zero); (first | refine SW.ops_seq hY fun y1 hy1 => ?_ | refine SW.ops hY ?_ | refine SW.draw_seq hY mixed (by kernel_rfl) fun y1 hy1 => ?_ | refine SW.draw hY mixed (by kernel_rfl) ?_ | refine vcall_to [] (hK) rfl (by first | rfl | (simp [pass2, T.tg, tgL, upT, lendM, lendA, lendAL, elemsM, Heap.at, RM.bind, RM.run]; done) | (simp [pass2, T.tg, tgL, upT, lendM, lendA, lendAL, elemsM, Heap.at, RM.bind, RM.run]; rfl)) (by first | rfl | simp [resClo, T.clo, cloL, T.clP, clPL]) rfl ?_ | (simp only [k8]; refine ⟨fun hb => ?_, fun hb => ?_⟩ <;> (try replace hb := Bool.eq_false_iff.2 hb) <;> (first | exact absurd hb (by decide) | replace hk8 := hb))) <;> (simp only [hk8, hgc, hlc, hwi, Int.toNat_zero, Int.toNat_one, Int.le_refl, Int.zero_le_ofNat, Nat.zero_add, Int.toNat_natCast, T.asArr, T.tg, tgL, dnT, indexAddrM, wk, wl, eq_self, isCall, callT, opM, S.ev, S.put, entryS, thawAL, thawA, RM.run, RM.bind, RM.ofOpt, allocs, Heap.ups, Heap.put, Heap.at, List.replicate, Nat.reduceAdd, Nat.reduceSub, ofConst, nilAs, if_false, if_true, binT, binTy, unT, guardT, pickT, quietK, stripT, openT, reduceIte, boxM, allocM, loadM, storeM, fieldAddrM, lenT, extractT, subM, setOb, T.get, T.setp, T.offs, T.nw, nwL, T.cel, T.isNd, T.size, sizeL, TyI.agg, Ty.agg, Ty.isFn, zeroT, Nat.reduceLT, Nat.reduceEqDiff, sumT, kill, Y1, Y2, Y3, Y4, Y24, Y27, Y30, Y32, Y37]; clear hk8; first | subst hy1 | (try simp only [thenS, blockS, if_true, if_false, Nat.reduceEqDiff, reduceIte])))
              | exact absurd trivial hb
              | exact absurd hb (by decide)
              | exact absurd hcc (by decide)
              | refine SW.seq ?_
              | refine SW.block ?_
              | (refine SW.cond rfl (fun hcc => ?_) (fun hcc => ?_))
              | (refine SW.exit ?_; simp only [thenS, blockS, if_true, if_false, Nat.reduceEqDiff, reduceIte])
              | (refine SW.skip ?_; simp only [thenS, blockS])
            refine ⟨N - 1, (y, i + 1), by omega, ⟨by simp only; omega, by simp only; omega, by simp only; rw [hstep]; unfold scan1; simp [hmk]⟩, ?_⟩
            exact Norm.to 0 rfl (by simp [weakL])
          | true =>
            rw [hmk] at hgc
            cases hlk : lacks v y.m i with
            | false =>
              rw [hlk] at hK
              repeat' first
                | ((have hk8 := Nat.add_zero); (first | refine SW.ops_seq hY fun y1 hy1 => ?_ | refine SW.ops hY ?_ | refine SW.draw_seq hY mixed (by kernel_rfl) fun y1 hy1 => ?_ | refine SW.draw hY mixed (by kernel_rfl) ?_ | refine vcall_to [] (hK) rfl (by first | rfl | (simp [pass2, T.tg, tgL, upT, lendM, lendA, lendAL, elemsM, Heap.at, RM.bind, RM.run]; done) | (simp [pass2, T.tg, tgL, upT, lendM, lendA, lendAL, elemsM, Heap.at, RM.bind, RM.run]; rfl)) (by first | rfl | simp [resClo, T.clo, cloL, T.clP, clPL]) rfl ?_ | (simp only [k8]; refine ⟨fun hb => ?_, fun hb => ?_⟩ <;> (try replace hb := Bool.eq_false_iff.2 hb) <;> (first | exact absurd hb (by decide) | replace hk8 := hb))) <;> (simp only [hk8, hgc, hlc, hwi, Int.toNat_zero, Int.toNat_one, Int.le_refl, Int.zero_le_ofNat, Nat.zero_add, Int.toNat_natCast, T.asArr, T.tg, tgL, dnT, indexAddrM, wk, wl, eq_self, isCall, callT, opM, S.ev, S.put, entryS, thawAL, thawA, RM.run, RM.bind, RM.ofOpt, allocs, Heap.ups, Heap.put, Heap.at, List.replicate, Nat.reduceAdd, Nat.reduceSub, ofConst, nilAs, if_false, if_true, binT, binTy, unT, guardT, pickT, quietK, stripT, openT, reduceIte, boxM, allocM, loadM, storeM, fieldAddrM, lenT, extractT, subM, setOb, T.get, T.setp, T.offs, T.nw, nwL, T.cel, T.isNd, T.size, sizeL, TyI.agg, Ty.agg, Ty.isFn, zeroT, Nat.reduceLT, Nat.reduceEqDiff, sumT, kill, Y1, Y2, Y3, Y4, Y24, Y27, Y30, Y32, Y37]; clear hk8; first | subst hy1 | (try simp only [thenS, blockS, if_true, if_false, Nat.reduceEqDiff, reduceIte])))
                | exact absurd trivial hb
                | exact absurd hb (by decide)
                | exact absurd hcc (by decide)
                | refine SW.seq ?_
                | refine SW.block ?_
                | (refine SW.cond rfl (fun hcc => ?_) (fun hcc => ?_))
                | (refine SW.exit ?_; simp only [thenS, blockS, if_true, if_false, Nat.reduceEqDiff, reduceIte])
                | (refine SW.skip ?_; simp only [thenS, blockS])
              refine ⟨N - 1, (y, i + 1), by omega, ⟨by simp only; omega, by simp only; omega, by simp only; rw [hstep]; unfold scan1; simp [hlk]⟩, ?_⟩
              first | exact Norm.to 0 rfl (by simp [weakL]) | exact Norm.to 1 rfl (by simp [weakL])
            | true =>
              rw [hlk] at hK
              have hsce : scan1 v most y i = put1 most y i := by unfold scan1; rw [hmk, hlk]; rfl
              by_cases hq : (y.q.length : Int) < most
              · have hsee : put1 most y i = ⟨y.m, y.q ++ [(i : Int)], y.o⟩ := by unfold put1; rw [if_pos hq]
                have hqd : decide ((y.q.length : Int) < most) = true := by simpa using hq
                have hap := append_runP (Y := Y) (H := [[], [.arr 1 (y.m.map Enc.o) false], [.arr 1 (y.q.map Enc.o) false], [], [.arr 1 [.int .i64 (i : Int)] false], []]) (own := 5) (t := 27) (u := 27) (e := 2) (j := 0) (off := 0) (n := y.q.length) (e2 := 4) (j2 := 0) (f := (y.q.map Enc.o)) (l := y.q) (x := (i : Int)) Y27 Y27 Y3 rfl (by decide) rfl rfl (by simp) (by simp) (by omega) rfl rfl
                repeat' first
                  | ((have hk8 := Nat.add_zero); (first | refine SW.ops_seq hY fun y1 hy1 => ?_ | refine SW.ops hY ?_ | refine SW.draw_seq hY mixed (by kernel_rfl) fun y1 hy1 => ?_ | refine SW.draw hY mixed (by kernel_rfl) ?_ | refine vcall_to [] (hK) rfl (by first | rfl | (simp [pass2, T.tg, tgL, upT, lendM, lendA, lendAL, elemsM, Heap.at, RM.bind, RM.run]; done) | (simp [pass2, T.tg, tgL, upT, lendM, lendA, lendAL, elemsM, Heap.at, RM.bind, RM.run]; rfl)) (by first | rfl | simp [resClo, T.clo, cloL, T.clP, clPL]) rfl ?_ | (simp only [k8]; refine ⟨fun hb => ?_, fun hb => ?_⟩ <;> (try replace hb := Bool.eq_false_iff.2 hb) <;> (first | exact absurd hb (by decide) | replace hk8 := hb))) <;> (simp only [hk8, hgc, hlc, hwi, Int.toNat_zero, Int.toNat_one, Int.le_refl, Int.zero_le_ofNat, Nat.zero_add, Int.toNat_natCast, hqd, hap, bs1_27, T.asArr, T.tg, tgL, dnT, indexAddrM, wk, wl, eq_self, isCall, callT, opM, S.ev, S.put, entryS, thawAL, thawA, RM.run, RM.bind, RM.ofOpt, allocs, Heap.ups, Heap.put, Heap.at, List.replicate, Nat.reduceAdd, Nat.reduceSub, ofConst, nilAs, if_false, if_true, binT, binTy, unT, guardT, pickT, quietK, stripT, openT, reduceIte, boxM, allocM, loadM, storeM, fieldAddrM, lenT, extractT, subM, setOb, T.get, T.setp, T.offs, T.nw, nwL, T.cel, T.isNd, T.size, sizeL, TyI.agg, Ty.agg, Ty.isFn, zeroT, Nat.reduceLT, Nat.reduceEqDiff, sumT, kill, Y1, Y2, Y3, Y4, Y24, Y27, Y30, Y32, Y37]; clear hk8; first | subst hy1 | (try simp only [thenS, blockS, if_true, if_false, Nat.reduceEqDiff, reduceIte])))
                  | exact absurd trivial hb
                  | exact absurd hb (by decide)
                  | exact absurd hcc (by decide)
                  | refine SW.seq ?_
                  | refine SW.block ?_
                  | (refine SW.cond rfl (fun hcc => ?_) (fun hcc => ?_))
                  | (refine SW.exit ?_; simp only [thenS, blockS, if_true, if_false, Nat.reduceEqDiff, reduceIte])
                  | (refine SW.skip ?_; simp only [thenS, blockS])
                refine ⟨N - 1, (⟨y.m, y.q ++ [(i : Int)], y.o⟩, i + 1), by omega, ⟨by simp only; omega, by simp only; omega, by simp only; rw [hstep]; rw [hsce, hsee]⟩, ?_⟩
                refine Norm.re [0, 1, 5] (by decide) rfl (by simp only [eq_self, heapFits, rowFits, obFits, List.getElem?_cons_zero, List.getElem?_cons_succ, renL_o, renL_b, true_and, and_true, and_self, renL_t, renL_cons, renL_nil, T.ren]) ?_
                simp only [List.length_append, List.length_singleton]
                simp [tmFits, T.ren]
              · have hsee : put1 most y i = ⟨y.m, y.q, true⟩ := by unfold put1; rw [if_neg hq]
                have hqd : decide ((y.q.length : Int) < most) = false := by simpa using hq
                repeat' first
                  | ((have hk8 := Nat.add_zero); (first | refine SW.ops_seq hY fun y1 hy1 => ?_ | refine SW.ops hY ?_ | refine SW.draw_seq hY mixed (by kernel_rfl) fun y1 hy1 => ?_ | refine SW.draw hY mixed (by kernel_rfl) ?_ | refine vcall_to [] (hK) rfl (by first | rfl | (simp [pass2, T.tg, tgL, upT, lendM, lendA, lendAL, elemsM, Heap.at, RM.bind, RM.run]; done) | (simp [pass2, T.tg, tgL, upT, lendM, lendA, lendAL, elemsM, Heap.at, RM.bind, RM.run]; rfl)) (by first | rfl | simp [resClo, T.clo, cloL, T.clP, clPL]) rfl ?_ | (simp only [k8]; refine ⟨fun hb => ?_, fun hb => ?_⟩ <;> (try replace hb := Bool.eq_false_iff.2 hb) <;> (first | exact absurd hb (by decide) | replace hk8 := hb))) <;> (simp only [hk8, hgc, hlc, hwi, Int.toNat_zero, Int.toNat_one, Int.le_refl, Int.zero_le_ofNat, Nat.zero_add, Int.toNat_natCast, hqd, T.asArr, T.tg, tgL, dnT, indexAddrM, wk, wl, eq_self, isCall, callT, opM, S.ev, S.put, entryS, thawAL, thawA, RM.run, RM.bind, RM.ofOpt, allocs, Heap.ups, Heap.put, Heap.at, List.replicate, Nat.reduceAdd, Nat.reduceSub, ofConst, nilAs, if_false, if_true, binT, binTy, unT, guardT, pickT, quietK, stripT, openT, reduceIte, boxM, allocM, loadM, storeM, fieldAddrM, lenT, extractT, subM, setOb, T.get, T.setp, T.offs, T.nw, nwL, T.cel, T.isNd, T.size, sizeL, TyI.agg, Ty.agg, Ty.isFn, zeroT, Nat.reduceLT, Nat.reduceEqDiff, sumT, kill, Y1, Y2, Y3, Y4, Y24, Y27, Y30, Y32, Y37]; clear hk8; first | subst hy1 | (try simp only [thenS, blockS, if_true, if_false, Nat.reduceEqDiff, reduceIte])))
                  | exact absurd trivial hb
                  | exact absurd hb (by decide)
                  | exact absurd hcc (by decide)
                  | refine SW.seq ?_
                  | refine SW.block ?_
                  | (refine SW.cond rfl (fun hcc => ?_) (fun hcc => ?_))
                  | (refine SW.exit ?_; simp only [thenS, blockS, if_true, if_false, Nat.reduceEqDiff, reduceIte])
                  | (refine SW.skip ?_; simp only [thenS, blockS])
                refine ⟨N - 1, (⟨y.m, y.q, true⟩, i + 1), by omega, ⟨by simp only; omega, by simp only; omega, by simp only; rw [hstep]; rw [hsce, hsee]⟩, ?_⟩
                first | exact Norm.to 0 rfl (by simp [weakL]) | exact Norm.to 1 rfl (by simp [weakL])
        · have hge : i = 32 := by
            have : ¬ i < 32 := by rw [hyl] at hc2; simp at hc2; omega
            omega
          subst hge
          rw [← hyy] at hR' hok'
          repeat' first
            | ((have hk8 := Nat.add_zero); (first | refine SW.ops_seq hY fun y1 hy1 => ?_ | refine SW.ops hY ?_ | refine SW.draw_seq hY mixed (by kernel_rfl) fun y1 hy1 => ?_ | refine SW.draw hY mixed (by kernel_rfl) ?_ | (simp only [k8]; refine ⟨fun hb => ?_, fun hb => ?_⟩ <;> (try replace hb := Bool.eq_false_iff.2 hb) <;> (first | exact absurd hb (by decide) | replace hk8 := hb))) <;> (simp only [hk8, T.asArr, T.tg, tgL, dnT, indexAddrM, wk, wl, eq_self, isCall, callT, opM, S.ev, S.put, entryS, thawAL, thawA, RM.run, RM.bind, RM.ofOpt, allocs, Heap.ups, Heap.put, Heap.at, List.replicate, Nat.reduceAdd, Nat.reduceSub, ofConst, nilAs, if_false, if_true, binT, binTy, unT, guardT, pickT, quietK, stripT, openT, reduceIte, boxM, allocM, loadM, storeM, fieldAddrM, lenT, extractT, subM, setOb, T.get, T.setp, T.offs, T.nw, nwL, T.cel, T.isNd, T.size, sizeL, TyI.agg, Ty.agg, Ty.isFn, zeroT, Nat.reduceLT, Nat.reduceEqDiff, sumT, kill, Y1, Y2, Y3, Y4, Y24, Y27, Y30, Y32, Y37]; clear hk8; first | subst hy1 | (try simp only [thenS, blockS, if_true, if_false, Nat.reduceEqDiff, reduceIte])))
            | exact absurd trivial hb
            | exact absurd hb (by decide)
            | exact absurd hcc (by decide)
            | refine SW.seq ?_
            | refine SW.block ?_
            | (refine SW.cond rfl (fun hcc => ?_) (fun hcc => ?_))
            | (refine SW.exit ?_; simp only [thenS, blockS, if_true, if_false, Nat.reduceEqDiff, reduceIte])
            | (refine SW.skip ?_; simp only [thenS, blockS])
          exact ⟨n, (y, t + 1), by omega, ⟨by omega, hy, hok', hR', by simp only; omega⟩, Norm.to 0 rfl (by simp [weakL])⟩
  | false =>
    rw [hh] at hgv0 hha
    have hm0 : ms0 v a.toNat = ⟨List.replicate 32 false, [], false⟩ := by unfold ms0; rw [hha]; rfl
    repeat' first
      | ((have hk8 := Nat.add_zero); (first | refine SW.ops_seq hY fun y1 hy1 => ?_ | refine SW.ops hY ?_ | refine SW.draw_seq hY mixed (by kernel_rfl) fun y1 hy1 => ?_ | refine SW.draw hY mixed (by kernel_rfl) ?_ | refine vcall_to [] (hV) rfl (by first | rfl | (simp [pass2, T.tg, tgL, upT, lendM, lendA, lendAL, elemsM, Heap.at, RM.bind, RM.run]; done) | (simp [pass2, T.tg, tgL, upT, lendM, lendA, lendAL, elemsM, Heap.at, RM.bind, RM.run]; rfl)) (by first | rfl | simp [resClo, T.clo, cloL, T.clP, clPL]) rfl ?_ | refine vcall_to [] (hI) rfl (by first | rfl | (simp [pass2, T.tg, tgL, upT, lendM, lendA, lendAL, elemsM, Heap.at, RM.bind, RM.run]; done) | (simp [pass2, T.tg, tgL, upT, lendM, lendA, lendAL, elemsM, Heap.at, RM.bind, RM.run]; rfl)) (by first | rfl | simp [resClo, T.clo, cloL, T.clP, clPL]) rfl ?_ | (simp only [k8]; refine ⟨fun hb => ?_, fun hb => ?_⟩ <;> (try replace hb := Bool.eq_false_iff.2 hb) <;> (first | exact absurd hb (by decide) | replace hk8 := hb))) <;> (simp only [hk8, hL, mk32, hgv0, ha0, ha32, hgr, hsr, bs1_27, build0 (t := 27) Y27 Y3 rfl (by decide), Int.toNat_zero, Int.toNat_one, Int.le_refl, Int.zero_le_ofNat, Nat.zero_add, Int.toNat_natCast, T.asArr, T.tg, tgL, dnT, indexAddrM, wk, wl, eq_self, isCall, callT, opM, S.ev, S.put, entryS, thawAL, thawA, RM.run, RM.bind, RM.ofOpt, allocs, Heap.ups, Heap.put, Heap.at, List.replicate, Nat.reduceAdd, Nat.reduceSub, ofConst, nilAs, if_false, if_true, binT, binTy, unT, guardT, pickT, quietK, stripT, openT, reduceIte, boxM, allocM, loadM, storeM, fieldAddrM, lenT, extractT, subM, setOb, T.get, T.setp, T.offs, T.nw, nwL, T.cel, T.isNd, T.size, sizeL, TyI.agg, Ty.agg, Ty.isFn, zeroT, Nat.reduceLT, Nat.reduceEqDiff, sumT, kill, Y1, Y2, Y3, Y4, Y24, Y27, Y30, Y32, Y37]; clear hk8; first | subst hy1 | (try simp only [thenS, blockS, if_true, if_false, Nat.reduceEqDiff, reduceIte])))
      | exact absurd trivial hb
      | exact absurd hb (by decide)
      | exact absurd hcc (by decide)
      | refine SW.seq ?_
      | refine SW.block ?_
      | (refine SW.cond rfl (fun hcc => ?_) (fun hcc => ?_))
      | (refine SW.exit ?_; simp only [thenS, blockS, if_true, if_false, Nat.reduceEqDiff, reduceIte])
      | (refine SW.skip ?_; simp only [thenS, blockS])
    generalize hs0 : ms0 v a.toNat = s0 at *
    rw [hRdef]
    generalize hRe : outD v most 34 (drn v most s0) 0 = R at *
    refine SW.loop (fun x : MS × Nat => ⟨[.sl .b (v.map Enc.b), .int .i64 a, .int .i64 most, .undef, .undef, .undef, .undef, .undef, .ref 1 0 0 x.1.m.length, .ref 2 0 0 x.1.q.length, .int .i64 ((x.2 : Nat) : Int), .bool x.1.o, .undef, .undef, .undef, .undef, .undef, .undef, .undef, .undef, .undef, .undef, .undef, .undef, .undef, .undef, .undef, .undef, .undef, .undef, .undef, .undef, .undef, .undef, .undef, .undef, .undef, .undef, .undef, .undef, .undef, .undef, .undef, .undef, .undef, .undef, .undef, .undef, .undef, .undef, .undef, .undef, .undef, .undef, .undef, .undef, .undef, .undef, .undef, .undef, .undef, .undef, .undef, .undef, .undef, .undef, .undef, .undef, .undef, .undef, .undef, .undef, .undef, .undef, .undef, .undef, .undef, .undef, .undef, .undef, .undef, .undef, .undef, .undef, .undef, .undef, .undef, .undef, .undef, .undef, .undef, .undef, .undef, .undef, .undef, .undef, .undef, .undef, .undef, .undef, .undef, .undef, .undef, .undef, .undef, .undef, .undef, .undef, .undef, .undef, .undef, .undef, .undef, .undef, .undef, .undef, .undef, .undef, .undef, .undef, .undef, .undef, .undef, .undef, .undef, .undef, .undef, .undef, .undef, .undef, .undef, .undef, .undef, .undef, .undef], [[], [.arr 1 ((x.1.m).map Enc.o) false], [.arr 1 ((x.1.q).map Enc.o) false]]⟩)
      (fun n x => n ≤ 34 ∧ Good most x.1 ∧ outOk v most n (drn v most x.1) ∧ outD v most n (drn v most x.1) x.2 = R ∧ x.2 + n ≤ 34) (n := 34) (x := (s0, 0)) (by subst hm0; refine Norm.re [0, 3, 4] (by decide) rfl (by simp [heapFits, rowFits, obFits, T.ren, renL, rep32]) ?_; simp [tmFits, T.ren, List.replicate]) ⟨Nat.le_refl _, hG0, hout, hRe, Nat.le_refl _⟩ ?_
    rintro n ⟨s, t⟩ ⟨hn, hs, hok, hR, ht⟩
    simp only at hs hok hR ht ⊢
    have hD := drn_ok hv hm.2 hs
    refine SW.block ?_
    refine SW.seq ?_
    refine SW.block ?_
    refine SW.loop (fun x : MS => ⟨[.sl .b (v.map Enc.b), .int .i64 a, .int .i64 most, .undef, .undef, .undef, .undef, .undef, .ref 1 0 0 x.m.length, .ref 2 0 0 x.q.length, .int .i64 ((t : Nat) : Int), .bool x.o, .undef, .undef, .undef, .undef, .undef, .undef, .undef, .undef, .undef, .undef, .undef, .undef, .undef, .undef, .undef, .undef, .undef, .undef, .undef, .undef, .undef, .undef, .undef, .undef, .undef, .undef, .undef, .undef, .undef, .undef, .undef, .undef, .undef, .undef, .undef, .undef, .undef, .undef, .undef, .undef, .undef, .undef, .undef, .undef, .undef, .undef, .undef, .undef, .undef, .undef, .undef, .undef, .undef, .undef, .undef, .undef, .undef, .undef, .undef, .undef, .undef, .undef, .undef, .undef, .undef, .undef, .undef, .undef, .undef, .undef, .undef, .undef, .undef, .undef, .undef, .undef, .undef, .undef, .undef, .undef, .undef, .undef, .undef, .undef, .undef, .undef, .undef, .undef, .undef, .undef, .undef, .undef, .undef, .undef, .undef, .undef, .undef, .undef, .undef, .undef, .undef, .undef, .undef, .undef, .undef, .undef, .undef, .undef, .undef, .undef, .undef, .undef, .undef, .undef, .undef, .undef, .undef, .undef, .undef, .undef, .undef, .undef, .undef], [[], [.arr 1 ((x.m).map Enc.o) false], [.arr 1 ((x.q).map Enc.o) false]]⟩)
      (fun n2 x => n2 ≤ 200 ∧ Good most x ∧ drainF v most n2 x = drn v most s) (n := 200) (x := s) (Norm.refl _) ⟨Nat.le_refl _, hs, rfl⟩ ?_
    rintro n2 x ⟨hn2, hx, hdr⟩
    simp only
    repeat' first
      | (refine SW.ops_seq hY fun y1 hy1 => ?_; simp only [T.asArr, T.tg, tgL, dnT, indexAddrM, wk, wl, eq_self, isCall, callT, opM, S.ev, S.put, entryS, thawAL, thawA, RM.run, RM.bind, RM.ofOpt, allocs, Heap.ups, Heap.put, Heap.at, List.replicate, Nat.reduceAdd, Nat.reduceSub, ofConst, nilAs, if_false, if_true, binT, binTy, unT, guardT, pickT, quietK, stripT, openT, reduceIte, boxM, allocM, loadM, storeM, fieldAddrM, lenT, extractT, subM, setOb, T.get, T.setp, T.offs, T.nw, nwL, T.cel, T.isNd, T.size, sizeL, TyI.agg, Ty.agg, Ty.isFn, zeroT, Nat.reduceLT, Nat.reduceEqDiff, sumT, kill, Y1, Y2, Y3, Y4, Y24, Y27, Y30, Y32, Y37]; subst hy1)
      | refine SW.seq ?_
    refine SW.cond rfl (fun hc => ?_) (fun hc => ?_)
    · have hqn : 0 < x.q.length := by simp at hc; omega
      obtain ⟨z, hz⟩ : ∃ z, x.q.getLast? = some z := by
        cases h : x.q.getLast? with
        | none => rw [List.getLast?_eq_none_iff] at h; rw [h] at hqn; simp at hqn
        | some z => exact ⟨z, rfl⟩
      obtain ⟨n2, rfl⟩ : ∃ m, n2 = m + 1 := by
        cases n2 with
        | zero => exfalso; have h := hD.2.1; rw [← hdr] at h; simp only [drainF] at h; rw [h] at hqn; simp at hqn
        | succ m => exact ⟨m, rfl⟩
      obtain ⟨hp1, hp2, hp3⟩ := hx.pop hz
      have hql := hx.ql
      have hdl : x.q.dropLast.length = x.q.length - 1 := List.length_dropLast ..
      have hw : IntKind.i64.wrap ((x.q.length : Int) - 1) = ((x.q.length - 1 : Nat) : Int) := by rw [wrap64 _ (by omega) (by omega)]; omega
      have hltI : ((x.q.length - 1 : Nat) : Int) < (x.q.length : Int) := by omega
      have hleI : ((x.q.length - 1 : Nat) : Int) ≤ (x.q.length : Int) := by omega
      have hgz : (x.q.map (Enc.o : Int → T))[x.q.length - 1]? = some (.int .i64 z) := by rw [List.getElem?_map, ← List.getLast?_eq_getElem?, hz]; rfl
      have hz0 : 0 ≤ z := hp2.1
      have hzl : z.toNat < v.length := by rw [hv.len]; omega
      have hgv : (v.map Enc.b)[z.toNat]? = some (.nd [.bool v[z.toNat].1, .nd [.int .i64 v[z.toNat].2.1.1, .sl .b (v[z.toNat].2.1.2.1.map Enc.b), .sl .b (v[z.toNat].2.1.2.2.1.map Enc.b)]]) := map_get Enc.b v _ hzl
      have hrf : refsA v z.toNat = v[z.toNat].2.1.2.2.1 := by unfold refsA; rw [List.getElem?_eq_getElem hzl]
      have hrr := hv.rf z.toNat
      have hrl := hv.rl z.toNat
      have hdr' : drainF v most n2 (seeA v most ⟨x.m, x.q.dropLast, x.o⟩ (refsA v z.toNat)) = drn v most s := by rw [← hdr]; simp only [drainF, hz]
      rw [hrf] at hrr hrl hdr'
      generalize hRR : v[z.toNat].2.1.2.2.1 = refs at *
      repeat' first
        | ((have hk8 := Nat.add_zero); (first | refine SW.ops_seq hY fun y1 hy1 => ?_ | refine SW.ops hY ?_ | refine SW.draw_seq hY mixed (by kernel_rfl) fun y1 hy1 => ?_ | refine SW.draw hY mixed (by kernel_rfl) ?_) <;> (simp only [hk8, hw, hltI, hleI, hgz, hz0, hgv, sliceM, loF, hiF, Int.le_refl, Nat.sub_zero, Int.toNat_zero, Int.toNat_one, Int.le_refl, Int.zero_le_ofNat, Nat.zero_add, Int.toNat_natCast, T.asArr, T.tg, tgL, dnT, indexAddrM, wk, wl, eq_self, isCall, callT, opM, S.ev, S.put, entryS, thawAL, thawA, RM.run, RM.bind, RM.ofOpt, allocs, Heap.ups, Heap.put, Heap.at, List.replicate, Nat.reduceAdd, Nat.reduceSub, ofConst, nilAs, if_false, if_true, binT, binTy, unT, guardT, pickT, quietK, stripT, openT, reduceIte, boxM, allocM, loadM, storeM, fieldAddrM, lenT, extractT, subM, setOb, T.get, T.setp, T.offs, T.nw, nwL, T.cel, T.isNd, T.size, sizeL, TyI.agg, Ty.agg, Ty.isFn, zeroT, Nat.reduceLT, Nat.reduceEqDiff, sumT, kill, Y1, Y2, Y3, Y4, Y24, Y27, Y30, Y32, Y37]; clear hk8; first | subst hy1 | (try simp only [thenS, blockS, if_true, if_false, Nat.reduceEqDiff, reduceIte])))
        | exact absurd trivial hb
        | exact absurd hb (by decide)
        | exact absurd hcc (by decide)
        | refine SW.seq ?_
        | refine SW.block ?_
        | (refine SW.exit ?_; simp only [thenS, blockS, if_true, if_false, Nat.reduceEqDiff, reduceIte])
        | (refine SW.skip ?_; simp only [thenS, blockS])
      refine SW.loop (fun x2 : MS × Nat => ⟨[.sl .b (v.map Enc.b), .int .i64 a, .int .i64 most, .undef, .undef, .undef, .undef, .undef, .ref 1 0 0 x2.1.m.length, .ref 2 0 0 x2.1.q.length, .int .i64 ((t : Nat) : Int), .bool x2.1.o, .undef, .sl .b (refs.map Enc.b), .int .i64 x2.2, .undef, .undef, .undef, .undef, .undef, .undef, .undef, .undef, .undef, .undef, .undef, .undef, .undef, .undef, .undef, .undef, .undef, .undef, .undef, .undef, .undef, .undef, .undef, .undef, .undef, .undef, .undef, .undef, .undef, .undef, .undef, .undef, .undef, .undef, .undef, .undef, .undef, .undef, .undef, .undef, .undef, .undef, .undef, .undef, .undef, .undef, .undef, .undef, .undef, .undef, .undef, .undef, .undef, .undef, .undef, .undef, .undef, .undef, .undef, .undef, .undef, .undef, .undef, .undef, .undef, .undef, .undef, .undef, .undef, .undef, .undef, .undef, .undef, .undef, .undef, .undef, .undef, .undef, .undef, .undef, .undef, .undef, .undef, .undef, .undef, .undef, .undef, .undef, .undef, .undef, .undef, .undef, .undef, .undef, .undef, .undef, .undef, .undef, .undef, .undef, .undef, .undef, .undef, .undef, .undef, .undef, .undef, .undef, .undef, .undef, .undef, .undef, .undef, .undef, .undef, .undef, .undef, .undef, .undef, .undef], [[], [.arr 1 ((x2.1.m).map Enc.o) false], [.arr 1 ((x2.1.q).map Enc.o) false]]⟩)
        (fun N x2 => N = refs.length - x2.2 ∧ x2.2 ≤ refs.length ∧ Good most x2.1 ∧ x2.1 = seeA v most ⟨x.m, x.q.dropLast, x.o⟩ (refs.take x2.2)) (n := refs.length) (x := (⟨x.m, x.q.dropLast, x.o⟩, 0)) ?_ ⟨rfl, Nat.zero_le _, hp1, rfl⟩ ?_
      · refine Norm.trans (Norm.trunc 2 0 (x.q.length - 1) rfl) ?_
        have htk : (x.q.map (Enc.o : Int → T)).take (x.q.length - 1) = x.q.dropLast.map Enc.o := by rw [← List.map_take, List.dropLast_eq_take]
        simp only [Heap.put, List.getElem?_cons_zero, List.getElem?_cons_succ, List.set_cons_zero, List.set_cons_succ, htk, hdl]
        exact Norm.to 0 rfl (by simp [weakL])
      · rintro N ⟨y, i⟩ ⟨hN, hi, hy, hyy⟩
        simp only at hN hi hy hyy ⊢
        repeat' first
          | (refine SW.ops_seq hY fun y1 hy1 => ?_; simp only [T.asArr, T.tg, tgL, dnT, indexAddrM, wk, wl, eq_self, isCall, callT, opM, S.ev, S.put, entryS, thawAL, thawA, RM.run, RM.bind, RM.ofOpt, allocs, Heap.ups, Heap.put, Heap.at, List.replicate, Nat.reduceAdd, Nat.reduceSub, ofConst, nilAs, if_false, if_true, binT, binTy, unT, guardT, pickT, quietK, stripT, openT, reduceIte, boxM, allocM, loadM, storeM, fieldAddrM, lenT, extractT, subM, setOb, T.get, T.setp, T.offs, T.nw, nwL, T.cel, T.isNd, T.size, sizeL, TyI.agg, Ty.agg, Ty.isFn, zeroT, Nat.reduceLT, Nat.reduceEqDiff, sumT, kill, Y1, Y2, Y3, Y4, Y24, Y27, Y30, Y32, Y37]; subst hy1)
          | refine SW.seq ?_
        refine SW.cond rfl (fun hc2 => ?_) (fun hc2 => ?_)
        · have hlt : i < refs.length := by simp at hc2; omega
          have hgr : (refs.map Enc.b)[i]? = some (T.int .i64 refs[i]) := map_get Enc.b refs i hlt
          have hr := hrr refs[i] (List.getElem_mem hlt)
          have hr0 : 0 ≤ refs[i] := hr.1
          have hrm : refs[i] < (y.m.length : Int) := by rw [hy.ml]; omega
          have hr2 : refs[i].toNat < v.length := by rw [hv.len]; omega
          have hg2 : (v.map Enc.b)[refs[i].toNat]? = some (.nd [.bool v[refs[i].toNat].1, .nd [.int .i64 v[refs[i].toNat].2.1.1, .sl .b (v[refs[i].toNat].2.1.2.1.map Enc.b), .sl .b (v[refs[i].toNat].2.1.2.2.1.map Enc.b)]]) := map_get Enc.b v _ hr2
          have hha2 : hasA v refs[i].toNat = v[refs[i].toNat].1 := by unfold hasA; rw [List.getElem?_eq_getElem hr2]
          have hgm : (y.m.map (Enc.o : Bool → T))[refs[i].toNat]? = some (.bool (mrk y.m refs[i].toNat)) := by have hh : refs[i].toNat < y.m.length := by { rw [hy.ml]; omega }; rw [List.getElem?_map, List.getElem?_eq_getElem hh]; simp [mrk, List.getElem?_eq_getElem hh, o_bool]
          have hlb : lackB v y.m refs[i] = (v[refs[i].toNat].1 && !mrk y.m refs[i].toNat) := by unfold lackB; rw [hha2]
          have hstep : seeA v most ⟨x.m, x.q.dropLast, x.o⟩ (refs.take (i + 1)) = see1 v most y refs[i] := by
            rw [hyy, List.take_add_one, List.getElem?_eq_getElem hlt]; unfold seeA; rw [List.foldl_append]; rfl
          have hgood := hy.see1 (v := v) hr
          rw [← hstep] at hgood
          have hwi : IntKind.i64.wrap ((i : Int) + 1) = ((i + 1 : Nat) : Int) := by rw [wrap64 _ (by omega) (by omega)]; omega
          have hsm : (y.m.map (Enc.o : Bool → T)).set refs[i].toNat (.bool true) = (y.m.set refs[i].toNat true).map Enc.o := set_o y.m _ true
          have hml : (y.m.set refs[i].toNat true).length = y.m.length := List.length_set ..
          have hqy := hy.ql
          generalize v[refs[i].toNat].1 = A at *
          cases A with
          | false =>
            have hsee : see1 v most y refs[i] = y := by unfold see1; rw [hlb]; rfl
            repeat' first
              | ((have hk8 := Nat.add_zero); (first | refine SW.ops_seq hY fun y1 hy1 => ?_ | refine SW.ops hY ?_ | refine SW.draw_seq hY mixed (by kernel_rfl) fun y1 hy1 => ?_ | refine SW.draw hY mixed (by kernel_rfl) ?_ | (simp only [k8]; refine ⟨fun hb => ?_, fun hb => ?_⟩ <;> (try replace hb := Bool.eq_false_iff.2 hb) <;> (first | exact absurd hb (by decide) | replace hk8 := hb))) <;> (simp only [hk8, hgr, hr0, hrm, hg2, hgm, hsm, hwi, Int.toNat_zero, Int.toNat_one, Int.le_refl, Int.zero_le_ofNat, Nat.zero_add, Int.toNat_natCast, T.asArr, T.tg, tgL, dnT, indexAddrM, wk, wl, eq_self, isCall, callT, opM, S.ev, S.put, entryS, thawAL, thawA, RM.run, RM.bind, RM.ofOpt, allocs, Heap.ups, Heap.put, Heap.at, List.replicate, Nat.reduceAdd, Nat.reduceSub, ofConst, nilAs, if_false, if_true, binT, binTy, unT, guardT, pickT, quietK, stripT, openT, reduceIte, boxM, allocM, loadM, storeM, fieldAddrM, lenT, extractT, subM, setOb, T.get, T.setp, T.offs, T.nw, nwL, T.cel, T.isNd, T.size, sizeL, TyI.agg, Ty.agg, Ty.isFn, zeroT, Nat.reduceLT, Nat.reduceEqDiff, sumT, kill, Y1, Y2, Y3, Y4, Y24, Y27, Y30, Y32, Y37]; clear hk8; first | subst hy1 | (try simp only [thenS, blockS, if_true, if_false, Nat.reduceEqDiff, reduceIte])))
              | exact absurd trivial hb
              | exact absurd hb (by decide)
              | exact absurd hcc (by decide)
              | refine SW.seq ?_
              | refine SW.block ?_
              | (refine SW.cond rfl (fun hcc => ?_) (fun hcc => ?_))
              | (refine SW.exit ?_; simp only [thenS, blockS, if_true, if_false, Nat.reduceEqDiff, reduceIte])
              | (refine SW.skip ?_; simp only [thenS, blockS])
            refine ⟨N - 1, (y, i + 1), by omega, ⟨by simp only; omega, by simp only; omega, by simp only; first | exact hy | (rw [← hsee, ← hstep]; exact hgood), by simp only; rw [hstep, hsee]⟩, ?_⟩
            exact Norm.to 0 rfl (by simp [weakL])
          | true =>
            cases hmk : mrk y.m refs[i].toNat with
            | true =>
              rw [hmk] at hgm hlb
              have hsee : see1 v most y refs[i] = y := by unfold see1; rw [hlb]; rfl
              repeat' first
                | ((have hk8 := Nat.add_zero); (first | refine SW.ops_seq hY fun y1 hy1 => ?_ | refine SW.ops hY ?_ | refine SW.draw_seq hY mixed (by kernel_rfl) fun y1 hy1 => ?_ | refine SW.draw hY mixed (by kernel_rfl) ?_ | (simp only [k8]; refine ⟨fun hb => ?_, fun hb => ?_⟩ <;> (try replace hb := Bool.eq_false_iff.2 hb) <;> (first | exact absurd hb (by decide) | replace hk8 := hb))) <;> (simp only [hk8, hgr, hr0, hrm, hg2, hgm, hsm, hwi, Int.toNat_zero, Int.toNat_one, Int.le_refl, Int.zero_le_ofNat, Nat.zero_add, Int.toNat_natCast, T.asArr, T.tg, tgL, dnT, indexAddrM, wk, wl, eq_self, isCall, callT, opM, S.ev, S.put, entryS, thawAL, thawA, RM.run, RM.bind, RM.ofOpt, allocs, Heap.ups, Heap.put, Heap.at, List.replicate, Nat.reduceAdd, Nat.reduceSub, ofConst, nilAs, if_false, if_true, binT, binTy, unT, guardT, pickT, quietK, stripT, openT, reduceIte, boxM, allocM, loadM, storeM, fieldAddrM, lenT, extractT, subM, setOb, T.get, T.setp, T.offs, T.nw, nwL, T.cel, T.isNd, T.size, sizeL, TyI.agg, Ty.agg, Ty.isFn, zeroT, Nat.reduceLT, Nat.reduceEqDiff, sumT, kill, Y1, Y2, Y3, Y4, Y24, Y27, Y30, Y32, Y37]; clear hk8; first | subst hy1 | (try simp only [thenS, blockS, if_true, if_false, Nat.reduceEqDiff, reduceIte])))
                | exact absurd trivial hb
                | exact absurd hb (by decide)
                | exact absurd hcc (by decide)
                | refine SW.seq ?_
                | refine SW.block ?_
                | (refine SW.cond rfl (fun hcc => ?_) (fun hcc => ?_))
                | (refine SW.exit ?_; simp only [thenS, blockS, if_true, if_false, Nat.reduceEqDiff, reduceIte])
                | (refine SW.skip ?_; simp only [thenS, blockS])
              refine ⟨N - 1, (y, i + 1), by omega, ⟨by simp only; omega, by simp only; omega, by simp only; first | exact hy | (rw [← hsee, ← hstep]; exact hgood), by simp only; rw [hstep, hsee]⟩, ?_⟩
              exact Norm.to 0 rfl (by simp [weakL])
            | false =>
              rw [hmk] at hgm hlb
              have hsee0 : see1 v most y refs[i] = put1 most ⟨y.m.set refs[i].toNat true, y.q, y.o⟩ refs[i] := by unfold see1; rw [hlb]; rfl
              by_cases hq : (y.q.length : Int) < most
              · have hsee : see1 v most y refs[i] = ⟨y.m.set refs[i].toNat true, y.q ++ [refs[i]], y.o⟩ := by rw [hsee0]; unfold put1; rw [if_pos hq]
                have hqd : decide ((y.q.length : Int) < most) = true := by simpa using hq
                have hap := append_runP (Y := Y) (H := [[], [.arr 1 ((y.m.set refs[i].toNat true).map Enc.o) false], [.arr 1 (y.q.map Enc.o) false], [.arr 1 [.int .i64 refs[i]] false], []]) (own := 4) (t := 27) (u := 27) (e := 2) (j := 0) (off := 0) (n := y.q.length) (e2 := 3) (j2 := 0) (f := (y.q.map Enc.o)) (l := y.q) (x := refs[i]) Y27 Y27 Y3 rfl (by decide) rfl rfl (by simp) (by simp) (by omega) rfl rfl
                repeat' first
                  | ((have hk8 := Nat.add_zero); (first | refine SW.ops_seq hY fun y1 hy1 => ?_ | refine SW.ops hY ?_ | refine SW.draw_seq hY mixed (by kernel_rfl) fun y1 hy1 => ?_ | refine SW.draw hY mixed (by kernel_rfl) ?_ | (simp only [k8]; refine ⟨fun hb => ?_, fun hb => ?_⟩ <;> (try replace hb := Bool.eq_false_iff.2 hb) <;> (first | exact absurd hb (by decide) | replace hk8 := hb))) <;> (simp only [hk8, hgr, hr0, hrm, hg2, hgm, hsm, hwi, Int.toNat_zero, Int.toNat_one, Int.le_refl, Int.zero_le_ofNat, Nat.zero_add, Int.toNat_natCast, hqd, hap, bs1_27, T.asArr, T.tg, tgL, dnT, indexAddrM, wk, wl, eq_self, isCall, callT, opM, S.ev, S.put, entryS, thawAL, thawA, RM.run, RM.bind, RM.ofOpt, allocs, Heap.ups, Heap.put, Heap.at, List.replicate, Nat.reduceAdd, Nat.reduceSub, ofConst, nilAs, if_false, if_true, binT, binTy, unT, guardT, pickT, quietK, stripT, openT, reduceIte, boxM, allocM, loadM, storeM, fieldAddrM, lenT, extractT, subM, setOb, T.get, T.setp, T.offs, T.nw, nwL, T.cel, T.isNd, T.size, sizeL, TyI.agg, Ty.agg, Ty.isFn, zeroT, Nat.reduceLT, Nat.reduceEqDiff, sumT, kill, Y1, Y2, Y3, Y4, Y24, Y27, Y30, Y32, Y37]; clear hk8; first | subst hy1 | (try simp only [thenS, blockS, if_true, if_false, Nat.reduceEqDiff, reduceIte])))
                  | exact absurd trivial hb
                  | exact absurd hb (by decide)
                  | exact absurd hcc (by decide)
                  | refine SW.seq ?_
                  | refine SW.block ?_
                  | (refine SW.cond rfl (fun hcc => ?_) (fun hcc => ?_))
                  | (refine SW.exit ?_; simp only [thenS, blockS, if_true, if_false, Nat.reduceEqDiff, reduceIte])
                  | (refine SW.skip ?_; simp only [thenS, blockS])
                refine ⟨N - 1, (⟨y.m.set refs[i].toNat true, y.q ++ [refs[i]], y.o⟩, i + 1), by omega, ⟨by simp only; omega, by simp only; omega, by simp only; first | exact hy | (rw [← hsee, ← hstep]; exact hgood), by simp only; rw [hstep, hsee]⟩, ?_⟩
                refine Norm.re [0, 1, 4] (by decide) rfl (by simp only [eq_self, heapFits, rowFits, obFits, List.getElem?_cons_zero, List.getElem?_cons_succ, renL_o, renL_b, true_and, and_true, and_self, renL_t, renL_cons, renL_nil, T.ren]) ?_
                simp only [List.length_append, List.length_singleton, hml]
                simp [tmFits, T.ren]
              · have hsee : see1 v most y refs[i] = ⟨y.m.set refs[i].toNat true, y.q, true⟩ := by rw [hsee0]; unfold put1; rw [if_neg hq]
                have hqd : decide ((y.q.length : Int) < most) = false := by simpa using hq
                repeat' first
                  | ((have hk8 := Nat.add_zero); (first | refine SW.ops_seq hY fun y1 hy1 => ?_ | refine SW.ops hY ?_ | refine SW.draw_seq hY mixed (by kernel_rfl) fun y1 hy1 => ?_ | refine SW.draw hY mixed (by kernel_rfl) ?_ | (simp only [k8]; refine ⟨fun hb => ?_, fun hb => ?_⟩ <;> (try replace hb := Bool.eq_false_iff.2 hb) <;> (first | exact absurd hb (by decide) | replace hk8 := hb))) <;> (simp only [hk8, hgr, hr0, hrm, hg2, hgm, hsm, hwi, Int.toNat_zero, Int.toNat_one, Int.le_refl, Int.zero_le_ofNat, Nat.zero_add, Int.toNat_natCast, hqd, T.asArr, T.tg, tgL, dnT, indexAddrM, wk, wl, eq_self, isCall, callT, opM, S.ev, S.put, entryS, thawAL, thawA, RM.run, RM.bind, RM.ofOpt, allocs, Heap.ups, Heap.put, Heap.at, List.replicate, Nat.reduceAdd, Nat.reduceSub, ofConst, nilAs, if_false, if_true, binT, binTy, unT, guardT, pickT, quietK, stripT, openT, reduceIte, boxM, allocM, loadM, storeM, fieldAddrM, lenT, extractT, subM, setOb, T.get, T.setp, T.offs, T.nw, nwL, T.cel, T.isNd, T.size, sizeL, TyI.agg, Ty.agg, Ty.isFn, zeroT, Nat.reduceLT, Nat.reduceEqDiff, sumT, kill, Y1, Y2, Y3, Y4, Y24, Y27, Y30, Y32, Y37]; clear hk8; first | subst hy1 | (try simp only [thenS, blockS, if_true, if_false, Nat.reduceEqDiff, reduceIte])))
                  | exact absurd trivial hb
                  | exact absurd hb (by decide)
                  | exact absurd hcc (by decide)
                  | refine SW.seq ?_
                  | refine SW.block ?_
                  | (refine SW.cond rfl (fun hcc => ?_) (fun hcc => ?_))
                  | (refine SW.exit ?_; simp only [thenS, blockS, if_true, if_false, Nat.reduceEqDiff, reduceIte])
                  | (refine SW.skip ?_; simp only [thenS, blockS])
                refine ⟨N - 1, (⟨y.m.set refs[i].toNat true, y.q, true⟩, i + 1), by omega, ⟨by simp only; omega, by simp only; omega, by simp only; first | exact hy | (rw [← hsee, ← hstep]; exact hgood), by simp only; rw [hstep, hsee]⟩, ?_⟩
                simp only [hml]
                exact Norm.to 0 rfl (by simp [weakL])
        · have hge : i = refs.length := by
            have : ¬ i < refs.length := by simp at hc2; omega
            omega
          subst hge
          rw [List.take_length] at hyy
          repeat' first
            | ((have hk8 := Nat.add_zero); (first | refine SW.ops_seq hY fun y1 hy1 => ?_ | refine SW.ops hY ?_ | refine SW.draw_seq hY mixed (by kernel_rfl) fun y1 hy1 => ?_ | refine SW.draw hY mixed (by kernel_rfl) ?_ | (simp only [k8]; refine ⟨fun hb => ?_, fun hb => ?_⟩ <;> (try replace hb := Bool.eq_false_iff.2 hb) <;> (first | exact absurd hb (by decide) | replace hk8 := hb))) <;> (simp only [hk8, T.asArr, T.tg, tgL, dnT, indexAddrM, wk, wl, eq_self, isCall, callT, opM, S.ev, S.put, entryS, thawAL, thawA, RM.run, RM.bind, RM.ofOpt, allocs, Heap.ups, Heap.put, Heap.at, List.replicate, Nat.reduceAdd, Nat.reduceSub, ofConst, nilAs, if_false, if_true, binT, binTy, unT, guardT, pickT, quietK, stripT, openT, reduceIte, boxM, allocM, loadM, storeM, fieldAddrM, lenT, extractT, subM, setOb, T.get, T.setp, T.offs, T.nw, nwL, T.cel, T.isNd, T.size, sizeL, TyI.agg, Ty.agg, Ty.isFn, zeroT, Nat.reduceLT, Nat.reduceEqDiff, sumT, kill, Y1, Y2, Y3, Y4, Y24, Y27, Y30, Y32, Y37]; clear hk8; first | subst hy1 | (try simp only [thenS, blockS, if_true, if_false, Nat.reduceEqDiff, reduceIte])))
            | exact absurd trivial hb
            | exact absurd hb (by decide)
            | exact absurd hcc (by decide)
            | refine SW.seq ?_
            | refine SW.block ?_
            | (refine SW.cond rfl (fun hcc => ?_) (fun hcc => ?_))
            | (refine SW.exit ?_; simp only [thenS, blockS, if_true, if_false, Nat.reduceEqDiff, reduceIte])
            | (refine SW.skip ?_; simp only [thenS, blockS])
          exact ⟨n2, y, by omega, ⟨by omega, hy, by rw [hyy]; exact hdr'⟩, Norm.to 0 rfl (by simp [weakL])⟩
    · have hq0 : x.q = [] := by simp at hc; exact hc
      have hxd : x = drn v most s := by rw [← hdr]; cases n2 <;> simp [drainF, hq0]
      rw [← hxd] at hok hR hD
      cases hxo : x.o with
      | false =>
        have hRR : R = (x.m, t) := by rw [← hR]; cases n <;> simp [outD, hxo]
        subst hRR
        repeat' first
          | ((have hk8 := Nat.add_zero); (first | refine SW.ops_seq hY fun y1 hy1 => ?_ | refine SW.ops hY ?_ | refine SW.draw_seq hY mixed (by kernel_rfl) fun y1 hy1 => ?_ | refine SW.draw hY mixed (by kernel_rfl) ?_ | (simp only [k8]; refine ⟨fun hb => ?_, fun hb => ?_⟩ <;> (try replace hb := Bool.eq_false_iff.2 hb) <;> (first | exact absurd hb (by decide) | replace hk8 := hb))) <;> (simp only [hk8, hxo, T.asArr, T.tg, tgL, dnT, indexAddrM, wk, wl, eq_self, isCall, callT, opM, S.ev, S.put, entryS, thawAL, thawA, RM.run, RM.bind, RM.ofOpt, allocs, Heap.ups, Heap.put, Heap.at, List.replicate, Nat.reduceAdd, Nat.reduceSub, ofConst, nilAs, if_false, if_true, binT, binTy, unT, guardT, pickT, quietK, stripT, openT, reduceIte, boxM, allocM, loadM, storeM, fieldAddrM, lenT, extractT, subM, setOb, T.get, T.setp, T.offs, T.nw, nwL, T.cel, T.isNd, T.size, sizeL, TyI.agg, Ty.agg, Ty.isFn, zeroT, Nat.reduceLT, Nat.reduceEqDiff, sumT, kill, Y1, Y2, Y3, Y4, Y24, Y27, Y30, Y32, Y37]; clear hk8; first | subst hy1 | (try simp only [thenS, blockS, if_true, if_false, Nat.reduceEqDiff, reduceIte])))
          | exact absurd trivial hb
          | exact absurd hb (by decide)
          | exact absurd hcc (by decide)
          | refine SW.seq ?_
          | refine SW.block ?_
          | (refine SW.cond rfl (fun hcc => ?_) (fun hcc => ?_))
          | (refine SW.exit ?_; simp only [thenS, blockS, if_true, if_false, Nat.reduceEqDiff, reduceIte])
          | (refine SW.skip ?_; simp only [thenS, blockS])
        refine SW.ret (show RetQ _ _ _ _ _ _ _ from ⟨.inr rfl, _, [1, 0], [.ow 1 (x.m.map Enc.o), .int .i64 (t : Int)], ?_, ⟨rfl, ?_, rfl, ?_, rfl, rfl⟩⟩)
        rotate_left
        · first | rfl | (simp [-List.map_set, -List.map_append, pass1, modeOf, giveS, giveSL, Heap.at, Heap.put, fixEs, ioAt, ioKs, ioM, ioT, T.cel, T.clo, cloL, T.cloA, cloAL]; rfl)
        · first | rfl | simp [-List.map_set, -List.map_append, cloL, T.clo, T.clP, clPL]
      | true =>
        obtain ⟨n, rfl⟩ : ∃ m, n = m + 1 := by
          cases n with
          | zero => exfalso; simp only [outOk] at hok; rw [hok] at hxo; cases hxo
          | succ m => exact ⟨m, rfl⟩
        have hR' : outD v most n (drn v most (scanA v most x 32)) (t + 1) = R := by rw [← hR]; simp only [outD, hxo, if_true]
        have hok' := hok hxo
        have hwt : IntKind.i64.wrap ((t : Int) + 1) = ((t + 1 : Nat) : Int) := by rw [wrap64 _ (by omega) (by omega)]; omega
        have hsc := scanA_ok (v := v) hm.1 hx hq0
        repeat' first
          | ((have hk8 := Nat.add_zero); (first | refine SW.ops_seq hY fun y1 hy1 => ?_ | refine SW.ops hY ?_ | refine SW.draw_seq hY mixed (by kernel_rfl) fun y1 hy1 => ?_ | refine SW.draw hY mixed (by kernel_rfl) ?_) <;> (simp only [hk8, hxo, hwt, T.asArr, T.tg, tgL, dnT, indexAddrM, wk, wl, eq_self, isCall, callT, opM, S.ev, S.put, entryS, thawAL, thawA, RM.run, RM.bind, RM.ofOpt, allocs, Heap.ups, Heap.put, Heap.at, List.replicate, Nat.reduceAdd, Nat.reduceSub, ofConst, nilAs, if_false, if_true, binT, binTy, unT, guardT, pickT, quietK, stripT, openT, reduceIte, boxM, allocM, loadM, storeM, fieldAddrM, lenT, extractT, subM, setOb, T.get, T.setp, T.offs, T.nw, nwL, T.cel, T.isNd, T.size, sizeL, TyI.agg, Ty.agg, Ty.isFn, zeroT, Nat.reduceLT, Nat.reduceEqDiff, sumT, kill, Y1, Y2, Y3, Y4, Y24, Y27, Y30, Y32, Y37]; clear hk8; first | subst hy1 | (try simp only [thenS, blockS, if_true, if_false, Nat.reduceEqDiff, reduceIte])))
          | exact absurd trivial hb
          | exact absurd hb (by decide)
          | exact absurd hcc (by decide)
          | refine SW.seq ?_
          | refine SW.block ?_
          | (refine SW.cond rfl (fun hcc => ?_) (fun hcc => ?_))
          | (refine SW.exit ?_; simp only [thenS, blockS, if_true, if_false, Nat.reduceEqDiff, reduceIte])
          | (refine SW.skip ?_; simp only [thenS, blockS])
        refine SW.loop (fun x2 : MS × Nat => ⟨[.sl .b (v.map Enc.b), .int .i64 a, .int .i64 most, .undef, .undef, .undef, .undef, .undef, .ref 1 0 0 x2.1.m.length, .ref 2 0 0 x2.1.q.length, .int .i64 (((t + 1) : Nat) : Int), .bool x2.1.o, .undef, .undef, .undef, .int .i64 x2.2, .undef, .undef, .undef, .undef, .undef, .undef, .undef, .undef, .undef, .undef, .undef, .undef, .undef, .undef, .undef, .undef, .undef, .undef, .undef, .undef, .undef, .undef, .undef, .undef, .undef, .undef, .undef, .undef, .undef, .undef, .undef, .undef, .undef, .undef, .undef, .undef, .undef, .undef, .undef, .undef, .undef, .undef, .undef, .undef, .undef, .undef, .undef, .undef, .undef, .undef, .undef, .undef, .undef, .undef, .undef, .undef, .undef, .undef, .undef, .undef, .undef, .undef, .undef, .undef, .undef, .undef, .undef, .undef, .undef, .undef, .undef, .undef, .undef, .undef, .undef, .undef, .undef, .undef, .undef, .undef, .undef, .undef, .undef, .undef, .undef, .undef, .undef, .undef, .undef, .undef, .undef, .undef, .undef, .undef, .undef, .undef, .undef, .undef, .undef, .undef, .undef, .undef, .undef, .undef, .undef, .undef, .undef, .undef, .undef, .undef, .undef, .undef, .undef, .undef, .undef, .undef, .undef, .undef, .undef], [[], [.arr 1 ((x2.1.m).map Enc.o) false], [.arr 1 ((x2.1.q).map Enc.o) false]]⟩)
          (fun N x2 => N = 32 - x2.2 ∧ x2.2 ≤ 32 ∧ x2.1 = scanA v most x x2.2) (n := 32) (x := (⟨x.m, x.q, false⟩, 0)) (Norm.to 0 rfl (by simp [weakL])) ⟨rfl, Nat.zero_le _, rfl⟩ ?_
        rintro N ⟨y, i⟩ ⟨hN, hi, hyy⟩
        simp only at hN hi hyy ⊢
        obtain ⟨hy, hym, _, _⟩ := hsc i hi
        rw [← hyy] at hy hym
        have hyl := hy.ml
        repeat' first
          | (refine SW.ops_seq hY fun y1 hy1 => ?_; simp only [T.asArr, T.tg, tgL, dnT, indexAddrM, wk, wl, eq_self, isCall, callT, opM, S.ev, S.put, entryS, thawAL, thawA, RM.run, RM.bind, RM.ofOpt, allocs, Heap.ups, Heap.put, Heap.at, List.replicate, Nat.reduceAdd, Nat.reduceSub, ofConst, nilAs, if_false, if_true, binT, binTy, unT, guardT, pickT, quietK, stripT, openT, reduceIte, boxM, allocM, loadM, storeM, fieldAddrM, lenT, extractT, subM, setOb, T.get, T.setp, T.offs, T.nw, nwL, T.cel, T.isNd, T.size, sizeL, TyI.agg, Ty.agg, Ty.isFn, zeroT, Nat.reduceLT, Nat.reduceEqDiff, sumT, kill, Y1, Y2, Y3, Y4, Y24, Y27, Y30, Y32, Y37]; subst hy1)
          | refine SW.seq ?_
        refine SW.cond rfl (fun hc2 => ?_) (fun hc2 => ?_)
        · have hlt : i < 32 := by rw [hyl] at hc2; simp at hc2; omega
          have hlc : (i : Int) < (y.m.length : Int) := by omega
          have hgc : (y.m.map (Enc.o : Bool → T))[i]? = some (.bool (mrk y.m i)) := by rw [List.getElem?_map, List.getElem?_eq_getElem (by omega)]; simp [mrk, List.getElem?_eq_getElem (show i < y.m.length by omega), o_bool]
          have hK := l11Lacks_ok v hv y.m hyl i hlt
          have hwi : IntKind.i64.wrap ((i : Int) + 1) = ((i + 1 : Nat) : Int) := by rw [wrap64 _ (by omega) (by omega)]; omega
          have hstep : scanA v most x (i + 1) = scan1 v most y i := by rw [hyy]; unfold scanA; rw [List.range_succ, List.foldl_append]; rfl
          have hqy := hy.ql
          cases hmk : mrk y.m i with
          | false =>
            rw [hmk] at hgc
            repeat' first
              | ((have hk8 := Nat.add_zero); (first | refine SW.ops_seq hY fun y1 hy1 => ?_ | refine SW.ops hY ?_ | refine SW.draw_seq hY mixed (by kernel_rfl) fun y1 hy1 => ?_ | refine SW.draw hY mixed (by kernel_rfl) ?_ | refine vcall_to [] (hK) rfl (by first | rfl | (simp [pass2, T.tg, tgL, upT, lendM, lendA, lendAL, elemsM, Heap.at, RM.bind, RM.run]; done) | (simp [pass2, T.tg, tgL, upT, lendM, lendA, lendAL, elemsM, Heap.at, RM.bind, RM.run]; rfl)) (by first | rfl | simp [resClo, T.clo, cloL, T.clP, clPL]) rfl ?_ | (simp only [k8]; refine ⟨fun hb => ?_, fun hb => ?_⟩ <;> (try replace hb := Bool.eq_false_iff.2 hb) <;> (first | exact absurd hb (by decide) | replace hk8 := hb))) <;> (simp only [hk8, hgc, hlc, hwi, Int.toNat_zero, Int.toNat_one, Int.le_refl, Int.zero_le_ofNat, Nat.zero_add, Int.toNat_natCast, T.asArr, T.tg, tgL, dnT, indexAddrM, wk, wl, eq_self, isCall, callT, opM, S.ev, S.put, entryS, thawAL, thawA, RM.run, RM.bind, RM.ofOpt, allocs, Heap.ups, Heap.put, Heap.at, List.replicate, Nat.reduceAdd, Nat.reduceSub, ofConst, nilAs, if_false, if_true, binT, binTy, unT, guardT, pickT, quietK, stripT, openT, reduceIte, boxM, allocM, loadM, storeM, fieldAddrM, lenT, extractT, subM, setOb, T.get, T.setp, T.offs, T.nw, nwL, T.cel, T.isNd, T.size, sizeL, TyI.agg, Ty.agg, Ty.isFn, zeroT, Nat.reduceLT, Nat.reduceEqDiff, sumT, kill, Y1, Y2, Y3, Y4, Y24, Y27, Y30, Y32, Y37]; clear hk8; first | subst hy1 | (try simp only [thenS, blockS, if_true, if_false, Nat.reduceEqDiff, reduceIte])))
              | exact absurd trivial hb
              | exact absurd hb (by decide)
              | exact absurd hcc (by decide)
              | refine SW.seq ?_
              | refine SW.block ?_
              | (refine SW.cond rfl (fun hcc => ?_) (fun hcc => ?_))
              | (refine SW.exit ?_; simp only [thenS, blockS, if_true, if_false, Nat.reduceEqDiff, reduceIte])
              | (refine SW.skip ?_; simp only [thenS, blockS])
            refine ⟨N - 1, (y, i + 1), by omega, ⟨by simp only; omega, by simp only; omega, by simp only; rw [hstep]; unfold scan1; simp [hmk]⟩, ?_⟩
            exact Norm.to 0 rfl (by simp [weakL])
          | true =>
            rw [hmk] at hgc
            cases hlk : lacks v y.m i with
            | false =>
              rw [hlk] at hK
              repeat' first
                | ((have hk8 := Nat.add_zero); (first | refine SW.ops_seq hY fun y1 hy1 => ?_ | refine SW.ops hY ?_ | refine SW.draw_seq hY mixed (by kernel_rfl) fun y1 hy1 => ?_ | refine SW.draw hY mixed (by kernel_rfl) ?_ | refine vcall_to [] (hK) rfl (by first | rfl | (simp [pass2, T.tg, tgL, upT, lendM, lendA, lendAL, elemsM, Heap.at, RM.bind, RM.run]; done) | (simp [pass2, T.tg, tgL, upT, lendM, lendA, lendAL, elemsM, Heap.at, RM.bind, RM.run]; rfl)) (by first | rfl | simp [resClo, T.clo, cloL, T.clP, clPL]) rfl ?_ | (simp only [k8]; refine ⟨fun hb => ?_, fun hb => ?_⟩ <;> (try replace hb := Bool.eq_false_iff.2 hb) <;> (first | exact absurd hb (by decide) | replace hk8 := hb))) <;> (simp only [hk8, hgc, hlc, hwi, Int.toNat_zero, Int.toNat_one, Int.le_refl, Int.zero_le_ofNat, Nat.zero_add, Int.toNat_natCast, T.asArr, T.tg, tgL, dnT, indexAddrM, wk, wl, eq_self, isCall, callT, opM, S.ev, S.put, entryS, thawAL, thawA, RM.run, RM.bind, RM.ofOpt, allocs, Heap.ups, Heap.put, Heap.at, List.replicate, Nat.reduceAdd, Nat.reduceSub, ofConst, nilAs, if_false, if_true, binT, binTy, unT, guardT, pickT, quietK, stripT, openT, reduceIte, boxM, allocM, loadM, storeM, fieldAddrM, lenT, extractT, subM, setOb, T.get, T.setp, T.offs, T.nw, nwL, T.cel, T.isNd, T.size, sizeL, TyI.agg, Ty.agg, Ty.isFn, zeroT, Nat.reduceLT, Nat.reduceEqDiff, sumT, kill, Y1, Y2, Y3, Y4, Y24, Y27, Y30, Y32, Y37]; clear hk8; first | subst hy1 | (try simp only [thenS, blockS, if_true, if_false, Nat.reduceEqDiff, reduceIte])))
                | exact absurd trivial hb
                | exact absurd hb (by decide)
                | exact absurd hcc (by decide)
                | refine SW.seq ?_
                | refine SW.block ?_
                | (refine SW.cond rfl (fun hcc => ?_) (fun hcc => ?_))
                | (refine SW.exit ?_; simp only [thenS, blockS, if_true, if_false, Nat.reduceEqDiff, reduceIte])
                | (refine SW.skip ?_; simp only [thenS, blockS])
              refine ⟨N - 1, (y, i + 1), by omega, ⟨by simp only; omega, by simp only; omega, by simp only; rw [hstep]; unfold scan1; simp [hlk]⟩, ?_⟩
              first | exact Norm.to 0 rfl (by simp [weakL]) | exact Norm.to 1 rfl (by simp [weakL])
            | true =>
              rw [hlk] at hK
              have hsce : scan1 v most y i = put1 most y i := by unfold scan1; rw [hmk, hlk]; rfl
              by_cases hq : (y.q.length : Int) < most
              · have hsee : put1 most y i = ⟨y.m, y.q ++ [(i : Int)], y.o⟩ := by unfold put1; rw [if_pos hq]
                have hqd : decide ((y.q.length : Int) < most) = true := by simpa using hq
                have hap := append_runP (Y := Y) (H := [[], [.arr 1 (y.m.map Enc.o) false], [.arr 1 (y.q.map Enc.o) false], [], [.arr 1 [.int .i64 (i : Int)] false], []]) (own := 5) (t := 27) (u := 27) (e := 2) (j := 0) (off := 0) (n := y.q.length) (e2 := 4) (j2 := 0) (f := (y.q.map Enc.o)) (l := y.q) (x := (i : Int)) Y27 Y27 Y3 rfl (by decide) rfl rfl (by simp) (by simp) (by omega) rfl rfl
                repeat' first
                  | ((have hk8 := Nat.add_zero); (first | refine SW.ops_seq hY fun y1 hy1 => ?_ | refine SW.ops hY ?_ | refine SW.draw_seq hY mixed (by kernel_rfl) fun y1 hy1 => ?_ | refine SW.draw hY mixed (by kernel_rfl) ?_ | refine vcall_to [] (hK) rfl (by first | rfl | (simp [pass2, T.tg, tgL, upT, lendM, lendA, lendAL, elemsM, Heap.at, RM.bind, RM.run]; done) | (simp [pass2, T.tg, tgL, upT, lendM, lendA, lendAL, elemsM, Heap.at, RM.bind, RM.run]; rfl)) (by first | rfl | simp [resClo, T.clo, cloL, T.clP, clPL]) rfl ?_ | (simp only [k8]; refine ⟨fun hb => ?_, fun hb => ?_⟩ <;> (try replace hb := Bool.eq_false_iff.2 hb) <;> (first | exact absurd hb (by decide) | replace hk8 := hb))) <;> (simp only [hk8, hgc, hlc, hwi, Int.toNat_zero, Int.toNat_one, Int.le_refl, Int.zero_le_ofNat, Nat.zero_add, Int.toNat_natCast, hqd, hap, bs1_27, T.asArr, T.tg, tgL, dnT, indexAddrM, wk, wl, eq_self, isCall, callT, opM, S.ev, S.put, entryS, thawAL, thawA, RM.run, RM.bind, RM.ofOpt, allocs, Heap.ups, Heap.put, Heap.at, List.replicate, Nat.reduceAdd, Nat.reduceSub, ofConst, nilAs, if_false, if_true, binT, binTy, unT, guardT, pickT, quietK, stripT, openT, reduceIte, boxM, allocM, loadM, storeM, fieldAddrM, lenT, extractT, subM, setOb, T.get, T.setp, T.offs, T.nw, nwL, T.cel, T.isNd, T.size, sizeL, TyI.agg, Ty.agg, Ty.isFn, zeroT, Nat.reduceLT, Nat.reduceEqDiff, sumT, kill, Y1, Y2, Y3, Y4, Y24, Y27, Y30, Y32, Y37]; clear hk8; first | subst hy1 | (try simp only [thenS, blockS, if_true, if_false, Nat.reduceEqDiff, reduceIte])))
                  | exact absurd trivial hb
                  | exact absurd hb (by decide)
                  | exact absurd hcc (by decide)
                  | refine SW.seq ?_
                  | refine SW.block ?_
                  | (refine SW.cond rfl (fun hcc => ?_) (fun hcc => ?_))
                  | (refine SW.exit ?_; simp only [thenS, blockS, if_true, if_false, Nat.reduceEqDiff, reduceIte])
                  | (refine SW.skip ?_; simp only [thenS, blockS])
                refine ⟨N - 1, (⟨y.m, y.q ++ [(i : Int)], y.o⟩, i + 1), by omega, ⟨by simp only; omega, by simp only; omega, by simp only; rw [hstep]; rw [hsce, hsee]⟩, ?_⟩
                refine Norm.re [0, 1, 5] (by decide) rfl (by simp only [eq_self, heapFits, rowFits, obFits, List.getElem?_cons_zero, List.getElem?_cons_succ, renL_o, renL_b, true_and, and_true, and_self, renL_t, renL_cons, renL_nil, T.ren]) ?_
                simp only [List.length_append, List.length_singleton]
                simp [tmFits, T.ren]
              · have hsee : put1 most y i = ⟨y.m, y.q, true⟩ := by unfold put1; rw [if_neg hq]
                have hqd : decide ((y.q.length : Int) < most) = false := by simpa using hq
                repeat' first
                  | ((have hk8 := Nat.add_zero); (first | refine SW.ops_seq hY fun y1 hy1 => ?_ | refine SW.ops hY ?_ | refine SW.draw_seq hY mixed (by kernel_rfl) fun y1 hy1 => ?_ | refine SW.draw hY mixed (by kernel_rfl) ?_ | refine vcall_to [] (hK) rfl (by first | rfl | (simp [pass2, T.tg, tgL, upT, lendM, lendA, lendAL, elemsM, Heap.at, RM.bind, RM.run]; done) | (simp [pass2, T.tg, tgL, upT, lendM, lendA, lendAL, elemsM, Heap.at, RM.bind, RM.run]; rfl)) (by first | rfl | simp [resClo, T.clo, cloL, T.clP, clPL]) rfl ?_ | (simp only [k8]; refine ⟨fun hb => ?_, fun hb => ?_⟩ <;> (try replace hb := Bool.eq_false_iff.2 hb) <;> (first | exact absurd hb (by decide) | replace hk8 := hb))) <;> (simp only [hk8, hgc, hlc, hwi, Int.toNat_zero, Int.toNat_one, Int.le_refl, Int.zero_le_ofNat, Nat.zero_add, Int.toNat_natCast, hqd, T.asArr, T.tg, tgL, dnT, indexAddrM, wk, wl, eq_self, isCall, callT, opM, S.ev, S.put, entryS, thawAL, thawA, RM.run, RM.bind, RM.ofOpt, allocs, Heap.ups, Heap.put, Heap.at, List.replicate, Nat.reduceAdd, Nat.reduceSub, ofConst, nilAs, if_false, if_true, binT, binTy, unT, guardT, pickT, quietK, stripT, openT, reduceIte, boxM, allocM, loadM, storeM, fieldAddrM, lenT, extractT, subM, setOb, T.get, T.setp, T.offs, T.nw, nwL, T.cel, T.isNd, T.size, sizeL, TyI.agg, Ty.agg, Ty.isFn, zeroT, Nat.reduceLT, Nat.reduceEqDiff, sumT, kill, Y1, Y2, Y3, Y4, Y24, Y27, Y30, Y32, Y37]; clear hk8; first | subst hy1 | (try simp only [thenS, blockS, if_true, if_false, Nat.reduceEqDiff, reduceIte])))
                  | exact absurd trivial hb
                  | exact absurd hb (by decide)
                  | exact absurd hcc (by decide)
                  | refine SW.seq ?_
                  | refine SW.block ?_
                  | (refine SW.cond rfl (fun hcc => ?_) (fun hcc => ?_))
                  | (refine SW.exit ?_; simp only [thenS, blockS, if_true, if_false, Nat.reduceEqDiff, reduceIte])
                  | (refine SW.skip ?_; simp only [thenS, blockS])
                refine ⟨N - 1, (⟨y.m, y.q, true⟩, i + 1), by omega, ⟨by simp only; omega, by simp only; omega, by simp only; rw [hstep]; rw [hsce, hsee]⟩, ?_⟩
                first | exact Norm.to 0 rfl (by simp [weakL]) | exact Norm.to 1 rfl (by simp [weakL])
        · have hge : i = 32 := by
            have : ¬ i < 32 := by rw [hyl] at hc2; simp at hc2; omega
            omega
          subst hge
          rw [← hyy] at hR' hok'
          repeat' first
            | ((have hk8 := Nat.add_zero); (first | refine SW.ops_seq hY fun y1 hy1 => ?_ | refine SW.ops hY ?_ | refine SW.draw_seq hY mixed (by kernel_rfl) fun y1 hy1 => ?_ | refine SW.draw hY mixed (by kernel_rfl) ?_ | (simp only [k8]; refine ⟨fun hb => ?_, fun hb => ?_⟩ <;> (try replace hb := Bool.eq_false_iff.2 hb) <;> (first | exact absurd hb (by decide) | replace hk8 := hb))) <;> (simp only [hk8, T.asArr, T.tg, tgL, dnT, indexAddrM, wk, wl, eq_self, isCall, callT, opM, S.ev, S.put, entryS, thawAL, thawA, RM.run, RM.bind, RM.ofOpt, allocs, Heap.ups, Heap.put, Heap.at, List.replicate, Nat.reduceAdd, Nat.reduceSub, ofConst, nilAs, if_false, if_true, binT, binTy, unT, guardT, pickT, quietK, stripT, openT, reduceIte, boxM, allocM, loadM, storeM, fieldAddrM, lenT, extractT, subM, setOb, T.get, T.setp, T.offs, T.nw, nwL, T.cel, T.isNd, T.size, sizeL, TyI.agg, Ty.agg, Ty.isFn, zeroT, Nat.reduceLT, Nat.reduceEqDiff, sumT, kill, Y1, Y2, Y3, Y4, Y24, Y27, Y30, Y32, Y37]; clear hk8; first | subst hy1 | (try simp only [thenS, blockS, if_true, if_false, Nat.reduceEqDiff, reduceIte])))
            | exact absurd trivial hb
            | exact absurd hb (by decide)
            | exact absurd hcc (by decide)
            | refine SW.seq ?_
            | refine SW.block ?_
            | (refine SW.cond rfl (fun hcc => ?_) (fun hcc => ?_))
            | (refine SW.exit ?_; simp only [thenS, blockS, if_true, if_false, Nat.reduceEqDiff, reduceIte])
            | (refine SW.skip ?_; simp only [thenS, blockS])
          exact ⟨n, (y, t + 1), by omega, ⟨by omega, hy, hok', hR', by simp only; omega⟩, Norm.to 0 rfl (by simp [weakL])⟩
end Q1
