/- Shows what the parts of the program do that the claim reaches: a machine of values over the model, and the contracts of functions, for all arguments within the lengths that each theorem names. -/
import Derived.Test.YtlffogdkmdafiaaXGetObjP1
import Derived.Test.YtlffogdkmdafiaaVm4
set_option linter.all false

namespace Q5
open Go Go.Vm Go.Proofs
set_option maxHeartbeats 4000000
set_option synthInstance.maxSize 2000
set_option synthInstance.maxHeartbeats 400000
set_option maxRecDepth 10000
set_option linter.unusedSimpArgs false
set_option linter.unusedVariables false

open Go.By

theorem i64_and1 (a : Nat) (h : a < 2 ^ 63) : IntKind.i64.wrap ((BitVec.ofInt IntKind.i64.bits (a : Int) &&& BitVec.ofInt IntKind.i64.bits 1).toNat : Int) = ((a % 2 : Nat) : Int) := by
  have e : (BitVec.ofInt 64 (a : Int) &&& BitVec.ofInt 64 1).toNat = a % 2 := by
    rw [BitVec.toNat_and, show BitVec.ofInt 64 (1 : Int) = 1#64 from rfl, BitVec.ofInt_natCast, BitVec.toNat_ofNat, show (1#64).toNat = 2 ^ 1 - 1 from rfl, Nat.and_two_pow_sub_one_eq_mod]; omega
  rw [bits64, e, wrap64 _ (by omega) (by omega)]
theorem i64_shr1 (a : Nat) : ((a : Int)).fdiv (2 ^ (min (1 : Int).toNat IntKind.i64.bits)) = ((a / 2 : Nat) : Int) := by
  rw [bits64, show (min (1 : Int).toNat 64) = 1 from rfl, Int.fdiv_eq_ediv_of_nonneg _ (by decide)]; simp
theorem unz_s (m : Nat) (h : m < 2 ^ 42) (ho : m % 2 = 1) : IntKind.i64.wrap (IntKind.i64.wrap (0 - ((m / 2 : Nat) : Int)) - 1) = unz m := by
  unfold unz
  rw [if_pos ho, wrap64 (0 - _) (by omega) (by omega), wrap64 _ (by omega) (by omega)]; omega

theorem sGetInt_ok (l : List UInt8) (a : Nat) (hl : l.length ≤ 1048576) (ha : a ≤ l.length) : CallR Try.prog 146 [.sl .b (l.map Enc.b), .int .i64 (a : Nat)] [] (.tup [.int .i64 (getR l a).1, .int .i64 ((getR l a).2.1 : Nat), .bool (getR l a).2.2]) := by
  refine CallR.of_body (n := 74) (rs := [.tmp 4, .tmp 5, .tmp 6]) hY.ok Try.func146 rfl (by decide) rfl rfl rfl rfl (fun F => ?_)
  repeat' first
    | ((have hk8 := Nat.add_zero); (first | refine SW.ops_seq hY fun y1 hy1 => ?_ | refine SW.ops hY ?_ | refine SW.draw_seq hY mixed (by kernel_rfl) fun y1 hy1 => ?_ | refine SW.draw hY mixed (by kernel_rfl) ?_) <;> (simp only [hk8, convertM, T.asArr, T.tg, tgL, dnT, indexAddrM, wk, wl, eq_self, isCall, callT, opM, S.ev, S.put, entryS, thawAL, thawA, RM.run, RM.bind, RM.ofOpt, allocs, Heap.ups, Heap.put, Heap.at, List.replicate, Nat.reduceAdd, Nat.reduceSub, ofConst, nilAs, if_false, if_true, binT, binTy, unT, guardT, pickT, quietK, stripT, openT, reduceIte, boxM, allocM, loadM, storeM, fieldAddrM, lenT, extractT, subM, setOb, T.get, T.setp, T.offs, T.nw, nwL, T.cel, T.isNd, T.size, sizeL, TyI.agg, Ty.agg, Ty.isFn, zeroT, Nat.reduceLT, Nat.reduceEqDiff, sumT, kill, Y3, Y4, Y5, Y22, Y160]; clear hk8; first | subst hy1 | (try simp only [thenS, blockS, if_true, if_false, Nat.reduceEqDiff, reduceIte])))
    | exact absurd trivial hb
    | exact absurd hb (by decide)
    | exact absurd hcc (by decide)
    | refine SW.seq ?_
    | refine SW.block ?_
    | (refine SW.exit ?_; simp only [thenS, blockS, if_true, if_false, Nat.reduceEqDiff, reduceIte])
    | (refine SW.skip ?_; simp only [thenS, blockS])
  refine SW.loop (fun x : Nat × Nat => ⟨[.sl .b (l.map Enc.b), .int .i64 (a : Nat), .undef, .undef, .undef, .undef, .undef, .int .i64 (x.2 : Nat), .int .i64 (x.1 : Nat), .undef, .undef, .undef, .undef, .undef, .undef, .undef, .undef, .undef, .undef, .undef, .undef, .undef, .undef, .undef, .undef, .undef, .undef, .undef, .undef, .undef, .undef, .undef, .undef, .undef, .undef, .undef, .undef, .undef, .undef, .undef, .undef, .undef, .undef, .undef, .undef, .undef, .undef, .undef, .undef, .undef, .undef, .undef, .undef, .undef, .undef, .undef, .undef, .undef, .undef, .undef, .undef, .undef, .undef, .undef, .undef, .undef, .undef, .undef, .undef, .undef, .undef, .undef, .undef, .undef], [[]]⟩)
    (fun N x => N = 6 - x.1 ∧ x.1 ≤ 6 ∧ a + x.1 ≤ l.length ∧ dec (l.drop (a + x.1)) x.1 x.2 = dec (l.drop a) 0 0 ∧ x.2 < 2 ^ (7 * x.1)) (n := 6) (x := (0, 0)) (Norm.to 0 rfl (by simp [weakL])) ⟨rfl, by decide, ha, rfl, by decide⟩ ?_
  rintro N ⟨k, m⟩ ⟨hN, hk6, hk, hg, hm⟩
  simp only at hN hk6 hk hg hm ⊢
  have hw0 : IntKind.i64.wrap ((a : Int) + (k : Int)) = ((a + k : Nat) : Int) := by rw [wrap64 _ (by omega) (by omega)]; omega
  have ha0 : decide ((a : Int) ≥ 0) = true := by simp
  have hk0 : decide ((k : Int) > 0) = decide (k ≠ 0) := by by_cases h : k = 0 <;> simp [h]; omega
  by_cases h6 : k < 6
  · have h6d : decide ((k : Int) < 6) = true := by simp; omega
    by_cases hlt : a + k < l.length
    · have hal : decide ((a : Int) < (l.length : Int)) = true := by simp; omega
      have hkl : decide (((a + k : Nat) : Int) < (l.length : Int)) = true := by simp; omega
      have hgb : (l.map Enc.b)[a + k]? = some (.int .u8 ((l[a + k]).toNat : Int)) := map_get Enc.b l _ hlt
      have hd : l.drop (a + k) = l[a + k] :: l.drop (a + (k + 1)) := List.drop_eq_getElem_cons hlt
      rw [hd, dec, if_neg (by omega)] at hg
      generalize hv : l[a + k] = v at *
      have hvl := v.toNat_lt
      have hbi := byte_i64 v
      have h127 := i64_and127 v.toNat (by omega)
      have hwk : IntKind.i64.wrap ((k : Int) + 1) = ((k + 1 : Nat) : Int) := by rw [wrap64 _ (by omega) (by omega)]; omega
      have hw1 : IntKind.i64.wrap (((a + k : Nat) : Int) + 1) = ((a + (k + 1) : Nat) : Int) := by rw [wrap64 _ (by omega) (by omega)]; omega
      have hw7 : IntKind.i64.wrap (7 * (k : Int)) = ((7 * k : Nat) : Int) := by rw [wrap64 _ (by omega) (by omega)]; simp
      have hu7 : IntKind.u64.wrap ((7 * k : Nat) : Int) = ((7 * k : Nat) : Int) := by simp [IntKind.wrap, IntKind.bits, IntKind.signed]; omega
      have h70 : (((7 * k : Nat) : Int) < 0) = False := by simp; omega
      have hgr := i64_grp m (v.toNat % 128) k hm (by omega) h6
      rw [hw7, Int.toNat_natCast] at hgr
      have hstep : m + v.toNat % 128 * 2 ^ (7 * k) < 2 ^ (7 * (k + 1)) := by
        have h1 : v.toNat % 128 * 2 ^ (7 * k) ≤ 127 * 2 ^ (7 * k) := Nat.mul_le_mul_right _ (by omega)
        rw [show 7 * (k + 1) = 7 * k + 7 by omega, Nat.pow_add]; omega
      have hM42 : m + v.toNat % 128 * 2 ^ (7 * k) < 2 ^ 42 := by
        have : 2 ^ (7 * (k + 1)) ≤ 2 ^ 42 := Nat.pow_le_pow_right (by decide) (by omega)
        omega
      generalize hMd : m + v.toNat % 128 * 2 ^ (7 * k) = M at *
      by_cases hhi : v.toNat > 127
      · have hhd : decide ((v.toNat : Int) > 127) = true := by simp; omega
        rw [if_pos hhi] at hg
        repeat' first
          | ((have hk8 := Nat.add_zero); (first | refine SW.ops_seq hY fun y1 hy1 => ?_ | refine SW.ops hY ?_ | refine SW.draw_seq hY mixed (by kernel_rfl) fun y1 hy1 => ?_ | refine SW.draw hY mixed (by kernel_rfl) ?_ | (simp only [k8]; refine ⟨fun hb => ?_, fun hb => ?_⟩ <;> (try replace hb := Bool.eq_false_iff.2 hb) <;> (first | exact absurd hb (by decide) | replace hk8 := hb))) <;> (simp only [hk8, hw0, ha0, hk0, h6d, hal, hkl, hgb, hbi, h127, hwk, hw1, hw7, hu7, h70, hgr, hhd, Int.toNat_zero, Int.toNat_one, Int.le_refl, Int.zero_le_ofNat, Nat.zero_add, Int.toNat_natCast, convertM, T.asArr, T.tg, tgL, dnT, indexAddrM, wk, wl, eq_self, isCall, callT, opM, S.ev, S.put, entryS, thawAL, thawA, RM.run, RM.bind, RM.ofOpt, allocs, Heap.ups, Heap.put, Heap.at, List.replicate, Nat.reduceAdd, Nat.reduceSub, ofConst, nilAs, if_false, if_true, binT, binTy, unT, guardT, pickT, quietK, stripT, openT, reduceIte, boxM, allocM, loadM, storeM, fieldAddrM, lenT, extractT, subM, setOb, T.get, T.setp, T.offs, T.nw, nwL, T.cel, T.isNd, T.size, sizeL, TyI.agg, Ty.agg, Ty.isFn, zeroT, Nat.reduceLT, Nat.reduceEqDiff, sumT, kill, Y3, Y4, Y5, Y22, Y160]; clear hk8; first | subst hy1 | (try simp only [thenS, blockS, if_true, if_false, Nat.reduceEqDiff, reduceIte])))
          | exact absurd trivial hb
          | exact absurd hb (by decide)
          | exact absurd hcc (by decide)
          | refine SW.seq ?_
          | refine SW.block ?_
          | (refine SW.cond rfl (fun hcc => ?_) (fun hcc => ?_))
          | (refine SW.exit ?_; simp only [thenS, blockS, if_true, if_false, Nat.reduceEqDiff, reduceIte])
          | (refine SW.skip ?_; simp only [thenS, blockS])
        refine ⟨N - 1, (k + 1, M), by omega, ⟨by simp only; omega, by simp only; omega, by simp only; omega, hg, hstep⟩, Norm.to 0 rfl (by simp [weakL])⟩
      · have hhd : decide ((v.toNat : Int) > 127) = false := by simp; omega
        rw [if_neg hhi] at hg
        have hsh := i64_shr1 M
        rw [Int.toNat_one] at hsh
        have hand := i64_and1 M (by omega)
        have hI2 := l1In_ok (unz M) (-1000000000000) 1000000000000
        rw [show (decide (unz M ≥ -1000000000000) && decide (unz M ≤ 1000000000000)) = okN (unz M) from rfl] at hI2
        have hRz : getR l a = if (decide (k ≠ 0) && decide (v.toNat = 0)) = true then (0, 0, false) else if okN (unz M) = true then (unz M, a + (k + 1), true) else (0, 0, false) := by
          unfold getR; rw [← hg]
          by_cases hz : v.toNat = 0 <;> by_cases hkz : k = 0 <;> simp [hz, hkz]
        rw [hRz]
        have hv0 : ((v.toNat : Int) == 0) = decide (v.toNat = 0) := by by_cases h : v.toNat = 0 <;> simp [h]
        have ho1 : (((M % 2 : Nat) : Int) == 1) = decide (M % 2 = 1) := by by_cases h : M % 2 = 1 <;> simp [h]; omega
        clear hRz hg
        cases hok : okN (unz M) <;> by_cases ho : M % 2 = 1 <;> by_cases hkz : k = 0 <;> by_cases hz : v.toNat = 0
        · rw [hok] at hI2
          rw [show decide (M % 2 = 1) = true by simp [ho]] at ho1
          rw [show decide (k ≠ 0) = false by simp [hkz]] at hk0
          rw [show decide (v.toNat = 0) = true by simp [hz]] at hv0
          have hn := unz_s M hM42 ho
          repeat' first
            | ((have hk8 := Nat.add_zero); (first | refine SW.ops_seq hY fun y1 hy1 => ?_ | refine SW.ops hY ?_ | refine SW.draw_seq hY mixed (by kernel_rfl) fun y1 hy1 => ?_ | refine SW.draw hY mixed (by kernel_rfl) ?_ | refine vcall_x [] (hI2) (hK := ?_) | (simp only [k8]; refine ⟨fun hb => ?_, fun hb => ?_⟩ <;> (try replace hb := Bool.eq_false_iff.2 hb) <;> (first | exact absurd hb (by decide) | replace hk8 := hb))) <;> (simp only [hk8, hw0, ha0, hk0, h6d, hal, hkl, hgb, hbi, h127, hwk, hw1, hw7, hu7, h70, hgr, hhd, hsh, hand, hn, hv0, ho1, Int.reduceLT, Int.toNat_zero, Int.toNat_one, Int.le_refl, Int.zero_le_ofNat, Nat.zero_add, Int.toNat_natCast, convertM, T.asArr, T.tg, tgL, dnT, indexAddrM, wk, wl, eq_self, isCall, callT, opM, S.ev, S.put, entryS, thawAL, thawA, RM.run, RM.bind, RM.ofOpt, allocs, Heap.ups, Heap.put, Heap.at, List.replicate, Nat.reduceAdd, Nat.reduceSub, ofConst, nilAs, if_false, if_true, binT, binTy, unT, guardT, pickT, quietK, stripT, openT, reduceIte, boxM, allocM, loadM, storeM, fieldAddrM, lenT, extractT, subM, setOb, T.get, T.setp, T.offs, T.nw, nwL, T.cel, T.isNd, T.size, sizeL, TyI.agg, Ty.agg, Ty.isFn, zeroT, Nat.reduceLT, Nat.reduceEqDiff, sumT, kill, Y3, Y4, Y5, Y22, Y160]; clear hk8; first | subst hy1 | (try simp only [thenS, blockS, if_true, if_false, Nat.reduceEqDiff, reduceIte])))
            | exact absurd trivial hb
            | exact absurd hb (by decide)
            | exact absurd hcc (by decide)
            | refine SW.seq ?_
            | refine SW.block ?_
            | (refine SW.cond rfl (fun hcc => ?_) (fun hcc => ?_))
            | (refine SW.exit ?_; simp only [thenS, blockS, if_true, if_false, Nat.reduceEqDiff, reduceIte])
            | (refine SW.skip ?_; simp only [thenS, blockS])
            | refine SW.ret (show RetQ _ _ _ _ _ _ _ from ⟨.inr rfl, [_, _, _], [0, 0, 0], [_, _, _], _, rfl, rfl, rfl, rfl, rfl, ?_⟩)
          all_goals (first | rfl | (simp [tupOf, fixEs, hkz, hz]; done))
        · rw [hok] at hI2
          rw [show decide (M % 2 = 1) = true by simp [ho]] at ho1
          rw [show decide (k ≠ 0) = false by simp [hkz]] at hk0
          rw [show decide (v.toNat = 0) = false by simp [hz]] at hv0
          have hn := unz_s M hM42 ho
          repeat' first
            | ((have hk8 := Nat.add_zero); (first | refine SW.ops_seq hY fun y1 hy1 => ?_ | refine SW.ops hY ?_ | refine SW.draw_seq hY mixed (by kernel_rfl) fun y1 hy1 => ?_ | refine SW.draw hY mixed (by kernel_rfl) ?_ | refine vcall_x [] (hI2) (hK := ?_) | (simp only [k8]; refine ⟨fun hb => ?_, fun hb => ?_⟩ <;> (try replace hb := Bool.eq_false_iff.2 hb) <;> (first | exact absurd hb (by decide) | replace hk8 := hb))) <;> (simp only [hk8, hw0, ha0, hk0, h6d, hal, hkl, hgb, hbi, h127, hwk, hw1, hw7, hu7, h70, hgr, hhd, hsh, hand, hn, hv0, ho1, Int.reduceLT, Int.toNat_zero, Int.toNat_one, Int.le_refl, Int.zero_le_ofNat, Nat.zero_add, Int.toNat_natCast, convertM, T.asArr, T.tg, tgL, dnT, indexAddrM, wk, wl, eq_self, isCall, callT, opM, S.ev, S.put, entryS, thawAL, thawA, RM.run, RM.bind, RM.ofOpt, allocs, Heap.ups, Heap.put, Heap.at, List.replicate, Nat.reduceAdd, Nat.reduceSub, ofConst, nilAs, if_false, if_true, binT, binTy, unT, guardT, pickT, quietK, stripT, openT, reduceIte, boxM, allocM, loadM, storeM, fieldAddrM, lenT, extractT, subM, setOb, T.get, T.setp, T.offs, T.nw, nwL, T.cel, T.isNd, T.size, sizeL, TyI.agg, Ty.agg, Ty.isFn, zeroT, Nat.reduceLT, Nat.reduceEqDiff, sumT, kill, Y3, Y4, Y5, Y22, Y160]; clear hk8; first | subst hy1 | (try simp only [thenS, blockS, if_true, if_false, Nat.reduceEqDiff, reduceIte])))
            | exact absurd trivial hb
            | exact absurd hb (by decide)
            | exact absurd hcc (by decide)
            | refine SW.seq ?_
            | refine SW.block ?_
            | (refine SW.cond rfl (fun hcc => ?_) (fun hcc => ?_))
            | (refine SW.exit ?_; simp only [thenS, blockS, if_true, if_false, Nat.reduceEqDiff, reduceIte])
            | (refine SW.skip ?_; simp only [thenS, blockS])
            | refine SW.ret (show RetQ _ _ _ _ _ _ _ from ⟨.inr rfl, [_, _, _], [0, 0, 0], [_, _, _], _, rfl, rfl, rfl, rfl, rfl, ?_⟩)
          all_goals (first | rfl | (simp [tupOf, fixEs, hkz, hz]; done))
        · rw [hok] at hI2
          rw [show decide (M % 2 = 1) = true by simp [ho]] at ho1
          rw [show decide (k ≠ 0) = true by simp [hkz]] at hk0
          rw [show decide (v.toNat = 0) = true by simp [hz]] at hv0
          have hn := unz_s M hM42 ho
          repeat' first
            | ((have hk8 := Nat.add_zero); (first | refine SW.ops_seq hY fun y1 hy1 => ?_ | refine SW.ops hY ?_ | refine SW.draw_seq hY mixed (by kernel_rfl) fun y1 hy1 => ?_ | refine SW.draw hY mixed (by kernel_rfl) ?_ | refine vcall_x [] (hI2) (hK := ?_) | (simp only [k8]; refine ⟨fun hb => ?_, fun hb => ?_⟩ <;> (try replace hb := Bool.eq_false_iff.2 hb) <;> (first | exact absurd hb (by decide) | replace hk8 := hb))) <;> (simp only [hk8, hw0, ha0, hk0, h6d, hal, hkl, hgb, hbi, h127, hwk, hw1, hw7, hu7, h70, hgr, hhd, hsh, hand, hn, hv0, ho1, Int.reduceLT, Int.toNat_zero, Int.toNat_one, Int.le_refl, Int.zero_le_ofNat, Nat.zero_add, Int.toNat_natCast, convertM, T.asArr, T.tg, tgL, dnT, indexAddrM, wk, wl, eq_self, isCall, callT, opM, S.ev, S.put, entryS, thawAL, thawA, RM.run, RM.bind, RM.ofOpt, allocs, Heap.ups, Heap.put, Heap.at, List.replicate, Nat.reduceAdd, Nat.reduceSub, ofConst, nilAs, if_false, if_true, binT, binTy, unT, guardT, pickT, quietK, stripT, openT, reduceIte, boxM, allocM, loadM, storeM, fieldAddrM, lenT, extractT, subM, setOb, T.get, T.setp, T.offs, T.nw, nwL, T.cel, T.isNd, T.size, sizeL, TyI.agg, Ty.agg, Ty.isFn, zeroT, Nat.reduceLT, Nat.reduceEqDiff, sumT, kill, Y3, Y4, Y5, Y22, Y160]; clear hk8; first | subst hy1 | (try simp only [thenS, blockS, if_true, if_false, Nat.reduceEqDiff, reduceIte])))
            | exact absurd trivial hb
            | exact absurd hb (by decide)
            | exact absurd hcc (by decide)
            | refine SW.seq ?_
            | refine SW.block ?_
            | (refine SW.cond rfl (fun hcc => ?_) (fun hcc => ?_))
            | (refine SW.exit ?_; simp only [thenS, blockS, if_true, if_false, Nat.reduceEqDiff, reduceIte])
            | (refine SW.skip ?_; simp only [thenS, blockS])
            | refine SW.ret (show RetQ _ _ _ _ _ _ _ from ⟨.inr rfl, [_, _, _], [0, 0, 0], [_, _, _], _, rfl, rfl, rfl, rfl, rfl, ?_⟩)
          all_goals (first | rfl | (simp [tupOf, fixEs, hkz, hz]; done))
        · rw [hok] at hI2
          rw [show decide (M % 2 = 1) = true by simp [ho]] at ho1
          rw [show decide (k ≠ 0) = true by simp [hkz]] at hk0
          rw [show decide (v.toNat = 0) = false by simp [hz]] at hv0
          have hn := unz_s M hM42 ho
          repeat' first
            | ((have hk8 := Nat.add_zero); (first | refine SW.ops_seq hY fun y1 hy1 => ?_ | refine SW.ops hY ?_ | refine SW.draw_seq hY mixed (by kernel_rfl) fun y1 hy1 => ?_ | refine SW.draw hY mixed (by kernel_rfl) ?_ | refine vcall_x [] (hI2) (hK := ?_) | (simp only [k8]; refine ⟨fun hb => ?_, fun hb => ?_⟩ <;> (try replace hb := Bool.eq_false_iff.2 hb) <;> (first | exact absurd hb (by decide) | replace hk8 := hb))) <;> (simp only [hk8, hw0, ha0, hk0, h6d, hal, hkl, hgb, hbi, h127, hwk, hw1, hw7, hu7, h70, hgr, hhd, hsh, hand, hn, hv0, ho1, Int.reduceLT, Int.toNat_zero, Int.toNat_one, Int.le_refl, Int.zero_le_ofNat, Nat.zero_add, Int.toNat_natCast, convertM, T.asArr, T.tg, tgL, dnT, indexAddrM, wk, wl, eq_self, isCall, callT, opM, S.ev, S.put, entryS, thawAL, thawA, RM.run, RM.bind, RM.ofOpt, allocs, Heap.ups, Heap.put, Heap.at, List.replicate, Nat.reduceAdd, Nat.reduceSub, ofConst, nilAs, if_false, if_true, binT, binTy, unT, guardT, pickT, quietK, stripT, openT, reduceIte, boxM, allocM, loadM, storeM, fieldAddrM, lenT, extractT, subM, setOb, T.get, T.setp, T.offs, T.nw, nwL, T.cel, T.isNd, T.size, sizeL, TyI.agg, Ty.agg, Ty.isFn, zeroT, Nat.reduceLT, Nat.reduceEqDiff, sumT, kill, Y3, Y4, Y5, Y22, Y160]; clear hk8; first | subst hy1 | (try simp only [thenS, blockS, if_true, if_false, Nat.reduceEqDiff, reduceIte])))
            | exact absurd trivial hb
            | exact absurd hb (by decide)
            | exact absurd hcc (by decide)
            | refine SW.seq ?_
            | refine SW.block ?_
            | (refine SW.cond rfl (fun hcc => ?_) (fun hcc => ?_))
            | (refine SW.exit ?_; simp only [thenS, blockS, if_true, if_false, Nat.reduceEqDiff, reduceIte])
            | (refine SW.skip ?_; simp only [thenS, blockS])
            | refine SW.ret (show RetQ _ _ _ _ _ _ _ from ⟨.inr rfl, [_, _, _], [0, 0, 0], [_, _, _], _, rfl, rfl, rfl, rfl, rfl, ?_⟩)
          all_goals (first | rfl | (simp [tupOf, fixEs, hkz, hz]; done))
        · rw [hok] at hI2
          rw [show decide (M % 2 = 1) = false by simp [ho]] at ho1
          rw [show decide (k ≠ 0) = false by simp [hkz]] at hk0
          rw [show decide (v.toNat = 0) = true by simp [hz]] at hv0
          have hn := unz_e M ho
          repeat' first
            | ((have hk8 := Nat.add_zero); (first | refine SW.ops_seq hY fun y1 hy1 => ?_ | refine SW.ops hY ?_ | refine SW.draw_seq hY mixed (by kernel_rfl) fun y1 hy1 => ?_ | refine SW.draw hY mixed (by kernel_rfl) ?_ | refine vcall_x [] (hI2) (hK := ?_) | (simp only [k8]; refine ⟨fun hb => ?_, fun hb => ?_⟩ <;> (try replace hb := Bool.eq_false_iff.2 hb) <;> (first | exact absurd hb (by decide) | replace hk8 := hb))) <;> (simp only [hk8, hw0, ha0, hk0, h6d, hal, hkl, hgb, hbi, h127, hwk, hw1, hw7, hu7, h70, hgr, hhd, hsh, hand, hn, hv0, ho1, Int.reduceLT, Int.toNat_zero, Int.toNat_one, Int.le_refl, Int.zero_le_ofNat, Nat.zero_add, Int.toNat_natCast, convertM, T.asArr, T.tg, tgL, dnT, indexAddrM, wk, wl, eq_self, isCall, callT, opM, S.ev, S.put, entryS, thawAL, thawA, RM.run, RM.bind, RM.ofOpt, allocs, Heap.ups, Heap.put, Heap.at, List.replicate, Nat.reduceAdd, Nat.reduceSub, ofConst, nilAs, if_false, if_true, binT, binTy, unT, guardT, pickT, quietK, stripT, openT, reduceIte, boxM, allocM, loadM, storeM, fieldAddrM, lenT, extractT, subM, setOb, T.get, T.setp, T.offs, T.nw, nwL, T.cel, T.isNd, T.size, sizeL, TyI.agg, Ty.agg, Ty.isFn, zeroT, Nat.reduceLT, Nat.reduceEqDiff, sumT, kill, Y3, Y4, Y5, Y22, Y160]; clear hk8; first | subst hy1 | (try simp only [thenS, blockS, if_true, if_false, Nat.reduceEqDiff, reduceIte])))
            | exact absurd trivial hb
            | exact absurd hb (by decide)
            | exact absurd hcc (by decide)
            | refine SW.seq ?_
            | refine SW.block ?_
            | (refine SW.cond rfl (fun hcc => ?_) (fun hcc => ?_))
            | (refine SW.exit ?_; simp only [thenS, blockS, if_true, if_false, Nat.reduceEqDiff, reduceIte])
            | (refine SW.skip ?_; simp only [thenS, blockS])
            | refine SW.ret (show RetQ _ _ _ _ _ _ _ from ⟨.inr rfl, [_, _, _], [0, 0, 0], [_, _, _], _, rfl, rfl, rfl, rfl, rfl, ?_⟩)
          all_goals (first | rfl | (simp [tupOf, fixEs, hkz, hz]; done))
        · rw [hok] at hI2
          rw [show decide (M % 2 = 1) = false by simp [ho]] at ho1
          rw [show decide (k ≠ 0) = false by simp [hkz]] at hk0
          rw [show decide (v.toNat = 0) = false by simp [hz]] at hv0
          have hn := unz_e M ho
          repeat' first
            | ((have hk8 := Nat.add_zero); (first | refine SW.ops_seq hY fun y1 hy1 => ?_ | refine SW.ops hY ?_ | refine SW.draw_seq hY mixed (by kernel_rfl) fun y1 hy1 => ?_ | refine SW.draw hY mixed (by kernel_rfl) ?_ | refine vcall_x [] (hI2) (hK := ?_) | (simp only [k8]; refine ⟨fun hb => ?_, fun hb => ?_⟩ <;> (try replace hb := Bool.eq_false_iff.2 hb) <;> (first | exact absurd hb (by decide) | replace hk8 := hb))) <;> (simp only [hk8, hw0, ha0, hk0, h6d, hal, hkl, hgb, hbi, h127, hwk, hw1, hw7, hu7, h70, hgr, hhd, hsh, hand, hn, hv0, ho1, Int.reduceLT, Int.toNat_zero, Int.toNat_one, Int.le_refl, Int.zero_le_ofNat, Nat.zero_add, Int.toNat_natCast, convertM, T.asArr, T.tg, tgL, dnT, indexAddrM, wk, wl, eq_self, isCall, callT, opM, S.ev, S.put, entryS, thawAL, thawA, RM.run, RM.bind, RM.ofOpt, allocs, Heap.ups, Heap.put, Heap.at, List.replicate, Nat.reduceAdd, Nat.reduceSub, ofConst, nilAs, if_false, if_true, binT, binTy, unT, guardT, pickT, quietK, stripT, openT, reduceIte, boxM, allocM, loadM, storeM, fieldAddrM, lenT, extractT, subM, setOb, T.get, T.setp, T.offs, T.nw, nwL, T.cel, T.isNd, T.size, sizeL, TyI.agg, Ty.agg, Ty.isFn, zeroT, Nat.reduceLT, Nat.reduceEqDiff, sumT, kill, Y3, Y4, Y5, Y22, Y160]; clear hk8; first | subst hy1 | (try simp only [thenS, blockS, if_true, if_false, Nat.reduceEqDiff, reduceIte])))
            | exact absurd trivial hb
            | exact absurd hb (by decide)
            | exact absurd hcc (by decide)
            | refine SW.seq ?_
            | refine SW.block ?_
            | (refine SW.cond rfl (fun hcc => ?_) (fun hcc => ?_))
            | (refine SW.exit ?_; simp only [thenS, blockS, if_true, if_false, Nat.reduceEqDiff, reduceIte])
            | (refine SW.skip ?_; simp only [thenS, blockS])
            | refine SW.ret (show RetQ _ _ _ _ _ _ _ from ⟨.inr rfl, [_, _, _], [0, 0, 0], [_, _, _], _, rfl, rfl, rfl, rfl, rfl, ?_⟩)
          all_goals (first | rfl | (simp [tupOf, fixEs, hkz, hz]; done))
        · rw [hok] at hI2
          rw [show decide (M % 2 = 1) = false by simp [ho]] at ho1
          rw [show decide (k ≠ 0) = true by simp [hkz]] at hk0
          rw [show decide (v.toNat = 0) = true by simp [hz]] at hv0
          have hn := unz_e M ho
          repeat' first
            | ((have hk8 := Nat.add_zero); (first | refine SW.ops_seq hY fun y1 hy1 => ?_ | refine SW.ops hY ?_ | refine SW.draw_seq hY mixed (by kernel_rfl) fun y1 hy1 => ?_ | refine SW.draw hY mixed (by kernel_rfl) ?_ | refine vcall_x [] (hI2) (hK := ?_) | (simp only [k8]; refine ⟨fun hb => ?_, fun hb => ?_⟩ <;> (try replace hb := Bool.eq_false_iff.2 hb) <;> (first | exact absurd hb (by decide) | replace hk8 := hb))) <;> (simp only [hk8, hw0, ha0, hk0, h6d, hal, hkl, hgb, hbi, h127, hwk, hw1, hw7, hu7, h70, hgr, hhd, hsh, hand, hn, hv0, ho1, Int.reduceLT, Int.toNat_zero, Int.toNat_one, Int.le_refl, Int.zero_le_ofNat, Nat.zero_add, Int.toNat_natCast, convertM, T.asArr, T.tg, tgL, dnT, indexAddrM, wk, wl, eq_self, isCall, callT, opM, S.ev, S.put, entryS, thawAL, thawA, RM.run, RM.bind, RM.ofOpt, allocs, Heap.ups, Heap.put, Heap.at, List.replicate, Nat.reduceAdd, Nat.reduceSub, ofConst, nilAs, if_false, if_true, binT, binTy, unT, guardT, pickT, quietK, stripT, openT, reduceIte, boxM, allocM, loadM, storeM, fieldAddrM, lenT, extractT, subM, setOb, T.get, T.setp, T.offs, T.nw, nwL, T.cel, T.isNd, T.size, sizeL, TyI.agg, Ty.agg, Ty.isFn, zeroT, Nat.reduceLT, Nat.reduceEqDiff, sumT, kill, Y3, Y4, Y5, Y22, Y160]; clear hk8; first | subst hy1 | (try simp only [thenS, blockS, if_true, if_false, Nat.reduceEqDiff, reduceIte])))
            | exact absurd trivial hb
            | exact absurd hb (by decide)
            | exact absurd hcc (by decide)
            | refine SW.seq ?_
            | refine SW.block ?_
            | (refine SW.cond rfl (fun hcc => ?_) (fun hcc => ?_))
            | (refine SW.exit ?_; simp only [thenS, blockS, if_true, if_false, Nat.reduceEqDiff, reduceIte])
            | (refine SW.skip ?_; simp only [thenS, blockS])
            | refine SW.ret (show RetQ _ _ _ _ _ _ _ from ⟨.inr rfl, [_, _, _], [0, 0, 0], [_, _, _], _, rfl, rfl, rfl, rfl, rfl, ?_⟩)
          all_goals (first | rfl | (simp [tupOf, fixEs, hkz, hz]; done))
        · rw [hok] at hI2
          rw [show decide (M % 2 = 1) = false by simp [ho]] at ho1
          rw [show decide (k ≠ 0) = true by simp [hkz]] at hk0
          rw [show decide (v.toNat = 0) = false by simp [hz]] at hv0
          have hn := unz_e M ho
          repeat' first
            | ((have hk8 := Nat.add_zero); (first | refine SW.ops_seq hY fun y1 hy1 => ?_ | refine SW.ops hY ?_ | refine SW.draw_seq hY mixed (by kernel_rfl) fun y1 hy1 => ?_ | refine SW.draw hY mixed (by kernel_rfl) ?_ | refine vcall_x [] (hI2) (hK := ?_) | (simp only [k8]; refine ⟨fun hb => ?_, fun hb => ?_⟩ <;> (try replace hb := Bool.eq_false_iff.2 hb) <;> (first | exact absurd hb (by decide) | replace hk8 := hb))) <;> (simp only [hk8, hw0, ha0, hk0, h6d, hal, hkl, hgb, hbi, h127, hwk, hw1, hw7, hu7, h70, hgr, hhd, hsh, hand, hn, hv0, ho1, Int.reduceLT, Int.toNat_zero, Int.toNat_one, Int.le_refl, Int.zero_le_ofNat, Nat.zero_add, Int.toNat_natCast, convertM, T.asArr, T.tg, tgL, dnT, indexAddrM, wk, wl, eq_self, isCall, callT, opM, S.ev, S.put, entryS, thawAL, thawA, RM.run, RM.bind, RM.ofOpt, allocs, Heap.ups, Heap.put, Heap.at, List.replicate, Nat.reduceAdd, Nat.reduceSub, ofConst, nilAs, if_false, if_true, binT, binTy, unT, guardT, pickT, quietK, stripT, openT, reduceIte, boxM, allocM, loadM, storeM, fieldAddrM, lenT, extractT, subM, setOb, T.get, T.setp, T.offs, T.nw, nwL, T.cel, T.isNd, T.size, sizeL, TyI.agg, Ty.agg, Ty.isFn, zeroT, Nat.reduceLT, Nat.reduceEqDiff, sumT, kill, Y3, Y4, Y5, Y22, Y160]; clear hk8; first | subst hy1 | (try simp only [thenS, blockS, if_true, if_false, Nat.reduceEqDiff, reduceIte])))
            | exact absurd trivial hb
            | exact absurd hb (by decide)
            | exact absurd hcc (by decide)
            | refine SW.seq ?_
            | refine SW.block ?_
            | (refine SW.cond rfl (fun hcc => ?_) (fun hcc => ?_))
            | (refine SW.exit ?_; simp only [thenS, blockS, if_true, if_false, Nat.reduceEqDiff, reduceIte])
            | (refine SW.skip ?_; simp only [thenS, blockS])
            | refine SW.ret (show RetQ _ _ _ _ _ _ _ from ⟨.inr rfl, [_, _, _], [0, 0, 0], [_, _, _], _, rfl, rfl, rfl, rfl, rfl, ?_⟩)
          all_goals (first | rfl | (simp [tupOf, fixEs, hkz, hz]; done))
        · rw [hok] at hI2
          rw [show decide (M % 2 = 1) = true by simp [ho]] at ho1
          rw [show decide (k ≠ 0) = false by simp [hkz]] at hk0
          rw [show decide (v.toNat = 0) = true by simp [hz]] at hv0
          have hn := unz_s M hM42 ho
          repeat' first
            | ((have hk8 := Nat.add_zero); (first | refine SW.ops_seq hY fun y1 hy1 => ?_ | refine SW.ops hY ?_ | refine SW.draw_seq hY mixed (by kernel_rfl) fun y1 hy1 => ?_ | refine SW.draw hY mixed (by kernel_rfl) ?_ | refine vcall_x [] (hI2) (hK := ?_) | (simp only [k8]; refine ⟨fun hb => ?_, fun hb => ?_⟩ <;> (try replace hb := Bool.eq_false_iff.2 hb) <;> (first | exact absurd hb (by decide) | replace hk8 := hb))) <;> (simp only [hk8, hw0, ha0, hk0, h6d, hal, hkl, hgb, hbi, h127, hwk, hw1, hw7, hu7, h70, hgr, hhd, hsh, hand, hn, hv0, ho1, Int.reduceLT, Int.toNat_zero, Int.toNat_one, Int.le_refl, Int.zero_le_ofNat, Nat.zero_add, Int.toNat_natCast, convertM, T.asArr, T.tg, tgL, dnT, indexAddrM, wk, wl, eq_self, isCall, callT, opM, S.ev, S.put, entryS, thawAL, thawA, RM.run, RM.bind, RM.ofOpt, allocs, Heap.ups, Heap.put, Heap.at, List.replicate, Nat.reduceAdd, Nat.reduceSub, ofConst, nilAs, if_false, if_true, binT, binTy, unT, guardT, pickT, quietK, stripT, openT, reduceIte, boxM, allocM, loadM, storeM, fieldAddrM, lenT, extractT, subM, setOb, T.get, T.setp, T.offs, T.nw, nwL, T.cel, T.isNd, T.size, sizeL, TyI.agg, Ty.agg, Ty.isFn, zeroT, Nat.reduceLT, Nat.reduceEqDiff, sumT, kill, Y3, Y4, Y5, Y22, Y160]; clear hk8; first | subst hy1 | (try simp only [thenS, blockS, if_true, if_false, Nat.reduceEqDiff, reduceIte])))
            | exact absurd trivial hb
            | exact absurd hb (by decide)
            | exact absurd hcc (by decide)
            | refine SW.seq ?_
            | refine SW.block ?_
            | (refine SW.cond rfl (fun hcc => ?_) (fun hcc => ?_))
            | (refine SW.exit ?_; simp only [thenS, blockS, if_true, if_false, Nat.reduceEqDiff, reduceIte])
            | (refine SW.skip ?_; simp only [thenS, blockS])
            | refine SW.ret (show RetQ _ _ _ _ _ _ _ from ⟨.inr rfl, [_, _, _], [0, 0, 0], [_, _, _], _, rfl, rfl, rfl, rfl, rfl, ?_⟩)
          all_goals (first | rfl | (simp [tupOf, fixEs, hkz, hz]; done))
        · rw [hok] at hI2
          rw [show decide (M % 2 = 1) = true by simp [ho]] at ho1
          rw [show decide (k ≠ 0) = false by simp [hkz]] at hk0
          rw [show decide (v.toNat = 0) = false by simp [hz]] at hv0
          have hn := unz_s M hM42 ho
          repeat' first
            | ((have hk8 := Nat.add_zero); (first | refine SW.ops_seq hY fun y1 hy1 => ?_ | refine SW.ops hY ?_ | refine SW.draw_seq hY mixed (by kernel_rfl) fun y1 hy1 => ?_ | refine SW.draw hY mixed (by kernel_rfl) ?_ | refine vcall_x [] (hI2) (hK := ?_) | (simp only [k8]; refine ⟨fun hb => ?_, fun hb => ?_⟩ <;> (try replace hb := Bool.eq_false_iff.2 hb) <;> (first | exact absurd hb (by decide) | replace hk8 := hb))) <;> (simp only [hk8, hw0, ha0, hk0, h6d, hal, hkl, hgb, hbi, h127, hwk, hw1, hw7, hu7, h70, hgr, hhd, hsh, hand, hn, hv0, ho1, Int.reduceLT, Int.toNat_zero, Int.toNat_one, Int.le_refl, Int.zero_le_ofNat, Nat.zero_add, Int.toNat_natCast, convertM, T.asArr, T.tg, tgL, dnT, indexAddrM, wk, wl, eq_self, isCall, callT, opM, S.ev, S.put, entryS, thawAL, thawA, RM.run, RM.bind, RM.ofOpt, allocs, Heap.ups, Heap.put, Heap.at, List.replicate, Nat.reduceAdd, Nat.reduceSub, ofConst, nilAs, if_false, if_true, binT, binTy, unT, guardT, pickT, quietK, stripT, openT, reduceIte, boxM, allocM, loadM, storeM, fieldAddrM, lenT, extractT, subM, setOb, T.get, T.setp, T.offs, T.nw, nwL, T.cel, T.isNd, T.size, sizeL, TyI.agg, Ty.agg, Ty.isFn, zeroT, Nat.reduceLT, Nat.reduceEqDiff, sumT, kill, Y3, Y4, Y5, Y22, Y160]; clear hk8; first | subst hy1 | (try simp only [thenS, blockS, if_true, if_false, Nat.reduceEqDiff, reduceIte])))
            | exact absurd trivial hb
            | exact absurd hb (by decide)
            | exact absurd hcc (by decide)
            | refine SW.seq ?_
            | refine SW.block ?_
            | (refine SW.cond rfl (fun hcc => ?_) (fun hcc => ?_))
            | (refine SW.exit ?_; simp only [thenS, blockS, if_true, if_false, Nat.reduceEqDiff, reduceIte])
            | (refine SW.skip ?_; simp only [thenS, blockS])
            | refine SW.ret (show RetQ _ _ _ _ _ _ _ from ⟨.inr rfl, [_, _, _], [0, 0, 0], [_, _, _], _, rfl, rfl, rfl, rfl, rfl, ?_⟩)
          all_goals (first | rfl | (simp [tupOf, fixEs, hkz, hz]; done))
        · rw [hok] at hI2
          rw [show decide (M % 2 = 1) = true by simp [ho]] at ho1
          rw [show decide (k ≠ 0) = true by simp [hkz]] at hk0
          rw [show decide (v.toNat = 0) = true by simp [hz]] at hv0
          have hn := unz_s M hM42 ho
          repeat' first
            | ((have hk8 := Nat.add_zero); (first | refine SW.ops_seq hY fun y1 hy1 => ?_ | refine SW.ops hY ?_ | refine SW.draw_seq hY mixed (by kernel_rfl) fun y1 hy1 => ?_ | refine SW.draw hY mixed (by kernel_rfl) ?_ | refine vcall_x [] (hI2) (hK := ?_) | (simp only [k8]; refine ⟨fun hb => ?_, fun hb => ?_⟩ <;> (try replace hb := Bool.eq_false_iff.2 hb) <;> (first | exact absurd hb (by decide) | replace hk8 := hb))) <;> (simp only [hk8, hw0, ha0, hk0, h6d, hal, hkl, hgb, hbi, h127, hwk, hw1, hw7, hu7, h70, hgr, hhd, hsh, hand, hn, hv0, ho1, Int.reduceLT, Int.toNat_zero, Int.toNat_one, Int.le_refl, Int.zero_le_ofNat, Nat.zero_add, Int.toNat_natCast, convertM, T.asArr, T.tg, tgL, dnT, indexAddrM, wk, wl, eq_self, isCall, callT, opM, S.ev, S.put, entryS, thawAL, thawA, RM.run, RM.bind, RM.ofOpt, allocs, Heap.ups, Heap.put, Heap.at, List.replicate, Nat.reduceAdd, Nat.reduceSub, ofConst, nilAs, if_false, if_true, binT, binTy, unT, guardT, pickT, quietK, stripT, openT, reduceIte, boxM, allocM, loadM, storeM, fieldAddrM, lenT, extractT, subM, setOb, T.get, T.setp, T.offs, T.nw, nwL, T.cel, T.isNd, T.size, sizeL, TyI.agg, Ty.agg, Ty.isFn, zeroT, Nat.reduceLT, Nat.reduceEqDiff, sumT, kill, Y3, Y4, Y5, Y22, Y160]; clear hk8; first | subst hy1 | (try simp only [thenS, blockS, if_true, if_false, Nat.reduceEqDiff, reduceIte])))
            | exact absurd trivial hb
            | exact absurd hb (by decide)
            | exact absurd hcc (by decide)
            | refine SW.seq ?_
            | refine SW.block ?_
            | (refine SW.cond rfl (fun hcc => ?_) (fun hcc => ?_))
            | (refine SW.exit ?_; simp only [thenS, blockS, if_true, if_false, Nat.reduceEqDiff, reduceIte])
            | (refine SW.skip ?_; simp only [thenS, blockS])
            | refine SW.ret (show RetQ _ _ _ _ _ _ _ from ⟨.inr rfl, [_, _, _], [0, 0, 0], [_, _, _], _, rfl, rfl, rfl, rfl, rfl, ?_⟩)
          all_goals (first | rfl | (simp [tupOf, fixEs, hkz, hz]; done))
        · rw [hok] at hI2
          rw [show decide (M % 2 = 1) = true by simp [ho]] at ho1
          rw [show decide (k ≠ 0) = true by simp [hkz]] at hk0
          rw [show decide (v.toNat = 0) = false by simp [hz]] at hv0
          have hn := unz_s M hM42 ho
          repeat' first
            | ((have hk8 := Nat.add_zero); (first | refine SW.ops_seq hY fun y1 hy1 => ?_ | refine SW.ops hY ?_ | refine SW.draw_seq hY mixed (by kernel_rfl) fun y1 hy1 => ?_ | refine SW.draw hY mixed (by kernel_rfl) ?_ | refine vcall_x [] (hI2) (hK := ?_) | (simp only [k8]; refine ⟨fun hb => ?_, fun hb => ?_⟩ <;> (try replace hb := Bool.eq_false_iff.2 hb) <;> (first | exact absurd hb (by decide) | replace hk8 := hb))) <;> (simp only [hk8, hw0, ha0, hk0, h6d, hal, hkl, hgb, hbi, h127, hwk, hw1, hw7, hu7, h70, hgr, hhd, hsh, hand, hn, hv0, ho1, Int.reduceLT, Int.toNat_zero, Int.toNat_one, Int.le_refl, Int.zero_le_ofNat, Nat.zero_add, Int.toNat_natCast, convertM, T.asArr, T.tg, tgL, dnT, indexAddrM, wk, wl, eq_self, isCall, callT, opM, S.ev, S.put, entryS, thawAL, thawA, RM.run, RM.bind, RM.ofOpt, allocs, Heap.ups, Heap.put, Heap.at, List.replicate, Nat.reduceAdd, Nat.reduceSub, ofConst, nilAs, if_false, if_true, binT, binTy, unT, guardT, pickT, quietK, stripT, openT, reduceIte, boxM, allocM, loadM, storeM, fieldAddrM, lenT, extractT, subM, setOb, T.get, T.setp, T.offs, T.nw, nwL, T.cel, T.isNd, T.size, sizeL, TyI.agg, Ty.agg, Ty.isFn, zeroT, Nat.reduceLT, Nat.reduceEqDiff, sumT, kill, Y3, Y4, Y5, Y22, Y160]; clear hk8; first | subst hy1 | (try simp only [thenS, blockS, if_true, if_false, Nat.reduceEqDiff, reduceIte])))
            | exact absurd trivial hb
            | exact absurd hb (by decide)
            | exact absurd hcc (by decide)
            | refine SW.seq ?_
            | refine SW.block ?_
            | (refine SW.cond rfl (fun hcc => ?_) (fun hcc => ?_))
            | (refine SW.exit ?_; simp only [thenS, blockS, if_true, if_false, Nat.reduceEqDiff, reduceIte])
            | (refine SW.skip ?_; simp only [thenS, blockS])
            | refine SW.ret (show RetQ _ _ _ _ _ _ _ from ⟨.inr rfl, [_, _, _], [0, 0, 0], [_, _, _], _, rfl, rfl, rfl, rfl, rfl, ?_⟩)
          all_goals (first | rfl | (simp [tupOf, fixEs, hkz, hz]; done))
        · rw [hok] at hI2
          rw [show decide (M % 2 = 1) = false by simp [ho]] at ho1
          rw [show decide (k ≠ 0) = false by simp [hkz]] at hk0
          rw [show decide (v.toNat = 0) = true by simp [hz]] at hv0
          have hn := unz_e M ho
          repeat' first
            | ((have hk8 := Nat.add_zero); (first | refine SW.ops_seq hY fun y1 hy1 => ?_ | refine SW.ops hY ?_ | refine SW.draw_seq hY mixed (by kernel_rfl) fun y1 hy1 => ?_ | refine SW.draw hY mixed (by kernel_rfl) ?_ | refine vcall_x [] (hI2) (hK := ?_) | (simp only [k8]; refine ⟨fun hb => ?_, fun hb => ?_⟩ <;> (try replace hb := Bool.eq_false_iff.2 hb) <;> (first | exact absurd hb (by decide) | replace hk8 := hb))) <;> (simp only [hk8, hw0, ha0, hk0, h6d, hal, hkl, hgb, hbi, h127, hwk, hw1, hw7, hu7, h70, hgr, hhd, hsh, hand, hn, hv0, ho1, Int.reduceLT, Int.toNat_zero, Int.toNat_one, Int.le_refl, Int.zero_le_ofNat, Nat.zero_add, Int.toNat_natCast, convertM, T.asArr, T.tg, tgL, dnT, indexAddrM, wk, wl, eq_self, isCall, callT, opM, S.ev, S.put, entryS, thawAL, thawA, RM.run, RM.bind, RM.ofOpt, allocs, Heap.ups, Heap.put, Heap.at, List.replicate, Nat.reduceAdd, Nat.reduceSub, ofConst, nilAs, if_false, if_true, binT, binTy, unT, guardT, pickT, quietK, stripT, openT, reduceIte, boxM, allocM, loadM, storeM, fieldAddrM, lenT, extractT, subM, setOb, T.get, T.setp, T.offs, T.nw, nwL, T.cel, T.isNd, T.size, sizeL, TyI.agg, Ty.agg, Ty.isFn, zeroT, Nat.reduceLT, Nat.reduceEqDiff, sumT, kill, Y3, Y4, Y5, Y22, Y160]; clear hk8; first | subst hy1 | (try simp only [thenS, blockS, if_true, if_false, Nat.reduceEqDiff, reduceIte])))
            | exact absurd trivial hb
            | exact absurd hb (by decide)
            | exact absurd hcc (by decide)
            | refine SW.seq ?_
            | refine SW.block ?_
            | (refine SW.cond rfl (fun hcc => ?_) (fun hcc => ?_))
            | (refine SW.exit ?_; simp only [thenS, blockS, if_true, if_false, Nat.reduceEqDiff, reduceIte])
            | (refine SW.skip ?_; simp only [thenS, blockS])
            | refine SW.ret (show RetQ _ _ _ _ _ _ _ from ⟨.inr rfl, [_, _, _], [0, 0, 0], [_, _, _], _, rfl, rfl, rfl, rfl, rfl, ?_⟩)
          all_goals (first | rfl | (simp [tupOf, fixEs, hkz, hz]; done))
        · rw [hok] at hI2
          rw [show decide (M % 2 = 1) = false by simp [ho]] at ho1
          rw [show decide (k ≠ 0) = false by simp [hkz]] at hk0
          rw [show decide (v.toNat = 0) = false by simp [hz]] at hv0
          have hn := unz_e M ho
          repeat' first
            | ((have hk8 := Nat.add_zero); (first | refine SW.ops_seq hY fun y1 hy1 => ?_ | refine SW.ops hY ?_ | refine SW.draw_seq hY mixed (by kernel_rfl) fun y1 hy1 => ?_ | refine SW.draw hY mixed (by kernel_rfl) ?_ | refine vcall_x [] (hI2) (hK := ?_) | (simp only [k8]; refine ⟨fun hb => ?_, fun hb => ?_⟩ <;> (try replace hb := Bool.eq_false_iff.2 hb) <;> (first | exact absurd hb (by decide) | replace hk8 := hb))) <;> (simp only [hk8, hw0, ha0, hk0, h6d, hal, hkl, hgb, hbi, h127, hwk, hw1, hw7, hu7, h70, hgr, hhd, hsh, hand, hn, hv0, ho1, Int.reduceLT, Int.toNat_zero, Int.toNat_one, Int.le_refl, Int.zero_le_ofNat, Nat.zero_add, Int.toNat_natCast, convertM, T.asArr, T.tg, tgL, dnT, indexAddrM, wk, wl, eq_self, isCall, callT, opM, S.ev, S.put, entryS, thawAL, thawA, RM.run, RM.bind, RM.ofOpt, allocs, Heap.ups, Heap.put, Heap.at, List.replicate, Nat.reduceAdd, Nat.reduceSub, ofConst, nilAs, if_false, if_true, binT, binTy, unT, guardT, pickT, quietK, stripT, openT, reduceIte, boxM, allocM, loadM, storeM, fieldAddrM, lenT, extractT, subM, setOb, T.get, T.setp, T.offs, T.nw, nwL, T.cel, T.isNd, T.size, sizeL, TyI.agg, Ty.agg, Ty.isFn, zeroT, Nat.reduceLT, Nat.reduceEqDiff, sumT, kill, Y3, Y4, Y5, Y22, Y160]; clear hk8; first | subst hy1 | (try simp only [thenS, blockS, if_true, if_false, Nat.reduceEqDiff, reduceIte])))
            | exact absurd trivial hb
            | exact absurd hb (by decide)
            | exact absurd hcc (by decide)
            | refine SW.seq ?_
            | refine SW.block ?_
            | (refine SW.cond rfl (fun hcc => ?_) (fun hcc => ?_))
            | (refine SW.exit ?_; simp only [thenS, blockS, if_true, if_false, Nat.reduceEqDiff, reduceIte])
            | (refine SW.skip ?_; simp only [thenS, blockS])
            | refine SW.ret (show RetQ _ _ _ _ _ _ _ from ⟨.inr rfl, [_, _, _], [0, 0, 0], [_, _, _], _, rfl, rfl, rfl, rfl, rfl, ?_⟩)
          all_goals (first | rfl | (simp [tupOf, fixEs, hkz, hz]; done))
        · rw [hok] at hI2
          rw [show decide (M % 2 = 1) = false by simp [ho]] at ho1
          rw [show decide (k ≠ 0) = true by simp [hkz]] at hk0
          rw [show decide (v.toNat = 0) = true by simp [hz]] at hv0
          have hn := unz_e M ho
          repeat' first
            | ((have hk8 := Nat.add_zero); (first | refine SW.ops_seq hY fun y1 hy1 => ?_ | refine SW.ops hY ?_ | refine SW.draw_seq hY mixed (by kernel_rfl) fun y1 hy1 => ?_ | refine SW.draw hY mixed (by kernel_rfl) ?_ | refine vcall_x [] (hI2) (hK := ?_) | (simp only [k8]; refine ⟨fun hb => ?_, fun hb => ?_⟩ <;> (try replace hb := Bool.eq_false_iff.2 hb) <;> (first | exact absurd hb (by decide) | replace hk8 := hb))) <;> (simp only [hk8, hw0, ha0, hk0, h6d, hal, hkl, hgb, hbi, h127, hwk, hw1, hw7, hu7, h70, hgr, hhd, hsh, hand, hn, hv0, ho1, Int.reduceLT, Int.toNat_zero, Int.toNat_one, Int.le_refl, Int.zero_le_ofNat, Nat.zero_add, Int.toNat_natCast, convertM, T.asArr, T.tg, tgL, dnT, indexAddrM, wk, wl, eq_self, isCall, callT, opM, S.ev, S.put, entryS, thawAL, thawA, RM.run, RM.bind, RM.ofOpt, allocs, Heap.ups, Heap.put, Heap.at, List.replicate, Nat.reduceAdd, Nat.reduceSub, ofConst, nilAs, if_false, if_true, binT, binTy, unT, guardT, pickT, quietK, stripT, openT, reduceIte, boxM, allocM, loadM, storeM, fieldAddrM, lenT, extractT, subM, setOb, T.get, T.setp, T.offs, T.nw, nwL, T.cel, T.isNd, T.size, sizeL, TyI.agg, Ty.agg, Ty.isFn, zeroT, Nat.reduceLT, Nat.reduceEqDiff, sumT, kill, Y3, Y4, Y5, Y22, Y160]; clear hk8; first | subst hy1 | (try simp only [thenS, blockS, if_true, if_false, Nat.reduceEqDiff, reduceIte])))
            | exact absurd trivial hb
            | exact absurd hb (by decide)
            | exact absurd hcc (by decide)
            | refine SW.seq ?_
            | refine SW.block ?_
            | (refine SW.cond rfl (fun hcc => ?_) (fun hcc => ?_))
            | (refine SW.exit ?_; simp only [thenS, blockS, if_true, if_false, Nat.reduceEqDiff, reduceIte])
            | (refine SW.skip ?_; simp only [thenS, blockS])
            | refine SW.ret (show RetQ _ _ _ _ _ _ _ from ⟨.inr rfl, [_, _, _], [0, 0, 0], [_, _, _], _, rfl, rfl, rfl, rfl, rfl, ?_⟩)
          all_goals (first | rfl | (simp [tupOf, fixEs, hkz, hz]; done))
        · rw [hok] at hI2
          rw [show decide (M % 2 = 1) = false by simp [ho]] at ho1
          rw [show decide (k ≠ 0) = true by simp [hkz]] at hk0
          rw [show decide (v.toNat = 0) = false by simp [hz]] at hv0
          have hn := unz_e M ho
          repeat' first
            | ((have hk8 := Nat.add_zero); (first | refine SW.ops_seq hY fun y1 hy1 => ?_ | refine SW.ops hY ?_ | refine SW.draw_seq hY mixed (by kernel_rfl) fun y1 hy1 => ?_ | refine SW.draw hY mixed (by kernel_rfl) ?_ | refine vcall_x [] (hI2) (hK := ?_) | (simp only [k8]; refine ⟨fun hb => ?_, fun hb => ?_⟩ <;> (try replace hb := Bool.eq_false_iff.2 hb) <;> (first | exact absurd hb (by decide) | replace hk8 := hb))) <;> (simp only [hk8, hw0, ha0, hk0, h6d, hal, hkl, hgb, hbi, h127, hwk, hw1, hw7, hu7, h70, hgr, hhd, hsh, hand, hn, hv0, ho1, Int.reduceLT, Int.toNat_zero, Int.toNat_one, Int.le_refl, Int.zero_le_ofNat, Nat.zero_add, Int.toNat_natCast, convertM, T.asArr, T.tg, tgL, dnT, indexAddrM, wk, wl, eq_self, isCall, callT, opM, S.ev, S.put, entryS, thawAL, thawA, RM.run, RM.bind, RM.ofOpt, allocs, Heap.ups, Heap.put, Heap.at, List.replicate, Nat.reduceAdd, Nat.reduceSub, ofConst, nilAs, if_false, if_true, binT, binTy, unT, guardT, pickT, quietK, stripT, openT, reduceIte, boxM, allocM, loadM, storeM, fieldAddrM, lenT, extractT, subM, setOb, T.get, T.setp, T.offs, T.nw, nwL, T.cel, T.isNd, T.size, sizeL, TyI.agg, Ty.agg, Ty.isFn, zeroT, Nat.reduceLT, Nat.reduceEqDiff, sumT, kill, Y3, Y4, Y5, Y22, Y160]; clear hk8; first | subst hy1 | (try simp only [thenS, blockS, if_true, if_false, Nat.reduceEqDiff, reduceIte])))
            | exact absurd trivial hb
            | exact absurd hb (by decide)
            | exact absurd hcc (by decide)
            | refine SW.seq ?_
            | refine SW.block ?_
            | (refine SW.cond rfl (fun hcc => ?_) (fun hcc => ?_))
            | (refine SW.exit ?_; simp only [thenS, blockS, if_true, if_false, Nat.reduceEqDiff, reduceIte])
            | (refine SW.skip ?_; simp only [thenS, blockS])
            | refine SW.ret (show RetQ _ _ _ _ _ _ _ from ⟨.inr rfl, [_, _, _], [0, 0, 0], [_, _, _], _, rfl, rfl, rfl, rfl, rfl, ?_⟩)
          all_goals (first | rfl | (simp [tupOf, fixEs, hkz, hz]; done))
    · have hge : a + k = l.length := by omega
      have hkl : decide (((a + k : Nat) : Int) < (l.length : Int)) = false := by simp; omega
      rw [hge, List.drop_length] at hg
      have hR : getR l a = (0, 0, false) := by unfold getR; rw [← hg]; rfl
      rw [hR]
      by_cases hz : a < l.length
      · have hal : decide ((a : Int) < (l.length : Int)) = true := by simp; omega
        repeat' first
          | ((have hk8 := Nat.add_zero); (first | refine SW.ops_seq hY fun y1 hy1 => ?_ | refine SW.ops hY ?_ | refine SW.draw_seq hY mixed (by kernel_rfl) fun y1 hy1 => ?_ | refine SW.draw hY mixed (by kernel_rfl) ?_ | (simp only [k8]; refine ⟨fun hb => ?_, fun hb => ?_⟩ <;> (try replace hb := Bool.eq_false_iff.2 hb) <;> (first | exact absurd hb (by decide) | replace hk8 := hb))) <;> (simp only [hk8, hw0, ha0, h6d, hal, hkl, convertM, T.asArr, T.tg, tgL, dnT, indexAddrM, wk, wl, eq_self, isCall, callT, opM, S.ev, S.put, entryS, thawAL, thawA, RM.run, RM.bind, RM.ofOpt, allocs, Heap.ups, Heap.put, Heap.at, List.replicate, Nat.reduceAdd, Nat.reduceSub, ofConst, nilAs, if_false, if_true, binT, binTy, unT, guardT, pickT, quietK, stripT, openT, reduceIte, boxM, allocM, loadM, storeM, fieldAddrM, lenT, extractT, subM, setOb, T.get, T.setp, T.offs, T.nw, nwL, T.cel, T.isNd, T.size, sizeL, TyI.agg, Ty.agg, Ty.isFn, zeroT, Nat.reduceLT, Nat.reduceEqDiff, sumT, kill, Y3, Y4, Y5, Y22, Y160]; clear hk8; first | subst hy1 | (try simp only [thenS, blockS, if_true, if_false, Nat.reduceEqDiff, reduceIte])))
          | exact absurd trivial hb
          | exact absurd hb (by decide)
          | exact absurd hcc (by decide)
          | refine SW.seq ?_
          | refine SW.block ?_
          | (refine SW.cond rfl (fun hcc => ?_) (fun hcc => ?_))
          | (refine SW.exit ?_; simp only [thenS, blockS, if_true, if_false, Nat.reduceEqDiff, reduceIte])
          | (refine SW.skip ?_; simp only [thenS, blockS])
          | refine SW.ret (show RetQ _ _ _ _ _ _ _ from ⟨.inr rfl, [_, _, _], [0, 0, 0], [_, _, _], _, rfl, rfl, rfl, rfl, rfl, ?_⟩)
        all_goals (first | rfl | (simp [tupOf, fixEs]; done))
      · have hal : decide ((a : Int) < (l.length : Int)) = false := by simp; omega
        repeat' first
          | ((have hk8 := Nat.add_zero); (first | refine SW.ops_seq hY fun y1 hy1 => ?_ | refine SW.ops hY ?_ | refine SW.draw_seq hY mixed (by kernel_rfl) fun y1 hy1 => ?_ | refine SW.draw hY mixed (by kernel_rfl) ?_ | (simp only [k8]; refine ⟨fun hb => ?_, fun hb => ?_⟩ <;> (try replace hb := Bool.eq_false_iff.2 hb) <;> (first | exact absurd hb (by decide) | replace hk8 := hb))) <;> (simp only [hk8, hw0, ha0, h6d, hal, hkl, convertM, T.asArr, T.tg, tgL, dnT, indexAddrM, wk, wl, eq_self, isCall, callT, opM, S.ev, S.put, entryS, thawAL, thawA, RM.run, RM.bind, RM.ofOpt, allocs, Heap.ups, Heap.put, Heap.at, List.replicate, Nat.reduceAdd, Nat.reduceSub, ofConst, nilAs, if_false, if_true, binT, binTy, unT, guardT, pickT, quietK, stripT, openT, reduceIte, boxM, allocM, loadM, storeM, fieldAddrM, lenT, extractT, subM, setOb, T.get, T.setp, T.offs, T.nw, nwL, T.cel, T.isNd, T.size, sizeL, TyI.agg, Ty.agg, Ty.isFn, zeroT, Nat.reduceLT, Nat.reduceEqDiff, sumT, kill, Y3, Y4, Y5, Y22, Y160]; clear hk8; first | subst hy1 | (try simp only [thenS, blockS, if_true, if_false, Nat.reduceEqDiff, reduceIte])))
          | exact absurd trivial hb
          | exact absurd hb (by decide)
          | exact absurd hcc (by decide)
          | refine SW.seq ?_
          | refine SW.block ?_
          | (refine SW.cond rfl (fun hcc => ?_) (fun hcc => ?_))
          | (refine SW.exit ?_; simp only [thenS, blockS, if_true, if_false, Nat.reduceEqDiff, reduceIte])
          | (refine SW.skip ?_; simp only [thenS, blockS])
          | refine SW.ret (show RetQ _ _ _ _ _ _ _ from ⟨.inr rfl, [_, _, _], [0, 0, 0], [_, _, _], _, rfl, rfl, rfl, rfl, rfl, ?_⟩)
        all_goals (first | rfl | (simp [tupOf, fixEs]; done))
  · have h6d : decide ((k : Int) < 6) = false := by simp; omega
    have hR : getR l a = (0, 0, false) := by
      unfold getR; rw [← hg]
      cases hdr : l.drop (a + k) with
      | nil => rfl
      | cons v r => rw [dec, if_pos (by omega)]
    rw [hR]
    repeat' first
      | ((have hk8 := Nat.add_zero); (first | refine SW.ops_seq hY fun y1 hy1 => ?_ | refine SW.ops hY ?_ | refine SW.draw_seq hY mixed (by kernel_rfl) fun y1 hy1 => ?_ | refine SW.draw hY mixed (by kernel_rfl) ?_ | (simp only [k8]; refine ⟨fun hb => ?_, fun hb => ?_⟩ <;> (try replace hb := Bool.eq_false_iff.2 hb) <;> (first | exact absurd hb (by decide) | replace hk8 := hb))) <;> (simp only [hk8, hw0, ha0, h6d, convertM, T.asArr, T.tg, tgL, dnT, indexAddrM, wk, wl, eq_self, isCall, callT, opM, S.ev, S.put, entryS, thawAL, thawA, RM.run, RM.bind, RM.ofOpt, allocs, Heap.ups, Heap.put, Heap.at, List.replicate, Nat.reduceAdd, Nat.reduceSub, ofConst, nilAs, if_false, if_true, binT, binTy, unT, guardT, pickT, quietK, stripT, openT, reduceIte, boxM, allocM, loadM, storeM, fieldAddrM, lenT, extractT, subM, setOb, T.get, T.setp, T.offs, T.nw, nwL, T.cel, T.isNd, T.size, sizeL, TyI.agg, Ty.agg, Ty.isFn, zeroT, Nat.reduceLT, Nat.reduceEqDiff, sumT, kill, Y3, Y4, Y5, Y22, Y160]; clear hk8; first | subst hy1 | (try simp only [thenS, blockS, if_true, if_false, Nat.reduceEqDiff, reduceIte])))
      | exact absurd trivial hb
      | exact absurd hb (by decide)
      | exact absurd hcc (by decide)
      | refine SW.seq ?_
      | refine SW.block ?_
      | (refine SW.cond rfl (fun hcc => ?_) (fun hcc => ?_))
      | (refine SW.exit ?_; simp only [thenS, blockS, if_true, if_false, Nat.reduceEqDiff, reduceIte])
      | (refine SW.skip ?_; simp only [thenS, blockS])
      | refine SW.ret (show RetQ _ _ _ _ _ _ _ from ⟨.inr rfl, [_, _, _], [0, 0, 0], [_, _, _], _, rfl, rfl, rfl, rfl, rfl, ?_⟩)
    all_goals (first | rfl | (simp [tupOf, fixEs]; done))
end Q5

namespace Q5
open Go Go.Vm Go.Proofs
set_option maxHeartbeats 4000000
set_option synthInstance.maxSize 2000
set_option synthInstance.maxHeartbeats 400000
set_option maxRecDepth 10000
set_option linter.unusedSimpArgs false
set_option linter.unusedVariables false

theorem laws_toIntS_ok (l : List Int) (hl : Enc.lim 1048576 l) : CallR Try.prog 178 [.sl .b (l.map Enc.b)] [] (.ow 1 (l.map Enc.o)) := by
  refine CallR.of_body (n := 22) (rs := [.tmp 2]) hY.ok Try.func178 rfl (by decide) rfl rfl rfl rfl (fun F => ?_)
  have hl1 : l.length ≤ 1048576 := hl.1
  repeat' first
    | ((have hk8 := Nat.add_zero); (first | refine SW.ops_seq hY fun y1 hy1 => ?_ | refine SW.ops hY ?_ | (simp only [k8]; refine ⟨fun hb => ?_, fun hb => ?_⟩ <;> (try replace hb := Bool.eq_false_iff.2 hb) <;> (first | exact absurd hb (by decide) | replace hk8 := hb))) <;> (simp only [hk8, mk_fill _ 27 l hl.1 (.int .i64 0) 1 8 _ Y27 Y3 rfl rfl (by decide), T.asArr, T.tg, tgL, dnT, indexAddrM, wk, wl, eq_self, isCall, callT, opM, S.ev, S.put, entryS, thawAL, thawA, RM.run, RM.bind, RM.ofOpt, allocs, Heap.ups, Heap.put, Heap.at, List.replicate, Nat.reduceAdd, Nat.reduceSub, ofConst, nilAs, if_false, if_true, binT, binTy, unT, guardT, pickT, quietK, stripT, openT, reduceIte, boxM, allocM, loadM, storeM, fieldAddrM, lenT, extractT, subM, setOb, T.get, T.setp, T.offs, T.nw, nwL, T.cel, T.isNd, T.size, sizeL, TyI.agg, Ty.agg, Ty.isFn, zeroT, Nat.reduceLT, Nat.reduceEqDiff, sumT, kill, Y3, Y4, Y27]; clear hk8; first | subst hy1 | (try simp only [thenS, blockS, if_true, if_false, Nat.reduceEqDiff, reduceIte])))
    | exact absurd trivial hb
    | exact absurd hb (by decide)
    | exact absurd hcc (by decide)
    | refine SW.seq ?_
    | refine SW.block ?_
    | (refine SW.exit ?_; simp only [thenS, blockS, if_true, if_false, Nat.reduceEqDiff, reduceIte])
    | (refine SW.skip ?_; simp only [thenS, blockS])
  refine SW.loop (fun i : Nat => ⟨[.sl .b (l.map Enc.b), .undef, .undef, .ref 1 0 0 l.length, .int .i64 i, .undef, .undef, .undef, .undef, .undef, .undef, .undef, .undef, .undef, .undef, .undef, .undef, .undef, .undef, .undef, .undef, .undef], [[], [.arr 1 (fillG (.int .i64 0) l i) false]]⟩)
    (fun n i => n = l.length - i ∧ i ≤ l.length) (n := l.length) (x := 0) (Norm.to 0 rfl (by simp [weakL])) ⟨rfl, Nat.zero_le _⟩ ?_
  rintro n i ⟨hn, hi⟩
  repeat' first
    | (refine SW.ops_seq hY fun y1 hy1 => ?_; simp only [T.asArr, T.tg, tgL, dnT, indexAddrM, wk, wl, eq_self, isCall, callT, opM, S.ev, S.put, entryS, thawAL, thawA, RM.run, RM.bind, RM.ofOpt, allocs, Heap.ups, Heap.put, Heap.at, List.replicate, Nat.reduceAdd, Nat.reduceSub, ofConst, nilAs, if_false, if_true, binT, binTy, unT, guardT, pickT, quietK, stripT, openT, reduceIte, boxM, allocM, loadM, storeM, fieldAddrM, lenT, extractT, subM, setOb, T.get, T.setp, T.offs, T.nw, nwL, T.cel, T.isNd, T.size, sizeL, TyI.agg, Ty.agg, Ty.isFn, zeroT, Nat.reduceLT, Nat.reduceEqDiff, sumT, kill, Y3, Y4, Y27]; subst hy1)
    | refine SW.seq ?_
  refine SW.cond rfl (fun hc => ?_) (fun hc => ?_)
  · have hlt : i < l.length := by simpa using hc
    have hltI : (i : Int) < (l.length : Int) := by omega
    have hg : (l.map Enc.b)[i]? = some (.int .i64 l[i]) := map_get Enc.b l i hlt
    have hf : (fillG (.int .i64 0) l i)[i]? = some (.int .i64 0) := fill_get _ l i hlt
    have hfl : (fillG (.int .i64 0) l i).length = l.length := fill_len _ l i hi
    repeat' first
      | ((have hk8 := Nat.add_zero); (first | refine SW.ops_seq hY fun y1 hy1 => ?_ | refine SW.ops hY ?_ | (simp only [k8]; refine ⟨fun hb => ?_, fun hb => ?_⟩ <;> (try replace hb := Bool.eq_false_iff.2 hb) <;> (first | exact absurd hb (by decide) | replace hk8 := hb))) <;> (simp only [hk8, hg, hf, hfl, hltI, Nat.zero_add, T.asArr, T.tg, tgL, dnT, indexAddrM, wk, wl, eq_self, isCall, callT, opM, S.ev, S.put, entryS, thawAL, thawA, RM.run, RM.bind, RM.ofOpt, allocs, Heap.ups, Heap.put, Heap.at, List.replicate, Nat.reduceAdd, Nat.reduceSub, ofConst, nilAs, if_false, if_true, binT, binTy, unT, guardT, pickT, quietK, stripT, openT, reduceIte, boxM, allocM, loadM, storeM, fieldAddrM, lenT, extractT, subM, setOb, T.get, T.setp, T.offs, T.nw, nwL, T.cel, T.isNd, T.size, sizeL, TyI.agg, Ty.agg, Ty.isFn, zeroT, Nat.reduceLT, Nat.reduceEqDiff, sumT, kill, Y3, Y4, Y27]; clear hk8; first | subst hy1 | (try simp only [thenS, blockS, if_true, if_false, Nat.reduceEqDiff, reduceIte])))
      | exact absurd trivial hb
      | exact absurd hb (by decide)
      | exact absurd hcc (by decide)
      | refine SW.seq ?_
      | refine SW.block ?_
      | (refine SW.cond rfl (fun hcc => ?_) (fun hcc => ?_))
      | (refine SW.exit ?_; simp only [thenS, blockS, if_true, if_false, Nat.reduceEqDiff, reduceIte])
      | (refine SW.skip ?_; simp only [thenS, blockS])
    refine ⟨n - 1, i + 1, by omega, ⟨by omega, by omega⟩, ?_⟩
    rw [wrap64 _ (by omega) (by omega)]
    refine Norm.trans (Norm.fill (l := l) 1 0 rfl hlt (by first | rfl | (simp [soakS, soakL, Heap.at, Heap.put]; rfl))) ?_
    refine Norm.re [0, 1] (by decide) rfl ?_ (by simp [tmFits, T.ren])
    first | (simp [heapFits, rowFits, obFits, soakS, soakL, Heap.at, Heap.put]; exact renL_fill _ _ _ _ rfl) | exact ⟨trivial, ⟨rfl, rfl, renL_fill _ _ _ _ rfl⟩, trivial⟩
  · have hge : i = l.length := by
      have : ¬ i < l.length := by simpa using hc
      omega
    subst hge
    repeat' first
      | ((have hk8 := Nat.add_zero); (first | refine SW.ops_seq hY fun y1 hy1 => ?_ | refine SW.ops hY ?_ | (simp only [k8]; refine ⟨fun hb => ?_, fun hb => ?_⟩ <;> (try replace hb := Bool.eq_false_iff.2 hb) <;> (first | exact absurd hb (by decide) | replace hk8 := hb))) <;> (simp only [hk8, T.asArr, T.tg, tgL, dnT, indexAddrM, wk, wl, eq_self, isCall, callT, opM, S.ev, S.put, entryS, thawAL, thawA, RM.run, RM.bind, RM.ofOpt, allocs, Heap.ups, Heap.put, Heap.at, List.replicate, Nat.reduceAdd, Nat.reduceSub, ofConst, nilAs, if_false, if_true, binT, binTy, unT, guardT, pickT, quietK, stripT, openT, reduceIte, boxM, allocM, loadM, storeM, fieldAddrM, lenT, extractT, subM, setOb, T.get, T.setp, T.offs, T.nw, nwL, T.cel, T.isNd, T.size, sizeL, TyI.agg, Ty.agg, Ty.isFn, zeroT, Nat.reduceLT, Nat.reduceEqDiff, sumT, kill, Y3, Y4, Y27]; clear hk8; first | subst hy1 | (try simp only [thenS, blockS, if_true, if_false, Nat.reduceEqDiff, reduceIte])))
      | exact absurd trivial hb
      | exact absurd hb (by decide)
      | exact absurd hcc (by decide)
      | refine SW.seq ?_
      | refine SW.block ?_
      | (refine SW.cond rfl (fun hcc => ?_) (fun hcc => ?_))
      | (refine SW.exit ?_; simp only [thenS, blockS, if_true, if_false, Nat.reduceEqDiff, reduceIte])
      | (refine SW.skip ?_; simp only [thenS, blockS])
    refine SW.ret (show RetQ _ _ _ _ _ _ _ from ⟨.inr rfl, [.ref 1 0 0 l.length], [1], [.ow 1 (l.map Enc.o)], [[], [.gone]], ⟨rfl, ?_, rfl, ?_, rfl, rfl⟩⟩)
    · simp [pass1, modeOf, giveS, Heap.at, Heap.put, fill_all, fixEs, ioAt, ioAtT, ioKs, ioKT, ioM, ioT, T.cel, T.clo, T.cloA, cloAL]
    · simp [cloL, T.clo, T.clP, clPL]
theorem laws_toObj_ok (x : (Int × (List Int) × (List Int) × Unit)) (hx : Enc.lim 1048576 x) : CallR Try.prog 145 [.nd [.int .i64 x.1, .sl .b (x.2.1.map Enc.b), .sl .b (x.2.2.1.map Enc.b)]] [] (.nd [.int .i64 x.1, .ow 1 (x.2.1.map Enc.o), .ow 1 (x.2.2.1.map Enc.o)]) := by
  refine CallR.of_body (n := 16) (rs := [.cell 2 30]) hY.ok Try.func145 rfl (by decide) rfl rfl rfl rfl (fun F => ?_)
  repeat' first
    | ((have hk8 := Nat.add_zero); (first | refine SW.ops_seq hY fun y1 hy1 => ?_ | refine SW.ops hY ?_ | refine vcall_x [] (laws_toIntS_ok x.2.1 hx.2.1) (hK := ?_) | refine vcall_x [] (laws_toIntS_ok x.2.2.1 hx.2.2.1) (hK := ?_) | (simp only [k8]; refine ⟨fun hb => ?_, fun hb => ?_⟩ <;> (try replace hb := Bool.eq_false_iff.2 hb) <;> (first | exact absurd hb (by decide) | replace hk8 := hb))) <;> (simp only [hk8, T.asArr, T.tg, tgL, dnT, indexAddrM, wk, wl, eq_self, isCall, callT, opM, S.ev, S.put, entryS, thawAL, thawA, RM.run, RM.bind, RM.ofOpt, allocs, Heap.ups, Heap.put, Heap.at, List.replicate, Nat.reduceAdd, Nat.reduceSub, ofConst, nilAs, if_false, if_true, binT, binTy, unT, guardT, pickT, quietK, stripT, openT, reduceIte, boxM, allocM, loadM, storeM, fieldAddrM, lenT, extractT, subM, setOb, T.get, T.setp, T.offs, T.nw, nwL, T.cel, T.isNd, T.size, sizeL, TyI.agg, Ty.agg, Ty.isFn, zeroT, Nat.reduceLT, Nat.reduceEqDiff, sumT, kill, Y1, Y2, Y3, Y27, Y30, Y101]; clear hk8; first | subst hy1 | (try simp only [thenS, blockS, if_true, if_false, Nat.reduceEqDiff, reduceIte])))
    | exact absurd trivial hb
    | exact absurd hb (by decide)
    | exact absurd hcc (by decide)
    | refine SW.seq ?_
    | refine SW.block ?_
    | (refine SW.cond rfl (fun hcc => ?_) (fun hcc => ?_))
    | (refine SW.exit ?_; simp only [thenS, blockS, if_true, if_false, Nat.reduceEqDiff, reduceIte])
    | (refine SW.skip ?_; simp only [thenS, blockS])
  refine SW.ret (show RetQ _ _ _ _ _ _ _ from ⟨.inr rfl, _, [0], [.nd [.int .i64 x.1, .ow 1 (x.2.1.map Enc.o), .ow 1 (x.2.2.1.map Enc.o)]], ?_, ⟨rfl, ?_, rfl, ?_, rfl, rfl⟩⟩)
  rotate_left
  · first | rfl | (simp [pass1, modeOf, giveS, giveSL, Heap.at, Heap.put, fixEs, ioAt, ioAtT, ioKs, ioKT, ioM, ioT, T.cel, T.clo, cloL, T.cloA, cloAL]; rfl)
  · first | rfl | simp [cloL, T.clo, T.clP, clPL]
theorem laws_toSlot_ok (x : (Bool × ((Int × (List Int) × (List Int) × Unit)) × Unit)) (hx : Enc.lim 1048576 x) : CallR Try.prog 84 [.nd [.bool x.1, .nd [.int .i64 x.2.1.1, .sl .b (x.2.1.2.1.map Enc.b), .sl .b (x.2.1.2.2.1.map Enc.b)]]] [] (.nd [.bool x.1, .nd [.int .i64 x.2.1.1, .ow 1 (x.2.1.2.1.map Enc.o), .ow 1 (x.2.1.2.2.1.map Enc.o)]]) := by
  refine CallR.of_body (n := 12) (rs := [.cell 2 32]) hY.ok Try.func84 rfl (by decide) rfl rfl rfl rfl (fun F => ?_)
  repeat' first
    | ((have hk8 := Nat.add_zero); (first | refine SW.ops_seq hY fun y1 hy1 => ?_ | refine SW.ops hY ?_ | refine vcall_x [] (laws_toObj_ok x.2.1 hx.2.1) (hK := ?_) | (simp only [k8]; refine ⟨fun hb => ?_, fun hb => ?_⟩ <;> (try replace hb := Bool.eq_false_iff.2 hb) <;> (first | exact absurd hb (by decide) | replace hk8 := hb))) <;> (simp only [hk8, T.asArr, T.tg, tgL, dnT, indexAddrM, wk, wl, eq_self, isCall, callT, opM, S.ev, S.put, entryS, thawAL, thawA, RM.run, RM.bind, RM.ofOpt, allocs, Heap.ups, Heap.put, Heap.at, List.replicate, Nat.reduceAdd, Nat.reduceSub, ofConst, nilAs, if_false, if_true, binT, binTy, unT, guardT, pickT, quietK, stripT, openT, reduceIte, boxM, allocM, loadM, storeM, fieldAddrM, lenT, extractT, subM, setOb, T.get, T.setp, T.offs, T.nw, nwL, T.cel, T.isNd, T.size, sizeL, TyI.agg, Ty.agg, Ty.isFn, zeroT, Nat.reduceLT, Nat.reduceEqDiff, sumT, kill, Y1, Y3, Y4, Y27, Y30, Y32, Y101, Y103]; clear hk8; first | subst hy1 | (try simp only [thenS, blockS, if_true, if_false, Nat.reduceEqDiff, reduceIte])))
    | exact absurd trivial hb
    | exact absurd hb (by decide)
    | exact absurd hcc (by decide)
    | refine SW.seq ?_
    | refine SW.block ?_
    | (refine SW.cond rfl (fun hcc => ?_) (fun hcc => ?_))
    | (refine SW.exit ?_; simp only [thenS, blockS, if_true, if_false, Nat.reduceEqDiff, reduceIte])
    | (refine SW.skip ?_; simp only [thenS, blockS])
  refine SW.ret (show RetQ _ _ _ _ _ _ _ from ⟨.inr rfl, _, [0], [.nd [.bool x.1, .nd [.int .i64 x.2.1.1, .ow 1 (x.2.1.2.1.map Enc.o), .ow 1 (x.2.1.2.2.1.map Enc.o)]]], ?_, ⟨rfl, ?_, rfl, ?_, rfl, rfl⟩⟩)
  rotate_left
  · first | rfl | (simp [pass1, modeOf, giveS, giveSL, Heap.at, Heap.put, fixEs, ioAt, ioAtT, ioKs, ioKT, ioM, ioT, T.cel, T.clo, cloL, T.cloA, cloAL]; rfl)
  · first | rfl | simp [cloL, T.clo, T.clP, clPL]
theorem laws_toSlotS_ok (l : List ((Bool × ((Int × (List Int) × (List Int) × Unit)) × Unit))) (hl : Enc.lim 1048576 l) : CallR Try.prog 26 [.sl .b (l.map Enc.b)] [] (.ow 4 (l.map Enc.o)) := by
  refine CallR.of_body (n := 23) (rs := [.tmp 2]) hY.ok Try.func26 rfl (by decide) rfl rfl rfl rfl (fun F => ?_)
  have hl1 : l.length ≤ 1048576 := hl.1
  repeat' first
    | ((have hk8 := Nat.add_zero); (first | refine SW.ops_seq hY fun y1 hy1 => ?_ | refine SW.ops hY ?_ | (simp only [k8]; refine ⟨fun hb => ?_, fun hb => ?_⟩ <;> (try replace hb := Bool.eq_false_iff.2 hb) <;> (first | exact absurd hb (by decide) | replace hk8 := hb))) <;> (simp only [hk8, mk_fill _ 24 l hl.1 (.nd [.bool false, .nd [.int .i64 0, .nils 1, .nils 1]]) 4 64 _ Y24 Y32 rfl rfl (by decide), T.asArr, T.tg, tgL, dnT, indexAddrM, wk, wl, eq_self, isCall, callT, opM, S.ev, S.put, entryS, thawAL, thawA, RM.run, RM.bind, RM.ofOpt, allocs, Heap.ups, Heap.put, Heap.at, List.replicate, Nat.reduceAdd, Nat.reduceSub, ofConst, nilAs, if_false, if_true, binT, binTy, unT, guardT, pickT, quietK, stripT, openT, reduceIte, boxM, allocM, loadM, storeM, fieldAddrM, lenT, extractT, subM, setOb, T.get, T.setp, T.offs, T.nw, nwL, T.cel, T.isNd, T.size, sizeL, TyI.agg, Ty.agg, Ty.isFn, zeroT, Nat.reduceLT, Nat.reduceEqDiff, sumT, kill, Y3, Y4, Y24, Y27, Y30, Y32, Y41, Y101, Y103]; clear hk8; first | subst hy1 | (try simp only [thenS, blockS, if_true, if_false, Nat.reduceEqDiff, reduceIte])))
    | exact absurd trivial hb
    | exact absurd hb (by decide)
    | exact absurd hcc (by decide)
    | refine SW.seq ?_
    | refine SW.block ?_
    | (refine SW.exit ?_; simp only [thenS, blockS, if_true, if_false, Nat.reduceEqDiff, reduceIte])
    | (refine SW.skip ?_; simp only [thenS, blockS])
  refine SW.loop (fun i : Nat => ⟨[.sl .b (l.map Enc.b), .undef, .undef, .ref 1 0 0 l.length, .int .i64 i, .undef, .undef, .undef, .undef, .undef, .undef, .undef, .undef, .undef, .undef, .undef, .undef, .undef, .undef, .undef, .undef, .undef, .undef], [[], [.arr 4 (fillG (.nd [.bool false, .nd [.int .i64 0, .nils 1, .nils 1]]) l i) false]]⟩)
    (fun n i => n = l.length - i ∧ i ≤ l.length) (n := l.length) (x := 0) (Norm.to 0 rfl (by simp [weakL])) ⟨rfl, Nat.zero_le _⟩ ?_
  rintro n i ⟨hn, hi⟩
  repeat' first
    | (refine SW.ops_seq hY fun y1 hy1 => ?_; simp only [T.asArr, T.tg, tgL, dnT, indexAddrM, wk, wl, eq_self, isCall, callT, opM, S.ev, S.put, entryS, thawAL, thawA, RM.run, RM.bind, RM.ofOpt, allocs, Heap.ups, Heap.put, Heap.at, List.replicate, Nat.reduceAdd, Nat.reduceSub, ofConst, nilAs, if_false, if_true, binT, binTy, unT, guardT, pickT, quietK, stripT, openT, reduceIte, boxM, allocM, loadM, storeM, fieldAddrM, lenT, extractT, subM, setOb, T.get, T.setp, T.offs, T.nw, nwL, T.cel, T.isNd, T.size, sizeL, TyI.agg, Ty.agg, Ty.isFn, zeroT, Nat.reduceLT, Nat.reduceEqDiff, sumT, kill, Y3, Y4, Y24, Y27, Y30, Y32, Y41, Y101, Y103]; subst hy1)
    | refine SW.seq ?_
  refine SW.cond rfl (fun hc => ?_) (fun hc => ?_)
  · have hlt : i < l.length := by simpa using hc
    have hltI : (i : Int) < (l.length : Int) := by omega
    have hg : (l.map Enc.b)[i]? = some (.nd [.bool l[i].1, .nd [.int .i64 l[i].2.1.1, .sl .b (l[i].2.1.2.1.map Enc.b), .sl .b (l[i].2.1.2.2.1.map Enc.b)]]) := map_get Enc.b l i hlt
    have hf : (fillG (.nd [.bool false, .nd [.int .i64 0, .nils 1, .nils 1]]) l i)[i]? = some (.nd [.bool false, .nd [.int .i64 0, .nils 1, .nils 1]]) := fill_get _ l i hlt
    have hfl : (fillG (.nd [.bool false, .nd [.int .i64 0, .nils 1, .nils 1]]) l i).length = l.length := fill_len _ l i hi
    repeat' first
      | ((have hk8 := Nat.add_zero); (first | refine SW.ops_seq hY fun y1 hy1 => ?_ | refine SW.ops hY ?_ | refine vcall_x [] (laws_toSlot_ok l[i] (hl.2 _ (List.getElem_mem hlt))) (hK := ?_) | (simp only [k8]; refine ⟨fun hb => ?_, fun hb => ?_⟩ <;> (try replace hb := Bool.eq_false_iff.2 hb) <;> (first | exact absurd hb (by decide) | replace hk8 := hb))) <;> (simp only [hk8, hg, hf, hfl, hltI, Nat.zero_add, T.asArr, T.tg, tgL, dnT, indexAddrM, wk, wl, eq_self, isCall, callT, opM, S.ev, S.put, entryS, thawAL, thawA, RM.run, RM.bind, RM.ofOpt, allocs, Heap.ups, Heap.put, Heap.at, List.replicate, Nat.reduceAdd, Nat.reduceSub, ofConst, nilAs, if_false, if_true, binT, binTy, unT, guardT, pickT, quietK, stripT, openT, reduceIte, boxM, allocM, loadM, storeM, fieldAddrM, lenT, extractT, subM, setOb, T.get, T.setp, T.offs, T.nw, nwL, T.cel, T.isNd, T.size, sizeL, TyI.agg, Ty.agg, Ty.isFn, zeroT, Nat.reduceLT, Nat.reduceEqDiff, sumT, kill, Y3, Y4, Y24, Y27, Y30, Y32, Y41, Y101, Y103]; clear hk8; first | subst hy1 | (try simp only [thenS, blockS, if_true, if_false, Nat.reduceEqDiff, reduceIte])))
      | exact absurd trivial hb
      | exact absurd hb (by decide)
      | exact absurd hcc (by decide)
      | refine SW.seq ?_
      | refine SW.block ?_
      | (refine SW.cond rfl (fun hcc => ?_) (fun hcc => ?_))
      | (refine SW.exit ?_; simp only [thenS, blockS, if_true, if_false, Nat.reduceEqDiff, reduceIte])
      | (refine SW.skip ?_; simp only [thenS, blockS])
    refine ⟨n - 1, i + 1, by omega, ⟨by omega, by omega⟩, ?_⟩
    rw [wrap64 _ (by omega) (by omega)]
    refine Norm.trans (Norm.fill (l := l) 1 0 rfl hlt (by first | rfl | (simp [soakS, soakL, Heap.at, Heap.put]; rfl))) ?_
    refine Norm.re [0, 1] (by decide) rfl ?_ (by simp [tmFits, T.ren])
    first | (simp [heapFits, rowFits, obFits, soakS, soakL, Heap.at, Heap.put]; exact renL_fill _ _ _ _ rfl) | exact ⟨trivial, ⟨rfl, rfl, renL_fill _ _ _ _ rfl⟩, trivial⟩
  · have hge : i = l.length := by
      have : ¬ i < l.length := by simpa using hc
      omega
    subst hge
    repeat' first
      | ((have hk8 := Nat.add_zero); (first | refine SW.ops_seq hY fun y1 hy1 => ?_ | refine SW.ops hY ?_ | (simp only [k8]; refine ⟨fun hb => ?_, fun hb => ?_⟩ <;> (try replace hb := Bool.eq_false_iff.2 hb) <;> (first | exact absurd hb (by decide) | replace hk8 := hb))) <;> (simp only [hk8, T.asArr, T.tg, tgL, dnT, indexAddrM, wk, wl, eq_self, isCall, callT, opM, S.ev, S.put, entryS, thawAL, thawA, RM.run, RM.bind, RM.ofOpt, allocs, Heap.ups, Heap.put, Heap.at, List.replicate, Nat.reduceAdd, Nat.reduceSub, ofConst, nilAs, if_false, if_true, binT, binTy, unT, guardT, pickT, quietK, stripT, openT, reduceIte, boxM, allocM, loadM, storeM, fieldAddrM, lenT, extractT, subM, setOb, T.get, T.setp, T.offs, T.nw, nwL, T.cel, T.isNd, T.size, sizeL, TyI.agg, Ty.agg, Ty.isFn, zeroT, Nat.reduceLT, Nat.reduceEqDiff, sumT, kill, Y3, Y4, Y24, Y27, Y30, Y32, Y41, Y101, Y103]; clear hk8; first | subst hy1 | (try simp only [thenS, blockS, if_true, if_false, Nat.reduceEqDiff, reduceIte])))
      | exact absurd trivial hb
      | exact absurd hb (by decide)
      | exact absurd hcc (by decide)
      | refine SW.seq ?_
      | refine SW.block ?_
      | (refine SW.cond rfl (fun hcc => ?_) (fun hcc => ?_))
      | (refine SW.exit ?_; simp only [thenS, blockS, if_true, if_false, Nat.reduceEqDiff, reduceIte])
      | (refine SW.skip ?_; simp only [thenS, blockS])
    refine SW.ret (show RetQ _ _ _ _ _ _ _ from ⟨.inr rfl, [.ref 1 0 0 l.length], [4], [.ow 4 (l.map Enc.o)], [[], [.gone]], ⟨rfl, ?_, rfl, ?_, rfl, rfl⟩⟩)
    · simp [pass1, modeOf, giveS, Heap.at, Heap.put, fill_all, fixEs, ioAt, ioAtT, ioKs, ioKT, ioM, ioT, T.cel, T.clo, T.cloA, cloAL]
    · simp [cloL, T.clo, T.clP, clPL]
end Q5

namespace Q5
open Go Go.Vm Go.Proofs
set_option maxHeartbeats 4000000
set_option synthInstance.maxSize 2000
set_option synthInstance.maxHeartbeats 400000
set_option maxRecDepth 10000
set_option linter.unusedSimpArgs false
set_option linter.unusedVariables false


    def intB (n : Int) : Bool := decide (n ≥ -1000000) && decide (n ≤ 1000000)
    def refB (n : Int) : Bool := decide (n ≥ 0) && decide (n ≤ 31)
    def objB (x : (Int × (List Int) × (List Int) × Unit)) : Bool := (decide (x.1 ≥ 1) && decide (x.1 ≤ 99)) && decide (x.2.1.length ≤ 5) && decide (x.2.2.1.length ≤ 5) && x.2.1.all intB && x.2.2.1.all refB
    def noObjB (x : (Int × (List Int) × (List Int) × Unit)) : Bool := decide (x.1 = 0) && decide (x.2.1.length = 0) && decide (x.2.2.1.length = 0)
    def slotB (x : (Bool × ((Int × (List Int) × (List Int) × Unit)) × Unit)) : Bool := if x.1 then objB x.2.1 else noObjB x.2.1
    def viewB (l : List (Bool × ((Int × (List Int) × (List Int) × Unit)) × Unit)) : Bool := decide (l.length = 32) && (match l with | [] => false | s :: _ => !s.1) && l.all slotB
    theorem len0 (l : List Int) : ((l.length : Int) == 0) = decide (l.length = 0) := by
      by_cases h : l.length = 0
      · simp [h]
      · have : ¬ (l.length : Int) = 0 := by omega
        rw [beq_eq_false_iff_ne.2 this]; simp [h]
    theorem len5 (l : List Int) : decide ((l.length : Int) > 5) = !decide (l.length ≤ 5) := by
      by_cases h : l.length ≤ 5
      · have : ¬ (l.length : Int) > 5 := by omega
        simp [h, this]
      · have : (l.length : Int) > 5 := by omega
        simp [h, this]
    
theorem obj1_ok (x : Int) : CallR Try.prog 150 [.int .i64 x] [] (.bool (!intB x)) := by
  refine CallR.of_body (n := 6) (rs := [.tmp 2]) hY.ok Try.func150 rfl (by decide) rfl rfl rfl rfl (fun F => ?_)
  repeat' first
    | ((have hk8 := Nat.add_zero); (first | refine SW.ops_seq hY fun y1 hy1 => ?_ | refine SW.ops hY ?_ | refine vcall_x [] (in_ok _ _ _) (hK := ?_) | (simp only [k8]; refine ⟨fun hb => ?_, fun hb => ?_⟩ <;> (try replace hb := Bool.eq_false_iff.2 hb) <;> (first | exact absurd hb (by decide) | replace hk8 := hb))) <;> (simp only [hk8, T.asArr, T.tg, tgL, dnT, indexAddrM, wk, wl, eq_self, isCall, callT, opM, S.ev, S.put, entryS, thawAL, thawA, RM.run, RM.bind, RM.ofOpt, allocs, Heap.ups, Heap.put, Heap.at, List.replicate, Nat.reduceAdd, Nat.reduceSub, ofConst, nilAs, if_false, if_true, binT, binTy, unT, guardT, pickT, quietK, stripT, openT, reduceIte, boxM, allocM, loadM, storeM, fieldAddrM, lenT, extractT, subM, setOb, T.get, T.setp, T.offs, T.nw, nwL, T.cel, T.isNd, T.size, sizeL, TyI.agg, Ty.agg, Ty.isFn, zeroT, Nat.reduceLT, Nat.reduceEqDiff, sumT, kill, Y3, Y4]; clear hk8; first | subst hy1 | (try simp only [thenS, blockS, if_true, if_false, Nat.reduceEqDiff, reduceIte])))
    | exact absurd trivial hb
    | exact absurd hb (by decide)
    | exact absurd hcc (by decide)
    | refine SW.seq ?_
    | refine SW.block ?_
    | (refine SW.cond rfl (fun hcc => ?_) (fun hcc => ?_))
    | (refine SW.exit ?_; simp only [thenS, blockS, if_true, if_false, Nat.reduceEqDiff, reduceIte])
    | (refine SW.skip ?_; simp only [thenS, blockS])
    | refine SW.ret (show RetQ _ _ _ _ _ _ _ from ⟨.inr rfl, [_], [1], [_], _, rfl, rfl, rfl, rfl, rfl, ?_⟩)
  all_goals (simp only [tupOf, fixEs]; rfl)
theorem obj2_ok (x : Int) : CallR Try.prog 151 [.int .i64 x] [] (.bool (!refB x)) := by
  refine CallR.of_body (n := 6) (rs := [.tmp 2]) hY.ok Try.func151 rfl (by decide) rfl rfl rfl rfl (fun F => ?_)
  repeat' first
    | ((have hk8 := Nat.add_zero); (first | refine SW.ops_seq hY fun y1 hy1 => ?_ | refine SW.ops hY ?_ | refine vcall_x [] (in_ok _ _ _) (hK := ?_) | (simp only [k8]; refine ⟨fun hb => ?_, fun hb => ?_⟩ <;> (try replace hb := Bool.eq_false_iff.2 hb) <;> (first | exact absurd hb (by decide) | replace hk8 := hb))) <;> (simp only [hk8, T.asArr, T.tg, tgL, dnT, indexAddrM, wk, wl, eq_self, isCall, callT, opM, S.ev, S.put, entryS, thawAL, thawA, RM.run, RM.bind, RM.ofOpt, allocs, Heap.ups, Heap.put, Heap.at, List.replicate, Nat.reduceAdd, Nat.reduceSub, ofConst, nilAs, if_false, if_true, binT, binTy, unT, guardT, pickT, quietK, stripT, openT, reduceIte, boxM, allocM, loadM, storeM, fieldAddrM, lenT, extractT, subM, setOb, T.get, T.setp, T.offs, T.nw, nwL, T.cel, T.isNd, T.size, sizeL, TyI.agg, Ty.agg, Ty.isFn, zeroT, Nat.reduceLT, Nat.reduceEqDiff, sumT, kill, Y3, Y4]; clear hk8; first | subst hy1 | (try simp only [thenS, blockS, if_true, if_false, Nat.reduceEqDiff, reduceIte])))
    | exact absurd trivial hb
    | exact absurd hb (by decide)
    | exact absurd hcc (by decide)
    | refine SW.seq ?_
    | refine SW.block ?_
    | (refine SW.cond rfl (fun hcc => ?_) (fun hcc => ?_))
    | (refine SW.exit ?_; simp only [thenS, blockS, if_true, if_false, Nat.reduceEqDiff, reduceIte])
    | (refine SW.skip ?_; simp only [thenS, blockS])
    | refine SW.ret (show RetQ _ _ _ _ _ _ _ from ⟨.inr rfl, [_], [1], [_], _, rfl, rfl, rfl, rfl, rfl, ?_⟩)
  all_goals (simp only [tupOf, fixEs]; rfl)
theorem idxInt_ok (l : List Int) (hl : Enc.lim 1048576 l) : CallR Try.prog 140 [.sl .b (l.map Enc.b), .fn 150 [] []] [] (.int .i64 (idxOf (fun x => !intB x) l)) := by
  refine CallR.of_body (n := 19) (rs := [.tmp 4]) hY.ok Try.func140 rfl (by decide) rfl rfl rfl rfl (fun F => ?_)
  have hl1 : l.length ≤ 1048576 := hl.1
  repeat' first
    | ((have hk8 := Nat.add_zero); (first | refine SW.ops_seq hY fun y1 hy1 => ?_ | refine SW.ops hY ?_) <;> (simp only [hk8, T.asArr, T.tg, tgL, dnT, indexAddrM, wk, wl, eq_self, isCall, callT, opM, S.ev, S.put, entryS, thawAL, thawA, RM.run, RM.bind, RM.ofOpt, allocs, Heap.ups, Heap.put, Heap.at, List.replicate, Nat.reduceAdd, Nat.reduceSub, ofConst, nilAs, if_false, if_true, binT, binTy, unT, guardT, pickT, quietK, stripT, openT, reduceIte, boxM, allocM, loadM, storeM, fieldAddrM, lenT, extractT, subM, setOb, T.get, T.setp, T.offs, T.nw, nwL, T.cel, T.isNd, T.size, sizeL, TyI.agg, Ty.agg, Ty.isFn, zeroT, Nat.reduceLT, Nat.reduceEqDiff, sumT, kill, Y3, Y4, Y27, Y87]; clear hk8; first | subst hy1 | (try simp only [thenS, blockS, if_true, if_false, Nat.reduceEqDiff, reduceIte])))
    | exact absurd trivial hb
    | exact absurd hb (by decide)
    | exact absurd hcc (by decide)
    | refine SW.seq ?_
    | refine SW.block ?_
    | (refine SW.exit ?_; simp only [thenS, blockS, if_true, if_false, Nat.reduceEqDiff, reduceIte])
    | (refine SW.skip ?_; simp only [thenS, blockS])
  refine SW.loop (fun i : Nat => ⟨[.sl .b (l.map Enc.b), .fn 150 [] [], .undef, .undef, .undef, .undef, .undef, .int .i64 l.length, .int .i64 i, .undef, .undef, .undef, .undef, .undef, .undef, .undef, .undef, .undef, .undef], [[]]⟩)
    (fun n i => n = l.length - i ∧ i ≤ l.length ∧ ∀ j (h : j < l.length), j < i → (fun x => !intB x) l[j] = false) (n := l.length) (x := 0) (Norm.to 0 rfl (by simp [weakL])) ⟨rfl, Nat.zero_le _, fun j _ h => absurd h (Nat.not_lt_zero _)⟩ ?_
  rintro n i ⟨hn, hi, hp⟩
  repeat' first
    | (refine SW.ops_seq hY fun y1 hy1 => ?_; simp only [T.asArr, T.tg, tgL, dnT, indexAddrM, wk, wl, eq_self, isCall, callT, opM, S.ev, S.put, entryS, thawAL, thawA, RM.run, RM.bind, RM.ofOpt, allocs, Heap.ups, Heap.put, Heap.at, List.replicate, Nat.reduceAdd, Nat.reduceSub, ofConst, nilAs, if_false, if_true, binT, binTy, unT, guardT, pickT, quietK, stripT, openT, reduceIte, boxM, allocM, loadM, storeM, fieldAddrM, lenT, extractT, subM, setOb, T.get, T.setp, T.offs, T.nw, nwL, T.cel, T.isNd, T.size, sizeL, TyI.agg, Ty.agg, Ty.isFn, zeroT, Nat.reduceLT, Nat.reduceEqDiff, sumT, kill, Y3, Y4, Y27, Y87]; subst hy1)
    | refine SW.seq ?_
  refine SW.cond rfl (fun hc => ?_) (fun hc => ?_)
  · have hlt : i < l.length := by simpa using hc
    have hg : (l.map Enc.b)[i]? = some (.int .i64 l[i]) := map_get Enc.b l i hlt
    repeat' first
      | ((have hk8 := Nat.add_zero); (first | refine SW.ops_seq hY fun y1 hy1 => ?_ | refine SW.ops hY ?_ | refine vcall_x [] (obj1_ok l[i]) (hK := ?_) | (simp only [k8]; refine ⟨fun hb => ?_, fun hb => ?_⟩ <;> (try replace hb := Bool.eq_false_iff.2 hb) <;> (first | exact absurd hb (by decide) | replace hk8 := hb))) <;> (simp only [hk8, hg, T.asArr, T.tg, tgL, dnT, indexAddrM, wk, wl, eq_self, isCall, callT, opM, S.ev, S.put, entryS, thawAL, thawA, RM.run, RM.bind, RM.ofOpt, allocs, Heap.ups, Heap.put, Heap.at, List.replicate, Nat.reduceAdd, Nat.reduceSub, ofConst, nilAs, if_false, if_true, binT, binTy, unT, guardT, pickT, quietK, stripT, openT, reduceIte, boxM, allocM, loadM, storeM, fieldAddrM, lenT, extractT, subM, setOb, T.get, T.setp, T.offs, T.nw, nwL, T.cel, T.isNd, T.size, sizeL, TyI.agg, Ty.agg, Ty.isFn, zeroT, Nat.reduceLT, Nat.reduceEqDiff, sumT, kill, Y3, Y4, Y27, Y87]; clear hk8; first | subst hy1 | (try simp only [thenS, blockS, if_true, if_false, Nat.reduceEqDiff, reduceIte])))
      | exact absurd trivial hb
      | exact absurd hb (by decide)
      | exact absurd hcc (by decide)
      | refine SW.seq ?_
      | refine SW.block ?_
      | (refine SW.cond rfl (fun hcc => ?_) (fun hcc => ?_))
      | (refine SW.exit ?_; simp only [thenS, blockS, if_true, if_false, Nat.reduceEqDiff, reduceIte])
      | (refine SW.skip ?_; simp only [thenS, blockS])
      | refine SW.ret (show RetQ _ _ _ _ _ _ _ from ⟨.inr rfl, [_], [1], [_], _, rfl, rfl, rfl, rfl, rfl, ?_⟩)
    · have hx := hcc
      have hx' : (fun x => !intB x) l[i] = true := by simpa using hx
      simp only [tupOf, fixEs, idxOf_eq (fun x => !intB x) l hlt hx' (fun j hj => hp j (by omega) hj)]
    · have hx := hcc
      have hx' : (fun x => !intB x) l[i] = false := by simpa using hx
      refine ⟨n - 1, i + 1, by omega, ⟨by omega, by omega, fun j hj hji => ?_⟩, ?_⟩
      · by_cases he : j = i
        · subst he; exact hx'
        · exact hp j hj (by omega)
      · rw [wrap64 _ (by omega) (by omega)]
        first | exact Norm.to 0 rfl (by simp [weakL]) | exact Norm.to 1 rfl (by simp [weakL]) | exact Norm.to 2 rfl (by simp [weakL])
  · have hge : i = l.length := by
      have : ¬ i < l.length := by simpa using hc
      omega
    repeat' first
      | ((have hk8 := Nat.add_zero); (first | refine SW.ops_seq hY fun y1 hy1 => ?_ | refine SW.ops hY ?_ | (simp only [k8]; refine ⟨fun hb => ?_, fun hb => ?_⟩ <;> (try replace hb := Bool.eq_false_iff.2 hb) <;> (first | exact absurd hb (by decide) | replace hk8 := hb))) <;> (simp only [hk8, T.asArr, T.tg, tgL, dnT, indexAddrM, wk, wl, eq_self, isCall, callT, opM, S.ev, S.put, entryS, thawAL, thawA, RM.run, RM.bind, RM.ofOpt, allocs, Heap.ups, Heap.put, Heap.at, List.replicate, Nat.reduceAdd, Nat.reduceSub, ofConst, nilAs, if_false, if_true, binT, binTy, unT, guardT, pickT, quietK, stripT, openT, reduceIte, boxM, allocM, loadM, storeM, fieldAddrM, lenT, extractT, subM, setOb, T.get, T.setp, T.offs, T.nw, nwL, T.cel, T.isNd, T.size, sizeL, TyI.agg, Ty.agg, Ty.isFn, zeroT, Nat.reduceLT, Nat.reduceEqDiff, sumT, kill, Y3, Y4, Y27, Y87]; clear hk8; first | subst hy1 | (try simp only [thenS, blockS, if_true, if_false, Nat.reduceEqDiff, reduceIte])))
      | exact absurd trivial hb
      | exact absurd hb (by decide)
      | exact absurd hcc (by decide)
      | refine SW.seq ?_
      | refine SW.block ?_
      | (refine SW.cond rfl (fun hcc => ?_) (fun hcc => ?_))
      | (refine SW.exit ?_; simp only [thenS, blockS, if_true, if_false, Nat.reduceEqDiff, reduceIte])
      | (refine SW.skip ?_; simp only [thenS, blockS])
      | refine SW.ret (show RetQ _ _ _ _ _ _ _ from ⟨.inr rfl, [_], [1], [_], _, rfl, rfl, rfl, rfl, rfl, ?_⟩)
    simp only [tupOf, fixEs, idxOf_none (fun x => !intB x) l (fun j hj => hp j hj (by omega))]
theorem anyInt_ok (l : List Int) (hl : Enc.lim 1048576 l) : CallR Try.prog 76 [.sl .b (l.map Enc.b), .fn 150 [] []] [] (.bool (l.any (fun x => !intB x))) := by
  refine CallR.of_body (n := 9) (rs := [.tmp 4]) hY.ok Try.func76 rfl (by decide) rfl rfl rfl rfl (fun F => ?_)
  repeat' first
    | ((have hk8 := Nat.add_zero); (first | refine SW.ops_seq hY fun y1 hy1 => ?_ | refine SW.ops hY ?_ | refine vcall_x [] (idxInt_ok l hl) (hK := ?_) | (simp only [k8]; refine ⟨fun hb => ?_, fun hb => ?_⟩ <;> (try replace hb := Bool.eq_false_iff.2 hb) <;> (first | exact absurd hb (by decide) | replace hk8 := hb))) <;> (simp only [hk8, T.asArr, T.tg, tgL, dnT, indexAddrM, wk, wl, eq_self, isCall, callT, opM, S.ev, S.put, entryS, thawAL, thawA, RM.run, RM.bind, RM.ofOpt, allocs, Heap.ups, Heap.put, Heap.at, List.replicate, Nat.reduceAdd, Nat.reduceSub, ofConst, nilAs, if_false, if_true, binT, binTy, unT, guardT, pickT, quietK, stripT, openT, reduceIte, boxM, allocM, loadM, storeM, fieldAddrM, lenT, extractT, subM, setOb, T.get, T.setp, T.offs, T.nw, nwL, T.cel, T.isNd, T.size, sizeL, TyI.agg, Ty.agg, Ty.isFn, zeroT, Nat.reduceLT, Nat.reduceEqDiff, sumT, kill, Y3, Y4, Y27, Y87]; clear hk8; first | subst hy1 | (try simp only [thenS, blockS, if_true, if_false, Nat.reduceEqDiff, reduceIte])))
    | exact absurd trivial hb
    | exact absurd hb (by decide)
    | exact absurd hcc (by decide)
    | refine SW.seq ?_
    | refine SW.block ?_
    | (refine SW.cond rfl (fun hcc => ?_) (fun hcc => ?_))
    | (refine SW.exit ?_; simp only [thenS, blockS, if_true, if_false, Nat.reduceEqDiff, reduceIte])
    | (refine SW.skip ?_; simp only [thenS, blockS])
    | refine SW.ret (show RetQ _ _ _ _ _ _ _ from ⟨.inr rfl, [_], [1], [_], _, rfl, rfl, rfl, rfl, rfl, ?_⟩)
  all_goals simp only [tupOf, fixEs, ge_iff_le, idx_any]
theorem idxRef_ok (l : List Int) (hl : Enc.lim 1048576 l) : CallR Try.prog 140 [.sl .b (l.map Enc.b), .fn 151 [] []] [] (.int .i64 (idxOf (fun x => !refB x) l)) := by
  refine CallR.of_body (n := 19) (rs := [.tmp 4]) hY.ok Try.func140 rfl (by decide) rfl rfl rfl rfl (fun F => ?_)
  have hl1 : l.length ≤ 1048576 := hl.1
  repeat' first
    | ((have hk8 := Nat.add_zero); (first | refine SW.ops_seq hY fun y1 hy1 => ?_ | refine SW.ops hY ?_) <;> (simp only [hk8, T.asArr, T.tg, tgL, dnT, indexAddrM, wk, wl, eq_self, isCall, callT, opM, S.ev, S.put, entryS, thawAL, thawA, RM.run, RM.bind, RM.ofOpt, allocs, Heap.ups, Heap.put, Heap.at, List.replicate, Nat.reduceAdd, Nat.reduceSub, ofConst, nilAs, if_false, if_true, binT, binTy, unT, guardT, pickT, quietK, stripT, openT, reduceIte, boxM, allocM, loadM, storeM, fieldAddrM, lenT, extractT, subM, setOb, T.get, T.setp, T.offs, T.nw, nwL, T.cel, T.isNd, T.size, sizeL, TyI.agg, Ty.agg, Ty.isFn, zeroT, Nat.reduceLT, Nat.reduceEqDiff, sumT, kill, Y3, Y4, Y27, Y87]; clear hk8; first | subst hy1 | (try simp only [thenS, blockS, if_true, if_false, Nat.reduceEqDiff, reduceIte])))
    | exact absurd trivial hb
    | exact absurd hb (by decide)
    | exact absurd hcc (by decide)
    | refine SW.seq ?_
    | refine SW.block ?_
    | (refine SW.exit ?_; simp only [thenS, blockS, if_true, if_false, Nat.reduceEqDiff, reduceIte])
    | (refine SW.skip ?_; simp only [thenS, blockS])
  refine SW.loop (fun i : Nat => ⟨[.sl .b (l.map Enc.b), .fn 151 [] [], .undef, .undef, .undef, .undef, .undef, .int .i64 l.length, .int .i64 i, .undef, .undef, .undef, .undef, .undef, .undef, .undef, .undef, .undef, .undef], [[]]⟩)
    (fun n i => n = l.length - i ∧ i ≤ l.length ∧ ∀ j (h : j < l.length), j < i → (fun x => !refB x) l[j] = false) (n := l.length) (x := 0) (Norm.to 0 rfl (by simp [weakL])) ⟨rfl, Nat.zero_le _, fun j _ h => absurd h (Nat.not_lt_zero _)⟩ ?_
  rintro n i ⟨hn, hi, hp⟩
  repeat' first
    | (refine SW.ops_seq hY fun y1 hy1 => ?_; simp only [T.asArr, T.tg, tgL, dnT, indexAddrM, wk, wl, eq_self, isCall, callT, opM, S.ev, S.put, entryS, thawAL, thawA, RM.run, RM.bind, RM.ofOpt, allocs, Heap.ups, Heap.put, Heap.at, List.replicate, Nat.reduceAdd, Nat.reduceSub, ofConst, nilAs, if_false, if_true, binT, binTy, unT, guardT, pickT, quietK, stripT, openT, reduceIte, boxM, allocM, loadM, storeM, fieldAddrM, lenT, extractT, subM, setOb, T.get, T.setp, T.offs, T.nw, nwL, T.cel, T.isNd, T.size, sizeL, TyI.agg, Ty.agg, Ty.isFn, zeroT, Nat.reduceLT, Nat.reduceEqDiff, sumT, kill, Y3, Y4, Y27, Y87]; subst hy1)
    | refine SW.seq ?_
  refine SW.cond rfl (fun hc => ?_) (fun hc => ?_)
  · have hlt : i < l.length := by simpa using hc
    have hg : (l.map Enc.b)[i]? = some (.int .i64 l[i]) := map_get Enc.b l i hlt
    repeat' first
      | ((have hk8 := Nat.add_zero); (first | refine SW.ops_seq hY fun y1 hy1 => ?_ | refine SW.ops hY ?_ | refine vcall_x [] (obj2_ok l[i]) (hK := ?_) | (simp only [k8]; refine ⟨fun hb => ?_, fun hb => ?_⟩ <;> (try replace hb := Bool.eq_false_iff.2 hb) <;> (first | exact absurd hb (by decide) | replace hk8 := hb))) <;> (simp only [hk8, hg, T.asArr, T.tg, tgL, dnT, indexAddrM, wk, wl, eq_self, isCall, callT, opM, S.ev, S.put, entryS, thawAL, thawA, RM.run, RM.bind, RM.ofOpt, allocs, Heap.ups, Heap.put, Heap.at, List.replicate, Nat.reduceAdd, Nat.reduceSub, ofConst, nilAs, if_false, if_true, binT, binTy, unT, guardT, pickT, quietK, stripT, openT, reduceIte, boxM, allocM, loadM, storeM, fieldAddrM, lenT, extractT, subM, setOb, T.get, T.setp, T.offs, T.nw, nwL, T.cel, T.isNd, T.size, sizeL, TyI.agg, Ty.agg, Ty.isFn, zeroT, Nat.reduceLT, Nat.reduceEqDiff, sumT, kill, Y3, Y4, Y27, Y87]; clear hk8; first | subst hy1 | (try simp only [thenS, blockS, if_true, if_false, Nat.reduceEqDiff, reduceIte])))
      | exact absurd trivial hb
      | exact absurd hb (by decide)
      | exact absurd hcc (by decide)
      | refine SW.seq ?_
      | refine SW.block ?_
      | (refine SW.cond rfl (fun hcc => ?_) (fun hcc => ?_))
      | (refine SW.exit ?_; simp only [thenS, blockS, if_true, if_false, Nat.reduceEqDiff, reduceIte])
      | (refine SW.skip ?_; simp only [thenS, blockS])
      | refine SW.ret (show RetQ _ _ _ _ _ _ _ from ⟨.inr rfl, [_], [1], [_], _, rfl, rfl, rfl, rfl, rfl, ?_⟩)
    · have hx := hcc
      have hx' : (fun x => !refB x) l[i] = true := by simpa using hx
      simp only [tupOf, fixEs, idxOf_eq (fun x => !refB x) l hlt hx' (fun j hj => hp j (by omega) hj)]
    · have hx := hcc
      have hx' : (fun x => !refB x) l[i] = false := by simpa using hx
      refine ⟨n - 1, i + 1, by omega, ⟨by omega, by omega, fun j hj hji => ?_⟩, ?_⟩
      · by_cases he : j = i
        · subst he; exact hx'
        · exact hp j hj (by omega)
      · rw [wrap64 _ (by omega) (by omega)]
        first | exact Norm.to 0 rfl (by simp [weakL]) | exact Norm.to 1 rfl (by simp [weakL]) | exact Norm.to 2 rfl (by simp [weakL])
  · have hge : i = l.length := by
      have : ¬ i < l.length := by simpa using hc
      omega
    repeat' first
      | ((have hk8 := Nat.add_zero); (first | refine SW.ops_seq hY fun y1 hy1 => ?_ | refine SW.ops hY ?_ | (simp only [k8]; refine ⟨fun hb => ?_, fun hb => ?_⟩ <;> (try replace hb := Bool.eq_false_iff.2 hb) <;> (first | exact absurd hb (by decide) | replace hk8 := hb))) <;> (simp only [hk8, T.asArr, T.tg, tgL, dnT, indexAddrM, wk, wl, eq_self, isCall, callT, opM, S.ev, S.put, entryS, thawAL, thawA, RM.run, RM.bind, RM.ofOpt, allocs, Heap.ups, Heap.put, Heap.at, List.replicate, Nat.reduceAdd, Nat.reduceSub, ofConst, nilAs, if_false, if_true, binT, binTy, unT, guardT, pickT, quietK, stripT, openT, reduceIte, boxM, allocM, loadM, storeM, fieldAddrM, lenT, extractT, subM, setOb, T.get, T.setp, T.offs, T.nw, nwL, T.cel, T.isNd, T.size, sizeL, TyI.agg, Ty.agg, Ty.isFn, zeroT, Nat.reduceLT, Nat.reduceEqDiff, sumT, kill, Y3, Y4, Y27, Y87]; clear hk8; first | subst hy1 | (try simp only [thenS, blockS, if_true, if_false, Nat.reduceEqDiff, reduceIte])))
      | exact absurd trivial hb
      | exact absurd hb (by decide)
      | exact absurd hcc (by decide)
      | refine SW.seq ?_
      | refine SW.block ?_
      | (refine SW.cond rfl (fun hcc => ?_) (fun hcc => ?_))
      | (refine SW.exit ?_; simp only [thenS, blockS, if_true, if_false, Nat.reduceEqDiff, reduceIte])
      | (refine SW.skip ?_; simp only [thenS, blockS])
      | refine SW.ret (show RetQ _ _ _ _ _ _ _ from ⟨.inr rfl, [_], [1], [_], _, rfl, rfl, rfl, rfl, rfl, ?_⟩)
    simp only [tupOf, fixEs, idxOf_none (fun x => !refB x) l (fun j hj => hp j hj (by omega))]
theorem anyRef_ok (l : List Int) (hl : Enc.lim 1048576 l) : CallR Try.prog 76 [.sl .b (l.map Enc.b), .fn 151 [] []] [] (.bool (l.any (fun x => !refB x))) := by
  refine CallR.of_body (n := 9) (rs := [.tmp 4]) hY.ok Try.func76 rfl (by decide) rfl rfl rfl rfl (fun F => ?_)
  repeat' first
    | ((have hk8 := Nat.add_zero); (first | refine SW.ops_seq hY fun y1 hy1 => ?_ | refine SW.ops hY ?_ | refine vcall_x [] (idxRef_ok l hl) (hK := ?_) | (simp only [k8]; refine ⟨fun hb => ?_, fun hb => ?_⟩ <;> (try replace hb := Bool.eq_false_iff.2 hb) <;> (first | exact absurd hb (by decide) | replace hk8 := hb))) <;> (simp only [hk8, T.asArr, T.tg, tgL, dnT, indexAddrM, wk, wl, eq_self, isCall, callT, opM, S.ev, S.put, entryS, thawAL, thawA, RM.run, RM.bind, RM.ofOpt, allocs, Heap.ups, Heap.put, Heap.at, List.replicate, Nat.reduceAdd, Nat.reduceSub, ofConst, nilAs, if_false, if_true, binT, binTy, unT, guardT, pickT, quietK, stripT, openT, reduceIte, boxM, allocM, loadM, storeM, fieldAddrM, lenT, extractT, subM, setOb, T.get, T.setp, T.offs, T.nw, nwL, T.cel, T.isNd, T.size, sizeL, TyI.agg, Ty.agg, Ty.isFn, zeroT, Nat.reduceLT, Nat.reduceEqDiff, sumT, kill, Y3, Y4, Y27, Y87]; clear hk8; first | subst hy1 | (try simp only [thenS, blockS, if_true, if_false, Nat.reduceEqDiff, reduceIte])))
    | exact absurd trivial hb
    | exact absurd hb (by decide)
    | exact absurd hcc (by decide)
    | refine SW.seq ?_
    | refine SW.block ?_
    | (refine SW.cond rfl (fun hcc => ?_) (fun hcc => ?_))
    | (refine SW.exit ?_; simp only [thenS, blockS, if_true, if_false, Nat.reduceEqDiff, reduceIte])
    | (refine SW.skip ?_; simp only [thenS, blockS])
    | refine SW.ret (show RetQ _ _ _ _ _ _ _ from ⟨.inr rfl, [_], [1], [_], _, rfl, rfl, rfl, rfl, rfl, ?_⟩)
  all_goals simp only [tupOf, fixEs, ge_iff_le, idx_any]
theorem noObj_ok (x : (Int × (List Int) × (List Int) × Unit)) : CallR Try.prog 141 [.nd [.int .i64 x.1, .sl .b (x.2.1.map Enc.b), .sl .b (x.2.2.1.map Enc.b)]] [] (.bool (noObjB x)) := by
  refine CallR.of_body (n := 18) (rs := [.tmp 2]) hY.ok Try.func141 rfl (by decide) rfl rfl rfl rfl (fun F => ?_)
  repeat' first
    | ((have hk8 := Nat.add_zero); (first | refine SW.ops_seq hY fun y1 hy1 => ?_ | refine SW.ops hY ?_ | (simp only [k8]; refine ⟨fun hb => ?_, fun hb => ?_⟩ <;> (try replace hb := Bool.eq_false_iff.2 hb) <;> (first | exact absurd hb (by decide) | replace hk8 := hb))) <;> (simp only [hk8, T.asArr, T.tg, tgL, dnT, indexAddrM, wk, wl, eq_self, isCall, callT, opM, S.ev, S.put, entryS, thawAL, thawA, RM.run, RM.bind, RM.ofOpt, allocs, Heap.ups, Heap.put, Heap.at, List.replicate, Nat.reduceAdd, Nat.reduceSub, ofConst, nilAs, if_false, if_true, binT, binTy, unT, guardT, pickT, quietK, stripT, openT, reduceIte, boxM, allocM, loadM, storeM, fieldAddrM, lenT, extractT, subM, setOb, T.get, T.setp, T.offs, T.nw, nwL, T.cel, T.isNd, T.size, sizeL, TyI.agg, Ty.agg, Ty.isFn, zeroT, Nat.reduceLT, Nat.reduceEqDiff, sumT, kill, Y1, Y2, Y3, Y4, Y27, Y30]; clear hk8; first | subst hy1 | (try simp only [thenS, blockS, if_true, if_false, Nat.reduceEqDiff, reduceIte])))
    | exact absurd trivial hb
    | exact absurd hb (by decide)
    | exact absurd hcc (by decide)
    | refine SW.seq ?_
    | refine SW.block ?_
    | (refine SW.cond rfl (fun hcc => ?_) (fun hcc => ?_))
    | (refine SW.exit ?_; simp only [thenS, blockS, if_true, if_false, Nat.reduceEqDiff, reduceIte])
    | (refine SW.skip ?_; simp only [thenS, blockS])
    | refine SW.ret (show RetQ _ _ _ _ _ _ _ from ⟨.inr rfl, [_], [1], [_], _, rfl, rfl, rfl, rfl, rfl, ?_⟩)
  all_goals ((try simp only [tupOf, fixEs]); (first | (done) | (simp_all [noObjB, len0]; done) | grind [noObjB, len0]))
theorem noSlot_ok (x : (Bool × ((Int × (List Int) × (List Int) × Unit)) × Unit)) : CallR Try.prog 78 [.nd [.bool x.1, .nd [.int .i64 x.2.1.1, .sl .b (x.2.1.2.1.map Enc.b), .sl .b (x.2.1.2.2.1.map Enc.b)]]] [] (.bool (!x.1 && noObjB x.2.1)) := by
  refine CallR.of_body (n := 11) (rs := [.tmp 2]) hY.ok Try.func78 rfl (by decide) rfl rfl rfl rfl (fun F => ?_)
  repeat' first
    | ((have hk8 := Nat.add_zero); (first | refine SW.ops_seq hY fun y1 hy1 => ?_ | refine SW.ops hY ?_ | refine vcall_x [] (noObj_ok x.2.1) (hK := ?_) | (simp only [k8]; refine ⟨fun hb => ?_, fun hb => ?_⟩ <;> (try replace hb := Bool.eq_false_iff.2 hb) <;> (first | exact absurd hb (by decide) | replace hk8 := hb))) <;> (simp only [hk8, T.asArr, T.tg, tgL, dnT, indexAddrM, wk, wl, eq_self, isCall, callT, opM, S.ev, S.put, entryS, thawAL, thawA, RM.run, RM.bind, RM.ofOpt, allocs, Heap.ups, Heap.put, Heap.at, List.replicate, Nat.reduceAdd, Nat.reduceSub, ofConst, nilAs, if_false, if_true, binT, binTy, unT, guardT, pickT, quietK, stripT, openT, reduceIte, boxM, allocM, loadM, storeM, fieldAddrM, lenT, extractT, subM, setOb, T.get, T.setp, T.offs, T.nw, nwL, T.cel, T.isNd, T.size, sizeL, TyI.agg, Ty.agg, Ty.isFn, zeroT, Nat.reduceLT, Nat.reduceEqDiff, sumT, kill, Y1, Y3, Y4, Y27, Y30, Y32]; clear hk8; first | subst hy1 | (try simp only [thenS, blockS, if_true, if_false, Nat.reduceEqDiff, reduceIte])))
    | exact absurd trivial hb
    | exact absurd hb (by decide)
    | exact absurd hcc (by decide)
    | refine SW.seq ?_
    | refine SW.block ?_
    | (refine SW.cond rfl (fun hcc => ?_) (fun hcc => ?_))
    | (refine SW.exit ?_; simp only [thenS, blockS, if_true, if_false, Nat.reduceEqDiff, reduceIte])
    | (refine SW.skip ?_; simp only [thenS, blockS])
    | refine SW.ret (show RetQ _ _ _ _ _ _ _ from ⟨.inr rfl, [_], [1], [_], _, rfl, rfl, rfl, rfl, rfl, ?_⟩)
  all_goals ((try simp only [tupOf, fixEs]); (first | (done) | (simp_all []; done) | grind []))
end Q5

namespace Q5
open Go Go.Vm

/-! ### what is reached: the plain law -/
abbrev SlotT := Bool × (Int × List Int × List Int × Unit) × Unit
def mrk (m : List Bool) (i : Nat) : Bool := m.getD i false
def hasA (v : List SlotT) (i : Nat) : Bool := match v[i]? with | some s => s.1 | none => false
def refsA (v : List SlotT) (i : Nat) : List Int := match v[i]? with | some s => s.2.1.2.2.1 | none => []

structure VOk (v : List SlotT) : Prop where
  len : v.length = 32
  z : hasA v 0 = false
  rf : ∀ i, ∀ r ∈ refsA v i, 0 ≤ r ∧ r ≤ 31
  rl : ∀ i, (refsA v i).length ≤ 5

inductive Rch (v : List SlotT) (root : Nat) : Nat → Prop
  | root : hasA v root = true → Rch v root root
  | step {x : Nat} {r : Int} : Rch v root x → r ∈ refsA v x → hasA v r.toNat = true → Rch v root r.toNat

open Classical in
noncomputable def reachL (v : List SlotT) (root : Nat) : List Bool := (List.range 32).map fun i => decide (Rch v root i)

theorem reachL_len (v : List SlotT) (root : Nat) : (reachL v root).length = 32 := by simp [reachL]

theorem mrk_set {m : List Bool} {i j : Nat} (hi : i < m.length) : mrk (m.set i true) j = true ↔ (j = i ∨ mrk m j = true) := by
  unfold mrk
  by_cases h : j = i
  · subst h; simp [hi]
  · simp [List.getElem?_set_ne (Ne.symm h), h]
theorem mrk_lt {m : List Bool} {i : Nat} (h : mrk m i = true) : i < m.length := by
  unfold mrk at h
  rcases Nat.lt_or_ge i m.length with h' | h'
  · exact h'
  · simp [List.getElem?_eq_none h'] at h
theorem cnt_set : ∀ {m : List Bool} {i : Nat}, i < m.length → mrk m i = false → (m.set i true).count false + 1 = m.count false
  | [], i, h, _ => by simp at h
  | b :: m, 0, _, h => by simp [mrk] at h; subst h; simp
  | b :: m, i + 1, h, h1 => by
    have := cnt_set (m := m) (i := i) (by simpa using h) (by simpa [mrk] using h1)
    simp only [List.set_cons_succ, List.count_cons]
    omega

theorem list_of_mrk {m : List Bool} {v : List SlotT} {root : Nat} (hl : m.length = 32) (h : ∀ i, mrk m i = true ↔ Rch v root i) : m = reachL v root := by
  refine List.ext_getElem (by rw [hl, reachL_len]) fun i h1 h2 => ?_
  have := h i
  simp only [mrk, List.getD_eq_getElem?_getD, List.getElem?_eq_getElem h1, Option.getD_some] at this
  simp only [reachL, List.getElem_map, List.getElem_range]
  by_cases hr : Rch v root i
  · simp [hr, this.2 hr]
  · have : ¬ m[i] = true := fun h' => hr (this.1 h')
    simp [hr, this]

/-- the impl's walk: marks, and what waits -/
structure JI (v : List SlotT) (root : Nat) (m : List Bool) (q : List Int) : Prop where
  ml : m.length = 32
  sound : ∀ i, mrk m i = true → Rch v root i
  qs : ∀ x ∈ q, 0 ≤ x ∧ x ≤ 31 ∧ (hasA v x.toNat = true → Rch v root x.toNat)
  cl : ∀ i, mrk m i = true → ∀ r ∈ refsA v i, hasA v r.toNat = true → mrk m r.toNat = true ∨ r ∈ q
  rt : hasA v root = true → mrk m root = true ∨ (root : Int) ∈ q

theorem mrk_rep (n i : Nat) : mrk (List.replicate n false) i = false := by
  unfold mrk
  simp only [List.getD_eq_getElem?_getD, List.getElem?_replicate]
  split <;> rfl
theorem JI.init {v : List SlotT} {root : Nat} (hr : root ≤ 31) : JI v root (List.replicate 32 false) [(root : Int)] where
  ml := by simp
  sound i h := by rw [mrk_rep] at h; cases h
  qs x hx := by
    simp at hx; subst hx
    exact ⟨by omega, by omega, fun h => by simpa using Rch.root (by simpa using h)⟩
  cl i h := by rw [mrk_rep] at h; cases h
  rt _ := .inr (by simp)

theorem JI.skip {v : List SlotT} (hv : VOk v) {root : Nat} {m : List Bool} {x : Int} {q : List Int} (h : JI v root m (x :: q)) (hx : x = 0 ∨ hasA v x.toNat = false ∨ mrk m x.toNat = true) : JI v root m q where
  ml := h.ml
  sound := h.sound
  qs y hy := h.qs y (by simp [hy])
  cl i hi r hr hh := by
    rcases h.cl i hi r hr hh with h' | h'
    · exact .inl h'
    · rcases List.mem_cons.1 h' with rfl | h'
      · rcases hx with rfl | hx | hx
        · have := hv.z; simp at hh; rw [this] at hh; cases hh
        · rw [hx] at hh; cases hh
        · exact .inl hx
      · exact .inr h'
  rt hh := by
    rcases h.rt hh with h' | h'
    · exact .inl h'
    · rcases List.mem_cons.1 h' with h' | h'
      · subst h'
        rcases hx with hx | hx | hx
        · have : root = 0 := by omega
          subst this
          have := hv.z; rw [this] at hh; cases hh
        · simp at hx; rw [hx] at hh; cases hh
        · exact .inl (by simpa using hx)
      · exact .inr h'

theorem JI.take {v : List SlotT} (hv : VOk v) {root : Nat} {m : List Bool} {x : Int} {q : List Int} (h : JI v root m (x :: q)) (hh : hasA v x.toNat = true) : JI v root (m.set x.toNat true) (q ++ refsA v x.toNat) := by
  obtain ⟨q1, q2, q3⟩ := h.qs x (by simp)
  have hlt : x.toNat < m.length := by rw [h.ml]; omega
  have hx := q3 hh
  refine ⟨by simp [h.ml], fun i hi => ?_, fun y hy => ?_, fun i hi r hr hr2 => ?_, fun hr => ?_⟩
  · rcases (mrk_set hlt).1 hi with rfl | hi
    · exact hx
    · exact h.sound i hi
  · rcases List.mem_append.1 hy with hy | hy
    · exact h.qs y (by simp [hy])
    · obtain ⟨a, b⟩ := hv.rf _ y hy
      exact ⟨a, b, fun h3 => Rch.step hx hy h3⟩
  · rcases (mrk_set hlt).1 hi with rfl | hi
    · exact .inr (by simp [hr])
    · rcases h.cl i hi r hr hr2 with h' | h'
      · exact .inl ((mrk_set hlt).2 (.inr h'))
      · rcases List.mem_cons.1 h' with rfl | h'
        · exact .inl ((mrk_set hlt).2 (.inl rfl))
        · exact .inr (by simp [h'])
  · rcases h.rt hr with h' | h'
    · exact .inl ((mrk_set hlt).2 (.inr h'))
    · rcases List.mem_cons.1 h' with h' | h'
      · exact .inl ((mrk_set hlt).2 (.inl (by omega)))
      · exact .inr (by simp [h'])

theorem JI.done {v : List SlotT} {root : Nat} {m : List Bool} (h : JI v root m []) : m = reachL v root := by
  refine list_of_mrk h.ml fun i => ⟨h.sound i, fun hr => ?_⟩
  induction hr with
  | root hh => rcases h.rt hh with h' | h'
               · exact h'
               · simp at h'
  | step _ hm hh ih => rcases h.cl _ ih _ hm hh with h' | h'
                       · exact h'
                       · simp at h'

/-- the reference's walk -/
structure JS (v : List SlotT) (root : Nat) (m : List Bool) (q : List Int) (k : Nat) : Prop where
  ml : m.length = 32
  kl : k ≤ q.length
  sound : ∀ i, mrk m i = true → Rch v root i ∧ (i : Int) ∈ q
  qs : ∀ x ∈ q, 0 ≤ x ∧ x ≤ 31 ∧ Rch v root x.toNat
  cl : ∀ j x, j < k → q[j]? = some x → ∀ r ∈ refsA v x.toNat, hasA v r.toNat = true → mrk m r.toNat = true
  rt : hasA v root = true → mrk m root = true

theorem JS.init {v : List SlotT} {root : Nat} (hr : root ≤ 31) (hh : hasA v root = true) : JS v root ((List.replicate 32 false).set root true) [(root : Int)] 0 := by
  have hlt : root < (List.replicate 32 false).length := by simp; omega
  refine ⟨by simp, by simp, fun i hi => ?_, fun x hx => ?_, fun j x hj => by omega, fun _ => (mrk_set hlt).2 (.inl rfl)⟩
  · rcases (mrk_set hlt).1 hi with rfl | hi
    · exact ⟨.root hh, by simp⟩
    · rw [mrk_rep] at hi; cases hi
  · simp at hx; subst hx
    exact ⟨by omega, by omega, by simpa using Rch.root hh⟩
theorem JS.none {v : List SlotT} {root : Nat} (hh : hasA v root = false) : JS v root (List.replicate 32 false) [] 0 :=
  ⟨by simp, by simp, fun i hi => (by rw [mrk_rep] at hi; cases hi), by simp, fun j x hj => by omega, fun h => (by rw [hh] at h; cases h)⟩

structure JS2 (v : List SlotT) (root : Nat) (m : List Bool) (q : List Int) (k : Nat) (x : Int) (i : Nat) : Prop where
  js : JS v root m q k
  at_ : q[k]? = some x
  il : i ≤ (refsA v x.toNat).length
  cl : ∀ j r, j < i → (refsA v x.toNat)[j]? = some r → hasA v r.toNat = true → mrk m r.toNat = true

theorem JS2.skip {v : List SlotT} {root : Nat} {m : List Bool} {q : List Int} {k i : Nat} {x r : Int} (h : JS2 v root m q k x i) (hr : (refsA v x.toNat)[i]? = some r) (hx : hasA v r.toNat = false ∨ mrk m r.toNat = true) : JS2 v root m q k x (i + 1) where
  js := h.js
  at_ := h.at_
  il := (List.getElem?_eq_some_iff.1 hr).1
  cl j r' hj hr' hh := by
    rcases Nat.lt_or_ge j i with h' | h'
    · exact h.cl j r' h' hr' hh
    · have : j = i := by omega
      subst this
      rw [hr] at hr'; cases hr'
      rcases hx with hx | hx
      · rw [hx] at hh; cases hh
      · exact hx

theorem JS2.push {v : List SlotT} (hv : VOk v) {root : Nat} {m : List Bool} {q : List Int} {k i : Nat} {x r : Int} (h : JS2 v root m q k x i) (hr : (refsA v x.toNat)[i]? = some r) (hh : hasA v r.toNat = true) : JS2 v root (m.set r.toNat true) (q ++ [r]) k x (i + 1) := by
  have hmem : r ∈ refsA v x.toNat := List.mem_of_getElem? hr
  obtain ⟨a, b⟩ := hv.rf _ r hmem
  have hlt : r.toNat < m.length := by rw [h.js.ml]; omega
  have hxq : x ∈ q := List.mem_of_getElem? h.at_
  have hR : Rch v root r.toNat := .step (h.js.qs x hxq).2.2 hmem hh
  have hk := (List.getElem?_eq_some_iff.1 h.at_).1
  refine ⟨⟨by simp [h.js.ml], by have := h.js.kl; simp; omega, fun i hi => ?_, fun y hy => ?_, fun j y hj hy r' hr' h3 => ?_, fun h3 => (mrk_set hlt).2 (.inr (h.js.rt h3))⟩, ?_, (List.getElem?_eq_some_iff.1 hr).1, fun j r' hj hr' h3 => ?_⟩
  · rcases (mrk_set hlt).1 hi with rfl | hi
    · exact ⟨hR, by simp; right; omega⟩
    · obtain ⟨c, d⟩ := h.js.sound i hi; exact ⟨c, by simp [d]⟩
  · rcases List.mem_append.1 hy with hy | hy
    · exact h.js.qs y hy
    · simp at hy; subst hy; exact ⟨a, b, hR⟩
  · rw [List.getElem?_append_left (by omega)] at hy
    exact (mrk_set hlt).2 (.inr (h.js.cl j y hj hy r' hr' h3))
  · rw [List.getElem?_append_left hk]; exact h.at_
  · rcases Nat.lt_or_ge j i with h' | h'
    · exact (mrk_set hlt).2 (.inr (h.cl j r' h' hr' h3))
    · have : j = i := by omega
      subst this
      rw [hr] at hr'; cases hr'
      exact (mrk_set hlt).2 (.inl rfl)

theorem JS2.next {v : List SlotT} {root : Nat} {m : List Bool} {q : List Int} {k : Nat} {x : Int} (h : JS2 v root m q k x (refsA v x.toNat).length) : JS v root m q (k + 1) where
  ml := h.js.ml
  kl := (List.getElem?_eq_some_iff.1 h.at_).1
  sound := h.js.sound
  qs := h.js.qs
  cl j y hj hy r hr hh := by
    rcases Nat.lt_or_ge j k with h' | h'
    · exact h.js.cl j y h' hy r hr hh
    · have : j = k := by omega
      subst this
      rw [h.at_] at hy; cases hy
      obtain ⟨i, hi, rfl⟩ := List.getElem_of_mem hr
      exact h.cl i _ hi (List.getElem?_eq_getElem hi) hh
  rt := h.js.rt

theorem JS.done {v : List SlotT} {root : Nat} {m : List Bool} {q : List Int} (h : JS v root m q q.length) : m = reachL v root := by
  refine list_of_mrk h.ml fun i => ⟨fun hi => (h.sound i hi).1, fun hr => ?_⟩
  induction hr with
  | root hh => exact h.rt hh
  | step _ hm hh ih =>
    obtain ⟨_, hq⟩ := h.sound _ ih
    obtain ⟨j, hj, he⟩ := List.getElem_of_mem hq
    exact h.cl j _ hj (by rw [List.getElem?_eq_getElem hj, he]) _ (by simpa using hm) hh
end Q5

namespace Q5
open Go Go.Vm Go.Proofs
set_option maxHeartbeats 4000000
set_option synthInstance.maxSize 2000
set_option synthInstance.maxHeartbeats 400000
set_option maxRecDepth 10000
set_option linter.unusedSimpArgs false
set_option linter.unusedVariables false


theorem vok_of {v : List SlotT} (h : viewB v = true) : VOk v := by
  unfold viewB at h
  simp only [Bool.and_eq_true, decide_eq_true_eq] at h
  obtain ⟨⟨h1, h2⟩, h3⟩ := h
  have each : ∀ i s, v[i]? = some s → slotB s = true := fun i s hs => List.all_eq_true.1 h3 s (List.mem_of_getElem? hs)
  have refs : ∀ s, slotB s = true → s.2.1.2.2.1.length ≤ 5 ∧ ∀ r ∈ s.2.1.2.2.1, 0 ≤ r ∧ r ≤ 31 := fun s hs => by
    unfold slotB at hs
    split at hs
    · simp only [objB, Bool.and_eq_true, decide_eq_true_eq] at hs
      refine ⟨hs.1.1.2, fun r hr => ?_⟩
      have := List.all_eq_true.1 hs.2 r hr
      simp only [refB, Bool.and_eq_true, decide_eq_true_eq] at this
      omega
    · simp only [noObjB, Bool.and_eq_true, decide_eq_true_eq] at hs
      have h0 := List.length_eq_zero_iff.1 hs.2
      rw [h0]; simp
  refine ⟨h1, ?_, fun i r hr => ?_, fun i => ?_⟩
  · cases v with
    | nil => simp at h1
    | cons s v => simpa [hasA] using h2
  · unfold refsA at hr
    split at hr
    · rename_i s hs; exact (refs s (each i s hs)).2 r hr
    · simp at hr
  · unfold refsA
    split
    · rename_i s hs; exact (refs s (each i s hs)).1
    · simp

theorem bs1_27 (own : Nat) (x : Int) : buildSliceM Y own 27 1 [(0, .int .i64 x)] = .pure { v := .ref own 0 0 1, news := [.arr 1 [.int .i64 x] false] } := build1 Y27 Y3 rfl (by decide) rfl rfl rfl
def rep32 : List Bool := List.replicate 32 false
theorem rep32_get (i : Nat) (h : i < rep32.length) : rep32[i] = false := by unfold rep32; exact List.getElem_replicate ..
theorem mk32 (own : Nat) : makeSliceM Y own 37 (.int .i64 32) (.int .i64 32) = .pure { v := .ref own 0 0 32, news := [.arr 1 (rep32.map Enc.o) false] } := rfl
theorem set_o {α : Type} [Enc α] (m : List α) (i : Nat) (x : α) : (m.map Enc.o).set i (Enc.o x) = (m.set i x).map Enc.o := by rw [List.map_set]

end Q5
