/- Shows what the parts of the program do that the claim reaches: a machine of values over the model, and the contracts of functions, for all arguments within the lengths that each theorem names. -/
import Derived.Test.YtalhmcbkmpggiaaXLoadP1
import Derived.Test.YtalhmcbkmpggiaaXLoadP2
import Derived.Test.YtalhmcbkmpggiaaXLoadV5
import Derived.Test.YtalhmcbkmpggiaaVm4
set_option linter.all false

namespace Q6
open Go Go.Vm Go.Proofs
set_option maxHeartbeats 4000000
set_option synthInstance.maxSize 2000
set_option synthInstance.maxHeartbeats 400000
set_option maxRecDepth 10000
set_option linter.unusedSimpArgs false
set_option linter.unusedVariables false


/-- The four bytes of a sum, the lowest first. -/
def four (c : Nat) : List UInt8 := [byt (c : Nat), byt ((c / 256 : Nat) : Int), byt ((c / 65536 : Nat) : Int), byt ((c / 16777216 : Nat) : Int)]
theorem four_len (c : Nat) : (four c).length = 4 := rfl
theorem shr8 (a : Nat) : ((a : Int).fdiv (2 ^ 8)) = ((a / 256 : Nat) : Int) := by
  rw [Int.fdiv_eq_ediv_of_nonneg _ (by decide)]; omega
theorem shr16 (a : Nat) : ((a : Int).fdiv (2 ^ 16)) = ((a / 65536 : Nat) : Int) := by
  rw [Int.fdiv_eq_ediv_of_nonneg _ (by decide)]; omega
theorem shr24 (a : Nat) : ((a : Int).fdiv (2 ^ 24)) = ((a / 16777216 : Nat) : Int) := by
  rw [Int.fdiv_eq_ediv_of_nonneg _ (by decide)]; omega
theorem build4 {Y : TypeId → TyI} {own t el by' : Nat} {k : Ty} {a b c d : T} (h1 : Y t = ⟨.sl el, 1, 24⟩) (h2 : Y el = ⟨k, 1, by'⟩) (h3 : k.isFn = false)
    (hs : setAll (plAr 1) (List.replicate 4 (zeroT Y 9 el)) [(0, a), (1, b), (2, c), (3, d)] = some [a, b, c, d]) :
    buildSliceM Y own t 4 [(0, a), (1, b), (2, c), (3, d)] = .pure { v := .ref own 0 0 4, news := [.arr 1 [a, b, c, d] false] } := by
  simp only [buildSliceM, h1, h2, h3]
  rw [if_pos ⟨by decide, by decide, trivial⟩, hs]
theorem bs4_24 (own : Nat) (x y z w : UInt8) : buildSliceM Y own 24 4 [(0, .int .u8 (x.toNat : Int)), (1, .int .u8 (y.toNat : Int)), (2, .int .u8 (z.toNat : Int)), (3, .int .u8 (w.toNat : Int))] = .pure { v := .ref own 0 0 4, news := [.arr 1 [.int .u8 (x.toNat : Int), .int .u8 (y.toNat : Int), .int .u8 (z.toNat : Int), .int .u8 (w.toNat : Int)] false] } :=
  build4 Y24 Y5 rfl rfl

theorem l1Four_ok (c : Nat) : CallR Try.prog 129 [.int .i64 (c : Int)] [] (.ow 1 ((four c).map Enc.o)) := by
  refine CallR.of_body (n := 15) (rs := [.tmp 2]) hY.ok Try.func129 rfl (by decide) rfl rfl rfl rfl (fun F => ?_)
  have fx := And.intro Y1 (And.intro Y2 (And.intro Y3 (And.intro Y4 (And.intro Y5 (And.intro Y24 (Y133))))))
  have e8 : ((c : Int).fdiv (2 ^ (min (Int.toNat 8) IntKind.i64.bits))) = ((c / 256 : Nat) : Int) := shr8 c
  have e16 : ((c : Int).fdiv (2 ^ (min (Int.toNat 16) IntKind.i64.bits))) = ((c / 65536 : Nat) : Int) := shr16 c
  have e24 : ((c : Int).fdiv (2 ^ (min (Int.toNat 24) IntKind.i64.bits))) = ((c / 16777216 : Nat) : Int) := shr24 c
  have fy := And.intro e8 (And.intro e16 (And.intro e24 (bs4_24)))
  refine goR ?_ ?_ ?_ ?_ ?_ ?_ ?_ ?_ ?_ ?_ ?_ ?_ ?_ ?_ ?_ ?_
  any_goals (first | exact True.intro | skip)
  all_goals (repeat (refine Wh.mk fun hcc => ?_))
  all_goals exact SW.ret (show RetQ _ _ _ _ _ _ _ from RetQ.y [0] [.ow 1 ((four c).map Enc.o)])
theorem sumBytes_ok (l : List UInt8) (hl : l.length ≤ 1048576) : CallR Try.prog 135 [.sl .b (l.map Enc.b)] [] (.ow 1 ((four (crc l)).map Enc.o)) := by
  refine CallR.of_body (n := 18) (rs := [.tmp 2]) hY.ok Try.func135 rfl (by decide) rfl rfl rfl rfl (fun F => ?_)
  have fx := And.intro Y1 (And.intro Y2 (And.intro Y3 (And.intro Y4 (And.intro Y5 (And.intro Y24 (Y133))))))
  have hC := implCrc_ok l hl
  generalize crc l = c at *
  have e8 : ((c : Int).fdiv (2 ^ (min (Int.toNat 8) IntKind.i64.bits))) = ((c / 256 : Nat) : Int) := shr8 c
  have e16 : ((c : Int).fdiv (2 ^ (min (Int.toNat 16) IntKind.i64.bits))) = ((c / 65536 : Nat) : Int) := shr16 c
  have e24 : ((c : Int).fdiv (2 ^ (min (Int.toNat 24) IntKind.i64.bits))) = ((c / 16777216 : Nat) : Int) := shr24 c
  have hC1 := cx [] (hC)
  have fy := And.intro e8 (And.intro e16 (And.intro e24 (bs4_24)))
  refine goR ?_ ?_ ?_ ?_ ?_ ?_ ?_ ?_ ?_ ?_ ?_ ?_ ?_ ?_ ?_ ?_
  any_goals (first | exact True.intro | skip)
  all_goals (repeat (refine Wh.mk fun hcc => ?_))
  all_goals exact SW.ret (show RetQ _ _ _ _ _ _ _ from RetQ.y [0] [.ow 1 ((four c).map Enc.o)])
end Q6

namespace Q6
open Go Go.Vm Go.Proofs
set_option maxHeartbeats 4000000
set_option synthInstance.maxSize 2000
set_option synthInstance.maxHeartbeats 400000
set_option maxRecDepth 10000
set_option linter.unusedSimpArgs false
set_option linter.unusedVariables false

def endsB (l : List UInt8) (a : Nat) : Bool := (l.drop a).all (fun b => !decide ((b.toNat : Int) < 128)) && decide ((l.length : Int) - (a : Int) < 6)
theorem drop_all {l : List UInt8} {p : UInt8 → Bool} {i : Nat} (h : i < l.length) : (l.drop i).all p = (p l[i] && (l.drop (i + 1)).all p) := by
  rw [List.drop_eq_getElem_cons h]; rfl
theorem ends_ok (l : List UInt8) (a : Nat) (hl : l.length ≤ 1048576) (ha : a ≤ l.length) : CallR Try.prog 154 [.sl .b (l.map Enc.b), .int .i64 (a : Nat)] [] (.bool (endsB l a)) := by
  refine CallR.of_body (n := 23) (rs := [.tmp 4]) hY.ok Try.func154 rfl (by decide) rfl rfl rfl rfl (fun F => ?_)
  have fx := And.intro Y3 (And.intro Y4 (And.intro Y5 (Y24)))
  have fy := Nat.add_zero
  refine goN ?_ ?_ ?_ ?_ ?_ ?_ ?_ ?_ ?_ ?_ ?_ ?_ ?_ ?_ ?_ ?_
  any_goals (first | exact True.intro | skip)
  skip
  unfold endsB
  generalize hp : (fun b : UInt8 => !decide ((b.toNat : Int) < 128)) = p
  refine SW.loop (fun i : Nat => ⟨[.sl .b (l.map Enc.b), .int .i64 (a : Nat), .undef, .undef, .undef, .int .i64 (i : Nat), .undef, .undef, .undef, .undef, .undef, .undef, .undef, .undef, .undef, .undef, .undef, .undef, .undef, .undef, .undef, .undef, .undef], [[]]⟩)
    (fun N i => N = l.length - i ∧ i ≤ l.length ∧ (l.drop a).all p = (l.drop i).all p) (n := l.length - a) (x := a) (Norm.to 0 rfl (by simp [weakL])) ⟨rfl, ha, rfl⟩ ?_
  rintro N i ⟨hn, hi, hall⟩
  have fy := Nat.add_zero
  refine goS ?_
  refine SW.cond rfl (fun hc => ?_) (fun hc => ?_)
  · have hlt : i < l.length := by simp at hc; omega
    have hgl : (l.map Enc.b)[i]? = some (T.int .u8 (l[i].toNat : Int)) := map_get Enc.b l i hlt
    have hwi : IntKind.i64.wrap ((i : Int) + 1) = ((i + 1 : Nat) : Int) := by rw [wrap64 _ (by omega) (by omega)]; omega
    rw [drop_all hlt] at hall
    have hpi : p l[i] = !decide ((l[i].toNat : Int) < 128) := by rw [← hp]
    rw [hpi] at hall
    have fy := And.intro hgl (hwi)
    refine goK ?_ ?_ ?_ ?_ ?_ ?_ ?_ ?_ ?_ ?_ ?_ ?_ ?_ ?_ ?_ ?_
    any_goals (first | exact True.intro | skip)
    all_goals (repeat (refine Wh.mk fun hcc => ?_))
    · rw [hcc] at hall
      rw [hall]
      simp [tupOf, fixEs]
    · rw [hcc] at hall
      refine ⟨N - 1, i + 1, by omega, ⟨by omega, by omega, by rw [hall]; simp⟩, ?_⟩
      exact Norm.to 0 rfl (by simp [weakL])
  · have hge : i = l.length := by
      have : ¬ i < l.length := by simp at hc; omega
      omega
    subst hge
    rw [List.drop_length, List.all_nil] at hall
    rw [hall]
    have hw : IntKind.i64.wrap ((l.length : Int) - (a : Int)) = (l.length : Int) - (a : Int) := wrap64 _ (by omega) (by omega)
    have fy := hw
    refine goK ?_ ?_ ?_ ?_ ?_ ?_ ?_ ?_ ?_ ?_ ?_ ?_ ?_ ?_ ?_ ?_
    any_goals (first | exact True.intro | skip)
    all_goals (repeat (refine Wh.mk fun hcc => ?_))
    all_goals (first | rfl | ((try simp only [tupOf, fixEs]); (first | done | rfl | (simp_all []; done) | grind [])))
end Q6

namespace Q6
open Go Go.Vm Go.Proofs
set_option maxHeartbeats 4000000
set_option synthInstance.maxSize 2000
set_option synthInstance.maxHeartbeats 400000
set_option maxRecDepth 10000
set_option linter.unusedSimpArgs false
set_option linter.unusedVariables false

theorem equalBytes_ok (l m : List UInt8) (hl : l.length ≤ 1048576) : CallR Try.prog 118 [.sl .b (l.map Enc.b), .sl .b (m.map Enc.b)] [] (.bool (decide (l = m))) := by
  refine CallR.of_body (n := 26) (rs := [.tmp 4]) hY.ok Try.func118 rfl (by decide) rfl rfl rfl rfl (fun F => ?_)
  have fx := And.intro Y3 (And.intro Y4 (And.intro Y5 (Y24)))
  have fy := Nat.add_zero
  refine goS ?_
  refine SW.cond rfl (fun hc => ?_) (fun hc => ?_)
  · have hne : ¬ l = m := by intro e; subst e; simp at hc
    have fy := Nat.add_zero
    refine goK ?_ ?_ ?_ ?_ ?_ ?_ ?_ ?_ ?_ ?_ ?_ ?_ ?_ ?_ ?_ ?_
    any_goals (first | exact True.intro | skip)
    all_goals (repeat (refine Wh.mk fun hcc => ?_))
    simp [tupOf, fixEs, hne]
  have hlen : l.length = m.length := by have : (l.length : Int) = m.length := by simpa using hc
                                        omega
  refine SW.skip ?_
  simp only [thenS]
  have fy := Nat.add_zero
  refine goN ?_ ?_ ?_ ?_ ?_ ?_ ?_ ?_ ?_ ?_ ?_ ?_ ?_ ?_ ?_ ?_
  any_goals (first | exact True.intro | skip)
  skip
  refine SW.loop (fun i : Nat => ⟨[.sl .b (l.map Enc.b), .sl .b (m.map Enc.b), .undef, .undef, .undef, .undef, .undef, .undef, .undef, .undef, .undef, .undef, .int .i64 (l.length : Nat), .int .i64 (i : Nat), .undef, .undef, .undef, .undef, .undef, .undef, .undef, .undef, .undef, .undef, .undef, .undef], [[]]⟩)
    (fun n i => n = l.length - i ∧ i ≤ l.length ∧ ∀ j (h : j < l.length), j < i → l[j] = m[j]'(by omega)) (n := l.length) (x := 0) (Norm.to 0 rfl (by simp [weakL])) ⟨rfl, Nat.zero_le _, fun j _ h => absurd h (Nat.not_lt_zero j)⟩ ?_
  rintro n i ⟨hn, hi, hp⟩
  have fy := Nat.add_zero
  refine goS ?_
  refine SW.cond rfl (fun hc => ?_) (fun hc => ?_)
  · have hlt : i < l.length := by simpa using hc
    have hlt' : i < m.length := by omega
    have hgl : (l.map Enc.b)[i]? = some (T.int .u8 (l[i].toNat : Int)) := map_get Enc.b l i hlt
    have hgm : (m.map Enc.b)[i]? = some (T.int .u8 (m[i].toNat : Int)) := map_get Enc.b m i hlt'
    have hwi : IntKind.i64.wrap ((i : Int) + 1) = ((i + 1 : Nat) : Int) := by rw [wrap64 _ (by omega) (by omega)]; omega
    have fy := And.intro hgl (And.intro hgm (hwi))
    refine goK ?_ ?_ ?_ ?_ ?_ ?_ ?_ ?_ ?_ ?_ ?_ ?_ ?_ ?_ ?_ ?_
    any_goals (first | exact True.intro | skip)
    all_goals (repeat (refine Wh.mk fun hcc => ?_))
    · have hx := hcc
      have hne : ¬ l[i] = m[i] := by intro e; simp [e] at hx
      have hlm : ¬ l = m := by intro e; subst e; exact hne rfl
      simp [tupOf, fixEs, hlm]
    · have hx := hcc
      have hx' : l[i] = m[i] := by apply UInt8.toNat_inj.1; simp at hx; omega
      refine ⟨n - 1, i + 1, by omega, ⟨by omega, by omega, fun j hj hji => ?_⟩, ?_⟩
      · by_cases he : j = i
        · subst he; exact hx'
        · exact hp j hj (by omega)
      · first | exact Norm.to 0 rfl (by simp [weakL]) | exact Norm.to 1 rfl (by simp [weakL])
  · have hge : i = l.length := by
      have : ¬ i < l.length := by simpa using hc
      omega
    have hlm : l = m := List.ext_getElem hlen fun j h1 h2 => hp j h1 (by omega)
    have fy := Nat.add_zero
    refine goK ?_ ?_ ?_ ?_ ?_ ?_ ?_ ?_ ?_ ?_ ?_ ?_ ?_ ?_ ?_ ?_
    any_goals (first | exact True.intro | skip)
    all_goals (repeat (refine Wh.mk fun hcc => ?_))
    simp [tupOf, fixEs, hlm]
end Q6

namespace Q6
open Go Go.Vm Go.Proofs
set_option maxHeartbeats 4000000
set_option synthInstance.maxSize 2000
set_option synthInstance.maxHeartbeats 400000
set_option maxRecDepth 10000
set_option linter.unusedSimpArgs false
set_option linter.unusedVariables false

theorem cloneBytes_ok (l : List UInt8) (hl : l.length ≤ 1048576) : CallR Try.prog 150 [.sl .b (l.map Enc.b)] [] (.ow 1 (l.map Enc.o)) := by
  refine CallR.of_body (n := 8) (rs := [.tmp 2]) hY.ok Try.func150 rfl (by decide) rfl rfl rfl rfl (fun F => ?_)
  have fx := And.intro Y4 (And.intro Y5 (Y24))
  have hap := @append_run Y 2 24 24 1 0 0 0 5 1 1 _ .b [] (l.map Enc.b) [[], [.arr 1 [] false], []] Y24 Y24 Y5 rfl (by decide) rfl (by simp) (by simp; omega) (nwL_b l) (fun z hz => by have := List.mem_of_mem_take hz; obtain ⟨x, _, rfl⟩ := List.mem_map.1 this; rfl)
  have hbo : l.map (Enc.b : UInt8 → T) = l.map Enc.o := rfl
  simp only [List.drop_nil, List.take_nil, List.nil_append, List.length_map, Nat.zero_add, kill] at hap
  refine SW.ops_seq hY fun y1 hy1 => ?_
  simp only [k13, upT_g, dnT_g, nb_g, dnT_b, dnT_s, dnT_0, dnT_r, fx, wo, decide_true, decide_false, wz0, wz1, wz2, wz3, wz4, wz5, wz6, wz7, wz8, appM, Ty.isInt, capT, appendZM, buildM, setAll, plSt, plAr, mnmx, Int.reduceLT, vrec, List.drop_succ_cons, List.drop_zero, convertM, indexM, fieldM, Int.toNat_zero, Int.toNat_one, Int.le_refl, Int.zero_le_ofNat, Int.reduceEq, Int.reduceNe, ne_eq, not_false_eq_true, u8_wrap, marksG_len, marks_len, bne_self_eq_false, take_map_len, tgL_byte, T.asArr, T.tg, tgL, indexAddrM, wk, wl, eq_self, isCall, callT, opM, S.ev, S.put, entryS, thawAL, thawA, RM.run, RM.bind, RM.ofOpt, allocs, Heap.ups, Heap.put, Heap.at, List.replicate, Nat.reduceAdd, Nat.reduceSub, ofConst, nilAs, if_false, if_true, binT, binTy, unT, guardT, quietK, reduceIte, boxM, allocM, loadM, storeM, fieldAddrM, lenT, extractT, subM, setOb, T.get, T.setp, T.offs, T.nw, nwL, T.cel, T.isNd, T.size, sizeL, TyI.agg, Ty.agg, Ty.isFn, zeroT, Nat.reduceLT, Nat.reduceEqDiff, sumT, kill]
  subst hy1
  refine SW.seq ?_
  refine SW.seq ?_
  refine SW.nilq hY rfl (by rw [Y24]) (by rw [Y24]; decide) (by simp) fun b hb => ?_
  simp only [thenS, List.set_cons_succ, List.set_cons_zero]
  cases b with
  | true =>
    have hl0 : l = [] := by cases l with | nil => rfl | cons x m => exact absurd (hb (by simp)) (by decide)
    subst hl0
    have fy := Nat.add_zero
    refine goK ?_ ?_ ?_ ?_ ?_ ?_ ?_ ?_ ?_ ?_ ?_ ?_ ?_ ?_ ?_ ?_
    any_goals (first | exact True.intro | skip)
    all_goals (repeat (refine Wh.mk fun hcc => ?_))
    all_goals simp [tupOf, fixEs]
  | false =>
    have fy := And.intro bs0_24 (hap)
    refine goR ?_ ?_ ?_ ?_ ?_ ?_ ?_ ?_ ?_ ?_ ?_ ?_ ?_ ?_ ?_ ?_
    any_goals (first | exact True.intro | skip)
    all_goals (repeat (refine Wh.mk fun hcc => ?_))
    rw [hbo]
    exact SW.ret (show RetQ _ _ _ _ _ _ _ from RetQ.y [1] [.ow 1 (l.map Enc.o)])
end Q6

namespace Q6
open Go Go.Vm Go.Proofs
set_option maxHeartbeats 4000000
set_option synthInstance.maxSize 2000
set_option synthInstance.maxHeartbeats 400000
set_option maxRecDepth 10000
set_option linter.unusedSimpArgs false
set_option linter.unusedVariables false

open Go.By

def grpR (l : List UInt8) (a : Nat) : Nat × Nat × Bool × Bool := let x := grp (l.drop a) 0 0 true; (x.1, if x.2.2.2 = true then 0 else a + x.2.1, x.2.2.1, x.2.2.2)

theorem groups_ok (l : List UInt8) (a : Nat) (hl : l.length ≤ 1048576) (ha : a ≤ l.length) : CallR Try.prog 149 [.sl .b (l.map Enc.b), .int .i64 (a : Nat)] [] (.tup [.int .i64 ((grpR l a).1 : Nat), .int .i64 ((grpR l a).2.1 : Nat), .bool (grpR l a).2.2.1, .bool (grpR l a).2.2.2]) := by
  refine CallR.of_body (n := 57) (rs := [.tmp 4, .tmp 5, .tmp 6, .tmp 7]) hY.ok Try.func149 rfl (by decide) rfl rfl rfl rfl (fun F => ?_)
  have fx := And.intro Y3 (And.intro Y4 (And.intro Y5 (Y24)))
  have fy := Nat.add_zero
  refine goN ?_ ?_ ?_ ?_ ?_ ?_ ?_ ?_ ?_ ?_ ?_ ?_ ?_ ?_ ?_ ?_
  any_goals (first | exact True.intro | skip)
  skip
  refine SW.loop (fun x : Nat × Nat × Bool => ⟨[.sl .b (l.map Enc.b), .int .i64 (a : Nat), .undef, .undef, .undef, .undef, .undef, .undef, .int .i64 (x.2.1 : Nat), .bool x.2.2, .int .i64 (x.1 : Nat), .undef, .undef, .undef, .undef, .undef, .undef, .undef, .undef, .undef, .undef, .undef, .undef, .undef, .undef, .undef, .undef, .undef, .undef, .undef, .undef, .undef, .undef, .undef, .undef, .undef, .undef, .undef, .undef, .undef, .undef, .undef, .undef, .undef, .undef, .undef, .undef, .undef, .undef, .undef, .undef, .undef, .undef, .undef, .undef, .undef, .undef], [[]]⟩)
    (fun N x => N = l.length - (a + x.1) ∧ a + x.1 ≤ l.length ∧ grp (l.drop (a + x.1)) x.1 x.2.1 x.2.2 = grp (l.drop a) 0 0 true ∧ (x.1 ≤ 6 → x.2.1 < 2 ^ (7 * x.1)) ∧ x.2.1 < 2 ^ 42) (n := l.length - a) (x := (0, 0, true)) (Norm.to 0 rfl (by simp [weakL])) ⟨rfl, ha, rfl, fun _ => by decide, by decide⟩ ?_
  rintro N ⟨k, m, g⟩ ⟨hN, hk, hg, hm6, hm42⟩
  simp only at hN hk hg hm6 hm42 ⊢
  have hw0 : IntKind.i64.wrap ((a : Int) + (k : Int)) = ((a + k : Nat) : Int) := by rw [wrap64 _ (by omega) (by omega)]; omega
  have fy := hw0
  refine goS ?_
  refine SW.cond rfl (fun hc => ?_) (fun hc => ?_)
  · have hlt : a + k < l.length := by simp at hc; omega
    have hgb : (l.map Enc.b)[a + k]? = some (.int .u8 ((l[a + k]).toNat : Int)) := map_get Enc.b l _ hlt
    have hd : l.drop (a + k) = l[a + k] :: l.drop (a + (k + 1)) := List.drop_eq_getElem_cons hlt
    rw [hd] at hg
    generalize hv : l[a + k] = v at *
    have hvl := v.toNat_lt
    have hbi := byte_i64 v
    have h127 := i64_and127 v.toNat (by omega)
    have hwk : IntKind.i64.wrap ((k : Int) + 1) = ((k + 1 : Nat) : Int) := by rw [wrap64 _ (by omega) (by omega)]; omega
    have hw1 : IntKind.i64.wrap (((a + k : Nat) : Int) + 1) = ((a + (k + 1) : Nat) : Int) := by rw [wrap64 _ (by omega) (by omega)]; omega
    have hk0 : ((k : Int) == 0) = decide (k = 0) := by by_cases h : k = 0 <;> simp [h]
    by_cases h6 : k < 6
    · have h6d : decide ((k : Int) < 6) = true := by simp; omega
      have hw7 : IntKind.i64.wrap (7 * (k : Int)) = ((7 * k : Nat) : Int) := by rw [wrap64 _ (by omega) (by omega)]; simp
      have h70 : (((7 * k : Nat) : Int) < 0) = False := by simp; omega
      have hgr := i64_grp m (v.toNat % 128) k (hm6 (by omega)) (by omega) h6
      rw [hw7, Int.toNat_natCast] at hgr
      rw [grp] at hg; simp only [if_pos h6] at hg
      by_cases hhi : v.toNat > 127
      · have hhd : decide ((v.toNat : Int) > 127) = true := by simp; omega
        rw [if_pos hhi] at hg
        have fy := And.intro hw0 (And.intro hgb (And.intro hbi (And.intro h127 (And.intro hwk (And.intro hw1 (And.intro h6d (And.intro hhd (And.intro hk0 (And.intro hw7 (And.intro h70 (hgr)))))))))))
        refine goR ?_ ?_ ?_ ?_ ?_ ?_ ?_ ?_ ?_ ?_ ?_ ?_ ?_ ?_ ?_ ?_
        any_goals (first | exact True.intro | skip)
        all_goals (repeat (refine Wh.mk fun hcc => ?_))
        refine ⟨N - 1, (k + 1, m + v.toNat % 128 * 2 ^ (7 * k), g), by omega, ⟨by simp only; omega, by simp only; omega, hg, fun _ => ?_, ?_⟩, Norm.to 0 rfl (by simp [weakL])⟩
        · have h1 : v.toNat % 128 * 2 ^ (7 * k) ≤ 127 * 2 ^ (7 * k) := Nat.mul_le_mul_right _ (by omega)
          have := hm6 (by omega)
          simp only; rw [show 7 * (k + 1) = 7 * k + 7 by omega, Nat.pow_add]; omega
        · have h1 : v.toNat % 128 * 2 ^ (7 * k) ≤ 127 * 2 ^ (7 * k) := Nat.mul_le_mul_right _ (by omega)
          have h2 := hm6 (by omega)
          have h3 : 2 ^ (7 * k) ≤ 2 ^ 35 := Nat.pow_le_pow_right (by decide) (by omega)
          simp only; omega
      · have hhd : decide ((v.toNat : Int) > 127) = false := by simp; omega
        rw [if_neg hhi] at hg
        have hgR : grpR l a = (m + v.toNat % 128 * 2 ^ (7 * k), a + (k + 1), g && (decide (v.toNat ≠ 0) || decide (k = 0)), false) := by unfold grpR; simp only [← hg]; simp
        rw [hgR]
        cases g <;> by_cases hz : v.toNat = 0
        · have hv0 : ((v.toNat : Int) != 0) = false := by simp [hz]
          have fy := And.intro hw0 (And.intro hgb (And.intro hbi (And.intro h127 (And.intro hwk (And.intro hw1 (And.intro h6d (And.intro hhd (And.intro hk0 (And.intro hw7 (And.intro h70 (And.intro hgr (hv0))))))))))))
          refine goK ?_ ?_ ?_ ?_ ?_ ?_ ?_ ?_ ?_ ?_ ?_ ?_ ?_ ?_ ?_ ?_
          any_goals (first | exact True.intro | skip)
          all_goals (repeat (refine Wh.mk fun hcc => ?_))
          all_goals (first | rfl | (simp [tupOf, fixEs, hz]; done))
        · have hv0 : ((v.toNat : Int) != 0) = true := by simp [hz]
          have fy := And.intro hw0 (And.intro hgb (And.intro hbi (And.intro h127 (And.intro hwk (And.intro hw1 (And.intro h6d (And.intro hhd (And.intro hk0 (And.intro hw7 (And.intro h70 (And.intro hgr (hv0))))))))))))
          refine goK ?_ ?_ ?_ ?_ ?_ ?_ ?_ ?_ ?_ ?_ ?_ ?_ ?_ ?_ ?_ ?_
          any_goals (first | exact True.intro | skip)
          all_goals (repeat (refine Wh.mk fun hcc => ?_))
          all_goals (first | rfl | (simp [tupOf, fixEs, hz]; done))
        · have hv0 : ((v.toNat : Int) != 0) = false := by simp [hz]
          have fy := And.intro hw0 (And.intro hgb (And.intro hbi (And.intro h127 (And.intro hwk (And.intro hw1 (And.intro h6d (And.intro hhd (And.intro hk0 (And.intro hw7 (And.intro h70 (And.intro hgr (hv0))))))))))))
          refine goK ?_ ?_ ?_ ?_ ?_ ?_ ?_ ?_ ?_ ?_ ?_ ?_ ?_ ?_ ?_ ?_
          any_goals (first | exact True.intro | skip)
          all_goals (repeat (refine Wh.mk fun hcc => ?_))
          all_goals (first | rfl | (simp [tupOf, fixEs, hz]; done))
        · have hv0 : ((v.toNat : Int) != 0) = true := by simp [hz]
          have fy := And.intro hw0 (And.intro hgb (And.intro hbi (And.intro h127 (And.intro hwk (And.intro hw1 (And.intro h6d (And.intro hhd (And.intro hk0 (And.intro hw7 (And.intro h70 (And.intro hgr (hv0))))))))))))
          refine goK ?_ ?_ ?_ ?_ ?_ ?_ ?_ ?_ ?_ ?_ ?_ ?_ ?_ ?_ ?_ ?_
          any_goals (first | exact True.intro | skip)
          all_goals (repeat (refine Wh.mk fun hcc => ?_))
          all_goals (first | rfl | (simp [tupOf, fixEs, hz]; done))
    · have h6d : decide ((k : Int) < 6) = false := by simp; omega
      rw [grp] at hg; simp only [if_neg h6] at hg
      have hv1 : (((v.toNat % 128 : Nat) : Int) != 0) = decide (v.toNat % 128 ≠ 0) := by by_cases h : v.toNat % 128 = 0 <;> simp [h]; omega
      by_cases hhi : v.toNat > 127
      · have hhd : decide ((v.toNat : Int) > 127) = true := by simp; omega
        rw [if_pos hhi] at hg
        by_cases h1 : v.toNat % 128 = 0
        · have hv1 : (((v.toNat % 128 : Nat) : Int) != 0) = false := by simp [h1]
          rw [if_neg (by simpa using h1)] at hg
          have fy := And.intro hw0 (And.intro hgb (And.intro hbi (And.intro h127 (And.intro hwk (And.intro hw1 (And.intro h6d (And.intro hhd (And.intro hk0 (hv1)))))))))
          refine goR ?_ ?_ ?_ ?_ ?_ ?_ ?_ ?_ ?_ ?_ ?_ ?_ ?_ ?_ ?_ ?_
          any_goals (first | exact True.intro | skip)
          all_goals (repeat (refine Wh.mk fun hcc => ?_))
          refine ⟨N - 1, (k + 1, m, g), by omega, ⟨by simp only; omega, by simp only; omega, hg, fun h => absurd h (by simp only; omega), hm42⟩, Norm.to 0 rfl (by simp [weakL])⟩
        · have hv1 : (((v.toNat % 128 : Nat) : Int) != 0) = true := by simp; omega
          rw [if_pos h1] at hg
          have fy := And.intro hw0 (And.intro hgb (And.intro hbi (And.intro h127 (And.intro hwk (And.intro hw1 (And.intro h6d (And.intro hhd (And.intro hk0 (hv1)))))))))
          refine goR ?_ ?_ ?_ ?_ ?_ ?_ ?_ ?_ ?_ ?_ ?_ ?_ ?_ ?_ ?_ ?_
          any_goals (first | exact True.intro | skip)
          all_goals (repeat (refine Wh.mk fun hcc => ?_))
          refine ⟨N - 1, (k + 1, m, false), by omega, ⟨by simp only; omega, by simp only; omega, hg, fun h => absurd h (by simp only; omega), hm42⟩, Norm.to 0 rfl (by simp [weakL])⟩
      · have hhd : decide ((v.toNat : Int) > 127) = false := by simp; omega
        rw [if_neg hhi] at hg
        have hgR : grpR l a = (m, a + (k + 1), (if v.toNat % 128 ≠ 0 then false else g) && (decide (v.toNat ≠ 0) || decide (k = 0)), false) := by unfold grpR; simp only [← hg]; simp
        rw [hgR]
        cases g <;> by_cases hz : v.toNat = 0
        · have hv0 : ((v.toNat : Int) != 0) = false := by simp [hz]
          have hv1 : (((v.toNat % 128 : Nat) : Int) != 0) = false := by simp [hz]
          have fy := And.intro hw0 (And.intro hgb (And.intro hbi (And.intro h127 (And.intro hwk (And.intro hw1 (And.intro h6d (And.intro hhd (And.intro hk0 (And.intro hv0 (hv1))))))))))
          refine goK ?_ ?_ ?_ ?_ ?_ ?_ ?_ ?_ ?_ ?_ ?_ ?_ ?_ ?_ ?_ ?_
          any_goals (first | exact True.intro | skip)
          all_goals (repeat (refine Wh.mk fun hcc => ?_))
          all_goals (first | rfl | (simp [tupOf, fixEs, hz]; done) | (have h9 : ¬ v.toNat % 128 = 0 := (by omega); simp [tupOf, fixEs, hz, h9]))
        · have hv0 : ((v.toNat : Int) != 0) = true := by simp [hz]
          have hv1 : (((v.toNat % 128 : Nat) : Int) != 0) = true := by simp; omega
          have fy := And.intro hw0 (And.intro hgb (And.intro hbi (And.intro h127 (And.intro hwk (And.intro hw1 (And.intro h6d (And.intro hhd (And.intro hk0 (And.intro hv0 (hv1))))))))))
          refine goK ?_ ?_ ?_ ?_ ?_ ?_ ?_ ?_ ?_ ?_ ?_ ?_ ?_ ?_ ?_ ?_
          any_goals (first | exact True.intro | skip)
          all_goals (repeat (refine Wh.mk fun hcc => ?_))
          all_goals (first | rfl | (simp [tupOf, fixEs, hz]; done) | (have h9 : ¬ v.toNat % 128 = 0 := (by omega); simp [tupOf, fixEs, hz, h9]))
        · have hv0 : ((v.toNat : Int) != 0) = false := by simp [hz]
          have hv1 : (((v.toNat % 128 : Nat) : Int) != 0) = false := by simp [hz]
          have fy := And.intro hw0 (And.intro hgb (And.intro hbi (And.intro h127 (And.intro hwk (And.intro hw1 (And.intro h6d (And.intro hhd (And.intro hk0 (And.intro hv0 (hv1))))))))))
          refine goK ?_ ?_ ?_ ?_ ?_ ?_ ?_ ?_ ?_ ?_ ?_ ?_ ?_ ?_ ?_ ?_
          any_goals (first | exact True.intro | skip)
          all_goals (repeat (refine Wh.mk fun hcc => ?_))
          all_goals (first | rfl | (simp [tupOf, fixEs, hz]; done) | (have h9 : ¬ v.toNat % 128 = 0 := (by omega); simp [tupOf, fixEs, hz, h9]))
        · have hv0 : ((v.toNat : Int) != 0) = true := by simp [hz]
          have hv1 : (((v.toNat % 128 : Nat) : Int) != 0) = true := by simp; omega
          have fy := And.intro hw0 (And.intro hgb (And.intro hbi (And.intro h127 (And.intro hwk (And.intro hw1 (And.intro h6d (And.intro hhd (And.intro hk0 (And.intro hv0 (hv1))))))))))
          refine goK ?_ ?_ ?_ ?_ ?_ ?_ ?_ ?_ ?_ ?_ ?_ ?_ ?_ ?_ ?_ ?_
          any_goals (first | exact True.intro | skip)
          all_goals (repeat (refine Wh.mk fun hcc => ?_))
          all_goals (first | rfl | (simp [tupOf, fixEs, hz]; done) | (have h9 : ¬ v.toNat % 128 = 0 := (by omega); simp [tupOf, fixEs, hz, h9]))
  · have hge : a + k = l.length := by
      have : ¬ a + k < l.length := by simp at hc; omega
      omega
    rw [hge, List.drop_length] at hg
    have hgR : grpR l a = (0, 0, false, true) := by unfold grpR; simp only [← hg]; rfl
    rw [hgR]
    have fy := hw0
    refine goK ?_ ?_ ?_ ?_ ?_ ?_ ?_ ?_ ?_ ?_ ?_ ?_ ?_ ?_ ?_ ?_
    any_goals (first | exact True.intro | skip)
    all_goals (repeat (refine Wh.mk fun hcc => ?_))
    all_goals (first | rfl | (simp [tupOf, fixEs]; done))
end Q6

namespace Q6
open Go Go.Vm Go.Proofs
set_option maxHeartbeats 4000000
set_option synthInstance.maxSize 2000
set_option synthInstance.maxHeartbeats 400000
set_option maxRecDepth 10000
set_option linter.unusedSimpArgs false
set_option linter.unusedVariables false

open Go.By

theorem grp_ends : ∀ (l : List UInt8) (k n : Nat) (g : Bool), (grp l k n g).2.2.2 = true → (grp l k n g).2.2.1 = false
  | [], _, _, _, _ => rfl
  | v :: l, k, n, g, h => by
    unfold grp at h ⊢
    simp only at h ⊢
    split
    · rename_i hv; rw [if_pos hv] at h; exact grp_ends l _ _ _ h
    · rename_i hv; rw [if_neg hv] at h; cases h
theorem getR_grp (l : List UInt8) (a : Nat) : getR l a = if ((grpR l a).2.2.1 && okN (unz (grpR l a).1)) = true then (unz (grpR l a).1, (grpR l a).2.1, true) else (0, 0, false) := by
  obtain ⟨h1, h2⟩ := grp_dec (l.drop a) 0 0 (by decide)
  have h3 := grp_ends (l.drop a) 0 0 true
  unfold getR grpR
  simp only
  cases hd : dec (l.drop a) 0 0 with
  | none => rw [h2 hd]; simp
  | some x =>
    obtain ⟨e1, e2, e3⟩ := h1 x hd
    have e4 : (grp (l.drop a) 0 0 true).2.2.2 = false := by
      cases he : (grp (l.drop a) 0 0 true).2.2.2 with
      | false => rfl
      | true => rw [h3 he] at e3; cases e3
    rw [e1, e2, e3, e4]; simp
theorem grpR_lt (l : List UInt8) (a : Nat) : (grpR l a).1 < 2 ^ 42 := grp_lt _ 0 0 true (by decide) (by decide)
theorem half_q (m : Nat) (h : m < 2 ^ 42) : IntKind.i64.wrap ((m : Int).tdiv 2) = ((m / 2 : Nat) : Int) := by
  rw [Int.tdiv_eq_ediv_of_nonneg (by omega), wrap64 _ (by omega) (by omega)]; omega
theorem half_r (m : Nat) : ((m : Int).tmod 2 == 1) = decide (m % 2 = 1) := by
  rw [Int.tmod_eq_emod_of_nonneg (by omega)]
  by_cases h : m % 2 = 1
  · have : (m : Int) % 2 = 1 := by omega
    simp [h, this]
  · have : ¬ (m : Int) % 2 = 1 := by omega
    simp [h, this]
theorem half_n (m : Nat) (h : m < 2 ^ 42) (ho : m % 2 = 1) : IntKind.i64.wrap ((IntKind.i64.wrap (0 - IntKind.i64.wrap ((m : Int) + 1))).tdiv 2) = unz m := by
  unfold unz
  rw [if_pos ho, wrap64 ((m : Int) + 1) (by omega) (by omega), wrap64 (0 - ((m : Int) + 1)) (by omega) (by omega)]
  have : (0 - ((m : Int) + 1)) = 2 * -(((m + 1) / 2 : Nat) : Int) := by omega
  rw [this, Int.mul_tdiv_cancel_left _ (by decide), wrap64 _ (by omega) (by omega)]
theorem unz_e (m : Nat) (ho : ¬ m % 2 = 1) : ((m / 2 : Nat) : Int) = unz m := by unfold unz; rw [if_neg ho]

theorem GetInt_ok (l : List UInt8) (a : Nat) (hl : l.length ≤ 1048576) (ha : a ≤ l.length) : CallR Try.prog 142 [.sl .b (l.map Enc.b), .int .i64 (a : Nat)] [] (.tup [.int .i64 (getR l a).1, .int .i64 ((getR l a).2.1 : Nat), .bool (getR l a).2.2]) := by
  refine CallR.of_body (n := 43) (rs := [.tmp 4, .tmp 5, .tmp 6]) hY.ok Try.func142 rfl (by decide) rfl rfl rfl rfl (fun F => ?_)
  have fx := And.intro Y1 (And.intro Y2 (And.intro Y3 (And.intro Y4 (And.intro Y5 (Y24)))))
  have hG := groups_ok l a hl ha
  have hm := grpR_lt l a
  have hR := getR_grp l a
  have hI := in_ok (a : Int) 0 (l.length : Int)
  rw [show (decide ((a : Int) ≥ 0) && decide ((a : Int) ≤ (l.length : Int))) = true by simp; omega] at hI
  generalize hg1 : (grpR l a).1 = m at *
  generalize hg2 : (grpR l a).2.1 = e at *
  generalize hg3 : (grpR l a).2.2.1 = ok at *
  generalize hg4 : (grpR l a).2.2.2 = en at *
  have hI2 := in_ok (unz m) (-1000000000000) 1000000000000
  rw [show (decide (unz m ≥ -1000000000000) && decide (unz m ≤ 1000000000000)) = okN (unz m) from rfl] at hI2
  have hq := half_q m hm
  have hr := half_r m
  rw [hR]
  clear hR hg1 hg2 hg3 hg4
  cases ok <;> cases hok : okN (unz m) <;> by_cases ho : m % 2 = 1
  · rw [hok] at hI2
    rw [show decide (m % 2 = 1) = true by simp [ho]] at hr
    have hn := half_n m hm ho
    have hC1 := cx [] (hG)
    have hC2 := cx [] (hI)
    have hC3 := cx [] (hI2)
    have fy := And.intro hq (And.intro hr (hn))
    refine goK ?_ ?_ ?_ ?_ ?_ ?_ ?_ ?_ ?_ ?_ ?_ ?_ ?_ ?_ ?_ ?_
    any_goals (first | exact True.intro | skip)
    all_goals (repeat (refine Wh.mk fun hcc => ?_))
    all_goals (first | rfl | (simp [tupOf, fixEs]; done))
  · rw [hok] at hI2
    rw [show decide (m % 2 = 1) = false by simp [ho]] at hr
    have hn := unz_e m ho
    have hC1 := cx [] (hG)
    have hC2 := cx [] (hI)
    have hC3 := cx [] (hI2)
    have fy := And.intro hq (And.intro hr (hn))
    refine goK ?_ ?_ ?_ ?_ ?_ ?_ ?_ ?_ ?_ ?_ ?_ ?_ ?_ ?_ ?_ ?_
    any_goals (first | exact True.intro | skip)
    all_goals (repeat (refine Wh.mk fun hcc => ?_))
    all_goals (first | rfl | (simp [tupOf, fixEs]; done))
  · rw [hok] at hI2
    rw [show decide (m % 2 = 1) = true by simp [ho]] at hr
    have hn := half_n m hm ho
    have hC1 := cx [] (hG)
    have hC2 := cx [] (hI)
    have hC3 := cx [] (hI2)
    have fy := And.intro hq (And.intro hr (hn))
    refine goK ?_ ?_ ?_ ?_ ?_ ?_ ?_ ?_ ?_ ?_ ?_ ?_ ?_ ?_ ?_ ?_
    any_goals (first | exact True.intro | skip)
    all_goals (repeat (refine Wh.mk fun hcc => ?_))
    all_goals (first | rfl | (simp [tupOf, fixEs]; done))
  · rw [hok] at hI2
    rw [show decide (m % 2 = 1) = false by simp [ho]] at hr
    have hn := unz_e m ho
    have hC1 := cx [] (hG)
    have hC2 := cx [] (hI)
    have hC3 := cx [] (hI2)
    have fy := And.intro hq (And.intro hr (hn))
    refine goK ?_ ?_ ?_ ?_ ?_ ?_ ?_ ?_ ?_ ?_ ?_ ?_ ?_ ?_ ?_ ?_
    any_goals (first | exact True.intro | skip)
    all_goals (repeat (refine Wh.mk fun hcc => ?_))
    all_goals (first | rfl | (simp [tupOf, fixEs]; done))
  · rw [hok] at hI2
    rw [show decide (m % 2 = 1) = true by simp [ho]] at hr
    have hn := half_n m hm ho
    have hC1 := cx [] (hG)
    have hC2 := cx [] (hI)
    have hC3 := cx [] (hI2)
    have fy := And.intro hq (And.intro hr (hn))
    refine goK ?_ ?_ ?_ ?_ ?_ ?_ ?_ ?_ ?_ ?_ ?_ ?_ ?_ ?_ ?_ ?_
    any_goals (first | exact True.intro | skip)
    all_goals (repeat (refine Wh.mk fun hcc => ?_))
    all_goals (first | rfl | (simp [tupOf, fixEs]; done))
  · rw [hok] at hI2
    rw [show decide (m % 2 = 1) = false by simp [ho]] at hr
    have hn := unz_e m ho
    have hC1 := cx [] (hG)
    have hC2 := cx [] (hI)
    have hC3 := cx [] (hI2)
    have fy := And.intro hq (And.intro hr (hn))
    refine goK ?_ ?_ ?_ ?_ ?_ ?_ ?_ ?_ ?_ ?_ ?_ ?_ ?_ ?_ ?_ ?_
    any_goals (first | exact True.intro | skip)
    all_goals (repeat (refine Wh.mk fun hcc => ?_))
    all_goals (first | rfl | (simp [tupOf, fixEs]; done))
  · rw [hok] at hI2
    rw [show decide (m % 2 = 1) = true by simp [ho]] at hr
    have hn := half_n m hm ho
    have hC1 := cx [] (hG)
    have hC2 := cx [] (hI)
    have hC3 := cx [] (hI2)
    have fy := And.intro hq (And.intro hr (hn))
    refine goK ?_ ?_ ?_ ?_ ?_ ?_ ?_ ?_ ?_ ?_ ?_ ?_ ?_ ?_ ?_ ?_
    any_goals (first | exact True.intro | skip)
    all_goals (repeat (refine Wh.mk fun hcc => ?_))
    all_goals (first | rfl | (simp [tupOf, fixEs]; done))
  · rw [hok] at hI2
    rw [show decide (m % 2 = 1) = false by simp [ho]] at hr
    have hn := unz_e m ho
    have hC1 := cx [] (hG)
    have hC2 := cx [] (hI)
    have hC3 := cx [] (hI2)
    have fy := And.intro hq (And.intro hr (hn))
    refine goK ?_ ?_ ?_ ?_ ?_ ?_ ?_ ?_ ?_ ?_ ?_ ?_ ?_ ?_ ?_ ?_
    any_goals (first | exact True.intro | skip)
    all_goals (repeat (refine Wh.mk fun hcc => ?_))
    all_goals (first | rfl | (simp [tupOf, fixEs]; done))
end Q6

namespace Q6
open Go Go.Vm Go.Proofs
set_option maxHeartbeats 4000000
set_option synthInstance.maxSize 2000
set_option synthInstance.maxHeartbeats 400000
set_option maxRecDepth 10000
set_option linter.unusedSimpArgs false
set_option linter.unusedVariables false

open Go.By

theorem i64_and1 (a : Nat) (h : a < 2 ^ 63) : IntKind.i64.wrap ((BitVec.ofInt IntKind.i64.bits (a : Int) &&& BitVec.ofInt IntKind.i64.bits 1).toNat : Int) = ((a % 2 : Nat) : Int) := by
  have e : (BitVec.ofInt 64 (a : Int) &&& BitVec.ofInt 64 1).toNat = a % 2 := by
    rw [BitVec.toNat_and, show BitVec.ofInt 64 (1 : Int) = 1#64 from rfl, BitVec.ofInt_natCast, BitVec.toNat_ofNat, show (1#64).toNat = 2 ^ 1 - 1 from rfl, Nat.and_two_pow_sub_one_eq_mod]; omega
  rw [bits64, e, wrap64 _ (by omega) (by omega)]
theorem i64_shr1 (a : Nat) : ((a : Int)).fdiv (2 ^ (min (1 : Int).toNat IntKind.i64.bits)) = ((a / 2 : Nat) : Int) := by
  rw [bits64, show (min (1 : Int).toNat 64) = 1 from rfl, Int.fdiv_eq_ediv_of_nonneg _ (by decide)]; simp
theorem unz_s (m : Nat) (h : m < 2 ^ 42) (ho : m % 2 = 1) : IntKind.i64.wrap (IntKind.i64.wrap (0 - ((m / 2 : Nat) : Int)) - 1) = unz m := by
  unfold unz
  rw [if_pos ho, wrap64 (0 - _) (by omega) (by omega), wrap64 _ (by omega) (by omega)]; omega

theorem sGetInt_ok (l : List UInt8) (a : Nat) (hl : l.length ≤ 1048576) (ha : a ≤ l.length) : CallR Try.prog 153 [.sl .b (l.map Enc.b), .int .i64 (a : Nat)] [] (.tup [.int .i64 (getR l a).1, .int .i64 ((getR l a).2.1 : Nat), .bool (getR l a).2.2]) := by
  refine CallR.of_body (n := 74) (rs := [.tmp 4, .tmp 5, .tmp 6]) hY.ok Try.func153 rfl (by decide) rfl rfl rfl rfl (fun F => ?_)
  have fx := And.intro Y3 (And.intro Y4 (And.intro Y5 (And.intro Y24 (Y133))))
  have fy := Nat.add_zero
  refine goN ?_ ?_ ?_ ?_ ?_ ?_ ?_ ?_ ?_ ?_ ?_ ?_ ?_ ?_ ?_ ?_
  any_goals (first | exact True.intro | skip)
  skip
  refine SW.loop (fun x : Nat × Nat => ⟨[.sl .b (l.map Enc.b), .int .i64 (a : Nat), .undef, .undef, .undef, .undef, .undef, .int .i64 (x.2 : Nat), .int .i64 (x.1 : Nat), .undef, .undef, .undef, .undef, .undef, .undef, .undef, .undef, .undef, .undef, .undef, .undef, .undef, .undef, .undef, .undef, .undef, .undef, .undef, .undef, .undef, .undef, .undef, .undef, .undef, .undef, .undef, .undef, .undef, .undef, .undef, .undef, .undef, .undef, .undef, .undef, .undef, .undef, .undef, .undef, .undef, .undef, .undef, .undef, .undef, .undef, .undef, .undef, .undef, .undef, .undef, .undef, .undef, .undef, .undef, .undef, .undef, .undef, .undef, .undef, .undef, .undef, .undef, .undef, .undef], [[]]⟩)
    (fun N x => N = 6 - x.1 ∧ x.1 ≤ 6 ∧ a + x.1 ≤ l.length ∧ dec (l.drop (a + x.1)) x.1 x.2 = dec (l.drop a) 0 0 ∧ x.2 < 2 ^ (7 * x.1)) (n := 6) (x := (0, 0)) (Norm.to 0 rfl (by simp [weakL])) ⟨rfl, by decide, ha, rfl, by decide⟩ ?_
  rintro N ⟨k, m⟩ ⟨hN, hk6, hk, hg, hm⟩
  simp only at hN hk6 hk hg hm ⊢
  have hw0 : IntKind.i64.wrap ((a : Int) + (k : Int)) = ((a + k : Nat) : Int) := by rw [wrap64 _ (by omega) (by omega)]; omega
  have ha0 : decide ((a : Int) ≥ 0) = true := by simp
  have hk0 : decide ((k : Int) > 0) = decide (k ≠ 0) := by by_cases h : k = 0 <;> simp [h]; omega
  by_cases h6 : k < 6
  · have h6d : decide ((k : Int) < 6) = true := by simp; omega
    by_cases hlt : a + k < l.length
    · have hal : decide ((a : Int) < (l.length : Int)) = true := by simp; omega
      have hkl : decide (((a + k : Nat) : Int) < (l.length : Int)) = true := by simp; omega
      have hgb : (l.map Enc.b)[a + k]? = some (.int .u8 ((l[a + k]).toNat : Int)) := map_get Enc.b l _ hlt
      have hd : l.drop (a + k) = l[a + k] :: l.drop (a + (k + 1)) := List.drop_eq_getElem_cons hlt
      rw [hd, dec, if_neg (by omega)] at hg
      generalize hv : l[a + k] = v at *
      have hvl := v.toNat_lt
      have hbi := byte_i64 v
      have h127 := i64_and127 v.toNat (by omega)
      have hwk : IntKind.i64.wrap ((k : Int) + 1) = ((k + 1 : Nat) : Int) := by rw [wrap64 _ (by omega) (by omega)]; omega
      have hw1 : IntKind.i64.wrap (((a + k : Nat) : Int) + 1) = ((a + (k + 1) : Nat) : Int) := by rw [wrap64 _ (by omega) (by omega)]; omega
      have hw7 : IntKind.i64.wrap (7 * (k : Int)) = ((7 * k : Nat) : Int) := by rw [wrap64 _ (by omega) (by omega)]; simp
      have hu7 : IntKind.u64.wrap ((7 * k : Nat) : Int) = ((7 * k : Nat) : Int) := by simp [IntKind.wrap, IntKind.bits, IntKind.signed]; omega
      have h70 : (((7 * k : Nat) : Int) < 0) = False := by simp; omega
      have hgr := i64_grp m (v.toNat % 128) k hm (by omega) h6
      rw [hw7, Int.toNat_natCast] at hgr
      have hstep : m + v.toNat % 128 * 2 ^ (7 * k) < 2 ^ (7 * (k + 1)) := by
        have h1 : v.toNat % 128 * 2 ^ (7 * k) ≤ 127 * 2 ^ (7 * k) := Nat.mul_le_mul_right _ (by omega)
        rw [show 7 * (k + 1) = 7 * k + 7 by omega, Nat.pow_add]; omega
      have hM42 : m + v.toNat % 128 * 2 ^ (7 * k) < 2 ^ 42 := by
        have : 2 ^ (7 * (k + 1)) ≤ 2 ^ 42 := Nat.pow_le_pow_right (by decide) (by omega)
        omega
      generalize hMd : m + v.toNat % 128 * 2 ^ (7 * k) = M at *
      by_cases hhi : v.toNat > 127
      · have hhd : decide ((v.toNat : Int) > 127) = true := by simp; omega
        rw [if_pos hhi] at hg
        have fy := And.intro hw0 (And.intro ha0 (And.intro hk0 (And.intro h6d (And.intro hal (And.intro hkl (And.intro hgb (And.intro hbi (And.intro h127 (And.intro hwk (And.intro hw1 (And.intro hw7 (And.intro hu7 (And.intro h70 (And.intro hgr (hhd)))))))))))))))
        refine goR ?_ ?_ ?_ ?_ ?_ ?_ ?_ ?_ ?_ ?_ ?_ ?_ ?_ ?_ ?_ ?_
        any_goals (first | exact True.intro | skip)
        all_goals (repeat (refine Wh.mk fun hcc => ?_))
        refine ⟨N - 1, (k + 1, M), by omega, ⟨by simp only; omega, by simp only; omega, by simp only; omega, hg, hstep⟩, Norm.to 0 rfl (by simp [weakL])⟩
      · have hhd : decide ((v.toNat : Int) > 127) = false := by simp; omega
        rw [if_neg hhi] at hg
        have hsh := i64_shr1 M
        rw [Int.toNat_one] at hsh
        have hand := i64_and1 M (by omega)
        have hI2 := l1In_ok (unz M) (-1000000000000) 1000000000000
        rw [show (decide (unz M ≥ -1000000000000) && decide (unz M ≤ 1000000000000)) = okN (unz M) from rfl] at hI2
        have hRz : getR l a = if (decide (k ≠ 0) && decide (v.toNat = 0)) = true then (0, 0, false) else if okN (unz M) = true then (unz M, a + (k + 1), true) else (0, 0, false) := by
          unfold getR; rw [← hg]
          by_cases hz : v.toNat = 0 <;> by_cases hkz : k = 0 <;> simp [hz, hkz]
        rw [hRz]
        have hv0 : ((v.toNat : Int) == 0) = decide (v.toNat = 0) := by by_cases h : v.toNat = 0 <;> simp [h]
        have ho1 : (((M % 2 : Nat) : Int) == 1) = decide (M % 2 = 1) := by by_cases h : M % 2 = 1 <;> simp [h]; omega
        clear hRz hg
        cases hok : okN (unz M) <;> by_cases ho : M % 2 = 1 <;> by_cases hkz : k = 0 <;> by_cases hz : v.toNat = 0
        · rw [hok] at hI2
          rw [show decide (M % 2 = 1) = true by simp [ho]] at ho1
          rw [show decide (k ≠ 0) = false by simp [hkz]] at hk0
          rw [show decide (v.toNat = 0) = true by simp [hz]] at hv0
          have hn := unz_s M hM42 ho
          have hC1 := cx [] (hI2)
          have fy := And.intro hw0 (And.intro ha0 (And.intro hk0 (And.intro h6d (And.intro hal (And.intro hkl (And.intro hgb (And.intro hbi (And.intro h127 (And.intro hwk (And.intro hw1 (And.intro hw7 (And.intro hu7 (And.intro h70 (And.intro hgr (And.intro hhd (And.intro hsh (And.intro hand (And.intro hn (And.intro hv0 (ho1))))))))))))))))))))
          refine goK ?_ ?_ ?_ ?_ ?_ ?_ ?_ ?_ ?_ ?_ ?_ ?_ ?_ ?_ ?_ ?_
          any_goals (first | exact True.intro | skip)
          all_goals (repeat (refine Wh.mk fun hcc => ?_))
          all_goals (first | rfl | (simp [tupOf, fixEs, hkz, hz]; done))
        · rw [hok] at hI2
          rw [show decide (M % 2 = 1) = true by simp [ho]] at ho1
          rw [show decide (k ≠ 0) = false by simp [hkz]] at hk0
          rw [show decide (v.toNat = 0) = false by simp [hz]] at hv0
          have hn := unz_s M hM42 ho
          have hC1 := cx [] (hI2)
          have fy := And.intro hw0 (And.intro ha0 (And.intro hk0 (And.intro h6d (And.intro hal (And.intro hkl (And.intro hgb (And.intro hbi (And.intro h127 (And.intro hwk (And.intro hw1 (And.intro hw7 (And.intro hu7 (And.intro h70 (And.intro hgr (And.intro hhd (And.intro hsh (And.intro hand (And.intro hn (And.intro hv0 (ho1))))))))))))))))))))
          refine goK ?_ ?_ ?_ ?_ ?_ ?_ ?_ ?_ ?_ ?_ ?_ ?_ ?_ ?_ ?_ ?_
          any_goals (first | exact True.intro | skip)
          all_goals (repeat (refine Wh.mk fun hcc => ?_))
          all_goals (first | rfl | (simp [tupOf, fixEs, hkz, hz]; done))
        · rw [hok] at hI2
          rw [show decide (M % 2 = 1) = true by simp [ho]] at ho1
          rw [show decide (k ≠ 0) = true by simp [hkz]] at hk0
          rw [show decide (v.toNat = 0) = true by simp [hz]] at hv0
          have hn := unz_s M hM42 ho
          have hC1 := cx [] (hI2)
          have fy := And.intro hw0 (And.intro ha0 (And.intro hk0 (And.intro h6d (And.intro hal (And.intro hkl (And.intro hgb (And.intro hbi (And.intro h127 (And.intro hwk (And.intro hw1 (And.intro hw7 (And.intro hu7 (And.intro h70 (And.intro hgr (And.intro hhd (And.intro hsh (And.intro hand (And.intro hn (And.intro hv0 (ho1))))))))))))))))))))
          refine goK ?_ ?_ ?_ ?_ ?_ ?_ ?_ ?_ ?_ ?_ ?_ ?_ ?_ ?_ ?_ ?_
          any_goals (first | exact True.intro | skip)
          all_goals (repeat (refine Wh.mk fun hcc => ?_))
          all_goals (first | rfl | (simp [tupOf, fixEs, hkz, hz]; done))
        · rw [hok] at hI2
          rw [show decide (M % 2 = 1) = true by simp [ho]] at ho1
          rw [show decide (k ≠ 0) = true by simp [hkz]] at hk0
          rw [show decide (v.toNat = 0) = false by simp [hz]] at hv0
          have hn := unz_s M hM42 ho
          have hC1 := cx [] (hI2)
          have fy := And.intro hw0 (And.intro ha0 (And.intro hk0 (And.intro h6d (And.intro hal (And.intro hkl (And.intro hgb (And.intro hbi (And.intro h127 (And.intro hwk (And.intro hw1 (And.intro hw7 (And.intro hu7 (And.intro h70 (And.intro hgr (And.intro hhd (And.intro hsh (And.intro hand (And.intro hn (And.intro hv0 (ho1))))))))))))))))))))
          refine goK ?_ ?_ ?_ ?_ ?_ ?_ ?_ ?_ ?_ ?_ ?_ ?_ ?_ ?_ ?_ ?_
          any_goals (first | exact True.intro | skip)
          all_goals (repeat (refine Wh.mk fun hcc => ?_))
          all_goals (first | rfl | (simp [tupOf, fixEs, hkz, hz]; done))
        · rw [hok] at hI2
          rw [show decide (M % 2 = 1) = false by simp [ho]] at ho1
          rw [show decide (k ≠ 0) = false by simp [hkz]] at hk0
          rw [show decide (v.toNat = 0) = true by simp [hz]] at hv0
          have hn := unz_e M ho
          have hC1 := cx [] (hI2)
          have fy := And.intro hw0 (And.intro ha0 (And.intro hk0 (And.intro h6d (And.intro hal (And.intro hkl (And.intro hgb (And.intro hbi (And.intro h127 (And.intro hwk (And.intro hw1 (And.intro hw7 (And.intro hu7 (And.intro h70 (And.intro hgr (And.intro hhd (And.intro hsh (And.intro hand (And.intro hn (And.intro hv0 (ho1))))))))))))))))))))
          refine goK ?_ ?_ ?_ ?_ ?_ ?_ ?_ ?_ ?_ ?_ ?_ ?_ ?_ ?_ ?_ ?_
          any_goals (first | exact True.intro | skip)
          all_goals (repeat (refine Wh.mk fun hcc => ?_))
          all_goals (first | rfl | (simp [tupOf, fixEs, hkz, hz]; done))
        · rw [hok] at hI2
          rw [show decide (M % 2 = 1) = false by simp [ho]] at ho1
          rw [show decide (k ≠ 0) = false by simp [hkz]] at hk0
          rw [show decide (v.toNat = 0) = false by simp [hz]] at hv0
          have hn := unz_e M ho
          have hC1 := cx [] (hI2)
          have fy := And.intro hw0 (And.intro ha0 (And.intro hk0 (And.intro h6d (And.intro hal (And.intro hkl (And.intro hgb (And.intro hbi (And.intro h127 (And.intro hwk (And.intro hw1 (And.intro hw7 (And.intro hu7 (And.intro h70 (And.intro hgr (And.intro hhd (And.intro hsh (And.intro hand (And.intro hn (And.intro hv0 (ho1))))))))))))))))))))
          refine goK ?_ ?_ ?_ ?_ ?_ ?_ ?_ ?_ ?_ ?_ ?_ ?_ ?_ ?_ ?_ ?_
          any_goals (first | exact True.intro | skip)
          all_goals (repeat (refine Wh.mk fun hcc => ?_))
          all_goals (first | rfl | (simp [tupOf, fixEs, hkz, hz]; done))
        · rw [hok] at hI2
          rw [show decide (M % 2 = 1) = false by simp [ho]] at ho1
          rw [show decide (k ≠ 0) = true by simp [hkz]] at hk0
          rw [show decide (v.toNat = 0) = true by simp [hz]] at hv0
          have hn := unz_e M ho
          have hC1 := cx [] (hI2)
          have fy := And.intro hw0 (And.intro ha0 (And.intro hk0 (And.intro h6d (And.intro hal (And.intro hkl (And.intro hgb (And.intro hbi (And.intro h127 (And.intro hwk (And.intro hw1 (And.intro hw7 (And.intro hu7 (And.intro h70 (And.intro hgr (And.intro hhd (And.intro hsh (And.intro hand (And.intro hn (And.intro hv0 (ho1))))))))))))))))))))
          refine goK ?_ ?_ ?_ ?_ ?_ ?_ ?_ ?_ ?_ ?_ ?_ ?_ ?_ ?_ ?_ ?_
          any_goals (first | exact True.intro | skip)
          all_goals (repeat (refine Wh.mk fun hcc => ?_))
          all_goals (first | rfl | (simp [tupOf, fixEs, hkz, hz]; done))
        · rw [hok] at hI2
          rw [show decide (M % 2 = 1) = false by simp [ho]] at ho1
          rw [show decide (k ≠ 0) = true by simp [hkz]] at hk0
          rw [show decide (v.toNat = 0) = false by simp [hz]] at hv0
          have hn := unz_e M ho
          have hC1 := cx [] (hI2)
          have fy := And.intro hw0 (And.intro ha0 (And.intro hk0 (And.intro h6d (And.intro hal (And.intro hkl (And.intro hgb (And.intro hbi (And.intro h127 (And.intro hwk (And.intro hw1 (And.intro hw7 (And.intro hu7 (And.intro h70 (And.intro hgr (And.intro hhd (And.intro hsh (And.intro hand (And.intro hn (And.intro hv0 (ho1))))))))))))))))))))
          refine goK ?_ ?_ ?_ ?_ ?_ ?_ ?_ ?_ ?_ ?_ ?_ ?_ ?_ ?_ ?_ ?_
          any_goals (first | exact True.intro | skip)
          all_goals (repeat (refine Wh.mk fun hcc => ?_))
          all_goals (first | rfl | (simp [tupOf, fixEs, hkz, hz]; done))
        · rw [hok] at hI2
          rw [show decide (M % 2 = 1) = true by simp [ho]] at ho1
          rw [show decide (k ≠ 0) = false by simp [hkz]] at hk0
          rw [show decide (v.toNat = 0) = true by simp [hz]] at hv0
          have hn := unz_s M hM42 ho
          have hC1 := cx [] (hI2)
          have fy := And.intro hw0 (And.intro ha0 (And.intro hk0 (And.intro h6d (And.intro hal (And.intro hkl (And.intro hgb (And.intro hbi (And.intro h127 (And.intro hwk (And.intro hw1 (And.intro hw7 (And.intro hu7 (And.intro h70 (And.intro hgr (And.intro hhd (And.intro hsh (And.intro hand (And.intro hn (And.intro hv0 (ho1))))))))))))))))))))
          refine goK ?_ ?_ ?_ ?_ ?_ ?_ ?_ ?_ ?_ ?_ ?_ ?_ ?_ ?_ ?_ ?_
          any_goals (first | exact True.intro | skip)
          all_goals (repeat (refine Wh.mk fun hcc => ?_))
          all_goals (first | rfl | (simp [tupOf, fixEs, hkz, hz]; done))
        · rw [hok] at hI2
          rw [show decide (M % 2 = 1) = true by simp [ho]] at ho1
          rw [show decide (k ≠ 0) = false by simp [hkz]] at hk0
          rw [show decide (v.toNat = 0) = false by simp [hz]] at hv0
          have hn := unz_s M hM42 ho
          have hC1 := cx [] (hI2)
          have fy := And.intro hw0 (And.intro ha0 (And.intro hk0 (And.intro h6d (And.intro hal (And.intro hkl (And.intro hgb (And.intro hbi (And.intro h127 (And.intro hwk (And.intro hw1 (And.intro hw7 (And.intro hu7 (And.intro h70 (And.intro hgr (And.intro hhd (And.intro hsh (And.intro hand (And.intro hn (And.intro hv0 (ho1))))))))))))))))))))
          refine goK ?_ ?_ ?_ ?_ ?_ ?_ ?_ ?_ ?_ ?_ ?_ ?_ ?_ ?_ ?_ ?_
          any_goals (first | exact True.intro | skip)
          all_goals (repeat (refine Wh.mk fun hcc => ?_))
          all_goals (first | rfl | (simp [tupOf, fixEs, hkz, hz]; done))
        · rw [hok] at hI2
          rw [show decide (M % 2 = 1) = true by simp [ho]] at ho1
          rw [show decide (k ≠ 0) = true by simp [hkz]] at hk0
          rw [show decide (v.toNat = 0) = true by simp [hz]] at hv0
          have hn := unz_s M hM42 ho
          have hC1 := cx [] (hI2)
          have fy := And.intro hw0 (And.intro ha0 (And.intro hk0 (And.intro h6d (And.intro hal (And.intro hkl (And.intro hgb (And.intro hbi (And.intro h127 (And.intro hwk (And.intro hw1 (And.intro hw7 (And.intro hu7 (And.intro h70 (And.intro hgr (And.intro hhd (And.intro hsh (And.intro hand (And.intro hn (And.intro hv0 (ho1))))))))))))))))))))
          refine goK ?_ ?_ ?_ ?_ ?_ ?_ ?_ ?_ ?_ ?_ ?_ ?_ ?_ ?_ ?_ ?_
          any_goals (first | exact True.intro | skip)
          all_goals (repeat (refine Wh.mk fun hcc => ?_))
          all_goals (first | rfl | (simp [tupOf, fixEs, hkz, hz]; done))
        · rw [hok] at hI2
          rw [show decide (M % 2 = 1) = true by simp [ho]] at ho1
          rw [show decide (k ≠ 0) = true by simp [hkz]] at hk0
          rw [show decide (v.toNat = 0) = false by simp [hz]] at hv0
          have hn := unz_s M hM42 ho
          have hC1 := cx [] (hI2)
          have fy := And.intro hw0 (And.intro ha0 (And.intro hk0 (And.intro h6d (And.intro hal (And.intro hkl (And.intro hgb (And.intro hbi (And.intro h127 (And.intro hwk (And.intro hw1 (And.intro hw7 (And.intro hu7 (And.intro h70 (And.intro hgr (And.intro hhd (And.intro hsh (And.intro hand (And.intro hn (And.intro hv0 (ho1))))))))))))))))))))
          refine goK ?_ ?_ ?_ ?_ ?_ ?_ ?_ ?_ ?_ ?_ ?_ ?_ ?_ ?_ ?_ ?_
          any_goals (first | exact True.intro | skip)
          all_goals (repeat (refine Wh.mk fun hcc => ?_))
          all_goals (first | rfl | (simp [tupOf, fixEs, hkz, hz]; done))
        · rw [hok] at hI2
          rw [show decide (M % 2 = 1) = false by simp [ho]] at ho1
          rw [show decide (k ≠ 0) = false by simp [hkz]] at hk0
          rw [show decide (v.toNat = 0) = true by simp [hz]] at hv0
          have hn := unz_e M ho
          have hC1 := cx [] (hI2)
          have fy := And.intro hw0 (And.intro ha0 (And.intro hk0 (And.intro h6d (And.intro hal (And.intro hkl (And.intro hgb (And.intro hbi (And.intro h127 (And.intro hwk (And.intro hw1 (And.intro hw7 (And.intro hu7 (And.intro h70 (And.intro hgr (And.intro hhd (And.intro hsh (And.intro hand (And.intro hn (And.intro hv0 (ho1))))))))))))))))))))
          refine goK ?_ ?_ ?_ ?_ ?_ ?_ ?_ ?_ ?_ ?_ ?_ ?_ ?_ ?_ ?_ ?_
          any_goals (first | exact True.intro | skip)
          all_goals (repeat (refine Wh.mk fun hcc => ?_))
          all_goals (first | rfl | (simp [tupOf, fixEs, hkz, hz]; done))
        · rw [hok] at hI2
          rw [show decide (M % 2 = 1) = false by simp [ho]] at ho1
          rw [show decide (k ≠ 0) = false by simp [hkz]] at hk0
          rw [show decide (v.toNat = 0) = false by simp [hz]] at hv0
          have hn := unz_e M ho
          have hC1 := cx [] (hI2)
          have fy := And.intro hw0 (And.intro ha0 (And.intro hk0 (And.intro h6d (And.intro hal (And.intro hkl (And.intro hgb (And.intro hbi (And.intro h127 (And.intro hwk (And.intro hw1 (And.intro hw7 (And.intro hu7 (And.intro h70 (And.intro hgr (And.intro hhd (And.intro hsh (And.intro hand (And.intro hn (And.intro hv0 (ho1))))))))))))))))))))
          refine goK ?_ ?_ ?_ ?_ ?_ ?_ ?_ ?_ ?_ ?_ ?_ ?_ ?_ ?_ ?_ ?_
          any_goals (first | exact True.intro | skip)
          all_goals (repeat (refine Wh.mk fun hcc => ?_))
          all_goals (first | rfl | (simp [tupOf, fixEs, hkz, hz]; done))
        · rw [hok] at hI2
          rw [show decide (M % 2 = 1) = false by simp [ho]] at ho1
          rw [show decide (k ≠ 0) = true by simp [hkz]] at hk0
          rw [show decide (v.toNat = 0) = true by simp [hz]] at hv0
          have hn := unz_e M ho
          have hC1 := cx [] (hI2)
          have fy := And.intro hw0 (And.intro ha0 (And.intro hk0 (And.intro h6d (And.intro hal (And.intro hkl (And.intro hgb (And.intro hbi (And.intro h127 (And.intro hwk (And.intro hw1 (And.intro hw7 (And.intro hu7 (And.intro h70 (And.intro hgr (And.intro hhd (And.intro hsh (And.intro hand (And.intro hn (And.intro hv0 (ho1))))))))))))))))))))
          refine goK ?_ ?_ ?_ ?_ ?_ ?_ ?_ ?_ ?_ ?_ ?_ ?_ ?_ ?_ ?_ ?_
          any_goals (first | exact True.intro | skip)
          all_goals (repeat (refine Wh.mk fun hcc => ?_))
          all_goals (first | rfl | (simp [tupOf, fixEs, hkz, hz]; done))
        · rw [hok] at hI2
          rw [show decide (M % 2 = 1) = false by simp [ho]] at ho1
          rw [show decide (k ≠ 0) = true by simp [hkz]] at hk0
          rw [show decide (v.toNat = 0) = false by simp [hz]] at hv0
          have hn := unz_e M ho
          have hC1 := cx [] (hI2)
          have fy := And.intro hw0 (And.intro ha0 (And.intro hk0 (And.intro h6d (And.intro hal (And.intro hkl (And.intro hgb (And.intro hbi (And.intro h127 (And.intro hwk (And.intro hw1 (And.intro hw7 (And.intro hu7 (And.intro h70 (And.intro hgr (And.intro hhd (And.intro hsh (And.intro hand (And.intro hn (And.intro hv0 (ho1))))))))))))))))))))
          refine goK ?_ ?_ ?_ ?_ ?_ ?_ ?_ ?_ ?_ ?_ ?_ ?_ ?_ ?_ ?_ ?_
          any_goals (first | exact True.intro | skip)
          all_goals (repeat (refine Wh.mk fun hcc => ?_))
          all_goals (first | rfl | (simp [tupOf, fixEs, hkz, hz]; done))
    · have hge : a + k = l.length := by omega
      have hkl : decide (((a + k : Nat) : Int) < (l.length : Int)) = false := by simp; omega
      rw [hge, List.drop_length] at hg
      have hR : getR l a = (0, 0, false) := by unfold getR; rw [← hg]; rfl
      rw [hR]
      by_cases hz : a < l.length
      · have hal : decide ((a : Int) < (l.length : Int)) = true := by simp; omega
        have fy := And.intro hw0 (And.intro ha0 (And.intro h6d (And.intro hal (hkl))))
        refine goK ?_ ?_ ?_ ?_ ?_ ?_ ?_ ?_ ?_ ?_ ?_ ?_ ?_ ?_ ?_ ?_
        any_goals (first | exact True.intro | skip)
        all_goals (repeat (refine Wh.mk fun hcc => ?_))
        all_goals (first | rfl | (simp [tupOf, fixEs]; done))
      · have hal : decide ((a : Int) < (l.length : Int)) = false := by simp; omega
        have fy := And.intro hw0 (And.intro ha0 (And.intro h6d (And.intro hal (hkl))))
        refine goK ?_ ?_ ?_ ?_ ?_ ?_ ?_ ?_ ?_ ?_ ?_ ?_ ?_ ?_ ?_ ?_
        any_goals (first | exact True.intro | skip)
        all_goals (repeat (refine Wh.mk fun hcc => ?_))
        all_goals (first | rfl | (simp [tupOf, fixEs]; done))
  · have h6d : decide ((k : Int) < 6) = false := by simp; omega
    have hR : getR l a = (0, 0, false) := by
      unfold getR; rw [← hg]
      cases hdr : l.drop (a + k) with
      | nil => rfl
      | cons v r => rw [dec, if_pos (by omega)]
    rw [hR]
    have fy := And.intro hw0 (And.intro ha0 (h6d))
    refine goK ?_ ?_ ?_ ?_ ?_ ?_ ?_ ?_ ?_ ?_ ?_ ?_ ?_ ?_ ?_ ?_
    any_goals (first | exact True.intro | skip)
    all_goals (repeat (refine Wh.mk fun hcc => ?_))
    all_goals (first | rfl | (simp [tupOf, fixEs]; done))
end Q6

namespace Q6
open Go Go.Vm Go.Proofs
set_option maxHeartbeats 4000000
set_option synthInstance.maxSize 2000
set_option synthInstance.maxHeartbeats 400000
set_option maxRecDepth 10000
set_option linter.unusedSimpArgs false
set_option linter.unusedVariables false

open Go.By

/-- a reader: how far it is, and whether it is bad -/
abbrev RS := Nat × Bool
def oneR (l : List UInt8) (s : RS) : Int × RS := if (s.2 || !(getR l s.1).2.2) = true then (0, s.1, true) else ((getR l s.1).1, (getR l s.1).2.1, false)
theorem getR_le (l : List UInt8) (a : Nat) (ha : a ≤ l.length) : (getR l a).2.1 ≤ l.length := by
  rw [getR_pI l a ha]; split <;> simp <;> omega
theorem oneR_le (l : List UInt8) (s : RS) (ha : s.1 ≤ l.length) : (oneR l s).2.1 ≤ l.length := by
  unfold oneR; split
  · exact ha
  · exact getR_le l s.1 ha
theorem oneR_bad (l : List UInt8) (s : RS) (h : s.2 = true) : oneR l s = (0, s.1, true) := by unfold oneR; rw [h]; rfl

theorem one_ok (k : Nat) (l : List UInt8) (s : RS) (hl : l.length ≤ 1048576) (ha : s.1 ≤ l.length) : CallR Try.prog 85 [.io (.nd [.sl (gOf k) (l.map Enc.b), .int .i64 (s.1 : Nat), .bool s.2])] [.nd [.sl (gOf k) (l.map Enc.b), .int .i64 ((oneR l s).2.1 : Nat), .bool (oneR l s).2.2]] (.int .i64 (oneR l s).1) := by
  refine CallR.of_body (n := 35) (rs := [.tmp 2]) hY.ok Try.func85 rfl (by decide) rfl rfl rfl rfl (fun F => ?_)
  have fx := And.intro Y1 (And.intro Y2 (And.intro Y3 (And.intro Y4 (And.intro Y5 (And.intro Y24 (And.intro Y97 (Y99)))))))
  have hG := GetInt_ok l s.1 hl ha
  obtain ⟨a, bad⟩ := s
  have hR : oneR l (a, bad) = if (bad || !(getR l a).2.2) = true then (0, a, true) else ((getR l a).1, (getR l a).2.1, false) := rfl
  simp only at hG ha ⊢
  rw [hR]
  clear hR
  generalize (getR l a).1 = n at *
  generalize (getR l a).2.1 = e at *
  generalize (getR l a).2.2 = ok at *
  cases bad <;> cases ok
  · skip
    have hC1 := cx [] (hG)
    have fy := Nat.add_zero
    refine goR ?_ ?_ ?_ ?_ ?_ ?_ ?_ ?_ ?_ ?_ ?_ ?_ ?_ ?_ ?_ ?_
    any_goals (first | exact True.intro | skip)
    all_goals (repeat (refine Wh.mk fun hcc => ?_))
    exact SW.ret (show RetQ _ _ _ _ _ _ _ from RetQ.y [0] [.int .i64 0])
  · skip
    have hC1 := cx [] (hG)
    have fy := Nat.add_zero
    refine goR ?_ ?_ ?_ ?_ ?_ ?_ ?_ ?_ ?_ ?_ ?_ ?_ ?_ ?_ ?_ ?_
    any_goals (first | exact True.intro | skip)
    all_goals (repeat (refine Wh.mk fun hcc => ?_))
    exact SW.ret (show RetQ _ _ _ _ _ _ _ from RetQ.y [0] [.int .i64 n])
  · skip
    have hC1 := cx [] (hG)
    have fy := Nat.add_zero
    refine goR ?_ ?_ ?_ ?_ ?_ ?_ ?_ ?_ ?_ ?_ ?_ ?_ ?_ ?_ ?_ ?_
    any_goals (first | exact True.intro | skip)
    all_goals (repeat (refine Wh.mk fun hcc => ?_))
    exact SW.ret (show RetQ _ _ _ _ _ _ _ from RetQ.y [0] [.int .i64 0])
  · skip
    have hC1 := cx [] (hG)
    have fy := Nat.add_zero
    refine goR ?_ ?_ ?_ ?_ ?_ ?_ ?_ ?_ ?_ ?_ ?_ ?_ ?_ ?_ ?_ ?_
    any_goals (first | exact True.intro | skip)
    all_goals (repeat (refine Wh.mk fun hcc => ?_))
    exact SW.ret (show RetQ _ _ _ _ _ _ _ from RetQ.y [0] [.int .i64 0])
theorem next_ok (k : Nat) (l : List UInt8) (s : RS) (hl : l.length ≤ 1048576) (ha : s.1 ≤ l.length) : CallR Try.prog 104 [.io (.nd [.sl (gOf k) (l.map Enc.b), .int .i64 (s.1 : Nat), .bool s.2])] [.nd [.sl (gOf k) (l.map Enc.b), .int .i64 ((oneR l s).2.1 : Nat), .bool (oneR l s).2.2]] (.int .i64 (oneR l s).1) := by
  refine CallR.of_body (n := 35) (rs := [.tmp 2]) hY.ok Try.func104 rfl (by decide) rfl rfl rfl rfl (fun F => ?_)
  have fx := And.intro Y1 (And.intro Y2 (And.intro Y3 (And.intro Y4 (And.intro Y5 (And.intro Y24 (And.intro Y115 (Y117)))))))
  have hG := sGetInt_ok l s.1 hl ha
  obtain ⟨a, bad⟩ := s
  have hR : oneR l (a, bad) = if (bad || !(getR l a).2.2) = true then (0, a, true) else ((getR l a).1, (getR l a).2.1, false) := rfl
  simp only at hG ha ⊢
  rw [hR]
  clear hR
  generalize (getR l a).1 = n at *
  generalize (getR l a).2.1 = e at *
  generalize (getR l a).2.2 = ok at *
  cases bad <;> cases ok
  · skip
    have hC1 := cx [] (hG)
    have fy := Nat.add_zero
    refine goR ?_ ?_ ?_ ?_ ?_ ?_ ?_ ?_ ?_ ?_ ?_ ?_ ?_ ?_ ?_ ?_
    any_goals (first | exact True.intro | skip)
    all_goals (repeat (refine Wh.mk fun hcc => ?_))
    exact SW.ret (show RetQ _ _ _ _ _ _ _ from RetQ.y [0] [.int .i64 0])
  · skip
    have hC1 := cx [] (hG)
    have fy := Nat.add_zero
    refine goR ?_ ?_ ?_ ?_ ?_ ?_ ?_ ?_ ?_ ?_ ?_ ?_ ?_ ?_ ?_ ?_
    any_goals (first | exact True.intro | skip)
    all_goals (repeat (refine Wh.mk fun hcc => ?_))
    exact SW.ret (show RetQ _ _ _ _ _ _ _ from RetQ.y [0] [.int .i64 n])
  · skip
    have hC1 := cx [] (hG)
    have fy := Nat.add_zero
    refine goR ?_ ?_ ?_ ?_ ?_ ?_ ?_ ?_ ?_ ?_ ?_ ?_ ?_ ?_ ?_ ?_
    any_goals (first | exact True.intro | skip)
    all_goals (repeat (refine Wh.mk fun hcc => ?_))
    exact SW.ret (show RetQ _ _ _ _ _ _ _ from RetQ.y [0] [.int .i64 0])
  · skip
    have hC1 := cx [] (hG)
    have fy := Nat.add_zero
    refine goR ?_ ?_ ?_ ?_ ?_ ?_ ?_ ?_ ?_ ?_ ?_ ?_ ?_ ?_ ?_ ?_
    any_goals (first | exact True.intro | skip)
    all_goals (repeat (refine Wh.mk fun hcc => ?_))
    exact SW.ret (show RetQ _ _ _ _ _ _ _ from RetQ.y [0] [.int .i64 0])

def manyR (l : List UInt8) (most : Int) (s : RS) : Int × RS := if 0 ≤ (oneR l s).1 ∧ (oneR l s).1 ≤ most then oneR l s else (0, (oneR l s).2.1, true)
theorem manyR_le (l : List UInt8) (most : Int) (s : RS) (ha : s.1 ≤ l.length) : (manyR l most s).2.1 ≤ l.length := by
  unfold manyR; split <;> exact oneR_le l s ha
theorem manyR_rng (l : List UInt8) (most : Int) (hm : 0 ≤ most) (s : RS) : 0 ≤ (manyR l most s).1 ∧ (manyR l most s).1 ≤ most := by
  unfold manyR; split
  · assumption
  · exact ⟨Int.le_refl _, hm⟩
def intsL (l : List UInt8) : Nat → RS → List Int × RS
  | 0, s => ([], s)
  | n + 1, s => ((oneR l s).1 :: (intsL l n (oneR l s).2).1, (intsL l n (oneR l s).2).2)
theorem intsL_len (l : List UInt8) : ∀ (n : Nat) (s : RS), (intsL l n s).1.length = n
  | 0, s => rfl
  | n + 1, s => by simp [intsL, intsL_len l n]
theorem intsL_le (l : List UInt8) : ∀ (n : Nat) (s : RS), s.1 ≤ l.length → (intsL l n s).2.1 ≤ l.length
  | 0, s, h => h
  | n + 1, s, h => intsL_le l n _ (oneR_le l s h)
def intsR (l : List UInt8) (most : Int) (s : RS) : List Int × RS := intsL l (manyR l most s).1.toNat (manyR l most s).2

theorem many_ok (k : Nat) (l : List UInt8) (s : RS) (most : Int) (hl : l.length ≤ 1048576) (ha : s.1 ≤ l.length) : CallR Try.prog 87 [.io (.nd [.sl (gOf k) (l.map Enc.b), .int .i64 (s.1 : Nat), .bool s.2]), .int .i64 most] [.nd [.sl (gOf k) (l.map Enc.b), .int .i64 ((manyR l most s).2.1 : Nat), .bool (manyR l most s).2.2]] (.int .i64 (manyR l most s).1) := by
  refine CallR.of_body (n := 16) (rs := [.tmp 4]) hY.ok Try.func87 rfl (by decide) rfl rfl rfl rfl (fun F => ?_)
  have fx := And.intro Y2 (And.intro Y3 (And.intro Y4 (And.intro Y5 (And.intro Y24 (And.intro Y97 (Y99))))))
  have hO := one_ok (upk k) l s hl ha
  have hI := in_ok (oneR l s).1 0 most
  by_cases hr : 0 ≤ (oneR l s).1 ∧ (oneR l s).1 ≤ most
  · have hM : manyR l most s = oneR l s := by unfold manyR; rw [if_pos hr]
    rw [hM]
    rw [show (decide ((oneR l s).1 ≥ 0) && decide ((oneR l s).1 ≤ most)) = true by simp [hr]] at hI
    generalize oneR l s = x at *
    have hC1 := cx [.io] (hO)
    have hC2 := cx [] (hI)
    have fy := Nat.add_zero
    refine goR ?_ ?_ ?_ ?_ ?_ ?_ ?_ ?_ ?_ ?_ ?_ ?_ ?_ ?_ ?_ ?_
    any_goals (first | exact True.intro | skip)
    all_goals (repeat (refine Wh.mk fun hcc => ?_))
    exact SW.ret (show RetQ _ _ _ _ _ _ _ from RetQ.y [0] [.int .i64 x.1])
  · have hM : manyR l most s = (0, (oneR l s).2.1, true) := by unfold manyR; rw [if_neg hr]
    rw [hM]
    rw [show (decide ((oneR l s).1 ≥ 0) && decide ((oneR l s).1 ≤ most)) = false by simp only [ge_iff_le, ← Bool.decide_and]; simpa using hr] at hI
    generalize oneR l s = x at *
    have hC1 := cx [.io] (hO)
    have hC2 := cx [] (hI)
    have fy := Nat.add_zero
    refine goR ?_ ?_ ?_ ?_ ?_ ?_ ?_ ?_ ?_ ?_ ?_ ?_ ?_ ?_ ?_ ?_
    any_goals (first | exact True.intro | skip)
    all_goals (repeat (refine Wh.mk fun hcc => ?_))
    exact SW.ret (show RetQ _ _ _ _ _ _ _ from RetQ.y [0] [.int .i64 0])
theorem one_b (l : List UInt8) (s : RS) (hl : l.length ≤ 1048576) (ha : s.1 ≤ l.length) : CallR Try.prog 85 [.io (.nd [.sl (.r 0) (l.map Enc.b), .int .i64 (s.1 : Nat), .bool s.2])] [.nd [.sl (.r 0) (l.map Enc.b), .int .i64 ((oneR l s).2.1 : Nat), .bool (oneR l s).2.2]] (.int .i64 (oneR l s).1) := one_ok 1 l s hl ha
theorem one_s (l : List UInt8) (s : RS) (hl : l.length ≤ 1048576) (ha : s.1 ≤ l.length) : CallR Try.prog 85 [.io (.nd [.sl .s (l.map Enc.b), .int .i64 (s.1 : Nat), .bool s.2])] [.nd [.sl .s (l.map Enc.b), .int .i64 ((oneR l s).2.1 : Nat), .bool (oneR l s).2.2]] (.int .i64 (oneR l s).1) := one_ok 0 l s hl ha
theorem next_b (l : List UInt8) (s : RS) (hl : l.length ≤ 1048576) (ha : s.1 ≤ l.length) : CallR Try.prog 104 [.io (.nd [.sl (.r 0) (l.map Enc.b), .int .i64 (s.1 : Nat), .bool s.2])] [.nd [.sl (.r 0) (l.map Enc.b), .int .i64 ((oneR l s).2.1 : Nat), .bool (oneR l s).2.2]] (.int .i64 (oneR l s).1) := next_ok 1 l s hl ha
theorem next_s (l : List UInt8) (s : RS) (hl : l.length ≤ 1048576) (ha : s.1 ≤ l.length) : CallR Try.prog 104 [.io (.nd [.sl .s (l.map Enc.b), .int .i64 (s.1 : Nat), .bool s.2])] [.nd [.sl .s (l.map Enc.b), .int .i64 ((oneR l s).2.1 : Nat), .bool (oneR l s).2.2]] (.int .i64 (oneR l s).1) := next_ok 0 l s hl ha
theorem many_b (l : List UInt8) (s : RS) (most : Int) (hl : l.length ≤ 1048576) (ha : s.1 ≤ l.length) : CallR Try.prog 87 [.io (.nd [.sl (.r 0) (l.map Enc.b), .int .i64 (s.1 : Nat), .bool s.2]), .int .i64 most] [.nd [.sl (.r 0) (l.map Enc.b), .int .i64 ((manyR l most s).2.1 : Nat), .bool (manyR l most s).2.2]] (.int .i64 (manyR l most s).1) := many_ok 1 l s most hl ha
theorem many_s (l : List UInt8) (s : RS) (most : Int) (hl : l.length ≤ 1048576) (ha : s.1 ≤ l.length) : CallR Try.prog 87 [.io (.nd [.sl .s (l.map Enc.b), .int .i64 (s.1 : Nat), .bool s.2]), .int .i64 most] [.nd [.sl .s (l.map Enc.b), .int .i64 ((manyR l most s).2.1 : Nat), .bool (manyR l most s).2.2]] (.int .i64 (manyR l most s).1) := many_ok 0 l s most hl ha
end Q6

namespace Q6
open Go Go.Vm Go.Proofs
set_option maxHeartbeats 4000000
set_option synthInstance.maxSize 2000
set_option synthInstance.maxHeartbeats 400000
set_option maxRecDepth 10000
set_option linter.unusedSimpArgs false
set_option linter.unusedVariables false

open Go.By
theorem ints_ok (k : Nat) (l : List UInt8) (s : RS) (most : Int) (hl : l.length ≤ 1048576) (ha : s.1 ≤ l.length) (hm : 0 ≤ most ∧ most ≤ 1048576) : CallR Try.prog 171 [.io (.nd [.sl (gOf k) (l.map Enc.b), .int .i64 (s.1 : Nat), .bool s.2]), .int .i64 most] [.nd [.sl (gOf k) (l.map Enc.b), .int .i64 ((intsR l most s).2.1 : Nat), .bool (intsR l most s).2.2]] (.ow 1 ((intsR l most s).1.map Enc.o)) := by
  refine CallR.of_body (n := 18) (rs := [.tmp 4]) hY.ok Try.func171 rfl (by decide) rfl rfl rfl rfl (fun F => ?_)
  have fx := And.intro Y1 (And.intro Y3 (And.intro Y4 (And.intro Y34 (Y97))))
  have hM := many_ok (upk k) l s most hl ha
  have hMr := manyR_rng l most hm.1 s
  have hMl := manyR_le l most s ha
  have hR : intsR l most s = intsL l (manyR l most s).1.toNat (manyR l most s).2 := rfl
  rw [hR]
  clear hR
  obtain ⟨N0, hN0⟩ : ∃ N0 : Nat, (manyR l most s).1 = (N0 : Int) := ⟨_, (Int.toNat_of_nonneg hMr.1).symm⟩
  rw [hN0] at hM hMr ⊢
  rw [Int.toNat_natCast]
  generalize (manyR l most s).2 = s0 at *
  obtain ⟨T0, hT0⟩ : ∃ T0, intsL l N0 s0 = T0 := ⟨_, rfl⟩
  rw [hT0]
  have hC1 := cx [.io] (hM)
  have fy := Nat.add_zero
  refine goN ?_ ?_ ?_ ?_ ?_ ?_ ?_ ?_ ?_ ?_ ?_ ?_ ?_ ?_ ?_ ?_
  any_goals (first | exact True.intro | skip)
  skip
  refine SW.loop (fun x : Nat × List Int × RS => ⟨[.ptr 0 0 [] 0, .int .i64 most, .undef, .undef, .undef, .ref 1 0 0 x.2.1.length, .undef, .undef, .int .i64 (N0 : Nat), .int .i64 (x.1 : Nat), .undef, .undef, .undef, .undef, .undef, .undef, .undef, .undef], [[.var (.nd [.sl (gOf k) (l.map Enc.b), .int .i64 (x.2.2.1 : Nat), .bool x.2.2.2])], [.arr 1 (x.2.1.map Enc.o) false]]⟩)
    (fun N x => N = N0 - x.1 ∧ x.1 ≤ N0 ∧ x.2.1.length = x.1 ∧ x.2.1 ++ (intsL l (N0 - x.1) x.2.2).1 = T0.1 ∧ (intsL l (N0 - x.1) x.2.2).2 = T0.2 ∧ x.2.2.1 ≤ l.length) (n := N0) (x := (0, [], s0)) ?_ ⟨rfl, Nat.zero_le _, rfl, by simp [hT0], by simp [hT0], hMl⟩ ?_
  · refine Norm.trans (Norm.nil 5 rfl) ?_
    simp only [List.set_cons_succ, List.set_cons_zero, List.length_cons, List.length_nil, Nat.zero_add, Nat.reduceAdd, List.cons_append, List.nil_append]
    exact Norm.re [0, 2] (by decide) rfl (by simp [-List.map_append, heapFits, rowFits, obFits, T.ren, renL]) (by simp [tmFits, T.ren])
  rintro N ⟨i, acc, s1⟩ ⟨hN, hi, hal, hac, hs1, hle⟩
  simp only at hN hi hal hac hs1 hle ⊢
  have fy := Nat.add_zero
  refine goS ?_
  refine SW.cond rfl (fun hc => ?_) (fun hc => ?_)
  · have hlt : i < N0 := by simp at hc; omega
    have hO := one_ok (upk k) l s1 hl hle
    have hO2 := oneR_le l s1 hle
    have hsp : N0 - i = (N0 - (i + 1)) + 1 := by omega
    rw [hsp, intsL] at hac hs1
    have hwi : IntKind.i64.wrap ((i : Int) + 1) = ((i + 1 : Nat) : Int) := by rw [wrap64 _ (by omega) (by omega)]; omega
    have hap := append_runP (Y := Y) (H := [[.var (.nd [.sl (gOf k) (l.map Enc.b), .int .i64 ((oneR l s1).2.1 : Nat), .bool (oneR l s1).2.2])], [.arr 1 (acc.map Enc.o) false], [], [.arr 1 [Enc.o (oneR l s1).1] false], []]) (own := 4) (t := 34) (u := 34) (e := 1) (j := 0) (off := 0) (n := acc.length) (e2 := 3) (j2 := 0) (f := acc.map Enc.o) (l := acc) (x := (oneR l s1).1) Y34 Y34 Y3 rfl (by decide) rfl rfl (by simp) (by simp) (by omega) rfl rfl
    simp only [o_int] at hap
    generalize oneR l s1 = y at *
    have hC1 := cx [.io] (hO)
    have fy := And.intro hap (And.intro hwi (bs1_34))
    refine goN ?_ ?_ ?_ ?_ ?_ ?_ ?_ ?_ ?_ ?_ ?_ ?_ ?_ ?_ ?_ ?_
    any_goals (first | exact True.intro | skip)
    skip
    refine ⟨N - 1, (i + 1, acc ++ [y.1], y.2), by omega, ⟨by simp only; omega, by simp only; omega, by simp [hal], by simp only; rw [← hac]; simp, hs1, hO2⟩, ?_⟩
    exact Norm.re [0, 4] (by decide) rfl (by simp [-List.map_append, heapFits, rowFits, obFits, T.ren, renL]) (by simp [tmFits, T.ren])
  · have hge : i = N0 := by
      have : ¬ i < N0 := by simp at hc; omega
      omega
    subst hge
    rw [Nat.sub_self] at hac hs1
    simp only [intsL, List.append_nil] at hac hs1
    rw [← hac, ← hs1]
    have fy := Nat.add_zero
    refine goR ?_ ?_ ?_ ?_ ?_ ?_ ?_ ?_ ?_ ?_ ?_ ?_ ?_ ?_ ?_ ?_
    any_goals (first | exact True.intro | skip)
    all_goals (repeat (refine Wh.mk fun hcc => ?_))
    exact SW.ret (show RetQ _ _ _ _ _ _ _ from RetQ.y [1] [.ow 1 (acc.map Enc.o)])

def listL (l : List UInt8) : Nat → RS → List Int × RS
  | 0, s => ([], s)
  | n + 1, s => if s.2 = true then ([], s) else ((oneR l s).1 :: (listL l n (oneR l s).2).1, (listL l n (oneR l s).2).2)
def listR (l : List UInt8) (most : Int) (s : RS) : List Int × RS := if 0 ≤ (oneR l s).1 ∧ (oneR l s).1 ≤ most then listL l (oneR l s).1.toNat (oneR l s).2 else ([], (oneR l s).2.1, true)
theorem listL_le (l : List UInt8) : ∀ (n : Nat) (s : RS), s.1 ≤ l.length → (listL l n s).2.1 ≤ l.length ∧ (listL l n s).1.length ≤ n
  | 0, s, h => ⟨h, Nat.le_refl _⟩
  | n + 1, s, h => by
    unfold listL
    split
    · exact ⟨h, Nat.zero_le _⟩
    · have := listL_le l n _ (oneR_le l s h)
      exact ⟨this.1, by simp; exact this.2⟩
theorem listL_bad (l : List UInt8) (n : Nat) (s : RS) (h : s.2 = true) : listL l n s = ([], s) := by
  cases n with
  | zero => rfl
  | succ n => unfold listL; rw [if_pos h]
theorem listR_le (l : List UInt8) (most : Int) (s : RS) (ha : s.1 ≤ l.length) : (listR l most s).2.1 ≤ l.length := by
  unfold listR; split
  · exact (listL_le l _ _ (oneR_le l s ha)).1
  · exact oneR_le l s ha
theorem listR_len (l : List UInt8) (most : Int) (s : RS) (hm : 0 ≤ most) : ((listR l most s).1.length : Int) ≤ most := by
  unfold listR; split
  · rename_i h
    by_cases hs : s.1 ≤ l.length
    · have := (listL_le l (oneR l s).1.toNat (oneR l s).2 (oneR_le l s hs)).2
      omega
    · have : ∀ (n : Nat) (s : RS), (listL l n s).1.length ≤ n := by
        intro n
        induction n with
        | zero => intro s; exact Nat.le_refl _
        | succ n ih =>
          intro s
          unfold listL
          split
          · exact Nat.zero_le _
          · simp; exact ih _
      have := this (oneR l s).1.toNat (oneR l s).2
      omega
  · exact hm

theorem list_ok (k : Nat) (l : List UInt8) (s : RS) (most : Int) (hl : l.length ≤ 1048576) (ha : s.1 ≤ l.length) (hm : 0 ≤ most ∧ most ≤ 1048576) : CallR Try.prog 174 [.io (.nd [.sl (gOf k) (l.map Enc.b), .int .i64 (s.1 : Nat), .bool s.2]), .int .i64 most] [.nd [.sl (gOf k) (l.map Enc.b), .int .i64 ((listR l most s).2.1 : Nat), .bool (listR l most s).2.2]] (.ow 1 ((listR l most s).1.map Enc.o)) := by
  refine CallR.of_body (n := 36) (rs := [.tmp 4]) hY.ok Try.func174 rfl (by decide) rfl rfl rfl rfl (fun F => ?_)
  have fx := And.intro Y1 (And.intro Y2 (And.intro Y3 (And.intro Y4 (And.intro Y5 (And.intro Y24 (And.intro Y34 (And.intro Y115 (Y117))))))))
  have hO := next_ok (upk k) l s hl ha
  have hI := l1In_ok (oneR l s).1 0 most
  have hOl := oneR_le l s ha
  by_cases hr : 0 ≤ (oneR l s).1 ∧ (oneR l s).1 ≤ most
  · rw [show (decide ((oneR l s).1 ≥ 0) && decide ((oneR l s).1 ≤ most)) = true by simp [hr]] at hI
    have hR : listR l most s = listL l (oneR l s).1.toNat (oneR l s).2 := by unfold listR; rw [if_pos hr]
    rw [hR]
    clear hR
    obtain ⟨N0, hN0⟩ : ∃ N0 : Nat, (oneR l s).1 = (N0 : Int) := ⟨_, (Int.toNat_of_nonneg hr.1).symm⟩
    rw [hN0] at hO hI hr ⊢
    rw [Int.toNat_natCast]
    generalize (oneR l s).2 = s0 at *
    obtain ⟨T0, hT0⟩ : ∃ T0, listL l N0 s0 = T0 := ⟨_, rfl⟩
    rw [hT0]
    have hC1 := cx [.io] (hO)
    have hC2 := cx [] (hI)
    have fy := bs0_34
    refine goR ?_ ?_ ?_ ?_ ?_ ?_ ?_ ?_ ?_ ?_ ?_ ?_ ?_ ?_ ?_ ?_
    any_goals (first | exact True.intro | skip)
    all_goals (repeat (refine Wh.mk fun hcc => ?_))
    refine SW.loop (fun x : Nat × List Int × RS => ⟨[.ptr 0 0 [] 0, .int .i64 most, .undef, .undef, .undef, .int .i64 (N0 : Nat), .ref 1 0 0 x.2.1.length, .int .i64 (x.1 : Nat), .undef, .undef, .undef, .undef, .undef, .undef, .undef, .undef, .undef, .undef, .undef, .undef, .undef, .undef, .undef, .undef, .undef, .undef, .undef, .undef, .undef, .undef, .undef, .undef, .undef, .undef, .undef, .undef], [[.var (.nd [.sl (gOf k) (l.map Enc.b), .int .i64 (x.2.2.1 : Nat), .bool x.2.2.2])], [.arr 1 (x.2.1.map Enc.o) false]]⟩)
      (fun N x => N = N0 - x.1 ∧ x.1 ≤ N0 ∧ x.2.1.length = x.1 ∧ x.2.1 ++ (listL l (N0 - x.1) x.2.2).1 = T0.1 ∧ (listL l (N0 - x.1) x.2.2).2 = T0.2 ∧ x.2.2.1 ≤ l.length) (n := N0) (x := (0, [], s0)) ?_ ⟨rfl, Nat.zero_le _, rfl, by simp [hT0], by simp [hT0], hOl⟩ ?_
    · exact Norm.re [0, 3] (by decide) rfl (by simp [-List.map_append, heapFits, rowFits, obFits, T.ren, renL]) (by simp [tmFits, T.ren])
    rintro N ⟨i, acc, s1⟩ ⟨hN, hi, hal, hac, hs1, hle⟩
    simp only at hN hi hal hac hs1 hle ⊢
    obtain ⟨a1, b1⟩ := s1
    simp only at hle ⊢
    by_cases hgo : i < N0 ∧ b1 = false
    · obtain ⟨hlt, hbf⟩ := hgo
      subst hbf
      have hltd : decide ((i : Int) < (N0 : Int)) = true := by simp; omega
      have hO := next_ok (upk k) l (a1, false) hl hle
      have hO2 := oneR_le l (a1, false) hle
      have hsp : N0 - i = (N0 - (i + 1)) + 1 := by omega
      rw [hsp, listL, if_neg (by simp)] at hac hs1
      have hwi : IntKind.i64.wrap ((i : Int) + 1) = ((i + 1 : Nat) : Int) := by rw [wrap64 _ (by omega) (by omega)]; omega
      have hap := append_runP (Y := Y) (H := [[.var (.nd [.sl (gOf k) (l.map Enc.b), .int .i64 ((oneR l (a1, false)).2.1 : Nat), .bool (oneR l (a1, false)).2.2])], [.arr 1 (acc.map Enc.o) false], [], [.arr 1 [Enc.o (oneR l (a1, false)).1] false], []]) (own := 4) (t := 34) (u := 34) (e := 1) (j := 0) (off := 0) (n := acc.length) (e2 := 3) (j2 := 0) (f := acc.map Enc.o) (l := acc) (x := (oneR l (a1, false)).1) Y34 Y34 Y3 rfl (by decide) rfl rfl (by simp) (by simp) (by omega) rfl rfl
      simp only [o_int] at hap hO
      generalize oneR l (a1, false) = y at *
      have hC1 := cx [.io] (hO)
      have fy := And.intro hap (And.intro hwi (And.intro hltd (bs1_34)))
      refine goR ?_ ?_ ?_ ?_ ?_ ?_ ?_ ?_ ?_ ?_ ?_ ?_ ?_ ?_ ?_ ?_
      any_goals (first | exact True.intro | skip)
      all_goals (repeat (refine Wh.mk fun hcc => ?_))
      refine ⟨N - 1, (i + 1, acc ++ [y.1], y.2), by omega, ⟨by simp only; omega, by simp only; omega, by simp [hal], by simp only; rw [← hac]; simp, hs1, hO2⟩, ?_⟩
      exact Norm.re [0, 4] (by decide) rfl (by simp [-List.map_append, heapFits, rowFits, obFits, T.ren, renL]) (by simp [tmFits, T.ren])
    · have hend : (listL l (N0 - i) (a1, b1)) = ([], (a1, b1)) := by
        by_cases hb : b1 = true
        · exact listL_bad l _ _ hb
        · have : N0 - i = 0 := by
            have : ¬ i < N0 := fun h => hgo ⟨h, by simpa using hb⟩
            omega
          rw [this]; rfl
      rw [hend] at hac hs1
      simp only [List.append_nil] at hac hs1
      rw [← hac, ← hs1]
      by_cases hlt : i < N0
      · have hb : b1 = true := by cases b1 with | true => rfl | false => exact absurd ⟨hlt, rfl⟩ hgo
        subst hb
        have hltd : decide ((i : Int) < (N0 : Int)) = true := by simp; omega
        have fy := hltd
        refine goR ?_ ?_ ?_ ?_ ?_ ?_ ?_ ?_ ?_ ?_ ?_ ?_ ?_ ?_ ?_ ?_
        any_goals (first | exact True.intro | skip)
        all_goals (repeat (refine Wh.mk fun hcc => ?_))
        exact SW.ret (show RetQ _ _ _ _ _ _ _ from RetQ.y [1] [.ow 1 (acc.map Enc.o)])
      · have hltd : decide ((i : Int) < (N0 : Int)) = false := by simp; omega
        have fy := hltd
        refine goR ?_ ?_ ?_ ?_ ?_ ?_ ?_ ?_ ?_ ?_ ?_ ?_ ?_ ?_ ?_ ?_
        any_goals (first | exact True.intro | skip)
        all_goals (repeat (refine Wh.mk fun hcc => ?_))
        exact SW.ret (show RetQ _ _ _ _ _ _ _ from RetQ.y [1] [.ow 1 (acc.map Enc.o)])
  · have hR : listR l most s = ([], (oneR l s).2.1, true) := by unfold listR; rw [if_neg hr]
    rw [hR]
    rw [show (decide ((oneR l s).1 ≥ 0) && decide ((oneR l s).1 ≤ most)) = false by simp only [ge_iff_le, ← Bool.decide_and]; simpa using hr] at hI
    generalize oneR l s = y at *
    have hC1 := cx [.io] (hO)
    have hC2 := cx [] (hI)
    have fy := bs0_34
    refine goR ?_ ?_ ?_ ?_ ?_ ?_ ?_ ?_ ?_ ?_ ?_ ?_ ?_ ?_ ?_ ?_
    any_goals (first | exact True.intro | skip)
    all_goals (repeat (refine Wh.mk fun hcc => ?_))
    refine SW.loop (fun _ : Unit => ⟨[.ptr 0 0 [] 0, .int .i64 most, .undef, .undef, .undef, .int .i64 y.1, .ref 1 0 0 0, .int .i64 0, .undef, .undef, .undef, .undef, .undef, .undef, .undef, .undef, .undef, .undef, .undef, .undef, .undef, .undef, .undef, .undef, .undef, .undef, .undef, .undef, .undef, .undef, .undef, .undef, .undef, .undef, .undef, .undef], [[.var (.nd [.sl (gOf k) (l.map Enc.b), .int .i64 (y.2.1 : Nat), .bool true])], [.arr 1 [] false]]⟩) (fun N x => N = 0) (n := 0) (x := ()) ?_ rfl ?_
    · exact Norm.re [0, 3] (by decide) rfl (by simp [-List.map_append, heapFits, rowFits, obFits, T.ren, renL]) (by simp [tmFits, T.ren])
    rintro N x rfl
    by_cases hlt : 0 < y.1
    · have hltd : decide ((0 : Int) < y.1) = true := by simpa using hlt
      have fy := hltd
      refine goR ?_ ?_ ?_ ?_ ?_ ?_ ?_ ?_ ?_ ?_ ?_ ?_ ?_ ?_ ?_ ?_
      any_goals (first | exact True.intro | skip)
      all_goals (repeat (refine Wh.mk fun hcc => ?_))
      exact SW.ret (show RetQ _ _ _ _ _ _ _ from RetQ.y [1] [.ow 1 []])
    · have hltd : decide ((0 : Int) < y.1) = false := by simpa using hlt
      have fy := hltd
      refine goR ?_ ?_ ?_ ?_ ?_ ?_ ?_ ?_ ?_ ?_ ?_ ?_ ?_ ?_ ?_ ?_
      any_goals (first | exact True.intro | skip)
      all_goals (repeat (refine Wh.mk fun hcc => ?_))
      exact SW.ret (show RetQ _ _ _ _ _ _ _ from RetQ.y [1] [.ow 1 []])
theorem done_ok (l : List UInt8) (s : RS) : CallR Try.prog 88 [.fp (.nd [.sl .b (l.map Enc.b), .int .i64 (s.1 : Nat), .bool s.2])] [] (.bool (!s.2 && decide (s.1 = l.length))) := by
  refine CallR.of_body (n := 20) (rs := [.tmp 2]) hY.ok Try.func88 rfl (by decide) rfl rfl rfl rfl (fun F => ?_)
  have fx := And.intro Y1 (And.intro Y2 (And.intro Y3 (And.intro Y4 (And.intro Y5 (And.intro Y24 (And.intro Y97 (Y99)))))))
  have he : ((s.1 : Int) == (l.length : Int)) = decide (s.1 = l.length) := by by_cases h : s.1 = l.length <;> simp [h]; omega
  obtain ⟨a, b⟩ := s
  simp only at he ⊢
  cases b
  · skip
    have fy := he
    refine goK ?_ ?_ ?_ ?_ ?_ ?_ ?_ ?_ ?_ ?_ ?_ ?_ ?_ ?_ ?_ ?_
    any_goals (first | exact True.intro | skip)
    all_goals (repeat (refine Wh.mk fun hcc => ?_))
    all_goals (first | rfl | (simp [tupOf, fixEs]; done))
  · skip
    have fy := he
    refine goK ?_ ?_ ?_ ?_ ?_ ?_ ?_ ?_ ?_ ?_ ?_ ?_ ?_ ?_ ?_ ?_
    any_goals (first | exact True.intro | skip)
    all_goals (repeat (refine Wh.mk fun hcc => ?_))
    all_goals (first | rfl | (simp [tupOf, fixEs]; done))
theorem ints_b (l : List UInt8) (s : RS) (most : Int) (hl : l.length ≤ 1048576) (ha : s.1 ≤ l.length) (hm : 0 ≤ most ∧ most ≤ 1048576) : CallR Try.prog 171 [.io (.nd [.sl (.r 0) (l.map Enc.b), .int .i64 (s.1 : Nat), .bool s.2]), .int .i64 most] [.nd [.sl (.r 0) (l.map Enc.b), .int .i64 ((intsR l most s).2.1 : Nat), .bool (intsR l most s).2.2]] (.ow 1 ((intsR l most s).1.map Enc.o)) := ints_ok 1 l s most hl ha hm
theorem ints_s (l : List UInt8) (s : RS) (most : Int) (hl : l.length ≤ 1048576) (ha : s.1 ≤ l.length) (hm : 0 ≤ most ∧ most ≤ 1048576) : CallR Try.prog 171 [.io (.nd [.sl .s (l.map Enc.b), .int .i64 (s.1 : Nat), .bool s.2]), .int .i64 most] [.nd [.sl .s (l.map Enc.b), .int .i64 ((intsR l most s).2.1 : Nat), .bool (intsR l most s).2.2]] (.ow 1 ((intsR l most s).1.map Enc.o)) := ints_ok 0 l s most hl ha hm
theorem list_b (l : List UInt8) (s : RS) (most : Int) (hl : l.length ≤ 1048576) (ha : s.1 ≤ l.length) (hm : 0 ≤ most ∧ most ≤ 1048576) : CallR Try.prog 174 [.io (.nd [.sl (.r 0) (l.map Enc.b), .int .i64 (s.1 : Nat), .bool s.2]), .int .i64 most] [.nd [.sl (.r 0) (l.map Enc.b), .int .i64 ((listR l most s).2.1 : Nat), .bool (listR l most s).2.2]] (.ow 1 ((listR l most s).1.map Enc.o)) := list_ok 1 l s most hl ha hm
theorem list_s (l : List UInt8) (s : RS) (most : Int) (hl : l.length ≤ 1048576) (ha : s.1 ≤ l.length) (hm : 0 ≤ most ∧ most ≤ 1048576) : CallR Try.prog 174 [.io (.nd [.sl .s (l.map Enc.b), .int .i64 (s.1 : Nat), .bool s.2]), .int .i64 most] [.nd [.sl .s (l.map Enc.b), .int .i64 ((listR l most s).2.1 : Nat), .bool (listR l most s).2.2]] (.ow 1 ((listR l most s).1.map Enc.o)) := list_ok 0 l s most hl ha hm
end Q6

namespace Q6
open Go Go.Vm Go.Proofs
set_option maxHeartbeats 4000000
set_option synthInstance.maxSize 2000
set_option synthInstance.maxHeartbeats 400000
set_option maxRecDepth 10000
set_option linter.unusedSimpArgs false
set_option linter.unusedVariables false

open Go.By

def obj0 : ObjT := (0, [], [], ())
def gobI (l : List UInt8) : ObjT × Bool :=
  let a := oneR l (0, false); let b := intsR l 5 a.2; let c := intsR l 5 b.2
  if ((!c.2.2 && decide (c.2.1 = l.length)) && objB (a.1, b.1, c.1, ())) = true then ((a.1, b.1, c.1, ()), true) else (obj0, false)
def gobS (l : List UInt8) : ObjT × Bool :=
  let a := oneR l (0, false); let b := listR l 5 a.2; let c := listR l 5 b.2
  if ((!c.2.2 && objB (a.1, b.1, c.1, ())) && decide (putObj (a.1, b.1, c.1, ()) = l)) = true then ((a.1, b.1, c.1, ()), true) else (obj0, false)
theorem intsR_len (l : List UInt8) (most : Int) (hm : 0 ≤ most) (s : RS) : ((intsR l most s).1.length : Int) ≤ most := by
  unfold intsR; rw [intsL_len]; have := manyR_rng l most hm s; omega
theorem intsR_le (l : List UInt8) (most : Int) (s : RS) (ha : s.1 ≤ l.length) : (intsR l most s).2.1 ≤ l.length := intsL_le l _ _ (manyR_le l most s ha)

theorem gobI_ok (l : List UInt8) (hl : l.length ≤ 1048576) : CallR Try.prog 143 [.sl .b (l.map Enc.b)] [] (.tup [.nd [.int .i64 (((gobI l).1).1), .ow 1 ((((gobI l).1).2.1).map Enc.o), .ow 1 ((((gobI l).1).2.2.1).map Enc.o)], .bool (gobI l).2]) := by
  refine CallR.of_body (n := 28) (rs := [.cell 2 36, .tmp 3]) hY.ok Try.func143 rfl (by decide) rfl rfl rfl rfl (fun F => ?_)
  have fx := And.intro Y1 (And.intro Y2 (And.intro Y3 (And.intro Y4 (And.intro Y5 (And.intro Y24 (And.intro Y34 (And.intro Y36 (And.intro Y97 (Y99)))))))))
  have h1 : CallR Try.prog 85 [.io (.nd [.sl (.r 0) (l.map Enc.b), .int .i64 0, .bool false])] [.nd [.sl (.r 0) (l.map Enc.b), .int .i64 ((oneR l (0, false)).2.1 : Nat), .bool (oneR l (0, false)).2.2]] (.int .i64 (oneR l (0, false)).1) := one_b l (0, false) hl (Nat.zero_le _)
  have e1 := oneR_le l (0, false) (Nat.zero_le _)
  unfold gobI
  simp only
  generalize oneR l (0, false) = y1 at *
  have h2 := ints_b l y1.2 5 hl e1 (by decide)
  have e2 := intsR_le l 5 y1.2 e1
  have n2 := intsR_len l 5 (by decide) y1.2
  generalize intsR l 5 y1.2 = y2 at *
  have h3 := ints_b l y2.2 5 hl e2 (by decide)
  have e3 := intsR_le l 5 y2.2 e2
  have n3 := intsR_len l 5 (by decide) y2.2
  generalize intsR l 5 y2.2 = y3 at *
  have hx : Enc.lim 1048576 ((y1.1, y2.1, y3.1, ()) : ObjT) := ⟨trivial, ⟨by simp only; omega, fun _ _ => trivial⟩, ⟨by simp only; omega, fun _ _ => trivial⟩, trivial⟩
  have h4 := done_ok l y3.2
  have h5 := implObjOk_ok (y1.1, y2.1, y3.1, ()) hx
  simp only at h5
  generalize (!y3.2.2 && decide (y3.2.1 = l.length)) = d at *
  generalize objB (y1.1, y2.1, y3.1, ()) = b at *
  cases d <;> cases b
  · skip
    have hC1 := cx [.io] (h1)
    have hC2 := cx [.io] (h2)
    have hC3 := cx [.io] (h3)
    have hC4 := cx [] (h4)
    have hC5 := cx [] (h5)
    have fy := Nat.add_zero
    refine goR ?_ ?_ ?_ ?_ ?_ ?_ ?_ ?_ ?_ ?_ ?_ ?_ ?_ ?_ ?_ ?_
    any_goals (first | exact True.intro | skip)
    all_goals (repeat (refine Wh.mk fun hcc => ?_))
    exact SW.ret (show RetQ _ _ _ _ _ _ _ from RetQ.y [0, 0] [.nd [.int .i64 0, .ow 1 (([] : List Int).map Enc.o), .ow 1 (([] : List Int).map Enc.o)], .bool false])
  · skip
    have hC1 := cx [.io] (h1)
    have hC2 := cx [.io] (h2)
    have hC3 := cx [.io] (h3)
    have hC4 := cx [] (h4)
    have hC5 := cx [] (h5)
    have fy := Nat.add_zero
    refine goR ?_ ?_ ?_ ?_ ?_ ?_ ?_ ?_ ?_ ?_ ?_ ?_ ?_ ?_ ?_ ?_
    any_goals (first | exact True.intro | skip)
    all_goals (repeat (refine Wh.mk fun hcc => ?_))
    exact SW.ret (show RetQ _ _ _ _ _ _ _ from RetQ.y [0, 0] [.nd [.int .i64 0, .ow 1 (([] : List Int).map Enc.o), .ow 1 (([] : List Int).map Enc.o)], .bool false])
  · skip
    have hC1 := cx [.io] (h1)
    have hC2 := cx [.io] (h2)
    have hC3 := cx [.io] (h3)
    have hC4 := cx [] (h4)
    have hC5 := cx [] (h5)
    have fy := Nat.add_zero
    refine goR ?_ ?_ ?_ ?_ ?_ ?_ ?_ ?_ ?_ ?_ ?_ ?_ ?_ ?_ ?_ ?_
    any_goals (first | exact True.intro | skip)
    all_goals (repeat (refine Wh.mk fun hcc => ?_))
    exact SW.ret (show RetQ _ _ _ _ _ _ _ from RetQ.y [0, 0] [.nd [.int .i64 0, .ow 1 (([] : List Int).map Enc.o), .ow 1 (([] : List Int).map Enc.o)], .bool false])
  · skip
    have hC1 := cx [.io] (h1)
    have hC2 := cx [.io] (h2)
    have hC3 := cx [.io] (h3)
    have hC4 := cx [] (h4)
    have hC5 := cx [] (h5)
    have fy := Nat.add_zero
    refine goR ?_ ?_ ?_ ?_ ?_ ?_ ?_ ?_ ?_ ?_ ?_ ?_ ?_ ?_ ?_ ?_
    any_goals (first | exact True.intro | skip)
    all_goals (repeat (refine Wh.mk fun hcc => ?_))
    exact SW.ret (show RetQ _ _ _ _ _ _ _ from RetQ.y [0, 0] [.nd [.int .i64 y1.1, .ow 1 (y2.1.map Enc.o), .ow 1 (y3.1.map Enc.o)], .bool true])
theorem gobS_ok (l : List UInt8) (hl : l.length ≤ 1048576) : CallR Try.prog 155 [.sl .b (l.map Enc.b)] [] (.tup [.nd [.int .i64 (((gobS l).1).1), .ow 1 ((((gobS l).1).2.1).map Enc.o), .ow 1 ((((gobS l).1).2.2.1).map Enc.o)], .bool (gobS l).2]) := by
  refine CallR.of_body (n := 37) (rs := [.cell 2 36, .tmp 3]) hY.ok Try.func155 rfl (by decide) rfl rfl rfl rfl (fun F => ?_)
  have fx := And.intro Y1 (And.intro Y2 (And.intro Y3 (And.intro Y4 (And.intro Y5 (And.intro Y24 (And.intro Y34 (And.intro Y36 (And.intro Y115 (Y117)))))))))
  have h1 : CallR Try.prog 104 [.io (.nd [.sl (.r 0) (l.map Enc.b), .int .i64 0, .bool false])] [.nd [.sl (.r 0) (l.map Enc.b), .int .i64 ((oneR l (0, false)).2.1 : Nat), .bool (oneR l (0, false)).2.2]] (.int .i64 (oneR l (0, false)).1) := next_b l (0, false) hl (Nat.zero_le _)
  have e1 := oneR_le l (0, false) (Nat.zero_le _)
  unfold gobS
  simp only
  generalize oneR l (0, false) = y1 at *
  have h2 := list_b l y1.2 5 hl e1 (by decide)
  have e2 := listR_le l 5 y1.2 e1
  have n2 := listR_len l 5 y1.2 (by decide)
  generalize listR l 5 y1.2 = y2 at *
  have h3 := list_b l y2.2 5 hl e2 (by decide)
  have e3 := listR_le l 5 y2.2 e2
  have n3 := listR_len l 5 y2.2 (by decide)
  generalize listR l 5 y2.2 = y3 at *
  have hx : Enc.lim 1048576 ((y1.1, y2.1, y3.1, ()) : ObjT) := ⟨trivial, ⟨by simp only; omega, fun _ _ => trivial⟩, ⟨by simp only; omega, fun _ _ => trivial⟩, trivial⟩
  have h5 := specObjOk_ok (y1.1, y2.1, y3.1, ()) hx
  simp only at h5
  obtain ⟨z3, a3, b3⟩ := y3
  simp only at h3 h5 e3 n3 ⊢
  cases hb : objB (y1.1, y2.1, z3, ()) with
  | false =>
    rw [hb] at h5
    rw [show ((!b3 && false) && decide (putObj (y1.1, y2.1, z3, ()) = l)) = false by simp]
    simp only [Bool.false_eq_true, if_false]
    cases b3
    · skip
      have hC1 := cx [.io] (h1)
      have hC2 := cx [.io] (h2)
      have hC3 := cx [.io] (h3)
      have hC4 := cx [] (h5)
      have fy := Nat.add_zero
      refine goR ?_ ?_ ?_ ?_ ?_ ?_ ?_ ?_ ?_ ?_ ?_ ?_ ?_ ?_ ?_ ?_
      any_goals (first | exact True.intro | skip)
      all_goals (repeat (refine Wh.mk fun hcc => ?_))
      exact SW.ret (show RetQ _ _ _ _ _ _ _ from RetQ.y [0, 0] [.nd [.int .i64 0, .ow 1 (([] : List Int).map Enc.o), .ow 1 (([] : List Int).map Enc.o)], .bool false])
    · skip
      have hC1 := cx [.io] (h1)
      have hC2 := cx [.io] (h2)
      have hC3 := cx [.io] (h3)
      have hC4 := cx [] (h5)
      have fy := Nat.add_zero
      refine goR ?_ ?_ ?_ ?_ ?_ ?_ ?_ ?_ ?_ ?_ ?_ ?_ ?_ ?_ ?_ ?_
      any_goals (first | exact True.intro | skip)
      all_goals (repeat (refine Wh.mk fun hcc => ?_))
      exact SW.ret (show RetQ _ _ _ _ _ _ _ from RetQ.y [0, 0] [.nd [.int .i64 0, .ow 1 (([] : List Int).map Enc.o), .ow 1 (([] : List Int).map Enc.o)], .bool false])
  | true =>
    rw [hb] at h5
    have h6 := sPutObj_y (y1.1, y2.1, z3, ()) (by exact hx) hb
    have hpl : (putObj (y1.1, y2.1, z3, ())).length ≤ 1048576 := by
      have h7 := putL_len y2.1
      have h8 := putL_len z3
      have h9 := putI_len y1.1
      unfold putObj; simp only [List.length_append]; omega
    simp only at h6
    generalize putObj (y1.1, y2.1, z3, ()) = p at *
    have h7 := spec_l2Same_ok p l ⟨hpl, fun _ _ => trivial⟩
    generalize decide (p = l) = e at *
    cases b3 <;> cases e
    · skip
      have hC1 := cx [.io] (h1)
      have hC2 := cx [.io] (h2)
      have hC3 := cx [.io] (h3)
      have hC4 := cx [] (h5)
      have hC5 := cx [] (h6)
      have hC6 := cx [] (h7)
      have fy := Nat.add_zero
      refine goR ?_ ?_ ?_ ?_ ?_ ?_ ?_ ?_ ?_ ?_ ?_ ?_ ?_ ?_ ?_ ?_
      any_goals (first | exact True.intro | skip)
      all_goals (repeat (refine Wh.mk fun hcc => ?_))
      exact SW.ret (show RetQ _ _ _ _ _ _ _ from RetQ.y [0, 0] [.nd [.int .i64 0, .ow 1 (([] : List Int).map Enc.o), .ow 1 (([] : List Int).map Enc.o)], .bool false])
    · skip
      have hC1 := cx [.io] (h1)
      have hC2 := cx [.io] (h2)
      have hC3 := cx [.io] (h3)
      have hC4 := cx [] (h5)
      have hC5 := cx [] (h6)
      have hC6 := cx [] (h7)
      have fy := Nat.add_zero
      refine goR ?_ ?_ ?_ ?_ ?_ ?_ ?_ ?_ ?_ ?_ ?_ ?_ ?_ ?_ ?_ ?_
      any_goals (first | exact True.intro | skip)
      all_goals (repeat (refine Wh.mk fun hcc => ?_))
      exact SW.ret (show RetQ _ _ _ _ _ _ _ from RetQ.y [0, 0] [.nd [.int .i64 y1.1, .ow 1 (y2.1.map Enc.o), .ow 1 (z3.map Enc.o)], .bool true])
    · skip
      have hC1 := cx [.io] (h1)
      have hC2 := cx [.io] (h2)
      have hC3 := cx [.io] (h3)
      have hC4 := cx [] (h5)
      have hC5 := cx [] (h6)
      have hC6 := cx [] (h7)
      have fy := Nat.add_zero
      refine goR ?_ ?_ ?_ ?_ ?_ ?_ ?_ ?_ ?_ ?_ ?_ ?_ ?_ ?_ ?_ ?_
      any_goals (first | exact True.intro | skip)
      all_goals (repeat (refine Wh.mk fun hcc => ?_))
      exact SW.ret (show RetQ _ _ _ _ _ _ _ from RetQ.y [0, 0] [.nd [.int .i64 0, .ow 1 (([] : List Int).map Enc.o), .ow 1 (([] : List Int).map Enc.o)], .bool false])
    · skip
      have hC1 := cx [.io] (h1)
      have hC2 := cx [.io] (h2)
      have hC3 := cx [.io] (h3)
      have hC4 := cx [] (h5)
      have hC5 := cx [] (h6)
      have hC6 := cx [] (h7)
      have fy := Nat.add_zero
      refine goR ?_ ?_ ?_ ?_ ?_ ?_ ?_ ?_ ?_ ?_ ?_ ?_ ?_ ?_ ?_ ?_
      any_goals (first | exact True.intro | skip)
      all_goals (repeat (refine Wh.mk fun hcc => ?_))
      exact SW.ret (show RetQ _ _ _ _ _ _ _ from RetQ.y [0, 0] [.nd [.int .i64 0, .ow 1 (([] : List Int).map Enc.o), .ow 1 (([] : List Int).map Enc.o)], .bool false])
end Q6

namespace Q6
open Go Go.Vm Go.By
set_option linter.unusedSimpArgs false

/-! ### reading: the plain law -/
theorem oneR_good {l : List UInt8} {s : RS} (ha : s.1 ≤ l.length) (h : (oneR l s).2.2 = false) :
    s.2 = false ∧ okN (oneR l s).1 = true ∧ l.drop s.1 = putI (oneR l s).1 ++ l.drop (oneR l s).2.1 := by
  unfold oneR at h ⊢
  split at h
  · cases h
  · rename_i hc
    rw [if_neg hc]
    simp only [Bool.or_eq_true, Bool.not_eq_true', not_or, Bool.not_eq_true, Bool.not_eq_false] at hc
    obtain ⟨h1, h2⟩ := hc
    refine ⟨h1, ?_⟩
    rw [getR_pI l s.1 ha] at h2 ⊢
    cases hp : pI (l.drop s.1) with
    | none => rw [hp] at h2; cases h2
    | some x =>
      obtain ⟨n, r⟩ := x
      obtain ⟨e1, e2⟩ := pI_inv hp
      simp only
      refine ⟨e2, ?_⟩
      have hr : r.length ≤ l.length := by
        have := congrArg List.length e1
        rw [List.length_drop, List.length_append] at this; omega
      have : l.drop (l.length - r.length) = r := by
        have h3 : l = l.take s.1 ++ putI n ++ r := by rw [List.append_assoc, ← e1, List.take_append_drop]
        obtain ⟨p, hp⟩ : ∃ p, l = p ++ r := ⟨_, h3⟩
        rw [hp]; simp
      rw [this]; exact e1
theorem intsL_bad (l : List UInt8) : ∀ (n : Nat) (s : RS), s.2 = true → (intsL l n s).2.2 = true
  | 0, s, h => h
  | n + 1, s, h => by simp only [intsL]; rw [oneR_bad l s h]; exact intsL_bad l n _ rfl
theorem intsL_good {l : List UInt8} : ∀ (n : Nat) {s : RS}, s.1 ≤ l.length → (intsL l n s).2.2 = false →
    s.2 = false ∧ listL l n s = intsL l n s ∧ (∀ x ∈ (intsL l n s).1, okN x = true) ∧ l.drop s.1 = (intsL l n s).1.flatMap putI ++ l.drop (intsL l n s).2.1
  | 0, s, ha, h => ⟨h, rfl, by simp [intsL], by simp [intsL]⟩
  | n + 1, s, ha, h => by
    simp only [intsL] at h
    obtain ⟨h1, h2, h3, h4⟩ := intsL_good n (oneR_le l s ha) h
    obtain ⟨g1, g2, g3⟩ := oneR_good ha h1
    refine ⟨g1, ?_, ?_, ?_⟩
    · simp only [listL, intsL, h2, g1, Bool.false_eq_true, if_false]
    · intro x hx
      simp only [intsL, List.mem_cons] at hx
      rcases hx with rfl | hx
      · exact g2
      · exact h3 x hx
    · simp only [intsL, List.flatMap_cons, List.append_assoc]
      rw [← h4]; exact g3
theorem listL_good {l : List UInt8} : ∀ (n : Nat) {s : RS}, (listL l n s).2.2 = false → intsL l n s = listL l n s
  | 0, s, h => rfl
  | n + 1, s, h => by
    unfold listL at h ⊢
    split at h
    · rename_i hb; simp only at h; rw [hb] at h; cases h
    · rename_i hb
      rw [if_neg hb]
      simp only at h
      simp only [intsL, listL_good n h]
theorem intsR_bad (l : List UInt8) (most : Int) (hm : 0 ≤ most) (s : RS) (h : s.2 = true) : (intsR l most s).2.2 = true := by
  have : manyR l most s = (0, s.1, true) := by unfold manyR; rw [oneR_bad l s h]; simp [hm]
  unfold intsR; rw [this]; exact intsL_bad l _ _ rfl
theorem listR_bad (l : List UInt8) (most : Int) (hm : 0 ≤ most) (s : RS) (h : s.2 = true) : (listR l most s).2.2 = true := by
  unfold listR; rw [oneR_bad l s h]; simp [hm, listL]
theorem listR_good {l : List UInt8} {most : Int} (hm : 0 ≤ most) {s : RS} (ha : s.1 ≤ l.length) (h : (listR l most s).2.2 = false) : intsR l most s = listR l most s := by
  unfold listR at h ⊢
  split at h
  · rename_i hr
    rw [if_pos hr]
    unfold intsR manyR
    rw [if_pos hr]
    exact listL_good _ h
  · cases h
theorem intsR_good {l : List UInt8} {most : Int} (hm : 0 ≤ most) {s : RS} (ha : s.1 ≤ l.length) (h : (intsR l most s).2.2 = false) :
    s.2 = false ∧ listR l most s = intsR l most s ∧ l.drop s.1 = putL (intsR l most s).1 ++ l.drop (intsR l most s).2.1 := by
  unfold intsR at h ⊢
  obtain ⟨h1, h2, h3, h4⟩ := intsL_good _ (manyR_le l most s ha) h
  by_cases hr : 0 ≤ (oneR l s).1 ∧ (oneR l s).1 ≤ most
  · have hM : manyR l most s = oneR l s := by unfold manyR; rw [if_pos hr]
    rw [hM] at h1 h2 h4 ⊢
    obtain ⟨g1, g2, g3⟩ := oneR_good ha h1
    refine ⟨g1, ?_, ?_⟩
    · unfold listR; rw [if_pos hr]; exact h2
    · rw [g3, h4]
      unfold putL
      rw [intsL_len, Int.toNat_of_nonneg hr.1, List.append_assoc]
  · have hM : manyR l most s = (0, (oneR l s).2.1, true) := by unfold manyR; rw [if_neg hr]
    rw [hM] at h1; cases h1

theorem gob_eq (l : List UInt8) : gobI l = gobS l := by
  unfold gobI gobS
  simp only
  have e1 := oneR_le l (0, false) (Nat.zero_le _)
  have hg1 := @oneR_good l (0, false) (Nat.zero_le _)
  generalize oneR l (0, false) = y1 at *
  have e2 := intsR_le l 5 y1.2 e1
  have f2 := listR_le l 5 y1.2 e1
  have e3 := intsR_le l 5 (intsR l 5 y1.2).2 e2
  by_cases hc : (intsR l 5 (intsR l 5 y1.2).2).2.2 = false
  · obtain ⟨a1, a2, a3⟩ := intsR_good (by decide) e2 hc
    obtain ⟨b1, b2, b3⟩ := intsR_good (by decide) e1 a1
    obtain ⟨c1, c2, c3⟩ := hg1 b1
    rw [b2, a2]
    have hl : l = putObj (y1.1, (intsR l 5 y1.2).1, (intsR l 5 (intsR l 5 y1.2).2).1, ()) ++ l.drop (intsR l 5 (intsR l 5 y1.2).2).2.1 := by
      unfold putObj
      simp only [List.append_assoc]
      rw [← a3, ← b3, ← c3, List.drop_zero]
    have hp : decide (putObj (y1.1, (intsR l 5 y1.2).1, (intsR l 5 (intsR l 5 y1.2).2).1, ()) = l) = decide ((intsR l 5 (intsR l 5 y1.2).2).2.1 = l.length) := by
      generalize putObj _ = p at hl ⊢
      generalize (intsR l 5 (intsR l 5 y1.2).2).2.1 = a at *
      have hlen := congrArg List.length hl
      rw [List.length_append, List.length_drop] at hlen
      by_cases h : a = l.length
      · subst h
        rw [List.drop_length, List.append_nil] at hl
        simp [hl]
      · have : ¬ p = l := by
          intro e; rw [e] at hlen; omega
        simp [h, this]
    rw [hp, hc]
    simp only [Bool.not_false, Bool.true_and]
    rw [Bool.and_comm]
  · have hbad : (intsR l 5 (intsR l 5 y1.2).2).2.2 = true := by simpa using hc
    rw [hbad]
    simp only [Bool.not_true, Bool.false_and, Bool.false_eq_true, if_false]
    have : (listR l 5 (listR l 5 y1.2).2).2.2 = true := by
      cases hs : (listR l 5 (listR l 5 y1.2).2).2.2 with
      | true => rfl
      | false =>
        exfalso
        have h1 := listR_good (by decide) f2 hs
        have h2 : (listR l 5 y1.2).2.2 = false := by
          cases h3 : (listR l 5 y1.2).2.2 with
          | false => rfl
          | true => rw [listR_bad l 5 (by decide) _ h3] at hs; cases hs
        have h3 := listR_good (by decide) e1 h2
        rw [← h3] at h1 hs
        rw [← h1, hbad] at hs; cases hs
    rw [this]
    simp
theorem gob_len (l : List UInt8) : (gobI l).1.2.1.length ≤ 5 ∧ (gobI l).1.2.2.1.length ≤ 5 := by
  unfold gobI
  simp only
  split
  · rename_i h
    simp only [Bool.and_eq_true] at h
    exact objB_len h.2
  · simp [obj0]
end Q6

namespace Q6
open Go Go.Vm Go.Proofs
set_option maxHeartbeats 4000000
set_option synthInstance.maxSize 2000
set_option synthInstance.maxHeartbeats 400000
set_option maxRecDepth 10000
set_option linter.unusedSimpArgs false
set_option linter.unusedVariables false

open Go.By

theorem slice_sub {α : Type} [Enc α] {t e by' : Nat} {k : Ty} (g : Tag) (l : List α) (a b : Nat) (h1 : Y t = ⟨.sl e, 1, 24⟩) (h2 : Y e = ⟨k, Enc.es α, by'⟩) (hab : a ≤ b) (hb : b ≤ l.length) :
    sliceM Y t (.sl g (l.map Enc.b)) (some (.int .i64 (a : Nat))) (some (.int .i64 (b : Nat))) none = .pure { v := .sl g (((l.drop a).take (b - a)).map Enc.b) } := by
  have hs := takeB l 1
  simp only [sliceM, h1, h2, loF, hiF]
  rw [if_pos ⟨Int.natCast_nonneg a, by omega, by rw [List.length_map]; omega, hs⟩]
  simp [List.map_take, List.map_drop]
def slot0' : SlotT := (false, (0, [], [], ()), ())
def slotI (l : List UInt8) (s : RS) : SlotT × RS :=
  let a := manyR l l.length s
  if (a.2.2 || decide (a.1 = 0)) = true then (slot0', a.2) else if a.1 > (l.length : Int) - (a.2.1 : Nat) then (slot0', a.2.1, true)
  else let g := gobI ((l.drop a.2.1).take a.1.toNat)
    if g.2 = true then ((true, g.1, ()), a.2.1 + a.1.toNat, false) else (slot0', a.2.1, true)
def slotS (l : List UInt8) (s : RS) : SlotT × RS :=
  let a := oneR l s
  if (a.2.2 || decide (a.1 = 0)) = true then (slot0', a.2) else if (decide (a.1 < 0) || decide (a.1 > (l.length : Int) - (a.2.1 : Nat))) = true then (slot0', a.2.1, true)
  else let g := gobS ((l.drop a.2.1).take a.1.toNat)
    ((true, g.1, ()), a.2.1 + a.1.toNat, !g.2)

theorem implSlot_ok (k : Nat) (l : List UInt8) (s : RS) (hl : l.length ≤ 1048576) (ha : s.1 ≤ l.length) : CallR Try.prog 86 [.io (.nd [.sl (gOf k) (l.map Enc.b), .int .i64 (s.1 : Nat), .bool s.2])] [.nd [.sl (gOf k) (l.map Enc.b), .int .i64 ((slotI l s).2.1 : Nat), .bool (slotI l s).2.2]] (.nd [.bool (slotI l s).1.1, .nd [.int .i64 (slotI l s).1.2.1.1, .ow 1 ((slotI l s).1.2.1.2.1.map Enc.o), .ow 1 ((slotI l s).1.2.1.2.2.1.map Enc.o)]]) := by
  refine CallR.of_body (n := 73) (rs := [.cell 2 38]) hY.ok Try.func86 rfl (by decide) rfl rfl rfl rfl (fun F => ?_)
  have fx := And.intro Y1 (And.intro Y2 (And.intro Y3 (And.intro Y4 (And.intro Y5 (And.intro Y24 (And.intro Y34 (And.intro Y36 (And.intro Y38 (And.intro Y97 (Y99))))))))))
  have hM := many_ok (upk k) l s l.length hl ha
  have hMl := manyR_le l l.length s ha
  have hMr := manyR_rng l l.length (Int.natCast_nonneg _) s
  have hF : slotI l s = slotI l s := rfl
  conv at hF => rhs; unfold slotI
  simp only at hF
  generalize manyR l l.length s = a at *
  obtain ⟨n, at', bad⟩ := a
  simp only at hM hMl hF hMr
  have hn0 : (n == 0) = decide (n = 0) := rfl
  have hwl : IntKind.i64.wrap ((l.length : Int) - (at' : Nat)) = (l.length : Int) - (at' : Nat) := wrap64 _ (by omega) (by omega)
  by_cases h1 : (bad || decide (n = 0)) = true
  · rw [if_pos h1] at hF
    rw [hF]
    have hC1 := cx [.io] (hM)
    have fy := And.intro hn0 (And.intro h1 (hwl))
    refine goR ?_ ?_ ?_ ?_ ?_ ?_ ?_ ?_ ?_ ?_ ?_ ?_ ?_ ?_ ?_ ?_
    any_goals (first | exact True.intro | skip)
    all_goals (repeat (refine Wh.mk fun hcc => ?_))
    all_goals exact SW.ret (show RetQ _ _ _ _ _ _ _ from RetQ.y [0] [.nd [.bool false, .nd [.int .i64 0, .ow 1 (([] : List Int).map Enc.o), .ow 1 (([] : List Int).map Enc.o)]]])
  · rw [if_neg h1] at hF
    have h1f : (bad || decide (n = 0)) = false := by simpa using h1
    by_cases h2 : n > (l.length : Int) - (at' : Nat)
    · rw [if_pos h2] at hF
      rw [hF]
      have h2d : decide (n > (l.length : Int) - (at' : Nat)) = true := decide_eq_true h2
      have hC1 := cx [.io] (hM)
      have fy := And.intro hn0 (And.intro h1f (And.intro h2d (hwl)))
      refine goR ?_ ?_ ?_ ?_ ?_ ?_ ?_ ?_ ?_ ?_ ?_ ?_ ?_ ?_ ?_ ?_
      any_goals (first | exact True.intro | skip)
      all_goals (repeat (refine Wh.mk fun hcc => ?_))
      all_goals exact SW.ret (show RetQ _ _ _ _ _ _ _ from RetQ.y [0] [.nd [.bool false, .nd [.int .i64 0, .ow 1 (([] : List Int).map Enc.o), .ow 1 (([] : List Int).map Enc.o)]]])
    · rw [if_neg h2] at hF
      have h2d : decide (n > (l.length : Int) - (at' : Nat)) = false := decide_eq_false h2
      obtain ⟨N, hN⟩ : ∃ N : Nat, n = (N : Int) := ⟨n.toNat, by omega⟩
      subst hN
      rw [Int.toNat_natCast] at hF
      have hbf : bad = false := by cases bad <;> simp at h1 ⊢
      subst hbf
      have hNz : decide ((N : Int) = 0) = false := by simpa using h1f
      have hsl := slice_sub (gOf k) l at' (at' + N) Y24 Y5 (by omega) (by omega)
      rw [Nat.add_sub_cancel_left] at hsl
      have hwa : IntKind.i64.wrap ((at' : Int) + (N : Int)) = ((at' + N : Nat) : Int) := by rw [wrap64 _ (by omega) (by omega)]; omega
      have hG := gobI_ok ((l.drop at').take N) (by rw [List.length_take, List.length_drop]; omega)
      generalize gobI ((l.drop at').take N) = g at *
      obtain ⟨⟨g1, g2, g3, ⟨⟩⟩, gok⟩ := g
      simp only at hG hF
      cases gok
      · simp only [Bool.false_eq_true, if_false, if_true, Bool.not_false, Bool.not_true] at hF
        rw [hF]
        have hC1 := cx [.io] (hM)
        have hC2 := cx [] (hG)
        have fy := And.intro hn0 (And.intro hNz (And.intro h2d (And.intro hwl (And.intro hsl (hwa)))))
        refine goR ?_ ?_ ?_ ?_ ?_ ?_ ?_ ?_ ?_ ?_ ?_ ?_ ?_ ?_ ?_ ?_
        any_goals (first | exact True.intro | skip)
        all_goals (repeat (refine Wh.mk fun hcc => ?_))
        all_goals exact SW.ret (show RetQ _ _ _ _ _ _ _ from RetQ.y [0] [.nd [.bool false, .nd [.int .i64 0, .ow 1 (([] : List Int).map Enc.o), .ow 1 (([] : List Int).map Enc.o)]]])
      · simp only [Bool.false_eq_true, if_false, if_true, Bool.not_false, Bool.not_true] at hF
        rw [hF]
        have hC1 := cx [.io] (hM)
        have hC2 := cx [] (hG)
        have fy := And.intro hn0 (And.intro hNz (And.intro h2d (And.intro hwl (And.intro hsl (hwa)))))
        refine goR ?_ ?_ ?_ ?_ ?_ ?_ ?_ ?_ ?_ ?_ ?_ ?_ ?_ ?_ ?_ ?_
        any_goals (first | exact True.intro | skip)
        all_goals (repeat (refine Wh.mk fun hcc => ?_))
        all_goals exact SW.ret (show RetQ _ _ _ _ _ _ _ from RetQ.y [0] [.nd [.bool true, .nd [.int .i64 g1, .ow 1 (g2.map Enc.o), .ow 1 (g3.map Enc.o)]]])
theorem specSlot_ok (k : Nat) (l : List UInt8) (s : RS) (hl : l.length ≤ 1048576) (ha : s.1 ≤ l.length) : CallR Try.prog 105 [.io (.nd [.sl (gOf k) (l.map Enc.b), .int .i64 (s.1 : Nat), .bool s.2])] [.nd [.sl (gOf k) (l.map Enc.b), .int .i64 ((slotS l s).2.1 : Nat), .bool (slotS l s).2.2]] (.nd [.bool (slotS l s).1.1, .nd [.int .i64 (slotS l s).1.2.1.1, .ow 1 ((slotS l s).1.2.1.2.1.map Enc.o), .ow 1 ((slotS l s).1.2.1.2.2.1.map Enc.o)]]) := by
  refine CallR.of_body (n := 72) (rs := [.cell 2 38]) hY.ok Try.func105 rfl (by decide) rfl rfl rfl rfl (fun F => ?_)
  have fx := And.intro Y1 (And.intro Y2 (And.intro Y3 (And.intro Y4 (And.intro Y5 (And.intro Y24 (And.intro Y34 (And.intro Y36 (And.intro Y38 (And.intro Y115 (Y117))))))))))
  have hM := next_ok (upk k) l s hl ha
  have hMl := oneR_le l s ha
  have hF : slotS l s = slotS l s := rfl
  conv at hF => rhs; unfold slotS
  simp only at hF
  generalize oneR l s = a at *
  obtain ⟨n, at', bad⟩ := a
  simp only at hM hMl hF
  have hn0 : (n == 0) = decide (n = 0) := rfl
  have hwl : IntKind.i64.wrap ((l.length : Int) - (at' : Nat)) = (l.length : Int) - (at' : Nat) := wrap64 _ (by omega) (by omega)
  by_cases h1 : (bad || decide (n = 0)) = true
  · rw [if_pos h1] at hF
    rw [hF]
    have hC1 := cx [.io] (hM)
    have fy := And.intro hn0 (And.intro h1 (hwl))
    refine goR ?_ ?_ ?_ ?_ ?_ ?_ ?_ ?_ ?_ ?_ ?_ ?_ ?_ ?_ ?_ ?_
    any_goals (first | exact True.intro | skip)
    all_goals (repeat (refine Wh.mk fun hcc => ?_))
    all_goals exact SW.ret (show RetQ _ _ _ _ _ _ _ from RetQ.y [0] [.nd [.bool false, .nd [.int .i64 0, .ow 1 (([] : List Int).map Enc.o), .ow 1 (([] : List Int).map Enc.o)]]])
  · rw [if_neg h1] at hF
    have h1f : (bad || decide (n = 0)) = false := by simpa using h1
    by_cases h2 : (decide (n < 0) || decide (n > (l.length : Int) - (at' : Nat))) = true
    · rw [if_pos h2] at hF
      rw [hF]
      have h2d := h2
      have hC1 := cx [.io] (hM)
      have fy := And.intro hn0 (And.intro h1f (And.intro h2d (hwl)))
      refine goR ?_ ?_ ?_ ?_ ?_ ?_ ?_ ?_ ?_ ?_ ?_ ?_ ?_ ?_ ?_ ?_
      any_goals (first | exact True.intro | skip)
      all_goals (repeat (refine Wh.mk fun hcc => ?_))
      all_goals exact SW.ret (show RetQ _ _ _ _ _ _ _ from RetQ.y [0] [.nd [.bool false, .nd [.int .i64 0, .ow 1 (([] : List Int).map Enc.o), .ow 1 (([] : List Int).map Enc.o)]]])
    · rw [if_neg h2] at hF
      have h2d : (decide (n < 0) || decide (n > (l.length : Int) - (at' : Nat))) = false := by simpa using h2
      have h2' : ¬ n < 0 ∧ ¬ n > (l.length : Int) - (at' : Nat) := by simpa using h2
      obtain ⟨N, hN⟩ : ∃ N : Nat, n = (N : Int) := ⟨n.toNat, by omega⟩
      subst hN
      rw [Int.toNat_natCast] at hF
      have hbf : bad = false := by cases bad <;> simp at h1 ⊢
      subst hbf
      have hNz : decide ((N : Int) = 0) = false := by simpa using h1f
      have hsl := slice_sub (gOf k) l at' (at' + N) Y24 Y5 (by omega) (by omega)
      rw [Nat.add_sub_cancel_left] at hsl
      have hwa : IntKind.i64.wrap ((at' : Int) + (N : Int)) = ((at' + N : Nat) : Int) := by rw [wrap64 _ (by omega) (by omega)]; omega
      have hG := gobS_ok ((l.drop at').take N) (by rw [List.length_take, List.length_drop]; omega)
      generalize gobS ((l.drop at').take N) = g at *
      obtain ⟨⟨g1, g2, g3, ⟨⟩⟩, gok⟩ := g
      simp only at hG hF
      cases gok
      · simp only [Bool.false_eq_true, if_false, if_true, Bool.not_false, Bool.not_true] at hF
        rw [hF]
        have hC1 := cx [.io] (hM)
        have hC2 := cx [] (hG)
        have fy := And.intro hn0 (And.intro hNz (And.intro h2d (And.intro hwl (And.intro hsl (hwa)))))
        refine goR ?_ ?_ ?_ ?_ ?_ ?_ ?_ ?_ ?_ ?_ ?_ ?_ ?_ ?_ ?_ ?_
        any_goals (first | exact True.intro | skip)
        all_goals (repeat (refine Wh.mk fun hcc => ?_))
        all_goals exact SW.ret (show RetQ _ _ _ _ _ _ _ from RetQ.y [0] [.nd [.bool true, .nd [.int .i64 g1, .ow 1 (g2.map Enc.o), .ow 1 (g3.map Enc.o)]]])
      · simp only [Bool.false_eq_true, if_false, if_true, Bool.not_false, Bool.not_true] at hF
        rw [hF]
        have hC1 := cx [.io] (hM)
        have hC2 := cx [] (hG)
        have fy := And.intro hn0 (And.intro hNz (And.intro h2d (And.intro hwl (And.intro hsl (hwa)))))
        refine goR ?_ ?_ ?_ ?_ ?_ ?_ ?_ ?_ ?_ ?_ ?_ ?_ ?_ ?_ ?_ ?_
        any_goals (first | exact True.intro | skip)
        all_goals (repeat (refine Wh.mk fun hcc => ?_))
        all_goals exact SW.ret (show RetQ _ _ _ _ _ _ _ from RetQ.y [0] [.nd [.bool true, .nd [.int .i64 g1, .ow 1 (g2.map Enc.o), .ow 1 (g3.map Enc.o)]]])
theorem implSlot_b (l : List UInt8) (s : RS) (hl : l.length ≤ 1048576) (ha : s.1 ≤ l.length) : CallR Try.prog 86 [.io (.nd [.sl (.r 0) (l.map Enc.b), .int .i64 (s.1 : Nat), .bool s.2])] [.nd [.sl (.r 0) (l.map Enc.b), .int .i64 ((slotI l s).2.1 : Nat), .bool (slotI l s).2.2]] (.nd [.bool (slotI l s).1.1, .nd [.int .i64 (slotI l s).1.2.1.1, .ow 1 ((slotI l s).1.2.1.2.1.map Enc.o), .ow 1 ((slotI l s).1.2.1.2.2.1.map Enc.o)]]) := implSlot_ok 1 l s hl ha
theorem implSlot_s (l : List UInt8) (s : RS) (hl : l.length ≤ 1048576) (ha : s.1 ≤ l.length) : CallR Try.prog 86 [.io (.nd [.sl .s (l.map Enc.b), .int .i64 (s.1 : Nat), .bool s.2])] [.nd [.sl .s (l.map Enc.b), .int .i64 ((slotI l s).2.1 : Nat), .bool (slotI l s).2.2]] (.nd [.bool (slotI l s).1.1, .nd [.int .i64 (slotI l s).1.2.1.1, .ow 1 ((slotI l s).1.2.1.2.1.map Enc.o), .ow 1 ((slotI l s).1.2.1.2.2.1.map Enc.o)]]) := implSlot_ok 0 l s hl ha
theorem specSlot_b (l : List UInt8) (s : RS) (hl : l.length ≤ 1048576) (ha : s.1 ≤ l.length) : CallR Try.prog 105 [.io (.nd [.sl (.r 0) (l.map Enc.b), .int .i64 (s.1 : Nat), .bool s.2])] [.nd [.sl (.r 0) (l.map Enc.b), .int .i64 ((slotS l s).2.1 : Nat), .bool (slotS l s).2.2]] (.nd [.bool (slotS l s).1.1, .nd [.int .i64 (slotS l s).1.2.1.1, .ow 1 ((slotS l s).1.2.1.2.1.map Enc.o), .ow 1 ((slotS l s).1.2.1.2.2.1.map Enc.o)]]) := specSlot_ok 1 l s hl ha
theorem specSlot_s (l : List UInt8) (s : RS) (hl : l.length ≤ 1048576) (ha : s.1 ≤ l.length) : CallR Try.prog 105 [.io (.nd [.sl .s (l.map Enc.b), .int .i64 (s.1 : Nat), .bool s.2])] [.nd [.sl .s (l.map Enc.b), .int .i64 ((slotS l s).2.1 : Nat), .bool (slotS l s).2.2]] (.nd [.bool (slotS l s).1.1, .nd [.int .i64 (slotS l s).1.2.1.1, .ow 1 ((slotS l s).1.2.1.2.1.map Enc.o), .ow 1 ((slotS l s).1.2.1.2.2.1.map Enc.o)]]) := specSlot_ok 0 l s hl ha
end Q6
