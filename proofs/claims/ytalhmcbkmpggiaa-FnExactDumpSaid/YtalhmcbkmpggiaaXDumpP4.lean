/- FnExactDump: the program's Dump returns what the reference's returns, for all arguments. -/
import Derived.Test.YtalhmcbkmpggiaaXDumpP1
import Derived.Test.YtalhmcbkmpggiaaXDumpP3
import Derived.Test.YtalhmcbkmpggiaaXDumpP2
import Derived.Test.YtalhmcbkmpggiaaVm5
import Derived.Test.YtalhmcbkmpggiaaVm4
import Derived.Test.YtalhmcbkmpggiaaRows
import Derived.ProofKit
set_option linter.all false

namespace Q6
open Go Go.Vm Go.Proofs
set_option maxHeartbeats 4000000
set_option synthInstance.maxSize 2000
set_option synthInstance.maxHeartbeats 400000
set_option maxRecDepth 10000
set_option linter.unusedSimpArgs false
set_option linter.unusedVariables false

open Go.By

def frameL (l : List UInt8) : List UInt8 := putI l.length ++ l ++ four (crc l)
theorem frameL_len (l : List UInt8) : (frameL l).length ≤ l.length + 10 := by
  have := putI_len l.length
  unfold frameL; simp only [List.length_append, four_len]; omega

theorem sFrame_ok (l : List UInt8) (hl : l.length ≤ 1048576) : CallR Try.prog 64 [.sl .b (l.map Enc.b)] [] (.ow 1 ((frameL l).map Enc.o)) := by
  refine CallR.of_body (n := 15) (rs := [.tmp 2]) hY.ok Try.func64 rfl (by decide) rfl rfl rfl rfl (fun F => ?_)
  have fx := And.intro Y3 (And.intro Y5 (Y24))
  have hP := PutInt_ok [] (l.length : Int) (Nat.zero_le _)
  have hS := specCrc_ok l hl
  have hF4 := l1Four_ok (crc l)
  have hpl := putI_len l.length
  have hfl := four_len (crc l)
  unfold frameL
  simp only [List.nil_append] at hP
  generalize crc l = c at *
  generalize four c = FF at *
  generalize putI l.length = PP at *
  have hap1 := fun (own_ e_ j_ : Nat) (H_ : Heap) (q1 : H_.at e_ j_ = some (.arr 1 ((PP).map Enc.o) false)) => append_runB (Y := Y) (own := own_) (t := 24) (u := 24) (e := e_) (j := j_) (off := 0) (n := (PP).length) (g := .b) (l := PP) (m := l) (H := H_) Y24 Y24 Y5 rfl (by decide) q1 (by rw [List.drop_zero]; exact List.take_of_length_le (by simp)) (by simp) (by omega) rfl rfl
  have hap2 := fun (own_ e_ j_ e2_ j2_ : Nat) (H_ : Heap) (q1 : H_.at e_ j_ = some (.arr 1 ((PP ++ l).map Enc.o) false)) (q2 : H_.at e2_ j2_ = some (.arr 1 ((FF).map Enc.o) false)) => append_runR (Y := Y) (own := own_) (t := 24) (u := 24) (e := e_) (j := j_) (off := 0) (n := PP.length + l.length) (e2 := e2_) (j2 := j2_) (l := PP ++ l) (m := FF) (H := H_) Y24 Y24 Y5 rfl (by decide) q1 q2 (by rw [List.drop_zero]; exact List.take_of_length_le (by simp)) (by simp) (by omega) rfl rfl
  have hC1 := cx [] (hP)
  have hC2 := cx [] (hS)
  have hC3 := cx [] (hF4)
  have fy := And.intro bs0_24 (And.intro hap1 (hap2))
  refine goR ?_ ?_ ?_ ?_ ?_ ?_ ?_ ?_ ?_ ?_ ?_ ?_ ?_ ?_ ?_ ?_
  any_goals (first | exact True.intro | skip)
  all_goals (repeat (refine Wh.mk fun hcc => ?_))
  have hZ : PP.length + l.length + FF.length = (PP ++ l ++ FF).length := by simp [Nat.add_assoc]
  rw [hZ]
  generalize PP ++ l ++ FF = Z
  exact SW.ret (show RetQ _ _ _ _ _ _ _ from RetQ.y [1] [.ow 1 (Z.map Enc.o)])
theorem growBytes_ok (n : Nat) (hn : n ≤ 1048576) : CallR Try.prog 165 [.nils 0, .int .i64 (n : Nat)] [] (.ow 1 []) := by
  refine CallR.of_body (n := 27) (rs := [.tmp 4]) hY.ok Try.func165 rfl (by decide) rfl rfl rfl rfl (fun F => ?_)
  have fx := And.intro Y3 (And.intro Y4 (And.intro Y5 (And.intro Y9 (And.intro Y20 (Y24)))))
  have hneg : decide ((n : Int) < 0) = false := by simp
  have hw : IntKind.i64.wrap (n : Int) = n := wrap64 _ (by omega) (by omega)
  have hn30 : (n : Int) ≤ 2 ^ 30 := by omega
  have hn0 : (0 : Int) ≤ n := Int.natCast_nonneg n
  have hsn : ∀ es, sliceM Y 24 (.nils es) none (some (.int .i64 0)) none = .pure { v := .nils es } := fun es => by simp [sliceM, Y24, loF, hiF]
  have hsr := fun (e j n : Nat) (f : List T) (H : Heap) (q1 : H.at e j = some (.arr 1 f false)) => show (sliceM Y 24 (.ref e j 0 n) none (some (.int .i64 0)) none).run H = some { v := .ref e j 0 0 } by simp [sliceM, Y24, Y5, loF, hiF, RM.run, q1]
  cases hz : decide ((n : Int) > 0)
  · skip
    have fy := And.intro hneg (And.intro hw (And.intro hz (And.intro Int.sub_zero (Int.sub_self))))
    refine goR ?_ ?_ ?_ ?_ ?_ ?_ ?_ ?_ ?_ ?_ ?_ ?_ ?_ ?_ ?_ ?_
    any_goals (first | exact True.intro | skip)
    all_goals (repeat (refine Wh.mk fun hcc => ?_))
    all_goals exact SW.ret (show RetQ _ _ _ _ _ _ _ from RetQ.y [1] [.ow 1 []])
  · skip
    have fy := And.intro hneg (And.intro hw (And.intro hz (And.intro hn30 (And.intro hn0 (And.intro hsn (And.intro hsr (And.intro Int.sub_zero (Int.sub_self))))))))
    refine goR ?_ ?_ ?_ ?_ ?_ ?_ ?_ ?_ ?_ ?_ ?_ ?_ ?_ ?_ ?_ ?_
    any_goals (first | exact True.intro | skip)
    all_goals (repeat (refine Wh.mk fun hcc => ?_))
    refine SW.norm (Norm.trunc 1 0 0 rfl) ?_
    simp only [Heap.put, List.take_zero, List.getElem?_cons_succ, List.getElem?_cons_zero, List.set_cons_succ, List.set_cons_zero]
    exact SW.ret (show RetQ _ _ _ _ _ _ _ from RetQ.y [1] [.ow 1 []])
def lenS (ls : List (List UInt8)) : Nat := (ls.map List.length).sum
theorem lenS_take : ∀ (ls : List (List UInt8)) (i : Nat) (h : i < ls.length), lenS (ls.take (i + 1)) = lenS (ls.take i) + ls[i].length
  | [], i, h => absurd h (Nat.not_lt_zero _)
  | x :: ls, 0, h => by simp [lenS]
  | x :: ls, i + 1, h => by
    have := lenS_take ls i (by simpa using h)
    simp only [lenS, List.take_succ_cons, List.map_cons, List.sum_cons, List.getElem_cons_succ] at this ⊢; omega
theorem lenS_le : ∀ (ls : List (List UInt8)) (i : Nat), lenS (ls.take i) ≤ lenS ls
  | [], i => by simp [lenS]
  | x :: ls, 0 => by simp [lenS]
  | x :: ls, i + 1 => by
    have := lenS_le ls i
    simp only [lenS, List.take_succ_cons, List.map_cons, List.sum_cons] at this ⊢; omega
theorem flat_take : ∀ (ls : List (List UInt8)) (i : Nat) (h : i < ls.length), (ls.take (i + 1)).flatten = (ls.take i).flatten ++ ls[i]
  | [], i, h => absurd h (Nat.not_lt_zero _)
  | x :: ls, 0, h => by simp
  | x :: ls, i + 1, h => by
    have := flat_take ls i (by simpa using h)
    simp only [List.take_succ_cons, List.flatten_cons, List.getElem_cons_succ, this, List.append_assoc]
theorem flat_len (ls : List (List UInt8)) (i : Nat) : (ls.take i).flatten.length = lenS (ls.take i) := by unfold lenS; simp [List.length_flatten]
theorem concat_ok (ls : List (List UInt8)) (hn : ls.length ≤ 1048576) (hs : lenS ls ≤ 1048576) : CallR Try.prog 134 [.sl .b (ls.map Enc.b)] [] (.ow 1 (ls.flatten.map Enc.o)) := by
  refine CallR.of_body (n := 36) (rs := [.tmp 2]) hY.ok Try.func134 rfl (by decide) rfl rfl rfl rfl (fun F => ?_)
  have fx := And.intro Y3 (And.intro Y4 (And.intro Y5 (And.intro Y9 (And.intro Y20 (And.intro Y24 (Y157))))))
  have fy := Nat.add_zero
  refine goN ?_ ?_ ?_ ?_ ?_ ?_ ?_ ?_ ?_ ?_ ?_ ?_ ?_ ?_ ?_ ?_
  any_goals (first | exact True.intro | skip)
  skip
  refine SW.loop (fun i : Nat => ⟨[.sl .b (ls.map Enc.b), .undef, .undef, .int .i64 (lenS (ls.take i) : Nat), .undef, .undef, .undef, .undef, .undef, .sl .b (ls.map Enc.b), .int .i64 (ls.length : Nat), .int .i64 (i : Nat), .undef, .undef, .undef, .undef, .undef, .undef, .undef, .undef, .undef, .undef, .undef, .undef, .undef, .undef, .undef, .undef, .undef, .undef, .undef, .undef, .undef, .undef, .undef, .undef], [[]]⟩)
    (fun N i => N = ls.length - i ∧ i ≤ ls.length) (n := ls.length) (x := 0) (Norm.to 0 rfl (by simp [weakL, lenS])) ⟨rfl, Nat.zero_le _⟩ ?_
  rintro N i ⟨hN, hi⟩
  have fy := Nat.add_zero
  refine goS ?_
  refine SW.cond rfl (fun hc => ?_) (fun hc => ?_)
  · have hlt : i < ls.length := by simp at hc; omega
    have hgl : (ls.map Enc.b)[i]? = some (T.sl .b (ls[i].map Enc.b)) := map_get Enc.b ls i hlt
    have h1 := lenS_take ls i hlt
    have h2 := lenS_le ls (i + 1)
    generalize ls[i] = x at *
    generalize lenS (List.take i ls) = m at *
    have hwi : IntKind.i64.wrap ((i : Int) + 1) = ((i + 1 : Nat) : Int) := by rw [wrap64 _ (by omega) (by omega)]; omega
    have hwm : IntKind.i64.wrap ((m : Int) + (x.length : Int)) = ((m + x.length : Nat) : Int) := by rw [wrap64 _ (by omega) (by omega)]; omega
    have hneg : decide (((m + x.length : Nat) : Int) < 0) = false := by simp; omega
    have fy := And.intro hgl (And.intro hwi (And.intro hwm (hneg)))
    refine goR ?_ ?_ ?_ ?_ ?_ ?_ ?_ ?_ ?_ ?_ ?_ ?_ ?_ ?_ ?_ ?_
    any_goals (first | exact True.intro | skip)
    all_goals (repeat (refine Wh.mk fun hcc => ?_))
    refine ⟨N - 1, i + 1, by omega, ⟨by omega, by omega⟩, ?_⟩
    rw [h1]
    exact Norm.to 0 rfl (by simp [weakL])
  · have hge : i = ls.length := by
      have : ¬ i < ls.length := by simp at hc; omega
      omega
    subst hge
    rw [List.take_length]
    have hG := growBytes_ok (lenS ls) hs
    have hC1 := cx [.nl] (hG)
    have fy := Nat.add_zero
    refine goN ?_ ?_ ?_ ?_ ?_ ?_ ?_ ?_ ?_ ?_ ?_ ?_ ?_ ?_ ?_ ?_
    any_goals (first | exact True.intro | skip)
    skip
    refine SW.loop (fun i : Nat => ⟨[.undef, .undef, .undef, .undef, .undef, .undef, .ref 1 0 0 (lenS (ls.take i)), .undef, .undef, .undef, .undef, .undef, .undef, .undef, .undef, .undef, .undef, .undef, .undef, .undef, .undef, .undef, .undef, .undef, .undef, .sl .b (ls.map Enc.b), .int .i64 (ls.length : Nat), .int .i64 (i : Nat), .undef, .undef, .undef, .undef, .undef, .undef, .undef, .undef], [[], [.arr 1 ((ls.take i).flatten.map Enc.o) false]]⟩)
      (fun N i => N = ls.length - i ∧ i ≤ ls.length) (n := ls.length) (x := 0) ?_ ⟨rfl, Nat.zero_le _⟩ ?_
    · exact Norm.re [0, 1] (by decide) rfl (by simp [-List.map_append, heapFits, rowFits, obFits, T.ren, renL]) (by simp [tmFits, T.ren, lenS])
    rintro N i ⟨hN, hi⟩
    have fy := Nat.add_zero
    refine goS ?_
    refine SW.cond rfl (fun hc => ?_) (fun hc => ?_)
    · have hlt : i < ls.length := by simp at hc; omega
      have hgl : (ls.map Enc.b)[i]? = some (T.sl .b (ls[i].map Enc.b)) := map_get Enc.b ls i hlt
      have h1 := lenS_take ls i hlt
      have h2 := lenS_le ls (i + 1)
      have h3 := flat_take ls i hlt
      have h4 := flat_len ls i
      generalize ls[i] = x at *
      generalize lenS (List.take i ls) = m at *
      generalize (List.take i ls).flatten = acc at *
      subst h4
      have hwi : IntKind.i64.wrap ((i : Int) + 1) = ((i + 1 : Nat) : Int) := by rw [wrap64 _ (by omega) (by omega)]; omega
      have hap := fun (own_ e_ j_ : Nat) (H_ : Heap) (q1 : H_.at e_ j_ = some (.arr 1 ((acc).map Enc.o) false)) => append_runB (Y := Y) (own := own_) (t := 24) (u := 24) (e := e_) (j := j_) (off := 0) (n := (acc).length) (g := .b) (l := acc) (m := x) (H := H_) Y24 Y24 Y5 rfl (by decide) q1 (by rw [List.drop_zero]; exact List.take_of_length_le (by simp)) (by simp) (by omega) rfl rfl
      have fy := And.intro hgl (And.intro hwi (hap))
      refine goR ?_ ?_ ?_ ?_ ?_ ?_ ?_ ?_ ?_ ?_ ?_ ?_ ?_ ?_ ?_ ?_
      any_goals (first | exact True.intro | skip)
      all_goals (repeat (refine Wh.mk fun hcc => ?_))
      refine ⟨N - 1, i + 1, by omega, ⟨by omega, by omega⟩, ?_⟩
      rw [h1, h3]
      exact Norm.re [0, 2] (by decide) rfl (by first | (simp only [eq_self, heapFits, rowFits, obFits, List.getElem?_cons_zero, List.getElem?_cons_succ, renL_o, renL_b, true_and, and_true, and_self]; done) | simp [-List.map_append, heapFits, rowFits, obFits, T.ren, renL]) (by simp [tmFits, T.ren])
    · have hge : i = ls.length := by
        have : ¬ i < ls.length := by simp at hc; omega
        omega
      subst hge
      have h4 := flat_len ls ls.length
      rw [List.take_length] at h4 ⊢
      rw [← h4]
      generalize ls.flatten = Z
      have fy := Nat.add_zero
      refine goR ?_ ?_ ?_ ?_ ?_ ?_ ?_ ?_ ?_ ?_ ?_ ?_ ?_ ?_ ?_ ?_
      any_goals (first | exact True.intro | skip)
      all_goals (repeat (refine Wh.mk fun hcc => ?_))
      exact SW.ret (show RetQ _ _ _ _ _ _ _ from RetQ.y [1] [.ow 1 (Z.map Enc.o)])
theorem build3 {Y : TypeId → TyI} {own t el by' : Nat} {k : Ty} {a b c : T} (h1 : Y t = ⟨.sl el, 1, 24⟩) (h2 : Y el = ⟨k, 1, by'⟩) (h3 : k.isFn = false)
    (hs : setAll (plAr 1) (List.replicate 3 (zeroT Y 9 el)) [(0, a), (1, b), (2, c)] = some [a, b, c]) :
    buildSliceM Y own t 3 [(0, a), (1, b), (2, c)] = .pure { v := .ref own 0 0 3, news := [.arr 1 [a, b, c] false] } := by
  simp only [buildSliceM, h1, h2, h3]
  rw [if_pos ⟨by decide, by decide, trivial⟩, hs]
theorem iFrame_ok (l : List UInt8) (hl : l.length ≤ 1048576 - 10) : CallR Try.prog 70 [.sl .b (l.map Enc.b)] [] (.ow 1 ((frameL l).map Enc.o)) := by
  refine CallR.of_body (n := 11) (rs := [.tmp 2]) hY.ok Try.func70 rfl (by decide) rfl rfl rfl rfl (fun F => ?_)
  have fx := And.intro Y1 (And.intro Y2 (And.intro Y3 (And.intro Y5 (And.intro Y24 (Y157)))))
  have hP := putInt_ok [] (l.length : Int) (Nat.zero_le _)
  have hS := sumBytes_ok l (by omega)
  have hpl := putI_len l.length
  have hfl := four_len (crc l)
  unfold frameL
  simp only [List.nil_append] at hP
  generalize crc l = c at *
  generalize four c = FF at *
  generalize putI l.length = PP at *
  have hC0 := concat_ok [PP, l, FF] (by simp) (by unfold lenS; simp; omega)
  rw [show [PP, l, FF].flatten = PP ++ l ++ FF by simp] at hC0
  generalize PP ++ l ++ FF = Z at *
  have hC : CallR Try.prog 134 [.sl .b [.sl .b (PP.map Enc.b), .sl .b (l.map Enc.b), .sl .b (FF.map Enc.b)]] [] (.ow 1 (Z.map Enc.o)) := hC0
  have hb3 := fun own => build3 (Y := Y) (own := own) (t := 157) (a := .ref 1 0 0 PP.length) (b := .sl .b (l.map Enc.b)) (c := .ref 2 0 0 FF.length) Y157 Y24 rfl rfl
  have hC1 := cx [.own 1] (hP)
  have hC2 := cx [] (hS)
  have hC3 := cx [] (hC)
  have fy := hb3
  refine goR ?_ ?_ ?_ ?_ ?_ ?_ ?_ ?_ ?_ ?_ ?_ ?_ ?_ ?_ ?_ ?_
  any_goals (first | exact True.intro | skip)
  all_goals (repeat (refine Wh.mk fun hcc => ?_))
  exact SW.ret (show RetQ _ _ _ _ _ _ _ from RetQ.y [1] [.ow 1 (Z.map Enc.o)])
end Q6

namespace Q6
open Go Go.Vm Go.Proofs
set_option maxHeartbeats 4000000
set_option synthInstance.maxSize 2000
set_option synthInstance.maxHeartbeats 400000
set_option maxRecDepth 10000
set_option linter.unusedSimpArgs false
set_option linter.unusedVariables false

open Go.By
theorem putInts_ok (b : List UInt8) (l : List Int) (hb : b.length ≤ 1048576) (hl : l.length ≤ 1048576) : CallR Try.prog 164 [.ow 1 (b.map Enc.o), .sl .b (l.map Enc.b)] [] (.ow 1 ((b ++ putL l).map Enc.o)) := by
  refine CallR.of_body (n := 22) (rs := [.tmp 4]) hY.ok Try.func164 rfl (by decide) rfl rfl rfl rfl (fun F => ?_)
  have fx := And.intro Y3 (And.intro Y5 (And.intro Y24 (Y34)))
  have h0 := putInt_ok b l.length (by omega)
  have hpl := putI_len l.length
  have hC1 := cx [.own 1] (h0)
  have fy := Nat.add_zero
  refine goN ?_ ?_ ?_ ?_ ?_ ?_ ?_ ?_ ?_ ?_ ?_ ?_ ?_ ?_ ?_ ?_
  any_goals (first | exact True.intro | skip)
  skip
  refine SW.loop (fun x : Nat × List UInt8 => ⟨[.ref 1 0 0 x.2.length, .undef, .undef, .undef, .undef, .undef, .undef, .undef, .undef, .undef, .undef, .sl .b (l.map Enc.b), .int .i64 (l.length : Nat), .int .i64 (x.1 : Nat), .undef, .undef, .undef, .undef, .undef, .undef, .undef, .undef], [[.gone], [.arr 1 (x.2.map Enc.o) false]]⟩)
    (fun N x => N = l.length - x.1 ∧ x.1 ≤ l.length ∧ x.2 = b ++ putI l.length ++ (l.take x.1).flatMap putI) (n := l.length) (x := (0, b ++ putI l.length)) ?_ ⟨rfl, Nat.zero_le _, by simp⟩ ?_
  · exact Norm.re [0, 1] (by decide) rfl (by first | (simp only [eq_self, heapFits, rowFits, obFits, List.getElem?_cons_zero, List.getElem?_cons_succ, renL_o, renL_b, true_and, and_true, and_self]; done) | simp [-List.map_append, heapFits, rowFits, obFits, T.ren, renL]) (by simp [tmFits, T.ren])
  rintro N ⟨i, acc⟩ ⟨hN, hi, hac⟩
  simp only at hN hi hac ⊢
  have hacl : acc.length ≤ 8388608 := by
    have h1 := putF_len (l.take i)
    have h2 : (l.take i).length ≤ l.length := by rw [List.length_take]; omega
    rw [hac]; simp only [List.length_append]; omega
  have fy := Nat.add_zero
  refine goS ?_
  refine SW.cond rfl (fun hc => ?_) (fun hc => ?_)
  · have hlt : i < l.length := by simp at hc; omega
    have hg : (l.map Enc.b)[i]? = some (.int .i64 l[i]) := map_get Enc.b l i hlt
    have hwi : IntKind.i64.wrap ((i : Int) + 1) = ((i + 1 : Nat) : Int) := by rw [wrap64 _ (by omega) (by omega)]; omega
    have h1 := putInt_ok acc l[i] (by omega)
    have hC1 := cx [.own 1] (h1)
    have fy := And.intro hg (hwi)
    refine goN ?_ ?_ ?_ ?_ ?_ ?_ ?_ ?_ ?_ ?_ ?_ ?_ ?_ ?_ ?_ ?_
    any_goals (first | exact True.intro | skip)
    skip
    refine ⟨N - 1, (i + 1, acc ++ putI l[i]), by omega, ⟨by simp only; omega, by simp only; omega, ?_⟩, ?_⟩
    · simp only; rw [hac, List.take_succ_eq_append_getElem hlt, List.flatMap_append, ← List.append_assoc]; simp only [List.flatMap_cons, List.flatMap_nil, List.append_nil]
    · exact Norm.re [0, 2] (by decide) rfl (by first | (simp only [eq_self, heapFits, rowFits, obFits, List.getElem?_cons_zero, List.getElem?_cons_succ, renL_o, renL_b, true_and, and_true, and_self]; done) | simp [-List.map_append, heapFits, rowFits, obFits, T.ren, renL]) (by simp [tmFits, T.ren])
  · have hge : i = l.length := by
      have : ¬ i < l.length := by simp at hc; omega
      omega
    subst hge
    have hfin : b ++ putL l = acc := by rw [hac, List.take_length]; unfold putL; simp
    rw [hfin]
    have fy := Nat.add_zero
    refine goR ?_ ?_ ?_ ?_ ?_ ?_ ?_ ?_ ?_ ?_ ?_ ?_ ?_ ?_ ?_ ?_
    any_goals (first | exact True.intro | skip)
    all_goals (repeat (refine Wh.mk fun hcc => ?_))
    exact SW.ret (show RetQ _ _ _ _ _ _ _ from RetQ.y [1] [.ow 1 (acc.map Enc.o)])
theorem iPutObj_y (x : (Int × (List Int) × (List Int) × Unit)) (hx : Enc.lim 1048576 x) (ho : objB x = true) : CallR Try.prog 133 [.nd [.int .i64 x.1, .sl .b (x.2.1.map Enc.b), .sl .b (x.2.2.1.map Enc.b)]] [] (.ow 1 ((putObj x).map Enc.o)) := by
  refine CallR.of_body (n := 15) (rs := [.tmp 2]) hY.ok Try.func133 rfl (by decide) rfl rfl rfl rfl (fun F => ?_)
  have fx := And.intro Y1 (And.intro Y2 (And.intro Y3 (And.intro Y4 (And.intro Y5 (And.intro Y24 (And.intro Y34 (Y36)))))))
  have hO := implObjOk_ok x hx
  rw [ho] at hO
  have h1 := putInt_ok [] x.1 (by simp)
  rw [List.nil_append] at h1
  have hp1 := putI_len x.1
  have h2 := putInts_ok (putI x.1) x.2.1 (by omega) hx.2.1.1
  have hp2 := putL_len x.2.1
  have hb5 : x.2.1.length ≤ 5 ∧ x.2.2.1.length ≤ 5 := objB_len ho
  have h3 := putInts_ok (putI x.1 ++ putL x.2.1) x.2.2.1 (by simp only [List.length_append]; omega) hx.2.2.1.1
  have hpo : putObj x = putI x.1 ++ putL x.2.1 ++ putL x.2.2.1 := rfl
  rw [hpo]
  generalize putI x.1 ++ putL x.2.1 = P2 at *
  generalize P2 ++ putL x.2.2.1 = P3 at *
  generalize putI x.1 = P1 at *
  have hC1 := cx [] (hO)
  have hC2 := cx [.own 1] (h1)
  have hC3 := cx [.own 1] (h2)
  have hC4 := cx [.own 1] (h3)
  have fy := Nat.add_zero
  have hD1 := dx 3 [3, 3, 3] [(4, 0), (7, 0), (7, 1)]
  refine goR ?_ ?_ ?_ ?_ ?_ ?_ ?_ ?_ ?_ ?_ ?_ ?_ ?_ ?_ ?_ ?_
  any_goals (first | exact True.intro | skip)
  all_goals (repeat (refine Wh.mk fun hcc => ?_))
  all_goals exact SW.ret (show RetQ _ _ _ _ _ _ _ from RetQ.y [1] [.ow 1 (P3.map Enc.o)])
def flagI (b : Bool) : Int := if b = true then 1 else 0
theorem flag_ok (b : Bool) : CallR Try.prog 67 [.bool b] [] (.int .i64 (flagI b)) := by
  refine CallR.of_body (n := 4) (rs := [.tmp 2]) hY.ok Try.func67 rfl (by decide) rfl rfl rfl rfl (fun F => ?_)
  have fx := And.intro Y3 (Y4)
  cases b
  · skip
    have fy := Nat.add_zero
    refine goK ?_ ?_ ?_ ?_ ?_ ?_ ?_ ?_ ?_ ?_ ?_ ?_ ?_ ?_ ?_ ?_
    any_goals (first | exact True.intro | skip)
    all_goals (repeat (refine Wh.mk fun hcc => ?_))
    all_goals rfl
  · skip
    have fy := Nat.add_zero
    refine goK ?_ ?_ ?_ ?_ ?_ ?_ ?_ ?_ ?_ ?_ ?_ ?_ ?_ ?_ ?_ ?_
    any_goals (first | exact True.intro | skip)
    all_goals (repeat (refine Wh.mk fun hcc => ?_))
    all_goals rfl
theorem iPutSlot_ok (b : List UInt8) (s : SlotT) (hs : Enc.lim 1048576 s) (hsb : slotB s = true) (hb : b.length ≤ 1048576) : CallR Try.prog 69 [.ow 1 (b.map Enc.o), .nd [.bool s.1, .nd [.int .i64 s.2.1.1, .sl .b (s.2.1.2.1.map Enc.b), .sl .b (s.2.1.2.2.1.map Enc.b)]]] [] (.ow 1 ((b ++ putSl s).map Enc.o)) := by
  refine CallR.of_body (n := 20) (rs := [.tmp 4]) hY.ok Try.func69 rfl (by decide) rfl rfl rfl rfl (fun F => ?_)
  have fx := And.intro Y1 (And.intro Y3 (And.intro Y4 (And.intro Y5 (And.intro Y24 (And.intro Y34 (And.intro Y36 (Y38)))))))
  obtain ⟨has, o, ⟨⟩⟩ := s
  unfold putSl
  simp only at hs ⊢
  cases has
  · have hP := putInt_ok b 0 (by omega)
    simp only [Bool.false_eq_true, if_false]
    have hC1 := cx [.own 1] (hP)
    have fy := Nat.add_zero
    refine goR ?_ ?_ ?_ ?_ ?_ ?_ ?_ ?_ ?_ ?_ ?_ ?_ ?_ ?_ ?_ ?_
    any_goals (first | exact True.intro | skip)
    all_goals (repeat (refine Wh.mk fun hcc => ?_))
    all_goals exact SW.ret (show RetQ _ _ _ _ _ _ _ from RetQ.y [1] [.ow 1 ((b ++ putI 0).map Enc.o)])
  · have hob : objB o = true := hsb
    have hO := iPutObj_y o hs.2.1 hob
    have hol := putObj_len hob
    simp only [if_true]
    generalize putObj o = p at *
    have hP := putInt_ok b p.length (by omega)
    have hpl := putI_len p.length
    rw [← List.append_assoc]
    have hl2 : (b ++ putI p.length).length ≤ 1048582 := by simp only [List.length_append]; omega
    generalize b ++ putI p.length = B2 at *
    have hap := fun (own_ e_ j_ e2_ j2_ : Nat) (H_ : Heap) (q1 : H_.at e_ j_ = some (.arr 1 ((B2).map Enc.o) false)) (q2 : H_.at e2_ j2_ = some (.arr 1 ((p).map Enc.o) false)) => append_runR (Y := Y) (own := own_) (t := 24) (u := 24) (e := e_) (j := j_) (off := 0) (n := (B2).length) (e2 := e2_) (j2 := j2_) (l := B2) (m := p) (H := H_) Y24 Y24 Y5 rfl (by decide) q1 q2 (by rw [List.drop_zero]; exact List.take_of_length_le (by simp)) (by simp) (by omega) rfl rfl
    have hC1 := cx [] (hO)
    have hC2 := cx [.own 1] (hP)
    have fy := hap
    refine goR ?_ ?_ ?_ ?_ ?_ ?_ ?_ ?_ ?_ ?_ ?_ ?_ ?_ ?_ ?_ ?_
    any_goals (first | exact True.intro | skip)
    all_goals (repeat (refine Wh.mk fun hcc => ?_))
    rw [show B2.length + p.length = (B2 ++ p).length by simp]
    generalize B2 ++ p = Z
    all_goals exact SW.ret (show RetQ _ _ _ _ _ _ _ from RetQ.y [1] [.ow 1 (Z.map Enc.o)])
end Q6

namespace Q6
open Go Go.Vm Go.Proofs
set_option maxHeartbeats 4000000
set_option synthInstance.maxSize 2000
set_option synthInstance.maxHeartbeats 400000
set_option maxRecDepth 10000
set_option linter.unusedSimpArgs false
set_option linter.unusedVariables false

theorem specViewOk_y (l : List ((Bool × ((Int × (List Int) × (List Int) × Unit)) × Unit))) (hl : Enc.lim 1048576 l) (h32 : l.length = 32) : CallR Try.prog 61 [.sl .b (l.map Enc.b)] [] (.bool (viewB l)) := by
  refine CallR.of_body (n := 25) (rs := [.tmp 2]) hY.ok Try.func61 rfl (by decide) rfl rfl rfl rfl (fun F => ?_)
  have fx := And.intro Y3 (And.intro Y4 (And.intro Y26 (And.intro Y34 (And.intro Y36 (Y38)))))
  have hE : ((l.length : Int) != 32) = false := by simp [h32]
  have hlt : 0 < l.length := by omega
  have hI : (0 : Int) < (l.length : Int) := by omega
  have hg0 : (l.map Enc.b)[0]? = some (.nd [.bool l[0].1, .nd [.int .i64 l[0].2.1.1, .sl .b (l[0].2.1.2.1.map Enc.b), .sl .b (l[0].2.1.2.2.1.map Enc.b)]]) := map_get Enc.b l 0 hlt
  have hv : viewB l = (!l[0].1 && l.all slotB) := by
    cases l with
    | nil => simp at h32
    | cons s l' => simp only [viewB, h32]; simp
  rcases hh : l[0].1 with _ | _
  rotate_left
  · rw [hh] at hg0 hv
    have fy := And.intro hE (And.intro hg0 (And.intro hI (hlt)))
    refine goK ?_ ?_ ?_ ?_ ?_ ?_ ?_ ?_ ?_ ?_ ?_ ?_ ?_ ?_ ?_ ?_
    any_goals (first | exact True.intro | skip)
    all_goals (repeat (refine Wh.mk fun hcc => ?_))
    all_goals simp_all [tupOf, fixEs]
  rw [hh] at hg0 hv
  have fy := And.intro hE (And.intro hg0 (And.intro hI (hlt)))
  refine goR ?_ ?_ ?_ ?_ ?_ ?_ ?_ ?_ ?_ ?_ ?_ ?_ ?_ ?_ ?_ ?_
  any_goals (first | exact True.intro | skip)
  all_goals (repeat (refine Wh.mk fun hcc => ?_))
  refine SW.loop (fun i : Nat => ⟨[.sl .b (l.map Enc.b), .undef, .undef, .int .i64 i, .undef, .undef, .undef, .undef, .undef, .undef, .undef, .undef, .undef, .undef, .undef, .undef, .undef, .undef, .undef, .undef, .undef, .undef, .undef, .undef, .undef], [[]]⟩)
    (fun n i => n = l.length - i ∧ i ≤ l.length ∧ ∀ j (h : j < l.length), j < i → (slotB) l[j] = true) (n := l.length) (x := 0) (by first | exact Norm.to 0 rfl (by simp [weakL]) | exact Norm.to 1 rfl (by simp [weakL])) ⟨rfl, Nat.zero_le _, fun j _ h => absurd h (Nat.not_lt_zero _)⟩ ?_
  rintro n i ⟨hn, hi, hp⟩
  have fy := And.intro hE (And.intro hg0 (And.intro hI (hlt)))
  refine goS ?_
  refine SW.cond rfl (fun hci => ?_) (fun hci => ?_)
  · skip
    have hlti : i < l.length := by simpa using hci
    have hltIi : (i : Int) < (l.length : Int) := by omega
    have hg : (l.map Enc.b)[i]? = some (.nd [.bool l[i].1, .nd [.int .i64 l[i].2.1.1, .sl .b (l[i].2.1.2.1.map Enc.b), .sl .b (l[i].2.1.2.2.1.map Enc.b)]]) := map_get Enc.b l i hlti
    have hC1 := cx [] (l3Slot_ok l[i] (hl.2 _ (List.getElem_mem hlti)))
    have fy := hg
    refine goK ?_ ?_ ?_ ?_ ?_ ?_ ?_ ?_ ?_ ?_ ?_ ?_ ?_ ?_ ?_ ?_
    any_goals (first | exact True.intro | skip)
    all_goals (repeat (refine Wh.mk fun hcc => ?_))
    · have hx' : slotB l[i] = false := by simpa using hcc
      have hno : l.all (slotB) = false := all_not _ _ i hlti hx'
      simp [tupOf, fixEs, hv, hno]
    · have hx' : slotB l[i] = true := by simpa using hcc
      refine ⟨n - 1, i + 1, by omega, ⟨by omega, by omega, fun j hj hji => ?_⟩, ?_⟩
      · by_cases he : j = i
        · subst he; exact hx'
        · exact hp j hj (by omega)
      · rw [wrap64 _ (by omega) (by omega)]
        first | exact Norm.to 0 rfl (by simp [weakL]) | exact Norm.to 1 rfl (by simp [weakL]) | exact Norm.to 2 rfl (by simp [weakL]) | exact Norm.to 3 rfl (by simp [weakL])
  · skip
    have hgei : i = l.length := by
      have : ¬ i < l.length := by simpa using hci
      omega
    have hall : l.all (slotB) = true := all_of _ _ (fun j hj => hp j hj (by omega))
    have fy := And.intro hE (And.intro hg0 (And.intro hI (hlt)))
    refine goK ?_ ?_ ?_ ?_ ?_ ?_ ?_ ?_ ?_ ?_ ?_ ?_ ?_ ?_ ?_ ?_
    any_goals (first | exact True.intro | skip)
    all_goals (repeat (refine Wh.mk fun hcc => ?_))
    simp_all [tupOf, fixEs]
theorem specViewOk_n (l : List ((Bool × ((Int × (List Int) × (List Int) × Unit)) × Unit))) (hl : Enc.lim 1048576 l) (h32 : ¬ l.length = 32) : CallR Try.prog 61 [.sl .b (l.map Enc.b)] [] (.bool (viewB l)) := by
  refine CallR.of_body (n := 25) (rs := [.tmp 2]) hY.ok Try.func61 rfl (by decide) rfl rfl rfl rfl (fun F => ?_)
  have fx := And.intro Y3 (And.intro Y4 (And.intro Y26 (And.intro Y34 (And.intro Y36 (Y38)))))
  have hE : ((l.length : Int) != 32) = true := by 
    have : ¬ (l.length : Int) = 32 := by omega
    simp [this]
  have fy := hE
  refine goK ?_ ?_ ?_ ?_ ?_ ?_ ?_ ?_ ?_ ?_ ?_ ?_ ?_ ?_ ?_ ?_
  any_goals (first | exact True.intro | skip)
  all_goals (repeat (refine Wh.mk fun hcc => ?_))
  all_goals ((try simp only [tupOf, fixEs]); first | done | (simp_all [viewB]; done) | (exfalso; simp_all; done))
theorem specViewOk_ok (l : List ((Bool × ((Int × (List Int) × (List Int) × Unit)) × Unit))) (hl : Enc.lim 1048576 l) : CallR Try.prog 61 [.sl .b (l.map Enc.b)] [] (.bool (viewB l)) := by
  by_cases h : l.length = 32
  · exact specViewOk_y l hl h
  · exact specViewOk_n l hl h
end Q6

namespace Q6
open Go Go.Vm Go.Proofs
set_option maxHeartbeats 4000000
set_option synthInstance.maxSize 2000
set_option synthInstance.maxHeartbeats 400000
set_option maxRecDepth 10000
set_option linter.unusedSimpArgs false
set_option linter.unusedVariables false

open Go.By

def cntS : List SlotT → Nat
  | [] => 0
  | s :: l => (if s.1 = true then 1 else 0) + cntS l
def dmpF : List SlotT → Nat → List UInt8
  | [], _ => []
  | s :: l, k => (if s.1 = true then putI k ++ putSl s else []) ++ dmpF l (k + 1)
def mark3 : List UInt8 := [75, 87, 49]
def dumpL (v : List SlotT) : List UInt8 := mark3 ++ frameL (putI (cntS v) ++ dmpF v 0)
theorem cntS_app : ∀ (l m : List SlotT), cntS (l ++ m) = cntS l + cntS m
  | [], m => by simp [cntS]
  | s :: l, m => by simp [cntS, cntS_app l m]; omega
theorem dmpF_app : ∀ (l m : List SlotT) (k : Nat), dmpF (l ++ m) k = dmpF l k ++ dmpF m (k + l.length)
  | [], m, k => by simp [dmpF]
  | s :: l, m, k => by simp [dmpF, dmpF_app l m, Nat.add_assoc, Nat.add_comm 1]
theorem take_one {α : Type} (l : List α) (i : Nat) (h : i < l.length) : l.take (i + 1) = l.take i ++ [l[i]] := by
  rw [List.take_add_one, List.getElem?_eq_getElem h]; rfl
theorem cntS_succ (l : List SlotT) (i : Nat) (h : i < l.length) : cntS (l.take (i + 1)) = cntS (l.take i) + (if l[i].1 = true then 1 else 0) := by
  rw [take_one l i h, cntS_app]; simp [cntS]
theorem dmpF_succ (l : List SlotT) (i : Nat) (h : i < l.length) : dmpF (l.take (i + 1)) 0 = dmpF (l.take i) 0 ++ (if l[i].1 = true then putI i ++ putSl l[i] else []) := by
  rw [take_one l i h, dmpF_app, List.length_take, Nat.min_eq_left (by omega)]; simp [dmpF]
theorem cntS_le : ∀ l : List SlotT, cntS l ≤ l.length
  | [] => Nat.le_refl _
  | s :: l => by have := cntS_le l; simp only [cntS, List.length_cons]; split <;> omega
theorem dmpF_len : ∀ (l : List SlotT) (k : Nat), (∀ s ∈ l, slotB s = true) → (dmpF l k).length ≤ 90 * l.length
  | [], _, _ => by simp [dmpF]
  | s :: l, k, h => by
    have h1 := dmpF_len l (k + 1) (fun x hx => h x (by simp [hx]))
    have h2 := putSl_len (h s (by simp))
    have h3 := putI_len k
    simp only [dmpF, List.length_append, List.length_cons]
    split <;> simp only [List.length_append, List.length_nil] <;> omega
theorem viewB_all {v : List SlotT} (h : viewB v = true) : v.length = 32 ∧ ∀ s ∈ v, slotB s = true := by
  unfold viewB at h
  simp only [Bool.and_eq_true, decide_eq_true_eq, List.all_eq_true] at h
  exact ⟨h.1.1, h.2⟩

theorem mark_bs (own : Nat) : buildSliceM Y own 24 3 [(0, .int .u8 75), (1, .int .u8 87), (2, .int .u8 49)] = .pure { v := .ref own 0 0 3, news := [.arr 1 (mark3.map Enc.o) false] } := build3 Y24 Y5 rfl rfl
theorem mark_u8 : (Ty.int .u8).isU8 = true := rfl
theorem mark_len : mark3.length = 3 := rfl
theorem iDump_n (v : List SlotT) (hl : Enc.lim 1048576 v) (hv : viewB v = false) : CallR Try.prog 14 [.sl .b (v.map Enc.b)] [] (.ow 1 []) := by
  refine CallR.of_body (n := 46) (rs := [.tmp 2]) hY.ok Try.func14 rfl (by decide) rfl rfl rfl rfl (fun F => ?_)
  have fx := And.intro Y1 (And.intro Y2 (And.intro Y3 (And.intro Y4 (And.intro Y5 (And.intro Y24 (And.intro Y26 (And.intro Y34 (And.intro Y36 (Y38)))))))))
  have hO := implViewOk_ok v hl
  rw [hv] at hO
  have hC1 := cx [] (hO)
  have fy := Nat.add_zero
  have hD1 := dx 14 [3, 2] [(3, 0)]
  refine goR ?_ ?_ ?_ ?_ ?_ ?_ ?_ ?_ ?_ ?_ ?_ ?_ ?_ ?_ ?_ ?_
  any_goals (first | exact True.intro | skip)
  all_goals (repeat (refine Wh.mk fun hcc => ?_))
  all_goals exact SW.ret (show RetQ _ _ _ _ _ _ _ from RetQ.y [1] [.ow 1 []])
theorem iDump_y (v : List SlotT) (hl : Enc.lim 1048576 v) (hv : viewB v = true) : CallR Try.prog 14 [.sl .b (v.map Enc.b)] [] (.ow 1 ((dumpL v).map Enc.o)) := by
  refine CallR.of_body (n := 46) (rs := [.tmp 2]) hY.ok Try.func14 rfl (by decide) rfl rfl rfl rfl (fun F => ?_)
  have fx := And.intro Y1 (And.intro Y2 (And.intro Y3 (And.intro Y4 (And.intro Y5 (And.intro Y24 (And.intro Y26 (And.intro Y34 (And.intro Y36 (Y38)))))))))
  have hO := implViewOk_ok v hl
  rw [hv] at hO
  obtain ⟨h32, hall⟩ := viewB_all hv
  have hC1 := cx [] (hO)
  have fy := Nat.add_zero
  have hD1 := dx 14 [3, 2] [(3, 0)]
  refine goN ?_ ?_ ?_ ?_ ?_ ?_ ?_ ?_ ?_ ?_ ?_ ?_ ?_ ?_ ?_ ?_
  any_goals (first | exact True.intro | skip)
  skip
  refine SW.cond rfl (fun hcc => absurd hcc (by decide)) (fun hcc => ?_)
  have hC1 := cx [] (hO)
  have fy := Nat.add_zero
  have hD1 := dx 14 [3, 2] [(3, 0)]
  refine goN ?_ ?_ ?_ ?_ ?_ ?_ ?_ ?_ ?_ ?_ ?_ ?_ ?_ ?_ ?_ ?_
  any_goals (first | exact True.intro | skip)
  skip
  refine SW.loop (fun i : Nat => ⟨[.sl .b (v.map Enc.b), .undef, .undef, .int .i64 (cntS (v.take i) : Nat), .undef, .undef, .undef, .undef, .undef, .undef, .undef, .undef, .sl .b (v.map Enc.b), .int .i64 (v.length : Nat), .int .i64 (i : Nat), .undef, .undef, .undef, .undef, .undef, .undef, .undef, .undef, .undef, .undef, .undef, .undef, .undef, .undef, .undef, .undef, .undef, .undef, .undef, .undef, .undef, .undef, .undef, .undef, .undef, .undef, .undef, .undef, .undef, .undef, .undef], [[]]⟩)
    (fun N i => N = v.length - i ∧ i ≤ v.length) (n := v.length) (x := 0) ?_ ⟨rfl, Nat.zero_le _⟩ ?_
  · simp only [List.take_zero, cntS]
    exact Norm.re [0] (by decide) rfl (by first | (simp only [eq_self, heapFits, rowFits, obFits, List.getElem?_cons_zero, List.getElem?_cons_succ, renL_o, renL_b, true_and, and_true, and_self]; done) | simp [-List.map_append, heapFits, rowFits, obFits, T.ren, renL]) (by simp [tmFits, T.ren])
  rintro N i ⟨hn, hi⟩
  have fy := Nat.add_zero
  refine goS ?_
  refine SW.cond rfl (fun hc => ?_) (fun hc => ?_)
  · have hlt : i < v.length := by simp at hc; omega
    have hg : (v.map Enc.b)[i]? = some (.nd [.bool v[i].1, .nd [.int .i64 v[i].2.1.1, .sl .b (v[i].2.1.2.1.map Enc.b), .sl .b (v[i].2.1.2.2.1.map Enc.b)]]) := map_get Enc.b v i hlt
    have h1 := cntS_succ v i hlt
    have h2 := cntS_le (v.take i)
    rw [List.length_take] at h2
    have hF := flag_ok v[i].1
    have hfl : flagI v[i].1 = ((if v[i].1 = true then 1 else 0 : Nat) : Int) := by unfold flagI; split <;> rfl
    rw [hfl] at hF
    generalize v[i] = s at *
    generalize cntS (List.take i v) = m at *
    generalize (if s.1 = true then 1 else 0 : Nat) = fl at *
    have hwi : IntKind.i64.wrap ((i : Int) + 1) = ((i + 1 : Nat) : Int) := by rw [wrap64 _ (by omega) (by omega)]; omega
    have h3 := cntS_le (v.take (i + 1))
    rw [List.length_take] at h3
    have hwm : IntKind.i64.wrap ((m : Int) + (fl : Int)) = ((m + fl : Nat) : Int) := by rw [wrap64 _ (by omega) (by omega)]; omega
    have hC1 := cx [] (hF)
    have fy := And.intro hg (And.intro hwi (hwm))
    have hD1 := dx 14 [3, 2] [(3, 0)]
    refine goN ?_ ?_ ?_ ?_ ?_ ?_ ?_ ?_ ?_ ?_ ?_ ?_ ?_ ?_ ?_ ?_
    any_goals (first | exact True.intro | skip)
    skip
    refine ⟨N - 1, i + 1, by omega, ⟨by omega, by omega⟩, ?_⟩
    rw [h1]
    exact Norm.re [0] (by decide) rfl (by first | (simp only [eq_self, heapFits, rowFits, obFits, List.getElem?_cons_zero, List.getElem?_cons_succ, renL_o, renL_b, true_and, and_true, and_self]; done) | simp [-List.map_append, heapFits, rowFits, obFits, T.ren, renL]) (by simp [tmFits, T.ren])
  · have hge : i = v.length := by
      have : ¬ i < v.length := by simp at hc; omega
      omega
    subst hge
    rw [List.take_length]
    have hcl := cntS_le v
    have hP := putInt_ok [] (cntS v : Nat) (by simp)
    rw [List.nil_append] at hP
    have hpl := putI_len (cntS v : Nat)
    unfold dumpL
    generalize cntS v = C at *
    have hC1 := cx [.own 1] (hP)
    have fy := Nat.add_zero
    have hD1 := dx 14 [3, 2] [(3, 0)]
    refine goN ?_ ?_ ?_ ?_ ?_ ?_ ?_ ?_ ?_ ?_ ?_ ?_ ?_ ?_ ?_ ?_
    any_goals (first | exact True.intro | skip)
    skip
    refine SW.loop (fun x : Nat × List UInt8 => ⟨[.undef, .undef, .undef, .undef, .undef, .undef, .ref 1 0 0 x.2.length, .undef, .undef, .undef, .undef, .undef, .undef, .undef, .undef, .undef, .undef, .undef, .undef, .undef, .undef, .undef, .undef, .undef, .undef, .undef, .sl .b (v.map Enc.b), .int .i64 (v.length : Nat), .int .i64 (x.1 : Nat), .undef, .undef, .undef, .undef, .undef, .undef, .undef, .undef, .undef, .undef, .undef, .undef, .undef, .undef, .undef, .undef, .undef], [[], [.arr 1 (x.2.map Enc.o) false]]⟩)
      (fun N x => N = v.length - x.1 ∧ x.1 ≤ v.length ∧ x.2 = putI (C : Nat) ++ dmpF (v.take x.1) 0) (n := v.length) (x := (0, putI (C : Nat))) ?_ ⟨rfl, Nat.zero_le _, by simp [dmpF]⟩ ?_
    · exact Norm.re [0, 1] (by decide) rfl (by first | (simp only [eq_self, heapFits, rowFits, obFits, List.getElem?_cons_zero, List.getElem?_cons_succ, renL_o, renL_b, true_and, and_true, and_self]; done) | simp [-List.map_append, heapFits, rowFits, obFits, T.ren, renL]) (by simp [tmFits, T.ren])
    rintro N ⟨i, acc⟩ ⟨hn, hi, hac⟩
    simp only at hn hi hac ⊢
    have hal : acc.length ≤ 3000 := by
      have := dmpF_len (v.take i) 0 (fun s hs => hall s (List.mem_of_mem_take hs))
      rw [List.length_take] at this
      rw [hac, List.length_append]; omega
    have fy := Nat.add_zero
    refine goS ?_
    refine SW.cond rfl (fun hc => ?_) (fun hc => ?_)
    · have hlt : i < v.length := by simp at hc; omega
      have hg : (v.map Enc.b)[i]? = some (.nd [.bool v[i].1, .nd [.int .i64 v[i].2.1.1, .sl .b (v[i].2.1.2.1.map Enc.b), .sl .b (v[i].2.1.2.2.1.map Enc.b)]]) := map_get Enc.b v i hlt
      have h1 := dmpF_succ v i hlt
      have hsb := hall v[i] (List.getElem_mem hlt)
      have hsl := hl.2 v[i] (List.getElem_mem hlt)
      have hpl2 := putI_len i
      have hP1 := putInt_ok acc i (by omega)
      have hS1 := iPutSlot_ok (acc ++ putI i) v[i] hsl hsb (by simp only [List.length_append]; omega)
      have hwi : IntKind.i64.wrap ((i : Int) + 1) = ((i + 1 : Nat) : Int) := by rw [wrap64 _ (by omega) (by omega)]; omega
      generalize v[i] = s at *
      obtain ⟨has, o, ⟨⟩⟩ := s
      simp only at h1 hg hsb hsl hP1 hS1
      cases has
      · simp only [Bool.false_eq_true, if_false, if_true, List.append_nil] at h1
        have fy := And.intro hg (hwi)
        have hD1 := dx 14 [3, 2] [(3, 0)]
        refine goR ?_ ?_ ?_ ?_ ?_ ?_ ?_ ?_ ?_ ?_ ?_ ?_ ?_ ?_ ?_ ?_
        any_goals (first | exact True.intro | skip)
        all_goals (repeat (refine Wh.mk fun hcc => ?_))
        refine ⟨N - 1, (i + 1, acc), by omega, ⟨by simp only; omega, by simp only; omega, by simp only; rw [h1, ← hac]⟩, ?_⟩
        exact Norm.re [0, 1] (by decide) rfl (by first | (simp only [eq_self, heapFits, rowFits, obFits, List.getElem?_cons_zero, List.getElem?_cons_succ, renL_o, renL_b, true_and, and_true, and_self]; done) | simp [-List.map_append, heapFits, rowFits, obFits, T.ren, renL]) (by simp [tmFits, T.ren])
      · simp only [Bool.false_eq_true, if_false, if_true, List.append_nil] at h1
        generalize hZ2 : acc ++ putI i = Z2 at *
        generalize hZ : Z2 ++ putSl (true, o, ()) = Z at *
        have hC1 := cx [.own 1] (hP1)
        have hC2 := cx [.own 1] (hS1)
        have fy := And.intro hg (hwi)
        have hD1 := dx 14 [3, 2] [(3, 0)]
        refine goR ?_ ?_ ?_ ?_ ?_ ?_ ?_ ?_ ?_ ?_ ?_ ?_ ?_ ?_ ?_ ?_
        any_goals (first | exact True.intro | skip)
        all_goals (repeat (refine Wh.mk fun hcc => ?_))
        refine ⟨N - 1, (i + 1, Z), by omega, ⟨by simp only; omega, by simp only; omega, by simp only; rw [h1, ← List.append_assoc, ← hac, ← hZ, ← hZ2, List.append_assoc]⟩, ?_⟩
        exact Norm.re [0, 4] (by decide) rfl (by first | (simp only [eq_self, heapFits, rowFits, obFits, List.getElem?_cons_zero, List.getElem?_cons_succ, renL_o, renL_b, true_and, and_true, and_self]; done) | simp [-List.map_append, heapFits, rowFits, obFits, T.ren, renL]) (by simp [tmFits, T.ren])
    · have hge : i = v.length := by
        have : ¬ i < v.length := by simp at hc; omega
        omega
      subst hge
      rw [List.take_length] at hac
      rw [← hac]
      have hF := iFrame_ok acc (by omega)
      have hfl := frameL_len acc
      generalize frameL acc = FF at *
      have hm3 : 3 ≤ mark3.length := by decide
      have h03 : 0 < 3 := by decide
      have hap := fun (own_ e_ j_ e2_ j2_ : Nat) (H_ : Heap) (q1 : H_.at e_ j_ = some (.arr 1 ((mark3).map Enc.o) false)) (q2 : H_.at e2_ j2_ = some (.arr 1 ((FF).map Enc.o) false)) => append_runR (Y := Y) (own := own_) (t := 24) (u := 24) (e := e_) (j := j_) (off := 0) (n := 3) (e2 := e2_) (j2 := j2_) (l := mark3) (m := FF) (H := H_) Y24 Y24 Y5 rfl (by decide) q1 q2 (by rw [List.drop_zero]; exact List.take_of_length_le (by first | (simp; done) | (rw [List.length_map]; decide))) (by first | (simp; done) | (rw [List.length_map]; decide)) (by omega) rfl rfl
      have hC1 := cx [] (hF)
      have fy := And.intro mark_bs (And.intro mark_u8 (And.intro hm3 (And.intro h03 (hap))))
      have hD1 := dx 14 [3, 2] [(3, 0)]
      refine goN ?_ ?_ ?_ ?_ ?_ ?_ ?_ ?_ ?_ ?_ ?_ ?_ ?_ ?_ ?_ ?_
      any_goals (first | exact True.intro | skip)
      skip
      rw [show 3 + FF.length = (mark3 ++ FF).length by rw [List.length_append]; rfl]
      generalize mark3 ++ FF = Z
      exact SW.ret (show RetQ _ _ _ _ _ _ _ from RetQ.y [1] [.ow 1 (Z.map Enc.o)])
end Q6

namespace Q6
open Go Go.Vm Go.Proofs
set_option maxHeartbeats 4000000
set_option synthInstance.maxSize 2000
set_option synthInstance.maxHeartbeats 400000
set_option maxRecDepth 10000
set_option linter.unusedSimpArgs false
set_option linter.unusedVariables false

open Go.By
theorem sDump_n (v : List SlotT) (hl : Enc.lim 1048576 v) (hv : viewB v = false) : CallR Try.prog 12 [.sl .b (v.map Enc.b)] [] (.ow 1 []) := by
  refine CallR.of_body (n := 48) (rs := [.tmp 2]) hY.ok Try.func12 rfl (by decide) rfl rfl rfl rfl (fun F => ?_)
  have fx := And.intro Y1 (And.intro Y2 (And.intro Y3 (And.intro Y4 (And.intro Y5 (And.intro Y24 (And.intro Y26 (And.intro Y34 (And.intro Y36 (Y38)))))))))
  have hO := specViewOk_ok v hl
  rw [hv] at hO
  have hC1 := cx [] (hO)
  have fy := bs0_24
  refine goR ?_ ?_ ?_ ?_ ?_ ?_ ?_ ?_ ?_ ?_ ?_ ?_ ?_ ?_ ?_ ?_
  any_goals (first | exact True.intro | skip)
  all_goals (repeat (refine Wh.mk fun hcc => ?_))
  all_goals exact SW.ret (show RetQ _ _ _ _ _ _ _ from RetQ.y [1] [.ow 1 []])
theorem sDump_y (v : List SlotT) (hl : Enc.lim 1048576 v) (hv : viewB v = true) : CallR Try.prog 12 [.sl .b (v.map Enc.b)] [] (.ow 1 ((dumpL v).map Enc.o)) := by
  refine CallR.of_body (n := 48) (rs := [.tmp 2]) hY.ok Try.func12 rfl (by decide) rfl rfl rfl rfl (fun F => ?_)
  have fx := And.intro Y1 (And.intro Y2 (And.intro Y3 (And.intro Y4 (And.intro Y5 (And.intro Y24 (And.intro Y26 (And.intro Y34 (And.intro Y36 (Y38)))))))))
  have hO := specViewOk_ok v hl
  rw [hv] at hO
  obtain ⟨h32, hall⟩ := viewB_all hv
  have hC1 := cx [] (hO)
  have fy := Nat.add_zero
  refine goN ?_ ?_ ?_ ?_ ?_ ?_ ?_ ?_ ?_ ?_ ?_ ?_ ?_ ?_ ?_ ?_
  any_goals (first | exact True.intro | skip)
  skip
  refine SW.cond rfl (fun hcc => absurd hcc (by decide)) (fun hcc => ?_)
  have hC1 := cx [] (hO)
  have fy := bs0_24
  refine goN ?_ ?_ ?_ ?_ ?_ ?_ ?_ ?_ ?_ ?_ ?_ ?_ ?_ ?_ ?_ ?_
  any_goals (first | exact True.intro | skip)
  skip
  refine SW.loop (fun x : Nat × List UInt8 => ⟨[.sl .b (v.map Enc.b), .undef, .undef, .int .i64 (cntS (v.take x.1) : Nat), .ref 1 0 0 x.2.length, .int .i64 (x.1 : Nat), .undef, .undef, .undef, .undef, .undef, .undef, .undef, .undef, .undef, .undef, .undef, .undef, .undef, .undef, .undef, .undef, .undef, .undef, .undef, .undef, .undef, .undef, .undef, .undef, .undef, .undef, .undef, .undef, .undef, .undef, .undef, .undef, .undef, .undef, .undef, .undef, .undef, .undef, .undef, .undef, .undef, .undef], [[], [.arr 1 (x.2.map Enc.o) false]]⟩)
    (fun N x => N = v.length - x.1 ∧ x.1 ≤ v.length ∧ x.2 = dmpF (v.take x.1) 0) (n := v.length) (x := (0, [])) ?_ ⟨rfl, Nat.zero_le _, rfl⟩ ?_
  · simp only [List.take_zero, cntS]
    exact Norm.re [0, 2] (by decide) rfl (by first | (simp only [eq_self, heapFits, rowFits, obFits, List.getElem?_cons_zero, List.getElem?_cons_succ, renL_o, renL_b, true_and, and_true, and_self]; done) | simp [-List.map_append, heapFits, rowFits, obFits, T.ren, renL]) (by simp [tmFits, T.ren])
  rintro N ⟨i, acc⟩ ⟨hn, hi, hac⟩
  simp only at hn hi hac ⊢
  have hal : acc.length ≤ 3000 := by
    have := dmpF_len (v.take i) 0 (fun s hs => hall s (List.mem_of_mem_take hs))
    rw [List.length_take] at this
    rw [hac]; omega
  have fy := Nat.add_zero
  refine goS ?_
  refine SW.cond rfl (fun hc => ?_) (fun hc => ?_)
  · have hlt : i < v.length := by simp at hc; omega
    have hg : (v.map Enc.b)[i]? = some (.nd [.bool v[i].1, .nd [.int .i64 v[i].2.1.1, .sl .b (v[i].2.1.2.1.map Enc.b), .sl .b (v[i].2.1.2.2.1.map Enc.b)]]) := map_get Enc.b v i hlt
    have h1 := dmpF_succ v i hlt
    have c1 := cntS_succ v i hlt
    have c2 := cntS_le (v.take i)
    rw [List.length_take] at c2
    have hsb := hall v[i] (List.getElem_mem hlt)
    have hsl := hl.2 v[i] (List.getElem_mem hlt)
    have hpl2 := putI_len i
    have hP1 := PutInt_ok acc i (by omega)
    have hwi : IntKind.i64.wrap ((i : Int) + 1) = ((i + 1 : Nat) : Int) := by rw [wrap64 _ (by omega) (by omega)]; omega
    generalize cntS (List.take i v) = m at *
    have hwm : IntKind.i64.wrap ((m : Int) + 1) = ((m + 1 : Nat) : Int) := by rw [wrap64 _ (by omega) (by omega)]; omega
    generalize v[i] = s at *
    obtain ⟨has, o, ⟨⟩⟩ := s
    simp only at h1 c1 hg hsb hsl
    cases has
    · simp only [Bool.false_eq_true, if_false, if_true, List.append_nil, Nat.add_zero] at h1 c1
      have fy := And.intro hg (And.intro hwi (hwm))
      refine goR ?_ ?_ ?_ ?_ ?_ ?_ ?_ ?_ ?_ ?_ ?_ ?_ ?_ ?_ ?_ ?_
      any_goals (first | exact True.intro | skip)
      all_goals (repeat (refine Wh.mk fun hcc => ?_))
      refine ⟨N - 1, (i + 1, acc), by omega, ⟨by simp only; omega, by simp only; omega, by simp only; rw [h1, ← hac]⟩, ?_⟩
      simp only
      rw [c1]
      exact Norm.re [0, 1] (by decide) rfl (by first | (simp only [eq_self, heapFits, rowFits, obFits, List.getElem?_cons_zero, List.getElem?_cons_succ, renL_o, renL_b, true_and, and_true, and_self]; done) | simp [-List.map_append, heapFits, rowFits, obFits, T.ren, renL]) (by simp [tmFits, T.ren])
    · simp only [Bool.false_eq_true, if_false, if_true, List.append_nil, Nat.add_zero] at h1 c1
      have hob : objB o = true := hsb
      have hO := sPutObj_y o hsl.2.1 hob
      have hol := putObj_len hob
      have hps : putSl (true, o, ()) = putI (putObj o).length ++ putObj o := rfl
      rw [hps] at h1
      generalize putObj o = p at *
      have hpl3 := putI_len p.length
      have hP2 := PutInt_ok (acc ++ putI i) p.length (by simp only [List.length_append]; omega)
      have hl3 : (acc ++ putI i ++ putI p.length).length ≤ 3012 := by simp only [List.length_append]; omega
      generalize hZ2 : acc ++ putI i = Z2 at *
      generalize hZ3 : Z2 ++ putI p.length = Z3 at *
      have hap := fun (own_ e_ j_ e2_ j2_ : Nat) (H_ : Heap) (q1 : H_.at e_ j_ = some (.arr 1 ((Z3).map Enc.o) false)) (q2 : H_.at e2_ j2_ = some (.arr 1 ((p).map Enc.o) false)) => append_runR (Y := Y) (own := own_) (t := 24) (u := 24) (e := e_) (j := j_) (off := 0) (n := (Z3).length) (e2 := e2_) (j2 := j2_) (l := Z3) (m := p) (H := H_) Y24 Y24 Y5 rfl (by decide) q1 q2 (by rw [List.drop_zero]; exact List.take_of_length_le (by first | (simp; done) | (rw [List.length_map]; decide))) (by first | (simp; done) | (rw [List.length_map]; decide)) (by omega) rfl rfl
      have hC1 := cx [] (hO)
      have hC2 := cx [] (hP1)
      have hC3 := cx [] (hP2)
      have fy := And.intro hg (And.intro hwi (And.intro hwm (hap)))
      refine goR ?_ ?_ ?_ ?_ ?_ ?_ ?_ ?_ ?_ ?_ ?_ ?_ ?_ ?_ ?_ ?_
      any_goals (first | exact True.intro | skip)
      all_goals (repeat (refine Wh.mk fun hcc => ?_))
      rw [show Z3.length + p.length = (Z3 ++ p).length by simp]
      refine ⟨N - 1, (i + 1, Z3 ++ p), by omega, ⟨by simp only; omega, by simp only; omega, by simp only; rw [h1, ← List.append_assoc, ← List.append_assoc, ← hac, hZ2, hZ3]⟩, ?_⟩
      simp only
      rw [c1]
      generalize Z3 ++ p = Z at *
      exact Norm.re [0, 5] (by decide) rfl (by first | (simp only [eq_self, heapFits, rowFits, obFits, List.getElem?_cons_zero, List.getElem?_cons_succ, renL_o, renL_b, true_and, and_true, and_self]; done) | simp [-List.map_append, heapFits, rowFits, obFits, T.ren, renL]) (by simp [tmFits, T.ren])
  · have hge : i = v.length := by
      have : ¬ i < v.length := by simp at hc; omega
      omega
    subst hge
    rw [List.take_length] at hac
    rw [List.take_length]
    have hcl := cntS_le v
    unfold dumpL
    rw [← hac]
    have hP := PutInt_ok [] (cntS v : Nat) (by simp)
    rw [List.nil_append] at hP
    have hpl := putI_len (cntS v : Nat)
    generalize cntS v = C at *
    generalize putI (C : Nat) = PP at *
    have hF := sFrame_ok (PP ++ acc) (by simp only [List.length_append]; omega)
    have hfl := frameL_len (PP ++ acc)
    rw [List.length_append] at hfl
    have hap1 := fun (own_ e_ j_ e2_ j2_ : Nat) (H_ : Heap) (q1 : H_.at e_ j_ = some (.arr 1 ((PP).map Enc.o) false)) (q2 : H_.at e2_ j2_ = some (.arr 1 ((acc).map Enc.o) false)) => append_runR (Y := Y) (own := own_) (t := 24) (u := 24) (e := e_) (j := j_) (off := 0) (n := (PP).length) (e2 := e2_) (j2 := j2_) (l := PP) (m := acc) (H := H_) Y24 Y24 Y5 rfl (by decide) q1 q2 (by rw [List.drop_zero]; exact List.take_of_length_le (by first | (simp; done) | (rw [List.length_map]; decide))) (by first | (simp; done) | (rw [List.length_map]; decide)) (by omega) rfl rfl
    rw [show PP.length + acc.length = (PP ++ acc).length by simp] at hap1
    generalize PP ++ acc = QQ at *
    generalize frameL QQ = FF at *
    have hm3 : 3 ≤ mark3.length := by decide
    have h03 : 0 < 3 := by decide
    have hap := fun (own_ e_ j_ e2_ j2_ : Nat) (H_ : Heap) (q1 : H_.at e_ j_ = some (.arr 1 ((mark3).map Enc.o) false)) (q2 : H_.at e2_ j2_ = some (.arr 1 ((FF).map Enc.o) false)) => append_runR (Y := Y) (own := own_) (t := 24) (u := 24) (e := e_) (j := j_) (off := 0) (n := 3) (e2 := e2_) (j2 := j2_) (l := mark3) (m := FF) (H := H_) Y24 Y24 Y5 rfl (by decide) q1 q2 (by rw [List.drop_zero]; exact List.take_of_length_le (by first | (simp; done) | (rw [List.length_map]; decide))) (by first | (simp; done) | (rw [List.length_map]; decide)) (by omega) rfl rfl
    have hC1 := cx [] (hP)
    have hC2 := cx [] (hF)
    have fy := And.intro bs0_24 (And.intro mark_bs (And.intro mark_u8 (And.intro hm3 (And.intro h03 (And.intro hap1 (hap))))))
    refine goN ?_ ?_ ?_ ?_ ?_ ?_ ?_ ?_ ?_ ?_ ?_ ?_ ?_ ?_ ?_ ?_
    any_goals (first | exact True.intro | skip)
    skip
    rw [show 3 + FF.length = (mark3 ++ FF).length by rw [List.length_append]; rfl]
    generalize mark3 ++ FF = Z
    exact SW.ret (show RetQ _ _ _ _ _ _ _ from RetQ.y [1] [.ow 1 (Z.map Enc.o)])
end Q6

namespace Q6
open Go Go.Vm Go.Proofs
set_option maxHeartbeats 4000000
set_option synthInstance.maxSize 2000
set_option synthInstance.maxHeartbeats 400000
set_option maxRecDepth 10000
set_option linter.unusedSimpArgs false
set_option linter.unusedVariables false

theorem laws_toIntS_ok (l : List Int) (hl : Enc.lim 1048576 l) : CallR Try.prog 163 [.sl .b (l.map Enc.b)] [] (.ow 1 (l.map Enc.o)) := by
  refine CallR.of_body (n := 22) (rs := [.tmp 2]) hY.ok Try.func163 rfl (by decide) rfl rfl rfl rfl (fun F => ?_)
  have fx := And.intro Y3 (And.intro Y4 (Y34))
  have hl1 : l.length ≤ 1048576 := hl.1
  have fy := (fun u1 => mk_fill u1 34 l hl.1 (.int .i64 0) 1 8 _ Y34 Y3 rfl rfl (by decide))
  refine goN ?_ ?_ ?_ ?_ ?_ ?_ ?_ ?_ ?_ ?_ ?_ ?_ ?_ ?_ ?_ ?_
  any_goals (first | exact True.intro | skip)
  skip
  refine SW.loop (fun i : Nat => ⟨[.sl .b (l.map Enc.b), .undef, .undef, .ref 1 0 0 l.length, .int .i64 i, .undef, .undef, .undef, .undef, .undef, .undef, .undef, .undef, .undef, .undef, .undef, .undef, .undef, .undef, .undef, .undef, .undef], [[], [.arr 1 (fillG (.int .i64 0) l i) false]]⟩)
    (fun n i => n = l.length - i ∧ i ≤ l.length) (n := l.length) (x := 0) (Norm.to 0 rfl (by simp [weakL])) ⟨rfl, Nat.zero_le _⟩ ?_
  rintro n i ⟨hn, hi⟩
  have fy := Nat.add_zero
  refine goS ?_
  refine SW.cond rfl (fun hc => ?_) (fun hc => ?_)
  · have hlt : i < l.length := by simpa using hc
    have hltI : (i : Int) < (l.length : Int) := by omega
    have hg : (l.map Enc.b)[i]? = some (.int .i64 l[i]) := map_get Enc.b l i hlt
    have hf : (fillG (.int .i64 0) l i)[i]? = some (.int .i64 0) := fill_get _ l i hlt
    have hfl : (fillG (.int .i64 0) l i).length = l.length := fill_len _ l i hi
    have fy := And.intro hg (And.intro hf (And.intro hfl (And.intro hltI (Nat.zero_add))))
    refine goR ?_ ?_ ?_ ?_ ?_ ?_ ?_ ?_ ?_ ?_ ?_ ?_ ?_ ?_ ?_ ?_
    any_goals (first | exact True.intro | skip)
    all_goals (repeat (refine Wh.mk fun hcc => ?_))
    refine ⟨n - 1, i + 1, by omega, ⟨by omega, by omega⟩, ?_⟩
    rw [wrap64 _ (by omega) (by omega)]
    refine Norm.trans (Norm.fill (l := l) 1 0 rfl hlt (by first | rfl | (simp [soakS, soakL, Heap.at, Heap.put]; rfl))) ?_
    refine Norm.re [0, 1] (by decide) rfl ?_ (by simp [tmFits, T.ren])
    first | (simp [heapFits, rowFits, obFits, soakS, soakL, Heap.at, Heap.put]; exact renL_fill _ _ _ _ rfl) | exact ⟨trivial, ⟨rfl, rfl, renL_fill _ _ _ _ rfl⟩, trivial⟩
  · have hge : i = l.length := by
      have : ¬ i < l.length := by simpa using hc
      omega
    subst hge
    have fy := Nat.add_zero
    refine goR ?_ ?_ ?_ ?_ ?_ ?_ ?_ ?_ ?_ ?_ ?_ ?_ ?_ ?_ ?_ ?_
    any_goals (first | exact True.intro | skip)
    all_goals (repeat (refine Wh.mk fun hcc => ?_))
    refine SW.ret (show RetQ _ _ _ _ _ _ _ from ⟨.inr rfl, [.ref 1 0 0 l.length], [1], [.ow 1 (l.map Enc.o)], [[], [.gone]], ⟨rfl, ?_, rfl, ?_, rfl, rfl⟩⟩)
    · simp [pass1, modeOf, giveS, Heap.at, Heap.put, fill_all, fixEs, ioAt, ioAtT, ioKs, ioKT, ioM, ioT, T.cel, T.clo, T.cloA, cloAL]
    · simp [cloL, T.clo, T.clP, clPL]
theorem laws_toByteS_ok (l : List UInt8) (hl : Enc.lim 1048576 l) : CallR Try.prog 38 [.sl .b (l.map Enc.b)] [] (.ow 1 (l.map Enc.o)) := by
  refine CallR.of_body (n := 22) (rs := [.tmp 2]) hY.ok Try.func38 rfl (by decide) rfl rfl rfl rfl (fun F => ?_)
  have fx := And.intro Y3 (And.intro Y4 (And.intro Y5 (Y24)))
  have hl1 : l.length ≤ 1048576 := hl.1
  have fy := (fun u1 => mk_fill u1 24 l hl.1 (.int .u8 0) 1 1 _ Y24 Y5 rfl rfl (by decide))
  refine goN ?_ ?_ ?_ ?_ ?_ ?_ ?_ ?_ ?_ ?_ ?_ ?_ ?_ ?_ ?_ ?_
  any_goals (first | exact True.intro | skip)
  skip
  refine SW.loop (fun i : Nat => ⟨[.sl .b (l.map Enc.b), .undef, .undef, .ref 1 0 0 l.length, .int .i64 i, .undef, .undef, .undef, .undef, .undef, .undef, .undef, .undef, .undef, .undef, .undef, .undef, .undef, .undef, .undef, .undef, .undef], [[], [.arr 1 (fillG (.int .u8 0) l i) false]]⟩)
    (fun n i => n = l.length - i ∧ i ≤ l.length) (n := l.length) (x := 0) (Norm.to 0 rfl (by simp [weakL])) ⟨rfl, Nat.zero_le _⟩ ?_
  rintro n i ⟨hn, hi⟩
  have fy := Nat.add_zero
  refine goS ?_
  refine SW.cond rfl (fun hc => ?_) (fun hc => ?_)
  · have hlt : i < l.length := by simpa using hc
    have hltI : (i : Int) < (l.length : Int) := by omega
    have hg : (l.map Enc.b)[i]? = some (.int .u8 (l[i].toNat : Int)) := map_get Enc.b l i hlt
    have hf : (fillG (.int .u8 0) l i)[i]? = some (.int .u8 0) := fill_get _ l i hlt
    have hfl : (fillG (.int .u8 0) l i).length = l.length := fill_len _ l i hi
    have fy := And.intro hg (And.intro hf (And.intro hfl (And.intro hltI (Nat.zero_add))))
    refine goR ?_ ?_ ?_ ?_ ?_ ?_ ?_ ?_ ?_ ?_ ?_ ?_ ?_ ?_ ?_ ?_
    any_goals (first | exact True.intro | skip)
    all_goals (repeat (refine Wh.mk fun hcc => ?_))
    refine ⟨n - 1, i + 1, by omega, ⟨by omega, by omega⟩, ?_⟩
    rw [wrap64 _ (by omega) (by omega)]
    refine Norm.trans (Norm.fill (l := l) 1 0 rfl hlt (by first | rfl | (simp [soakS, soakL, Heap.at, Heap.put]; rfl))) ?_
    refine Norm.re [0, 1] (by decide) rfl ?_ (by simp [tmFits, T.ren])
    first | (simp [heapFits, rowFits, obFits, soakS, soakL, Heap.at, Heap.put]; exact renL_fill _ _ _ _ rfl) | exact ⟨trivial, ⟨rfl, rfl, renL_fill _ _ _ _ rfl⟩, trivial⟩
  · have hge : i = l.length := by
      have : ¬ i < l.length := by simpa using hc
      omega
    subst hge
    have fy := Nat.add_zero
    refine goR ?_ ?_ ?_ ?_ ?_ ?_ ?_ ?_ ?_ ?_ ?_ ?_ ?_ ?_ ?_ ?_
    any_goals (first | exact True.intro | skip)
    all_goals (repeat (refine Wh.mk fun hcc => ?_))
    refine SW.ret (show RetQ _ _ _ _ _ _ _ from ⟨.inr rfl, [.ref 1 0 0 l.length], [1], [.ow 1 (l.map Enc.o)], [[], [.gone]], ⟨rfl, ?_, rfl, ?_, rfl, rfl⟩⟩)
    · simp [pass1, modeOf, giveS, Heap.at, Heap.put, fill_all, fixEs, ioAt, ioAtT, ioKs, ioKT, ioM, ioT, T.cel, T.clo, T.cloA, cloAL]
    · simp [cloL, T.clo, T.clP, clPL]
theorem laws_toObj_ok (x : (Int × (List Int) × (List Int) × Unit)) (hx : Enc.lim 1048576 x) : CallR Try.prog 131 [.nd [.int .i64 x.1, .sl .b (x.2.1.map Enc.b), .sl .b (x.2.2.1.map Enc.b)]] [] (.nd [.int .i64 x.1, .ow 1 (x.2.1.map Enc.o), .ow 1 (x.2.2.1.map Enc.o)]) := by
  refine CallR.of_body (n := 16) (rs := [.cell 2 36]) hY.ok Try.func131 rfl (by decide) rfl rfl rfl rfl (fun F => ?_)
  have fx := And.intro Y1 (And.intro Y2 (And.intro Y3 (And.intro Y34 (And.intro Y36 (Y77)))))
  have hC1 := cx [] (laws_toIntS_ok x.2.1 hx.2.1)
  have hC2 := cx [] (laws_toIntS_ok x.2.2.1 hx.2.2.1)
  have fy := Nat.add_zero
  refine goR ?_ ?_ ?_ ?_ ?_ ?_ ?_ ?_ ?_ ?_ ?_ ?_ ?_ ?_ ?_ ?_
  any_goals (first | exact True.intro | skip)
  all_goals (repeat (refine Wh.mk fun hcc => ?_))
  refine SW.ret (show RetQ _ _ _ _ _ _ _ from ⟨.inr rfl, _, [0], [.nd [.int .i64 x.1, .ow 1 (x.2.1.map Enc.o), .ow 1 (x.2.2.1.map Enc.o)]], ?_, ⟨rfl, ?_, rfl, ?_, rfl, rfl⟩⟩)
  rotate_left
  · first | rfl | (simp [pass1, modeOf, giveS, giveSL, Heap.at, Heap.put, fixEs, ioAt, ioAtT, ioKs, ioKT, ioM, ioT, T.cel, T.clo, cloL, T.cloA, cloAL]; rfl)
  · first | rfl | simp [cloL, T.clo, T.clP, clPL]
theorem laws_toSlot_ok (x : (Bool × ((Int × (List Int) × (List Int) × Unit)) × Unit)) (hx : Enc.lim 1048576 x) : CallR Try.prog 65 [.nd [.bool x.1, .nd [.int .i64 x.2.1.1, .sl .b (x.2.1.2.1.map Enc.b), .sl .b (x.2.1.2.2.1.map Enc.b)]]] [] (.nd [.bool x.1, .nd [.int .i64 x.2.1.1, .ow 1 (x.2.1.2.1.map Enc.o), .ow 1 (x.2.1.2.2.1.map Enc.o)]]) := by
  refine CallR.of_body (n := 12) (rs := [.cell 2 38]) hY.ok Try.func65 rfl (by decide) rfl rfl rfl rfl (fun F => ?_)
  have fx := And.intro Y1 (And.intro Y3 (And.intro Y4 (And.intro Y34 (And.intro Y36 (And.intro Y38 (And.intro Y77 (Y79)))))))
  have hC1 := cx [] (laws_toObj_ok x.2.1 hx.2.1)
  have fy := Nat.add_zero
  refine goR ?_ ?_ ?_ ?_ ?_ ?_ ?_ ?_ ?_ ?_ ?_ ?_ ?_ ?_ ?_ ?_
  any_goals (first | exact True.intro | skip)
  all_goals (repeat (refine Wh.mk fun hcc => ?_))
  refine SW.ret (show RetQ _ _ _ _ _ _ _ from ⟨.inr rfl, _, [0], [.nd [.bool x.1, .nd [.int .i64 x.2.1.1, .ow 1 (x.2.1.2.1.map Enc.o), .ow 1 (x.2.1.2.2.1.map Enc.o)]]], ?_, ⟨rfl, ?_, rfl, ?_, rfl, rfl⟩⟩)
  rotate_left
  · first | rfl | (simp [pass1, modeOf, giveS, giveSL, Heap.at, Heap.put, fixEs, ioAt, ioAtT, ioKs, ioKT, ioM, ioT, T.cel, T.clo, cloL, T.cloA, cloAL]; rfl)
  · first | rfl | simp [cloL, T.clo, T.clP, clPL]
theorem laws_toSlotS_ok (l : List ((Bool × ((Int × (List Int) × (List Int) × Unit)) × Unit))) (hl : Enc.lim 1048576 l) : CallR Try.prog 13 [.sl .b (l.map Enc.b)] [] (.ow 4 (l.map Enc.o)) := by
  refine CallR.of_body (n := 23) (rs := [.tmp 2]) hY.ok Try.func13 rfl (by decide) rfl rfl rfl rfl (fun F => ?_)
  have fx := And.intro Y3 (And.intro Y4 (And.intro Y22 (And.intro Y26 (And.intro Y34 (And.intro Y36 (And.intro Y38 (And.intro Y77 (Y79))))))))
  have hl1 : l.length ≤ 1048576 := hl.1
  have fy := (fun u1 => mk_fill u1 26 l hl.1 (.nd [.bool false, .nd [.int .i64 0, .nils 1, .nils 1]]) 4 64 _ Y26 Y38 rfl rfl (by decide))
  refine goN ?_ ?_ ?_ ?_ ?_ ?_ ?_ ?_ ?_ ?_ ?_ ?_ ?_ ?_ ?_ ?_
  any_goals (first | exact True.intro | skip)
  skip
  refine SW.loop (fun i : Nat => ⟨[.sl .b (l.map Enc.b), .undef, .undef, .ref 1 0 0 l.length, .int .i64 i, .undef, .undef, .undef, .undef, .undef, .undef, .undef, .undef, .undef, .undef, .undef, .undef, .undef, .undef, .undef, .undef, .undef, .undef], [[], [.arr 4 (fillG (.nd [.bool false, .nd [.int .i64 0, .nils 1, .nils 1]]) l i) false]]⟩)
    (fun n i => n = l.length - i ∧ i ≤ l.length) (n := l.length) (x := 0) (Norm.to 0 rfl (by simp [weakL])) ⟨rfl, Nat.zero_le _⟩ ?_
  rintro n i ⟨hn, hi⟩
  have fy := Nat.add_zero
  refine goS ?_
  refine SW.cond rfl (fun hc => ?_) (fun hc => ?_)
  · have hlt : i < l.length := by simpa using hc
    have hltI : (i : Int) < (l.length : Int) := by omega
    have hg : (l.map Enc.b)[i]? = some (.nd [.bool l[i].1, .nd [.int .i64 l[i].2.1.1, .sl .b (l[i].2.1.2.1.map Enc.b), .sl .b (l[i].2.1.2.2.1.map Enc.b)]]) := map_get Enc.b l i hlt
    have hf : (fillG (.nd [.bool false, .nd [.int .i64 0, .nils 1, .nils 1]]) l i)[i]? = some (.nd [.bool false, .nd [.int .i64 0, .nils 1, .nils 1]]) := fill_get _ l i hlt
    have hfl : (fillG (.nd [.bool false, .nd [.int .i64 0, .nils 1, .nils 1]]) l i).length = l.length := fill_len _ l i hi
    have hC1 := cx [] (laws_toSlot_ok l[i] (hl.2 _ (List.getElem_mem hlt)))
    have fy := And.intro hg (And.intro hf (And.intro hfl (And.intro hltI (Nat.zero_add))))
    refine goR ?_ ?_ ?_ ?_ ?_ ?_ ?_ ?_ ?_ ?_ ?_ ?_ ?_ ?_ ?_ ?_
    any_goals (first | exact True.intro | skip)
    all_goals (repeat (refine Wh.mk fun hcc => ?_))
    refine ⟨n - 1, i + 1, by omega, ⟨by omega, by omega⟩, ?_⟩
    rw [wrap64 _ (by omega) (by omega)]
    refine Norm.trans (Norm.fill (l := l) 1 0 rfl hlt (by first | rfl | (simp [soakS, soakL, Heap.at, Heap.put]; rfl))) ?_
    refine Norm.re [0, 1] (by decide) rfl ?_ (by simp [tmFits, T.ren])
    first | (simp [heapFits, rowFits, obFits, soakS, soakL, Heap.at, Heap.put]; exact renL_fill _ _ _ _ rfl) | exact ⟨trivial, ⟨rfl, rfl, renL_fill _ _ _ _ rfl⟩, trivial⟩
  · have hge : i = l.length := by
      have : ¬ i < l.length := by simpa using hc
      omega
    subst hge
    have fy := Nat.add_zero
    refine goR ?_ ?_ ?_ ?_ ?_ ?_ ?_ ?_ ?_ ?_ ?_ ?_ ?_ ?_ ?_ ?_
    any_goals (first | exact True.intro | skip)
    all_goals (repeat (refine Wh.mk fun hcc => ?_))
    refine SW.ret (show RetQ _ _ _ _ _ _ _ from ⟨.inr rfl, [.ref 1 0 0 l.length], [4], [.ow 4 (l.map Enc.o)], [[], [.gone]], ⟨rfl, ?_, rfl, ?_, rfl, rfl⟩⟩)
    · simp [pass1, modeOf, giveS, Heap.at, Heap.put, fill_all, fixEs, ioAt, ioAtT, ioKs, ioKT, ioM, ioT, T.cel, T.clo, T.cloA, cloAL]
    · simp [cloL, T.clo, T.clP, clPL]
end Q6

namespace Q6
open Go Go.Vm Go.Proofs
set_option maxHeartbeats 4000000
set_option synthInstance.maxSize 2000
set_option synthInstance.maxHeartbeats 400000
set_option maxRecDepth 10000
set_option linter.unusedSimpArgs false
set_option linter.unusedVariables false

theorem laws_szIntS_ok (l : List Int) (b : Int) (hl : Enc.lim maxLen l) (h0 : 0 ≤ b) (h1 : b ≤ 1048576) : CallR Try.prog 162 [.sl .b (l.map Enc.b), .int .i64 b] [] (.int .i64 (Enc.sz l b)) := by
  refine CallR.of_body (n := 12) (rs := [.tmp 4]) hY.ok Try.func162 rfl (by decide) rfl rfl rfl rfl (fun F => ?_)
  have fx := And.intro Y3 (And.intro Y4 (Y34))
  have hm : l.length ≤ 9223372036854775807 := hl.1
  have hw : IntKind.i64.wrap (b - l.length) = b - l.length := wrap64 _ (by omega) (by omega)
  have fy := hw
  refine goN ?_ ?_ ?_ ?_ ?_ ?_ ?_ ?_ ?_ ?_ ?_ ?_ ?_ ?_ ?_ ?_
  any_goals (first | exact True.intro | skip)
  skip
  refine SW.cond rfl (fun hc => ?_) (fun hc => ?_)
  · have hc' : b - (l.length : Int) < 0 := by simpa using hc
    have fy := hw
    refine goK ?_ ?_ ?_ ?_ ?_ ?_ ?_ ?_ ?_ ?_ ?_ ?_ ?_ ?_ ?_ ?_
    any_goals (first | exact True.intro | skip)
    all_goals (repeat (refine Wh.mk fun hcc => ?_))
    all_goals (simp only [tupOf, fixEs, sz_list, if_pos hc'])
  have hn : ¬ b - (l.length : Int) < 0 := by simpa using hc
  have fy := hw
  refine goK ?_ ?_ ?_ ?_ ?_ ?_ ?_ ?_ ?_ ?_ ?_ ?_ ?_ ?_ ?_ ?_
  any_goals (first | exact True.intro | skip)
  all_goals (repeat (refine Wh.mk fun hcc => ?_))
  all_goals (simp only [tupOf, fixEs, sz_list, if_neg hn]; rfl)
theorem laws_szObj_ok (x : (Int × (List Int) × (List Int) × Unit)) (b : Int) (hx : Enc.lim maxLen x) (h0 : 0 ≤ b) (h1 : b ≤ 1048576) : CallR Try.prog 126 [.nd [.int .i64 x.1, .sl .b (x.2.1.map Enc.b), .sl .b (x.2.2.1.map Enc.b)], .int .i64 b] [] (.int .i64 (Enc.sz x b)) := by
  refine CallR.of_body (n := 18) (rs := [.tmp 4]) hY.ok Try.func126 rfl (by decide) rfl rfl rfl rfl (fun F => ?_)
  have fx := And.intro Y1 (And.intro Y2 (And.intro Y3 (And.intro Y4 (And.intro Y34 (Y77)))))
  have hC1 := cx [] (laws_szIntS_ok x.2.1 b hx.2.1 h0 h1)
  have fy := Nat.add_zero
  refine goN ?_ ?_ ?_ ?_ ?_ ?_ ?_ ?_ ?_ ?_ ?_ ?_ ?_ ?_ ?_ ?_
  any_goals (first | exact True.intro | skip)
  skip
  refine SW.cond rfl (fun hc0 => ?_) (fun hc0 => ?_)
  · have hc0' : Enc.sz x.2.1 b < 0 := by simpa using hc0
    have fy := Nat.add_zero
    refine goK ?_ ?_ ?_ ?_ ?_ ?_ ?_ ?_ ?_ ?_ ?_ ?_ ?_ ?_ ?_ ?_
    any_goals (first | exact True.intro | skip)
    all_goals (repeat (refine Wh.mk fun hcc => ?_))
    all_goals (have hv : Enc.sz x b = -1 := by show EncL.sz x b = -1; simp [szl_prod, szl_unit, flat_int, flat_bool, flat_list, flat_prod, flatl_prod, flatl_unit, hc0'])
    all_goals simp only [tupOf, fixEs, hv]
  have hn0 : ¬ Enc.sz x.2.1 b < 0 := by simpa using hc0
  have h0_1 : 0 ≤ Enc.sz x.2.1 b := by omega
  have h1_1 : Enc.sz x.2.1 b ≤ 1048576 := by have := Enc.szLe x.2.1 b h0; omega
  have hC1 := cx [] (laws_szIntS_ok x.2.2.1 (Enc.sz x.2.1 b) hx.2.2.1 h0_1 h1_1)
  have fy := Nat.add_zero
  refine goN ?_ ?_ ?_ ?_ ?_ ?_ ?_ ?_ ?_ ?_ ?_ ?_ ?_ ?_ ?_ ?_
  any_goals (first | exact True.intro | skip)
  skip
  refine SW.cond rfl (fun hc1 => ?_) (fun hc1 => ?_)
  · have hc1' : Enc.sz x.2.2.1 (Enc.sz x.2.1 b) < 0 := by simpa using hc1
    have fy := Nat.add_zero
    refine goK ?_ ?_ ?_ ?_ ?_ ?_ ?_ ?_ ?_ ?_ ?_ ?_ ?_ ?_ ?_ ?_
    any_goals (first | exact True.intro | skip)
    all_goals (repeat (refine Wh.mk fun hcc => ?_))
    all_goals (have hv : Enc.sz x b = -1 := by show EncL.sz x b = -1; simp [szl_prod, szl_unit, flat_int, flat_bool, flat_list, flat_prod, flatl_prod, flatl_unit, hn0, hc1'])
    all_goals simp only [tupOf, fixEs, hv]
  have hn1 : ¬ Enc.sz x.2.2.1 (Enc.sz x.2.1 b) < 0 := by simpa using hc1
  have h0_2 : 0 ≤ Enc.sz x.2.2.1 (Enc.sz x.2.1 b) := by omega
  have h1_2 : Enc.sz x.2.2.1 (Enc.sz x.2.1 b) ≤ 1048576 := by have := Enc.szLe x.2.2.1 (Enc.sz x.2.1 b) h0_1; omega
  have fy := Nat.add_zero
  refine goK ?_ ?_ ?_ ?_ ?_ ?_ ?_ ?_ ?_ ?_ ?_ ?_ ?_ ?_ ?_ ?_
  any_goals (first | exact True.intro | skip)
  all_goals (repeat (refine Wh.mk fun hcc => ?_))
  all_goals (have hv : Enc.sz x b = (Enc.sz x.2.2.1 (Enc.sz x.2.1 b)) := by show EncL.sz x b = _; simp [szl_prod, szl_unit, flat_int, flat_bool, flat_list, flat_prod, flatl_prod, flatl_unit, hn0, hn1])
  all_goals simp only [tupOf, fixEs, hv]
theorem laws_szSlot_ok (x : (Bool × ((Int × (List Int) × (List Int) × Unit)) × Unit)) (b : Int) (hx : Enc.lim maxLen x) (h0 : 0 ≤ b) (h1 : b ≤ 1048576) : CallR Try.prog 60 [.nd [.bool x.1, .nd [.int .i64 x.2.1.1, .sl .b (x.2.1.2.1.map Enc.b), .sl .b (x.2.1.2.2.1.map Enc.b)]], .int .i64 b] [] (.int .i64 (Enc.sz x b)) := by
  refine CallR.of_body (n := 12) (rs := [.tmp 4]) hY.ok Try.func60 rfl (by decide) rfl rfl rfl rfl (fun F => ?_)
  have fx := And.intro Y1 (And.intro Y3 (And.intro Y4 (And.intro Y34 (And.intro Y77 (Y79)))))
  have hC1 := cx [] (laws_szObj_ok x.2.1 b hx.2.1 h0 h1)
  have fy := Nat.add_zero
  refine goN ?_ ?_ ?_ ?_ ?_ ?_ ?_ ?_ ?_ ?_ ?_ ?_ ?_ ?_ ?_ ?_
  any_goals (first | exact True.intro | skip)
  skip
  refine SW.cond rfl (fun hc0 => ?_) (fun hc0 => ?_)
  · have hc0' : Enc.sz x.2.1 b < 0 := by simpa using hc0
    have fy := Nat.add_zero
    refine goK ?_ ?_ ?_ ?_ ?_ ?_ ?_ ?_ ?_ ?_ ?_ ?_ ?_ ?_ ?_ ?_
    any_goals (first | exact True.intro | skip)
    all_goals (repeat (refine Wh.mk fun hcc => ?_))
    all_goals (have hv : Enc.sz x b = -1 := by show EncL.sz x b = -1; simp [szl_prod, szl_unit, flat_int, flat_bool, flat_list, flat_prod, flatl_prod, flatl_unit, hc0'])
    all_goals simp only [tupOf, fixEs, hv]
  have hn0 : ¬ Enc.sz x.2.1 b < 0 := by simpa using hc0
  have h0_1 : 0 ≤ Enc.sz x.2.1 b := by omega
  have h1_1 : Enc.sz x.2.1 b ≤ 1048576 := by have := Enc.szLe x.2.1 b h0; omega
  have fy := Nat.add_zero
  refine goK ?_ ?_ ?_ ?_ ?_ ?_ ?_ ?_ ?_ ?_ ?_ ?_ ?_ ?_ ?_ ?_
  any_goals (first | exact True.intro | skip)
  all_goals (repeat (refine Wh.mk fun hcc => ?_))
  all_goals (have hv : Enc.sz x b = (Enc.sz x.2.1 b) := by show EncL.sz x b = _; simp [szl_prod, szl_unit, flat_int, flat_bool, flat_list, flat_prod, flatl_prod, flatl_unit, hn0])
  all_goals simp only [tupOf, fixEs, hv]
theorem laws_szSlotS_ok (l : List ((Bool × ((Int × (List Int) × (List Int) × Unit)) × Unit))) (b : Int) (hl : Enc.lim maxLen l) (h0 : 0 ≤ b) (h1 : b ≤ 1048576) : CallR Try.prog 11 [.sl .b (l.map Enc.b), .int .i64 b] [] (.int .i64 (Enc.sz l b)) := by
  refine CallR.of_body (n := 27) (rs := [.tmp 4]) hY.ok Try.func11 rfl (by decide) rfl rfl rfl rfl (fun F => ?_)
  have fx := And.intro Y3 (And.intro Y4 (And.intro Y22 (And.intro Y34 (And.intro Y77 (Y79)))))
  have hm : l.length ≤ 9223372036854775807 := hl.1
  have hw : IntKind.i64.wrap (b - l.length) = b - l.length := wrap64 _ (by omega) (by omega)
  have fy := hw
  refine goN ?_ ?_ ?_ ?_ ?_ ?_ ?_ ?_ ?_ ?_ ?_ ?_ ?_ ?_ ?_ ?_
  any_goals (first | exact True.intro | skip)
  skip
  refine SW.cond rfl (fun hc => ?_) (fun hc => ?_)
  · have hc' : b - (l.length : Int) < 0 := by simpa using hc
    have fy := hw
    refine goK ?_ ?_ ?_ ?_ ?_ ?_ ?_ ?_ ?_ ?_ ?_ ?_ ?_ ?_ ?_ ?_
    any_goals (first | exact True.intro | skip)
    all_goals (repeat (refine Wh.mk fun hcc => ?_))
    all_goals (simp only [tupOf, fixEs, sz_list, if_pos hc'])
  have hn : ¬ b - (l.length : Int) < 0 := by simpa using hc
  have hsz : Enc.sz l b = szFold l (b - l.length) := by rw [sz_list, if_neg hn]; rfl
  have fy := hw
  refine goN ?_ ?_ ?_ ?_ ?_ ?_ ?_ ?_ ?_ ?_ ?_ ?_ ?_ ?_ ?_ ?_
  any_goals (first | exact True.intro | skip)
  skip
  refine SW.loop (fun x : Nat × Int => ⟨[.sl .b (l.map Enc.b), .int .i64 x.2, .undef, .undef, .undef, .int .i64 x.1, .undef, .undef, .undef, .undef, .undef, .undef, .undef, .undef, .undef, .undef, .undef, .undef, .undef, .undef, .undef, .undef, .undef, .undef, .undef, .undef, .undef], [[]]⟩)
    (fun n x => n = l.length - x.1 ∧ x.1 ≤ l.length ∧ szFold (l.drop x.1) x.2 = szFold l (b - l.length) ∧ 0 ≤ x.2 ∧ x.2 ≤ 1048576) (n := l.length) (x := (0, b - l.length)) (Norm.to 0 rfl (by simp [weakL])) ⟨rfl, Nat.zero_le _, rfl, by omega, by omega⟩ ?_
  rintro n ⟨i, y⟩ ⟨hn', hi, hfd, hy0, hy1⟩
  simp only at hn' hi hfd hy0 hy1 ⊢
  have fy := Nat.add_zero
  refine goS ?_
  refine SW.cond rfl (fun hc2 => ?_) (fun hc2 => ?_)
  · have hlt : i < l.length := by simpa using hc2
    have hg : (l.map Enc.b)[i]? = some (.nd [.bool l[i].1, .nd [.int .i64 l[i].2.1.1, .sl .b (l[i].2.1.2.1.map Enc.b), .sl .b (l[i].2.1.2.2.1.map Enc.b)]]) := map_get Enc.b l i hlt
    have hd : l.drop i = l[i] :: l.drop (i + 1) := List.drop_eq_getElem_cons hlt
    rw [hd] at hfd
    have hC1 := cx [] (laws_szSlot_ok l[i] y (hl.2 _ (List.getElem_mem hlt)) hy0 hy1)
    have fy := hg
    refine goK ?_ ?_ ?_ ?_ ?_ ?_ ?_ ?_ ?_ ?_ ?_ ?_ ?_ ?_ ?_ ?_
    any_goals (first | exact True.intro | skip)
    all_goals (repeat (refine Wh.mk fun hcc => ?_))
    · have hx := hcc
      have hx' : Enc.sz l[i] y < 0 := by simpa using hx
      simp only [szFold, if_pos hx'] at hfd
      simp only [tupOf, fixEs, hsz, ← hfd]
    · have hx := hcc
      have hx' : ¬ Enc.sz l[i] y < 0 := by simpa using hx
      simp only [szFold, if_neg hx'] at hfd
      refine ⟨n - 1, (i + 1, Enc.sz l[i] y), by omega, ⟨by simp only; omega, by simp only; omega, hfd, by simp only; omega, by have := Enc.szLe l[i] y hy0; simp only; omega⟩, ?_⟩
      rw [wrap64 _ (by omega) (by omega)]
      first | exact Norm.to 0 rfl (by simp [weakL]) | exact Norm.to 1 rfl (by simp [weakL]) | exact Norm.to 2 rfl (by simp [weakL])
  · have hge : i = l.length := by
      have : ¬ i < l.length := by simpa using hc2
      omega
    rw [hge, List.drop_length] at hfd
    simp only [szFold] at hfd
    have fy := Nat.add_zero
    refine goK ?_ ?_ ?_ ?_ ?_ ?_ ?_ ?_ ?_ ?_ ?_ ?_ ?_ ?_ ?_ ?_
    any_goals (first | exact True.intro | skip)
    all_goals (repeat (refine Wh.mk fun hcc => ?_))
    simp only [tupOf, fixEs, hsz, ← hfd]
end Q6

namespace Q6
open Go Go.Vm Go.Proofs
set_option maxHeartbeats 4000000
set_option synthInstance.maxSize 2000
set_option synthInstance.maxHeartbeats 400000
set_option maxRecDepth 10000
set_option linter.unusedSimpArgs false
set_option linter.unusedVariables false

theorem markByte_ok (l : List UInt8) (k : Int) (hl : l.length ≤ 1048576) (h0 : 0 ≤ k) (h1 : k ≤ 1125899906842624) : CallR Try.prog 18 [.io (.tup [.ow 1 (l.map Enc.o)]), .int .i64 k] [.tup [.ow 1 ((marksG byt l.length k).map Enc.o)]] (.int .i64 (k + l.length)) := by
  refine CallR.of_body (n := 20) (rs := [.tmp 4]) hY.ok Try.func18 rfl (by decide) rfl rfl rfl rfl (fun F => ?_)
  have fx := And.intro Y3 (And.intro Y4 (And.intro Y5 (Y24)))
  have fy := Nat.add_zero
  refine goN ?_ ?_ ?_ ?_ ?_ ?_ ?_ ?_ ?_ ?_ ?_ ?_ ?_ ?_ ?_ ?_
  any_goals (first | exact True.intro | skip)
  skip
  refine SW.loop (fun i : Nat => ⟨[.ref 0 0 0 l.length, .int .i64 (k + (i : Nat)), .undef, .undef, .undef, .int .i64 i, .undef, .undef, .undef, .undef, .undef, .undef, .undef, .undef, .undef, .undef, .undef, .undef, .undef, .undef], [[.arr 1 ((mixG byt l k i).map Enc.o) false]]⟩)
    (fun n i => n = l.length - i ∧ i ≤ l.length) (n := l.length) (x := 0) (Norm.re [0] (by decide) rfl (by simp [heapFits, rowFits, obFits, mixG_zero]) (by simp [tmFits, T.ren])) ⟨rfl, Nat.zero_le _⟩ ?_
  rintro n i ⟨hn, hi⟩
  have fy := Nat.add_zero
  refine goS ?_
  refine SW.cond rfl (fun hc => ?_) (fun hc => ?_)
  · have hlt : i < l.length := by simp at hc; omega
    have hltI : (i : Int) < (l.length : Int) := by omega
    have hg : ((mixG byt l k i).map Enc.o)[i]? = some (.int .u8 (l[i].toNat : Int)) := mixG_get byt l k i hlt
    have hs : ((mixG byt l k i).map Enc.o).set i (.int .u8 ((byt (k + (i : Nat))).toNat : Int)) = (mixG byt l k (i + 1)).map Enc.o := mixG_set byt l k i hlt
    have fy := And.intro hg (And.intro hs (And.intro hltI (And.intro Nat.zero_add (Int.toNat_natCast))))
    refine goR ?_ ?_ ?_ ?_ ?_ ?_ ?_ ?_ ?_ ?_ ?_ ?_ ?_ ?_ ?_ ?_
    any_goals (first | exact True.intro | skip)
    all_goals (repeat (refine Wh.mk fun hcc => ?_))
    refine ⟨n - 1, i + 1, by omega, ⟨by omega, by omega⟩, ?_⟩
    rw [wrap64 _ (by omega) (by omega), wrap64 _ (by omega) (by omega), show k + (i : Int) + 1 = k + ((i + 1 : Nat) : Int) by omega]
    exact Norm.re [0] (by decide) rfl (by simp only [eq_self, heapFits, rowFits, obFits, List.getElem?_cons_zero, List.getElem?_cons_succ, renL_o, renL_b, true_and, and_true, and_self]) (by simp [tmFits, T.ren])
  · have hge : i = l.length := by
      have : ¬ i < l.length := by simp at hc; omega
      omega
    subst hge
    rw [mixG_all]
    have fy := Nat.add_zero
    refine goR ?_ ?_ ?_ ?_ ?_ ?_ ?_ ?_ ?_ ?_ ?_ ?_ ?_ ?_ ?_ ?_
    any_goals (first | exact True.intro | skip)
    all_goals (repeat (refine Wh.mk fun hcc => ?_))
    refine SW.ret (show RetQ _ _ _ _ _ _ _ from ⟨.inr rfl, _, [0], [.int .i64 (k + l.length)], ?_, ⟨rfl, ?_, rfl, rfl, ?_, rfl⟩⟩)
    rotate_left
    · (simp [-List.map_set, -List.map_append, pass1, modeOf, giveS, giveSL, Heap.at, Heap.put, fixEs, ioAt, ioAtT, ioKs, ioKT, ioM, ioT, thawA, thawAL, T.asArr, T.cel, T.clo, cloL, T.cloA, cloAL]; rfl)
    · simp [cloOL, T.cloO, T.asArr]
theorem heldByte_ok (n : Nat) (k : Int) (hl : n ≤ 1048576) (h0 : 0 ≤ k) (h1 : k ≤ 1125899906842624) : CallR Try.prog 19 [.sl .b ((marksG byt n k).map Enc.b), .int .i64 k] [] (.int .i64 (k + n)) := by
  refine CallR.of_body (n := 22) (rs := [.tmp 4]) hY.ok Try.func19 rfl (by decide) rfl rfl rfl rfl (fun F => ?_)
  have fx := And.intro Y3 (And.intro Y4 (And.intro Y5 (Y24)))
  have fy := Nat.add_zero
  refine goN ?_ ?_ ?_ ?_ ?_ ?_ ?_ ?_ ?_ ?_ ?_ ?_ ?_ ?_ ?_ ?_
  any_goals (first | exact True.intro | skip)
  skip
  refine SW.loop (fun i : Nat => ⟨[.sl .b ((marksG byt n k).map Enc.b), .int .i64 (k + (i : Nat)), .undef, .undef, .undef, .int .i64 i, .undef, .undef, .undef, .undef, .undef, .undef, .undef, .undef, .undef, .undef, .undef, .undef, .undef, .undef, .undef, .undef], [[]]⟩)
    (fun N i => N = n - i ∧ i ≤ n) (n := n) (x := 0) (Norm.to 0 rfl (by simp [weakL])) ⟨rfl, Nat.zero_le _⟩ ?_
  rintro N i ⟨hn, hi⟩
  have fy := Nat.add_zero
  refine goS ?_
  refine SW.cond rfl (fun hc => ?_) (fun hc => ?_)
  · have hlt : i < n := by simp at hc; omega
    have hg : ((marksG byt n k).map Enc.b)[i]? = some (.int .u8 ((byt (k + (i : Nat))).toNat : Int)) := by rw [map_get Enc.b _ i (by rw [marksG_len]; exact hlt), marksG_get byt n k i hlt]; rfl
    have fy := And.intro hg (And.intro Nat.zero_add (Int.toNat_natCast))
    refine goR ?_ ?_ ?_ ?_ ?_ ?_ ?_ ?_ ?_ ?_ ?_ ?_ ?_ ?_ ?_ ?_
    any_goals (first | exact True.intro | skip)
    all_goals (repeat (refine Wh.mk fun hcc => ?_))
    all_goals first | (exfalso; simp at hcc; done) | skip
    refine ⟨N - 1, i + 1, by omega, ⟨by omega, by omega⟩, ?_⟩
    rw [wrap64 _ (by omega) (by omega), wrap64 _ (by omega) (by omega), show k + (i : Int) + 1 = k + ((i + 1 : Nat) : Int) by omega]
    exact Norm.to 0 rfl (by simp [weakL])
  · have hge : i = n := by
      have : ¬ i < n := by simp at hc; omega
      omega
    subst hge
    have fy := Nat.add_zero
    refine goK ?_ ?_ ?_ ?_ ?_ ?_ ?_ ?_ ?_ ?_ ?_ ?_ ?_ ?_ ?_ ?_
    any_goals (first | exact True.intro | skip)
    all_goals (repeat (refine Wh.mk fun hcc => ?_))
    simp [tupOf, fixEs]
end Q6

namespace Q6
open Go Go.Vm Go.Proofs
set_option maxHeartbeats 4000000
set_option synthInstance.maxSize 2000
set_option synthInstance.maxHeartbeats 400000
set_option maxRecDepth 10000
set_option linter.unusedSimpArgs false
set_option linter.unusedVariables false

theorem markInt_ok (l : List Int) (k : Int) (hl : l.length ≤ 1048576) (h0 : 0 ≤ k) (h1 : k ≤ 1125899906842624) : CallR Try.prog 72 [.io (.tup [.ow 1 (l.map Enc.o)]), .int .i64 k] [.tup [.ow 1 ((marksG id l.length k).map Enc.o)]] (.int .i64 (k + l.length)) := by
  refine CallR.of_body (n := 19) (rs := [.tmp 4]) hY.ok Try.func72 rfl (by decide) rfl rfl rfl rfl (fun F => ?_)
  have fx := And.intro Y3 (And.intro Y4 (Y34))
  have fy := Nat.add_zero
  refine goN ?_ ?_ ?_ ?_ ?_ ?_ ?_ ?_ ?_ ?_ ?_ ?_ ?_ ?_ ?_ ?_
  any_goals (first | exact True.intro | skip)
  skip
  refine SW.loop (fun i : Nat => ⟨[.ref 0 0 0 l.length, .int .i64 (k + (i : Nat)), .undef, .undef, .undef, .int .i64 i, .undef, .undef, .undef, .undef, .undef, .undef, .undef, .undef, .undef, .undef, .undef, .undef, .undef], [[.arr 1 ((mixG id l k i).map Enc.o) false]]⟩)
    (fun n i => n = l.length - i ∧ i ≤ l.length) (n := l.length) (x := 0) (Norm.re [0] (by decide) rfl (by simp [heapFits, rowFits, obFits, mixG_zero]) (by simp [tmFits, T.ren])) ⟨rfl, Nat.zero_le _⟩ ?_
  rintro n i ⟨hn, hi⟩
  have fy := Nat.add_zero
  refine goS ?_
  refine SW.cond rfl (fun hc => ?_) (fun hc => ?_)
  · have hlt : i < l.length := by simp at hc; omega
    have hltI : (i : Int) < (l.length : Int) := by omega
    have hg : ((mixG id l k i).map Enc.o)[i]? = some (.int .i64 l[i]) := mixG_get id l k i hlt
    have hs : ((mixG id l k i).map Enc.o).set i (.int .i64 (k + (i : Nat))) = (mixG id l k (i + 1)).map Enc.o := mixG_set id l k i hlt
    have fy := And.intro hg (And.intro hs (And.intro hltI (And.intro Nat.zero_add (Int.toNat_natCast))))
    refine goR ?_ ?_ ?_ ?_ ?_ ?_ ?_ ?_ ?_ ?_ ?_ ?_ ?_ ?_ ?_ ?_
    any_goals (first | exact True.intro | skip)
    all_goals (repeat (refine Wh.mk fun hcc => ?_))
    refine ⟨n - 1, i + 1, by omega, ⟨by omega, by omega⟩, ?_⟩
    rw [wrap64 _ (by omega) (by omega), wrap64 _ (by omega) (by omega), show k + (i : Int) + 1 = k + ((i + 1 : Nat) : Int) by omega]
    exact Norm.re [0] (by decide) rfl (by simp only [eq_self, heapFits, rowFits, obFits, List.getElem?_cons_zero, List.getElem?_cons_succ, renL_o, renL_b, true_and, and_true, and_self]) (by simp [tmFits, T.ren])
  · have hge : i = l.length := by
      have : ¬ i < l.length := by simp at hc; omega
      omega
    subst hge
    rw [mixG_all]
    have fy := Nat.add_zero
    refine goR ?_ ?_ ?_ ?_ ?_ ?_ ?_ ?_ ?_ ?_ ?_ ?_ ?_ ?_ ?_ ?_
    any_goals (first | exact True.intro | skip)
    all_goals (repeat (refine Wh.mk fun hcc => ?_))
    refine SW.ret (show RetQ _ _ _ _ _ _ _ from ⟨.inr rfl, _, [0], [.int .i64 (k + l.length)], ?_, ⟨rfl, ?_, rfl, rfl, ?_, rfl⟩⟩)
    rotate_left
    · (simp [-List.map_set, -List.map_append, pass1, modeOf, giveS, giveSL, Heap.at, Heap.put, fixEs, ioAt, ioAtT, ioKs, ioKT, ioM, ioT, thawA, thawAL, T.asArr, T.cel, T.clo, cloL, T.cloA, cloAL]; rfl)
    · simp [cloOL, T.cloO, T.asArr]
theorem heldInt_ok (n : Nat) (k : Int) (hl : n ≤ 1048576) (h0 : 0 ≤ k) (h1 : k ≤ 1125899906842624) : CallR Try.prog 119 [.sl .b ((marksG id n k).map Enc.b), .int .i64 k] [] (.int .i64 (k + n)) := by
  refine CallR.of_body (n := 21) (rs := [.tmp 4]) hY.ok Try.func119 rfl (by decide) rfl rfl rfl rfl (fun F => ?_)
  have fx := And.intro Y3 (And.intro Y4 (Y34))
  have fy := Nat.add_zero
  refine goN ?_ ?_ ?_ ?_ ?_ ?_ ?_ ?_ ?_ ?_ ?_ ?_ ?_ ?_ ?_ ?_
  any_goals (first | exact True.intro | skip)
  skip
  refine SW.loop (fun i : Nat => ⟨[.sl .b ((marksG id n k).map Enc.b), .int .i64 (k + (i : Nat)), .undef, .undef, .undef, .int .i64 i, .undef, .undef, .undef, .undef, .undef, .undef, .undef, .undef, .undef, .undef, .undef, .undef, .undef, .undef, .undef], [[]]⟩)
    (fun N i => N = n - i ∧ i ≤ n) (n := n) (x := 0) (Norm.to 0 rfl (by simp [weakL])) ⟨rfl, Nat.zero_le _⟩ ?_
  rintro N i ⟨hn, hi⟩
  have fy := Nat.add_zero
  refine goS ?_
  refine SW.cond rfl (fun hc => ?_) (fun hc => ?_)
  · have hlt : i < n := by simp at hc; omega
    have hg : ((marksG id n k).map Enc.b)[i]? = some (.int .i64 (k + (i : Nat))) := by rw [map_get Enc.b _ i (by rw [marksG_len]; exact hlt), marksG_get id n k i hlt]; rfl
    have fy := And.intro hg (And.intro Nat.zero_add (Int.toNat_natCast))
    refine goR ?_ ?_ ?_ ?_ ?_ ?_ ?_ ?_ ?_ ?_ ?_ ?_ ?_ ?_ ?_ ?_
    any_goals (first | exact True.intro | skip)
    all_goals (repeat (refine Wh.mk fun hcc => ?_))
    all_goals first | (exfalso; simp at hcc; done) | skip
    refine ⟨N - 1, i + 1, by omega, ⟨by omega, by omega⟩, ?_⟩
    rw [wrap64 _ (by omega) (by omega), wrap64 _ (by omega) (by omega), show k + (i : Int) + 1 = k + ((i + 1 : Nat) : Int) by omega]
    exact Norm.to 0 rfl (by simp [weakL])
  · have hge : i = n := by
      have : ¬ i < n := by simp at hc; omega
      omega
    subst hge
    have fy := Nat.add_zero
    refine goK ?_ ?_ ?_ ?_ ?_ ?_ ?_ ?_ ?_ ?_ ?_ ?_ ?_ ?_ ?_ ?_
    any_goals (first | exact True.intro | skip)
    all_goals (repeat (refine Wh.mk fun hcc => ?_))
    simp [tupOf, fixEs]
end Q6

namespace Q6
open Go Go.Vm Go.Proofs
set_option maxHeartbeats 4000000
set_option synthInstance.maxSize 2000
set_option synthInstance.maxHeartbeats 400000
set_option maxRecDepth 10000
set_option linter.unusedSimpArgs false
set_option linter.unusedVariables false

def lvM (k j : Int) : (Int × Int × Bool × Unit) := (k + 3 * j, k + 3 * j + 1, (Int.tmod (k + 3 * j + 2) 3 == 0), ())
theorem markLive_ok (l : List (Int × Int × Bool × Unit)) (k : Int) (hl : l.length ≤ 1048576) (h0 : 0 ≤ k) (h1 : k ≤ 562949953421312) : CallR Try.prog 113 [.io (.tup [.ow 3 (l.map Enc.o)]), .int .i64 k] [.tup [.ow 3 ((marksG (lvM k) l.length 0).map Enc.o)]] (.int .i64 (k + 3 * l.length)) := by
  refine CallR.of_body (n := 36) (rs := [.tmp 4]) hY.ok Try.func113 rfl (by decide) rfl rfl rfl rfl (fun F => ?_)
  have fx := And.intro Y1 (And.intro Y2 (And.intro Y3 (And.intro Y4 (And.intro Y39 (Y91)))))
  have fy := Nat.add_zero
  refine goN ?_ ?_ ?_ ?_ ?_ ?_ ?_ ?_ ?_ ?_ ?_ ?_ ?_ ?_ ?_ ?_
  any_goals (first | exact True.intro | skip)
  skip
  refine SW.loop (fun i : Nat => ⟨[.ref 0 0 0 l.length, .int .i64 (k + 3 * (i : Nat)), .undef, .undef, .undef, .int .i64 (i : Nat), .undef, .undef, .undef, .undef, .undef, .undef, .undef, .undef, .undef, .undef, .undef, .undef, .undef, .undef, .undef, .undef, .undef, .undef, .undef, .undef, .undef, .undef, .undef, .undef, .undef, .undef, .undef, .undef, .undef, .undef], [[.arr 3 ((mixG (lvM k) l 0 i).map Enc.o) false]]⟩)
    (fun n i => n = l.length - i ∧ i ≤ l.length) (n := l.length) (x := 0) (Norm.re [0] (by decide) rfl (by simp [heapFits, rowFits, obFits, mixG_zero]) (by simp [tmFits, T.ren])) ⟨rfl, Nat.zero_le _⟩ ?_
  rintro n i ⟨hn, hi⟩
  have fy := Nat.add_zero
  refine goS ?_
  refine SW.cond rfl (fun hc => ?_) (fun hc => ?_)
  · have hlt : i < l.length := by simp at hc; omega
    have hltI : (i : Int) < (l.length : Int) := by omega
    have hg : ((mixG (lvM k) l 0 i).map Enc.o)[i]? = some (.nd [.int .i64 l[i].1, .int .i64 l[i].2.1, .bool l[i].2.2.1]) := mixG_get (lvM k) l 0 i hlt
    have hlen : ((mixG (lvM k) l 0 i).map (Enc.o : _ → T)).length = l.length := by rw [List.length_map, mixG_len _ _ _ _ hi]
    have hs : ((mixG (lvM k) l 0 i).map Enc.o).set i (.nd [.int .i64 (k + 3 * (i : Nat)), .int .i64 (k + 3 * (i : Nat) + 1), .bool (Int.tmod (k + 3 * (i : Nat) + 2) 3 == 0)]) = (mixG (lvM k) l 0 (i + 1)).map Enc.o := by
      have := mixG_set (lvM k) l 0 i hlt
      rw [Int.zero_add] at this
      exact this
    generalize hL : (mixG (lvM k) l 0 i).map (Enc.o : _ → T) = L at *
    have hg1 : ∀ a : T, (L.set i a)[i]? = some a := fun a => by rw [List.getElem?_set_self (by omega)]
    have hs1 : ∀ a b : T, (L.set i a).set i b = L.set i b := fun a b => List.set_set ..
    have hl1 : ∀ a : T, (L.set i a).length = L.length := fun a => List.length_set ..
    have hw1 : IntKind.i64.wrap (k + 3 * (i : Int) + 1) = k + 3 * (i : Int) + 1 := wrap64 _ (by omega) (by omega)
    have hw2 : IntKind.i64.wrap (k + 3 * (i : Int) + 1 + 1) = k + 3 * (i : Int) + 2 := by rw [wrap64 _ (by omega) (by omega)]; omega
    have hw3 : IntKind.i64.wrap (k + 3 * (i : Int) + 2 + 1) = k + 3 * ((i + 1 : Nat) : Int) := by rw [wrap64 _ (by omega) (by omega)]; omega
    have hw4 : IntKind.i64.wrap ((i : Int) + 1) = ((i + 1 : Nat) : Int) := by rw [wrap64 _ (by omega) (by omega)]; omega
    have fy := And.intro hg (And.intro hg1 (And.intro hs1 (And.intro hl1 (And.intro hltI (And.intro hw1 (And.intro hw2 (And.intro hw3 (And.intro hw4 (And.intro Nat.zero_add (Int.toNat_natCast))))))))))
    refine goR ?_ ?_ ?_ ?_ ?_ ?_ ?_ ?_ ?_ ?_ ?_ ?_ ?_ ?_ ?_ ?_
    any_goals (first | exact True.intro | skip)
    all_goals (repeat (refine Wh.mk fun hcc => ?_))
    refine ⟨n - 1, i + 1, by omega, ⟨by omega, by omega⟩, ?_⟩
    rw [hs]
    exact Norm.re [0] (by decide) rfl (by first | (simp only [eq_self, heapFits, rowFits, obFits, List.getElem?_cons_zero, List.getElem?_cons_succ, renL_o, renL_b, true_and, and_true, and_self]; done) | simp [-List.map_append, heapFits, rowFits, obFits, T.ren, renL]) (by simp [tmFits, T.ren])
  · have hge : i = l.length := by
      have : ¬ i < l.length := by simp at hc; omega
      omega
    subst hge
    rw [mixG_all]
    have fy := Nat.add_zero
    refine goR ?_ ?_ ?_ ?_ ?_ ?_ ?_ ?_ ?_ ?_ ?_ ?_ ?_ ?_ ?_ ?_
    any_goals (first | exact True.intro | skip)
    all_goals (repeat (refine Wh.mk fun hcc => ?_))
    all_goals exact SW.ret (show RetQ _ _ _ _ _ _ _ from RetQ.y [0] [.int .i64 (k + 3 * l.length)])
end Q6

namespace Q6
open Go Go.Vm Go.Proofs
set_option maxHeartbeats 4000000
set_option synthInstance.maxSize 2000
set_option synthInstance.maxHeartbeats 400000
set_option maxRecDepth 10000
set_option linter.unusedSimpArgs false
set_option linter.unusedVariables false

theorem heldLive_ok (n : Nat) (k : Int) (hl : n ≤ 1048576) (h0 : 0 ≤ k) (h1 : k ≤ 562949953421312) : CallR Try.prog 115 [.sl .b ((marksG (lvM k) n 0).map Enc.b), .int .i64 k] [] (.int .i64 (k + 3 * n)) := by
  refine CallR.of_body (n := 42) (rs := [.tmp 4]) hY.ok Try.func115 rfl (by decide) rfl rfl rfl rfl (fun F => ?_)
  have fx := And.intro Y1 (And.intro Y2 (And.intro Y3 (And.intro Y4 (And.intro Y39 (Y91)))))
  have fy := Nat.add_zero
  refine goN ?_ ?_ ?_ ?_ ?_ ?_ ?_ ?_ ?_ ?_ ?_ ?_ ?_ ?_ ?_ ?_
  any_goals (first | exact True.intro | skip)
  skip
  refine SW.loop (fun i : Nat => ⟨[.sl .b ((marksG (lvM k) n 0).map Enc.b), .int .i64 (k + 3 * (i : Nat)), .undef, .undef, .undef, .int .i64 (i : Nat), .undef, .undef, .undef, .undef, .undef, .undef, .undef, .undef, .undef, .undef, .undef, .undef, .undef, .undef, .undef, .undef, .undef, .undef, .undef, .undef, .undef, .undef, .undef, .undef, .undef, .undef, .undef, .undef, .undef, .undef, .undef, .undef, .undef, .undef, .undef, .undef], [[]]⟩)
    (fun N i => N = n - i ∧ i ≤ n) (n := n) (x := 0) (Norm.to 0 rfl (by simp [weakL])) ⟨rfl, Nat.zero_le _⟩ ?_
  rintro N i ⟨hn, hi⟩
  have fy := Nat.add_zero
  refine goS ?_
  refine SW.cond rfl (fun hc => ?_) (fun hc => ?_)
  · have hlt : i < n := by simp at hc; omega
    have hg : ((marksG (lvM k) n 0).map Enc.b)[i]? = some (.nd [.int .i64 (k + 3 * (i : Nat)), .int .i64 (k + 3 * (i : Nat) + 1), .bool (Int.tmod (k + 3 * (i : Nat) + 2) 3 == 0)]) := by
      rw [map_get Enc.b _ i (by rw [marksG_len]; exact hlt), marksG_get (lvM k) n 0 i hlt, Int.zero_add]; rfl
    have hw1 : IntKind.i64.wrap (k + 3 * (i : Int) + 1) = k + 3 * (i : Int) + 1 := wrap64 _ (by omega) (by omega)
    have hw2 : IntKind.i64.wrap (k + 3 * (i : Int) + 1 + 1) = k + 3 * (i : Int) + 2 := by rw [wrap64 _ (by omega) (by omega)]; omega
    have hw3 : IntKind.i64.wrap (k + 3 * (i : Int) + 2 + 1) = k + 3 * ((i + 1 : Nat) : Int) := by rw [wrap64 _ (by omega) (by omega)]; omega
    have hw4 : IntKind.i64.wrap ((i : Int) + 1) = ((i + 1 : Nat) : Int) := by rw [wrap64 _ (by omega) (by omega)]; omega
    have fy := And.intro hg (And.intro hw1 (And.intro hw2 (And.intro hw3 (And.intro hw4 (And.intro Nat.zero_add (Int.toNat_natCast))))))
    refine goR ?_ ?_ ?_ ?_ ?_ ?_ ?_ ?_ ?_ ?_ ?_ ?_ ?_ ?_ ?_ ?_
    any_goals (first | exact True.intro | skip)
    all_goals (repeat (refine Wh.mk fun hcc => ?_))
    all_goals first | (exfalso; simp at hcc; done) | skip
    refine ⟨N - 1, i + 1, by omega, ⟨by omega, by omega⟩, ?_⟩
    exact Norm.to 0 rfl (by simp [weakL])
  · have hge : i = n := by
      have : ¬ i < n := by simp at hc; omega
      omega
    subst hge
    have fy := Nat.add_zero
    refine goK ?_ ?_ ?_ ?_ ?_ ?_ ?_ ?_ ?_ ?_ ?_ ?_ ?_ ?_ ?_ ?_
    any_goals (first | exact True.intro | skip)
    all_goals (repeat (refine Wh.mk fun hcc => ?_))
    simp [tupOf, fixEs]
end Q6

namespace Q6
open Go Go.Vm Go.Proofs
set_option maxHeartbeats 4000000
set_option synthInstance.maxSize 2000
set_option synthInstance.maxHeartbeats 400000
set_option maxRecDepth 10000
set_option linter.unusedSimpArgs false
set_option linter.unusedVariables false

def mkSlot (x : (Bool × ((Int × (List Int) × (List Int) × Unit)) × Unit)) (c : Int) : ((Bool × ((Int × (List Int) × (List Int) × Unit)) × Unit)) × Int := (((Int.tmod (c) 3 == 0), ((c + 1), marksG id x.2.1.2.1.length (c + 1 + 1), marksG id x.2.1.2.2.1.length (c + 1 + 1 + x.2.1.2.1.length), ()), ()), c + 1 + 1 + x.2.1.2.1.length + x.2.1.2.2.1.length)
theorem mkSlot_rng {x : (Bool × ((Int × (List Int) × (List Int) × Unit)) × Unit)} (hx : Enc.lim 1048576 x) (c : Int) : c ≤ (mkSlot x c).2 ∧ (mkSlot x c).2 ≤ c + 16777216 := by
  have q2 : x.2.1.2.1.length ≤ 1048576 := hx.2.1.2.1.1
  have q3 : x.2.1.2.2.1.length ≤ 1048576 := hx.2.1.2.2.1.1
  unfold mkSlot
  simp only
  omega
theorem markSlotS_ok (l : List ((Bool × ((Int × (List Int) × (List Int) × Unit)) × Unit))) (k : Int) (hl : Enc.lim 1048576 l) (h0 : 0 ≤ k) (h1 : k ≤ 281474976710656) : CallR Try.prog 17 [.io (.tup [.ow 4 (l.map Enc.o)]), .int .i64 k] [.tup [.ow 4 ((thr mkSlot l k).1.map Enc.o)]] (.int .i64 (thr mkSlot l k).2) := by
  refine CallR.of_body (n := 46) (rs := [.tmp 4]) hY.ok Try.func17 rfl (by decide) rfl rfl rfl rfl (fun F => ?_)
  have fx := And.intro Y1 (And.intro Y2 (And.intro Y3 (And.intro Y4 (And.intro Y26 (And.intro Y34 (And.intro Y36 (Y38)))))))
  have hl1 : l.length ≤ 1048576 := hl.1
  have hgrow : ∀ x ∈ l, ∀ c, c ≤ (mkSlot x c).2 ∧ (mkSlot x c).2 ≤ c + 16777216 := fun x hx c => mkSlot_rng (hl.2 x hx) c
  have fy := Nat.add_zero
  refine goN ?_ ?_ ?_ ?_ ?_ ?_ ?_ ?_ ?_ ?_ ?_ ?_ ?_ ?_ ?_ ?_
  any_goals (first | exact True.intro | skip)
  skip
  refine SW.loop (fun i : Nat => ⟨[.ref 0 0 0 l.length, .int .i64 (thr mkSlot (l.take i) k).2, .undef, .undef, .undef, .int .i64 (i : Nat), .undef, .undef, .undef, .undef, .undef, .undef, .undef, .undef, .undef, .undef, .undef, .undef, .undef, .undef, .undef, .undef, .undef, .undef, .undef, .undef, .undef, .undef, .undef, .undef, .undef, .undef, .undef, .undef, .undef, .undef, .undef, .undef, .undef, .undef, .undef, .undef, .undef, .undef, .undef, .undef], [[.arr 4 ((mixT mkSlot l k i).map Enc.o) false]]⟩)
    (fun N i => N = l.length - i ∧ i ≤ l.length) (n := l.length) (x := 0) ?_ ⟨rfl, Nat.zero_le _⟩ ?_
  · rw [mixT_zero]
    simp only [List.take_zero, thr]
    exact Norm.re [0] (by decide) rfl (by first | (simp only [eq_self, heapFits, rowFits, obFits, List.getElem?_cons_zero, List.getElem?_cons_succ, renL_o, renL_b, true_and, and_true, and_self]; done) | simp [-List.map_append, heapFits, rowFits, obFits, T.ren, renL]) (by simp [tmFits, T.ren])
  rintro N i ⟨hn, hi⟩
  have hml := mixT_len mkSlot l k i hi
  have fy := Nat.add_zero
  refine goS ?_
  refine SW.cond rfl (fun hc => ?_) (fun hc => ?_)
  · have hlt : i < l.length := by simp at hc; omega
    have hltI : (i : Int) < (l.length : Int) := by omega
    have hr := thr_rng mkSlot 16777216 (by decide) (l.take i) k (fun x hx => hgrow x (List.mem_of_mem_take hx))
    rw [List.length_take, Nat.min_eq_left hi] at hr
    have hb : (i : Int) * 16777216 ≤ 1048576 * 16777216 := by omega
    have hg : ((mixT mkSlot l k i).map Enc.o)[i]? = some (.nd [.bool l[i].1, .nd [.int .i64 l[i].2.1.1, .ow 1 (l[i].2.1.2.1.map Enc.o), .ow 1 (l[i].2.1.2.2.1.map Enc.o)]]) := by rw [map_get Enc.o _ i (by rw [hml]; exact hlt), mixT_get mkSlot l k i hlt]; rfl
    have hs := mixT_set mkSlot l k i hlt
    have hk2 : (thr mkSlot (l.take (i + 1)) k).2 = (mkSlot l[i] (thr mkSlot (l.take i) k).2).2 := by rw [thr_succ mkSlot l k i hlt]
    have hli := hl.2 l[i] (List.getElem_mem hlt)
    clear hgrow hl
    generalize l[i] = x at *
    generalize mixT mkSlot l k i = m at *
    generalize (thr mkSlot (l.take i) k).2 = c at *
    have hgs : ∀ X : T, ((m.map Enc.o).set i X)[i]? = some X := fun X => List.getElem?_set_self (by rw [List.length_map, hml]; exact hlt)
    have hw0 : IntKind.i64.wrap (c + 1) = c + 1 := wrap64 _ (by omega) (by omega)
    have hw1 : IntKind.i64.wrap (c + 1 + 1) = c + 1 + 1 := wrap64 _ (by omega) (by omega)
    have q2 : x.2.1.2.1.length ≤ 1048576 := hli.2.1.2.1.1
    have m2 := markInt_ok x.2.1.2.1 (c + 1 + 1) q2 (by omega) (by omega)
    have q3 : x.2.1.2.2.1.length ≤ 1048576 := hli.2.1.2.2.1.1
    have m3 := markInt_ok x.2.1.2.2.1 (c + 1 + 1 + x.2.1.2.1.length) q3 (by omega) (by omega)
    have hwi : IntKind.i64.wrap ((i : Int) + 1) = ((i + 1 : Nat) : Int) := by rw [wrap64 _ (by omega) (by omega)]; omega
    refine SW.norm (Norm.expel 0 0 i rfl hg) ?_
    simp only [thawA, thawAL, Heap.put, List.set_set, List.length_cons, List.length_nil, Nat.zero_add, Nat.add_zero, List.getElem?_cons_zero, List.set_cons_zero, List.cons_append, List.nil_append, List.length_map, Nat.reduceAdd]
    have hC1 := cx [.ios] (m2)
    have hC2 := cx [.ios] (m3)
    have fy := And.intro hw0 (And.intro hw1 (And.intro hwi (And.intro hgs (And.intro hltI (And.intro ((((((@List.set_set T)))))) (And.intro Nat.zero_add (Int.toNat_natCast)))))))
    refine goN ?_ ?_ ?_ ?_ ?_ ?_ ?_ ?_ ?_ ?_ ?_ ?_ ?_ ?_ ?_ ?_
    any_goals (first | exact True.intro | skip)
    skip
    refine ⟨N - 1, i + 1, by omega, ⟨by omega, by omega⟩, ?_⟩
    rw [hk2, ← hs]
    refine Norm.trans (Norm.soakArr 0 0 i rfl (hgs _)) ?_
    refine Norm.re [0] (by decide) rfl ?_ (by simp [tmFits, T.ren, mkSlot])
    simp only [soakS, soakL, Heap.at, Heap.put, List.getElem?_cons_zero, List.getElem?_cons_succ, List.set_cons_zero, List.set_cons_succ, List.length_map, marks_len, marksG_len, thr_len, and_self, if_true, List.set_set, heapFits, rowFits, obFits, renL_o, true_and, and_true]
    rw [List.map_set]; rfl
  · have hge : i = l.length := by
      have : ¬ i < l.length := by simp at hc; omega
      omega
    subst hge
    rw [mixT_all, List.take_length]
    have fy := Nat.add_zero
    refine goR ?_ ?_ ?_ ?_ ?_ ?_ ?_ ?_ ?_ ?_ ?_ ?_ ?_ ?_ ?_ ?_
    any_goals (first | exact True.intro | skip)
    all_goals (repeat (refine Wh.mk fun hcc => ?_))
    all_goals exact SW.ret (show RetQ _ _ _ _ _ _ _ from RetQ.y [0] [.int .i64 (thr mkSlot l k).2])
theorem heldSlotS_ok (l : List ((Bool × ((Int × (List Int) × (List Int) × Unit)) × Unit))) (k : Int) (hl : Enc.lim 1048576 l) (h0 : 0 ≤ k) (h1 : k ≤ 281474976710656) : CallR Try.prog 48 [.sl .b ((thr mkSlot l k).1.map Enc.b), .int .i64 k] [] (.int .i64 (thr mkSlot l k).2) := by
  refine CallR.of_body (n := 54) (rs := [.tmp 4]) hY.ok Try.func48 rfl (by decide) rfl rfl rfl rfl (fun F => ?_)
  have fx := And.intro Y1 (And.intro Y2 (And.intro Y3 (And.intro Y4 (And.intro Y26 (And.intro Y34 (And.intro Y36 (Y38)))))))
  have hl1 : l.length ≤ 1048576 := hl.1
  have hgrow : ∀ x ∈ l, ∀ c, c ≤ (mkSlot x c).2 ∧ (mkSlot x c).2 ≤ c + 16777216 := fun x hx c => mkSlot_rng (hl.2 x hx) c
  have htl := thr_len mkSlot l k
  have fy := htl
  refine goN ?_ ?_ ?_ ?_ ?_ ?_ ?_ ?_ ?_ ?_ ?_ ?_ ?_ ?_ ?_ ?_
  any_goals (first | exact True.intro | skip)
  skip
  refine SW.loop (fun i : Nat => ⟨[.sl .b ((thr mkSlot l k).1.map Enc.b), .int .i64 (thr mkSlot (l.take i) k).2, .undef, .undef, .undef, .int .i64 (i : Nat), .undef, .undef, .undef, .undef, .undef, .undef, .undef, .undef, .undef, .undef, .undef, .undef, .undef, .undef, .undef, .undef, .undef, .undef, .undef, .undef, .undef, .undef, .undef, .undef, .undef, .undef, .undef, .undef, .undef, .undef, .undef, .undef, .undef, .undef, .undef, .undef, .undef, .undef, .undef, .undef, .undef, .undef, .undef, .undef, .undef, .undef, .undef, .undef], [[]]⟩)
    (fun N i => N = l.length - i ∧ i ≤ l.length) (n := l.length) (x := 0) (Norm.to 0 rfl (by simp [weakL, thr])) ⟨rfl, Nat.zero_le _⟩ ?_
  rintro N i ⟨hn, hi⟩
  have fy := htl
  refine goS ?_
  refine SW.cond rfl (fun hc => ?_) (fun hc => ?_)
  · have hlt : i < l.length := by simp at hc; omega
    have hr := thr_rng mkSlot 16777216 (by decide) (l.take i) k (fun x hx => hgrow x (List.mem_of_mem_take hx))
    rw [List.length_take, Nat.min_eq_left hi] at hr
    have hb : (i : Int) * 16777216 ≤ 1048576 * 16777216 := by omega
    have hg : ((thr mkSlot l k).1.map Enc.b)[i]? = some (Enc.b (mkSlot l[i] (thr mkSlot (l.take i) k).2).1) := by rw [map_get Enc.b _ i (by rw [htl]; exact hlt), thr_get mkSlot l k i hlt]
    have hk2 : (thr mkSlot (l.take (i + 1)) k).2 = (mkSlot l[i] (thr mkSlot (l.take i) k).2).2 := by rw [thr_succ mkSlot l k i hlt]
    have hli := hl.2 l[i] (List.getElem_mem hlt)
    clear hgrow hl
    generalize l[i] = x at *
    generalize (thr mkSlot l k).1 = L at *
    generalize (thr mkSlot (l.take i) k).2 = c at *
    have hg' : (L.map Enc.b)[i]? = some (.nd [.bool (Int.tmod (c) 3 == 0), .nd [.int .i64 (c + 1), .sl .b ((marksG id x.2.1.2.1.length (c + 1 + 1)).map Enc.b), .sl .b ((marksG id x.2.1.2.2.1.length (c + 1 + 1 + x.2.1.2.1.length)).map Enc.b)]]) := hg
    clear hg
    have hw0 : IntKind.i64.wrap (c + 1) = c + 1 := wrap64 _ (by omega) (by omega)
    have hw1 : IntKind.i64.wrap (c + 1 + 1) = c + 1 + 1 := wrap64 _ (by omega) (by omega)
    have q2 : x.2.1.2.1.length ≤ 1048576 := hli.2.1.2.1.1
    have m2 := heldInt_ok x.2.1.2.1.length (c + 1 + 1) q2 (by omega) (by omega)
    have hz2 : decide (c + 1 + 1 + (x.2.1.2.1.length : Int) < 0) = false := by simp; omega
    have q3 : x.2.1.2.2.1.length ≤ 1048576 := hli.2.1.2.2.1.1
    have m3 := heldInt_ok x.2.1.2.2.1.length (c + 1 + 1 + x.2.1.2.1.length) q3 (by omega) (by omega)
    have hz3 : decide (c + 1 + 1 + x.2.1.2.1.length + (x.2.1.2.2.1.length : Int) < 0) = false := by simp; omega
    have hwi : IntKind.i64.wrap ((i : Int) + 1) = ((i + 1 : Nat) : Int) := by rw [wrap64 _ (by omega) (by omega)]; omega
    have hC1 := cx [] (m2)
    have hC2 := cx [] (m3)
    have fy := And.intro hg' (And.intro htl (And.intro hw0 (And.intro hw1 (And.intro hz2 (And.intro hz3 (And.intro hwi (And.intro Nat.zero_add (Int.toNat_natCast))))))))
    refine goR ?_ ?_ ?_ ?_ ?_ ?_ ?_ ?_ ?_ ?_ ?_ ?_ ?_ ?_ ?_ ?_
    any_goals (first | exact True.intro | skip)
    all_goals (repeat (refine Wh.mk fun hcc => ?_))
    all_goals first | (exfalso; simp at hcc; done) | skip
    refine ⟨N - 1, i + 1, by omega, ⟨by omega, by omega⟩, ?_⟩
    rw [hk2]
    exact Norm.re [0] (by decide) rfl (by first | (simp only [eq_self, heapFits, rowFits, obFits, List.getElem?_cons_zero, List.getElem?_cons_succ, renL_o, renL_b, true_and, and_true, and_self]; done) | simp [-List.map_append, heapFits, rowFits, obFits, T.ren, renL]) (by simp [tmFits, T.ren, mkSlot])
  · have hge : i = l.length := by
      have : ¬ i < l.length := by simp at hc; omega
      omega
    subst hge
    rw [List.take_length]
    have fy := htl
    refine goK ?_ ?_ ?_ ?_ ?_ ?_ ?_ ?_ ?_ ?_ ?_ ?_ ?_ ?_ ?_ ?_
    any_goals (first | exact True.intro | skip)
    all_goals (repeat (refine Wh.mk fun hcc => ?_))
    all_goals simp [tupOf, fixEs]
end Q6

namespace Q6
open Go Go.Vm Go.Proofs
set_option maxHeartbeats 4000000
set_option synthInstance.maxSize 2000
set_option synthInstance.maxHeartbeats 400000
set_option maxRecDepth 10000
set_option linter.unusedSimpArgs false
set_option linter.unusedVariables false

open Go.By

def dumpR (v : List SlotT) : List UInt8 := if viewB v = true then dumpL v else []
theorem dumpR_len (v : List SlotT) : (dumpR v).length ≤ 4000 := by
  unfold dumpR
  split
  · rename_i h
    obtain ⟨h32, hall⟩ := viewB_all h
    have h1 := dmpF_len v 0 hall
    have h2 := putI_len (cntS v : Nat)
    have h3 := frameL_len (putI (cntS v : Nat) ++ dmpF v 0)
    unfold dumpL
    rw [List.length_append] at h3 ⊢
    rw [mark_len]; omega
  · simp
theorem iDump_ok (v : List SlotT) (hl : Enc.lim 1048576 v) : CallR Try.prog 14 [.sl .b (v.map Enc.b)] [] (.ow 1 ((dumpR v).map Enc.o)) := by
  unfold dumpR
  by_cases h : viewB v = true
  · rw [if_pos h]; exact iDump_y v hl h
  · rw [if_neg h]; exact iDump_n v hl (by simpa using h)
theorem sDump_ok (v : List SlotT) (hl : Enc.lim 1048576 v) : CallR Try.prog 12 [.sl .b (v.map Enc.b)] [] (.ow 1 ((dumpR v).map Enc.o)) := by
  unfold dumpR
  by_cases h : viewB v = true
  · rw [if_pos h]; exact sDump_y v hl h
  · rw [if_neg h]; exact sDump_n v hl (by simpa using h)

theorem dumpLaw_ok (l : List SlotT) (hl : Enc.lim maxLen l) : CallR Try.prog 3 [.sl .b (l.map Enc.b)] [] (.bool true) := by
  refine CallR.of_body (n := 69) (rs := [.tmp 2]) hY.ok Try.func3 rfl (by decide) rfl rfl rfl rfl (fun F => ?_)
  have fx := And.intro Y3 (And.intro Y4 (And.intro Y5 (And.intro Y22 (And.intro Y24 (And.intro Y26 (And.intro Y34 (And.intro Y36 (And.intro Y38 (And.intro Y77 (Y79))))))))))
  have hz := laws_szSlotS_ok l 1048576 hl (by decide) (by decide)
  by_cases hb : Enc.sz l 1048576 < 0
  · have hd : decide (Enc.sz l 1048576 < 0) = true := decide_eq_true hb
    have hC1 := cx [] (hz)
    have fy := hd
    refine goK ?_ ?_ ?_ ?_ ?_ ?_ ?_ ?_ ?_ ?_ ?_ ?_ ?_ ?_ ?_ ?_
    any_goals (first | exact True.intro | skip)
    all_goals (repeat (refine Wh.mk fun hcc => ?_))
    all_goals rfl
  have hd : decide (Enc.sz l 1048576 < 0) = false := decide_eq_false hb
  have hf : Enc.lim 1048576 l := Enc.szLim l 1048576 (by omega) (by decide)
  have hT := laws_toSlotS_ok l hf
  have hS := sDump_ok l hf
  have hI := iDump_ok l hf
  have hrl := dumpR_len l
  have hE := laws_eqByteS_ok (dumpR l) (dumpR l) ⟨by omega, fun _ _ => trivial⟩
  have hE2 := laws_eqSlotS_ok l l hf
  rw [decide_eq_true rfl] at hE hE2
  have hM := markSlotS_ok l 1 hf (by decide) (by decide)
  have hr := thr_rng mkSlot 16777216 (by decide) l 1 (fun x hx c => mkSlot_rng (hf.2 x hx) c)
  have hk : decide ((thr mkSlot l 1).2 < 0) = false := by simp; omega
  generalize dumpR l = R at *
  have hO := markByte_ok R 1 (by omega) (by decide) (by decide)
  have hH := heldByte_ok R.length 1 (by omega) (by decide) (by decide)
  have hq0 : decide (1 + (R.length : Int) < 0) = false := by simp; omega
  generalize thr mkSlot l 1 = TM at *
  clear hr hf hl
  have hC1 := cx [] (hz)
  have hC2 := cx [] (hT)
  have hC3 := cx [] (hS)
  have hC4 := cx [] (hI)
  have hC5 := cx [] (hE)
  have hC6 := cx [] (hE2)
  have hC7 := cx [.ios] (hM)
  have hC8 := cx [.ios] (hO)
  have hC9 := cx [] (hH)
  have fy := And.intro hd (And.intro hk (hq0))
  refine goK ?_ ?_ ?_ ?_ ?_ ?_ ?_ ?_ ?_ ?_ ?_ ?_ ?_ ?_ ?_ ?_
  any_goals (first | exact True.intro | skip)
  all_goals (repeat (refine Wh.mk fun hcc => ?_))
  all_goals first | rfl | (exfalso; simp at hcc; done)
end Q6

namespace Q6.Dump
open Go Go.Vm Go.Proofs
set_option maxHeartbeats 4000000
set_option synthInstance.maxSize 2000
set_option synthInstance.maxHeartbeats 400000
set_option maxRecDepth 10000
set_option linter.unusedSimpArgs false
set_option linter.unusedVariables false

open Go.Proofs.Ytalhmcbkmpggiaa
open Go.ChangeShapes Go.WideShapes Go.ChangeAt Go.RowKit
theorem own : ownKnob Try.prog.godebug = none := by kernel_rfl
theorem laidOut : laidOutB Try.prog = true := by kernel_rfl
theorem plain22 : plainT Y 12 22 = true := by kernel_rfl

set_option maxRecDepth 100000 in
theorem lifted (os : Os) (started : os.Started) (H : Type) (enc : TypeId × Value → H) :
    ReturnsInHanded {} Try.checked os 3 .any (Rows.fnExactDumpSpec.pre6 enc Try.prog Try.f3 Rows.fnExactDumpRow.domain false) (Rows.fnExactDumpSpec.post enc Try.prog Try.f3 false true false false) := by
  refine returnsInHanded_of_change (C := Try.checked) own started (by kernel_rfl) Try.func3
    (ChangeSpec.witness6 (enc := enc) (C := Try.checked) false ⟨#[], #[.slice none 0 0], []⟩ 8 (by kernel_rfl) (by kernel_rfl) (by kernel_rfl) (by kernel_rfl)) ?_
  intro W base args ds gs before hval0 hW hcnd _
  have hval : ∀ (j : Nat) t v, Try.f3.params[j]? = some t → args[j]? = some v → Value.okWide Try.prog W .any base t v := hval0
  have hW' := hW
  obtain ⟨p, q, hA0, hV, rfl, _, _⟩ := hW
  have hA : DataW.TrodAll enc Try.prog W 0 (fun _ => true) true Try.f3.params.toList args.toList ds p := hA0
  have hV' : DataW.TrodVars enc Try.prog W (fun _ => true) [] gs q := hV
  obtain ⟨rfl, rfl⟩ := trodVars_none hV'
  rw [Try.params3] at hA hval
  have one := trodAll_one hA
  refine (calls_of hY 12 (by simp [plain22]) hA (fun j t v h1 h2 => hval j t v (by simpa using h1) (by simpa using h2)) ?_).mono ?_
  · intro us hu ht
    match us, hu with
    | [u0], _ =>
      obtain ⟨x0, rfl, hx0⟩ := Enc.dec (α := List ((Bool × ((Int × (List Int) × (List Int) × Unit)) × Unit))) Y 12 22 u0 (by kernel_rfl) (ht 0 22 u0 rfl rfl)
      exact dumpLaw_ok x0 hx0
  · rintro e W' ⟨rfl, h1, h2⟩
    obtain ⟨v, d, _, rfl, _⟩ := one
    exact ⟨_, rfl, post_true (tb := 4) laidOut (by rw [Try.params3]; exact of_decide_eq_true (by kernel_rfl)) rfl hW' rfl rfl rfl rfl (by kernel_rfl) h1 h2⟩

theorem fnExactDump_holds : Rows.FnExactDumpSaid :=
  OpenClaim.holds_of_wide 3 Try.f3 rfl rfl rfl rfl rfl rfl rfl ⟨rfl, rfl, rfl, rfl, rfl⟩ rfl rfl rfl rfl rfl (by kernel_rfl) Try.func3 (by kernel_rfl)
    (of_decide_eq_true (by kernel_rfl)) (by unfold Func.isWrapper; first | (rw [if_pos (by decide +kernel)]; kernel_rfl) | (rw [if_neg (by decide +kernel)]; exact ⟨rfl, rfl⟩))
    (fun os started H enc _ => lifted os started H enc)
end Q6.Dump

namespace Go.Proofs.Ytalhmcbkmpggiaa
/-- FnExactDump: the program's Dump returns what the reference's returns, for all arguments. -/
theorem fnExactDump_holds : Rows.FnExactDumpSaid := Q6.Dump.fnExactDump_holds
#print axioms fnExactDump_holds
end Go.Proofs.Ytalhmcbkmpggiaa
