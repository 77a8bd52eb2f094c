/- Shows what the parts of the program do that the claim reaches: a machine of values over the model, and the contracts of functions, for all arguments within the lengths that each theorem names. -/
import Derived.Test.YtalhmcbkmpggiaaRecordsP1
import Derived.Test.YtalhmcbkmpggiaaRecordsP3
import Derived.Test.YtalhmcbkmpggiaaRecordsP2
import Derived.Test.YtalhmcbkmpggiaaVm5
set_option linter.all false

namespace Q6
open Go Go.Vm Go.Proofs
set_option maxHeartbeats 4000000
set_option synthInstance.maxSize 2000
set_option synthInstance.maxHeartbeats 400000
set_option maxRecDepth 10000
set_option linter.unusedSimpArgs false
set_option linter.unusedVariables false

open Go.By

def frameL (l : List UInt8) : List UInt8 := putI l.length ++ l ++ four (crc l)
theorem frameL_len (l : List UInt8) : (frameL l).length ≤ l.length + 10 := by
  have := putI_len l.length
  unfold frameL; simp only [List.length_append, four_len]; omega

theorem sFrame_ok (l : List UInt8) (hl : l.length ≤ 1048576) : CallR Try.prog 64 [.sl .b (l.map Enc.b)] [] (.ow 1 ((frameL l).map Enc.o)) := by
  refine CallR.of_body (n := 15) (rs := [.tmp 2]) hY.ok Try.func64 rfl (by decide) rfl rfl rfl rfl (fun F => ?_)
  have fx := And.intro Y3 (And.intro Y5 (Y24))
  have hP := PutInt_ok [] (l.length : Int) (Nat.zero_le _)
  have hS := specCrc_ok l hl
  have hF4 := l1Four_ok (crc l)
  have hpl := putI_len l.length
  have hfl := four_len (crc l)
  unfold frameL
  simp only [List.nil_append] at hP
  generalize crc l = c at *
  generalize four c = FF at *
  generalize putI l.length = PP at *
  have hap1 := fun (own_ e_ j_ : Nat) (H_ : Heap) (q1 : H_.at e_ j_ = some (.arr 1 ((PP).map Enc.o) false)) => append_runB (Y := Y) (own := own_) (t := 24) (u := 24) (e := e_) (j := j_) (off := 0) (n := (PP).length) (g := .b) (l := PP) (m := l) (H := H_) Y24 Y24 Y5 rfl (by decide) q1 (by rw [List.drop_zero]; exact List.take_of_length_le (by simp)) (by simp) (by omega) rfl rfl
  have hap2 := fun (own_ e_ j_ e2_ j2_ : Nat) (H_ : Heap) (q1 : H_.at e_ j_ = some (.arr 1 ((PP ++ l).map Enc.o) false)) (q2 : H_.at e2_ j2_ = some (.arr 1 ((FF).map Enc.o) false)) => append_runR (Y := Y) (own := own_) (t := 24) (u := 24) (e := e_) (j := j_) (off := 0) (n := PP.length + l.length) (e2 := e2_) (j2 := j2_) (l := PP ++ l) (m := FF) (H := H_) Y24 Y24 Y5 rfl (by decide) q1 q2 (by rw [List.drop_zero]; exact List.take_of_length_le (by simp)) (by simp) (by omega) rfl rfl
  have hC1 := cx [] (hP)
  have hC2 := cx [] (hS)
  have hC3 := cx [] (hF4)
  have fy := And.intro bs0_24 (And.intro hap1 (hap2))
  refine goR ?_ ?_ ?_ ?_ ?_ ?_ ?_ ?_ ?_ ?_ ?_ ?_ ?_ ?_ ?_ ?_
  any_goals (first | exact True.intro | skip)
  all_goals (repeat (refine Wh.mk fun hcc => ?_))
  have hZ : PP.length + l.length + FF.length = (PP ++ l ++ FF).length := by simp [Nat.add_assoc]
  rw [hZ]
  generalize PP ++ l ++ FF = Z
  exact SW.ret (show RetQ _ _ _ _ _ _ _ from RetQ.y [1] [.ow 1 (Z.map Enc.o)])
theorem growBytes_ok (n : Nat) (hn : n ≤ 1048576) : CallR Try.prog 165 [.nils 0, .int .i64 (n : Nat)] [] (.ow 1 []) := by
  refine CallR.of_body (n := 27) (rs := [.tmp 4]) hY.ok Try.func165 rfl (by decide) rfl rfl rfl rfl (fun F => ?_)
  have fx := And.intro Y3 (And.intro Y4 (And.intro Y5 (And.intro Y9 (And.intro Y20 (Y24)))))
  have hneg : decide ((n : Int) < 0) = false := by simp
  have hw : IntKind.i64.wrap (n : Int) = n := wrap64 _ (by omega) (by omega)
  have hn30 : (n : Int) ≤ 2 ^ 30 := by omega
  have hn0 : (0 : Int) ≤ n := Int.natCast_nonneg n
  have hsn : ∀ es, sliceM Y 24 (.nils es) none (some (.int .i64 0)) none = .pure { v := .nils es } := fun es => by simp [sliceM, Y24, loF, hiF]
  have hsr := fun (e j n : Nat) (f : List T) (H : Heap) (q1 : H.at e j = some (.arr 1 f false)) => show (sliceM Y 24 (.ref e j 0 n) none (some (.int .i64 0)) none).run H = some { v := .ref e j 0 0 } by simp [sliceM, Y24, Y5, loF, hiF, RM.run, q1]
  cases hz : decide ((n : Int) > 0)
  · skip
    have fy := And.intro hneg (And.intro hw (And.intro hz (And.intro Int.sub_zero (Int.sub_self))))
    refine goR ?_ ?_ ?_ ?_ ?_ ?_ ?_ ?_ ?_ ?_ ?_ ?_ ?_ ?_ ?_ ?_
    any_goals (first | exact True.intro | skip)
    all_goals (repeat (refine Wh.mk fun hcc => ?_))
    all_goals exact SW.ret (show RetQ _ _ _ _ _ _ _ from RetQ.y [1] [.ow 1 []])
  · skip
    have fy := And.intro hneg (And.intro hw (And.intro hz (And.intro hn30 (And.intro hn0 (And.intro hsn (And.intro hsr (And.intro Int.sub_zero (Int.sub_self))))))))
    refine goR ?_ ?_ ?_ ?_ ?_ ?_ ?_ ?_ ?_ ?_ ?_ ?_ ?_ ?_ ?_ ?_
    any_goals (first | exact True.intro | skip)
    all_goals (repeat (refine Wh.mk fun hcc => ?_))
    refine SW.norm (Norm.trunc 1 0 0 rfl) ?_
    simp only [Heap.put, List.take_zero, List.getElem?_cons_succ, List.getElem?_cons_zero, List.set_cons_succ, List.set_cons_zero]
    exact SW.ret (show RetQ _ _ _ _ _ _ _ from RetQ.y [1] [.ow 1 []])
def lenS (ls : List (List UInt8)) : Nat := (ls.map List.length).sum
theorem lenS_take : ∀ (ls : List (List UInt8)) (i : Nat) (h : i < ls.length), lenS (ls.take (i + 1)) = lenS (ls.take i) + ls[i].length
  | [], i, h => absurd h (Nat.not_lt_zero _)
  | x :: ls, 0, h => by simp [lenS]
  | x :: ls, i + 1, h => by
    have := lenS_take ls i (by simpa using h)
    simp only [lenS, List.take_succ_cons, List.map_cons, List.sum_cons, List.getElem_cons_succ] at this ⊢; omega
theorem lenS_le : ∀ (ls : List (List UInt8)) (i : Nat), lenS (ls.take i) ≤ lenS ls
  | [], i => by simp [lenS]
  | x :: ls, 0 => by simp [lenS]
  | x :: ls, i + 1 => by
    have := lenS_le ls i
    simp only [lenS, List.take_succ_cons, List.map_cons, List.sum_cons] at this ⊢; omega
theorem flat_take : ∀ (ls : List (List UInt8)) (i : Nat) (h : i < ls.length), (ls.take (i + 1)).flatten = (ls.take i).flatten ++ ls[i]
  | [], i, h => absurd h (Nat.not_lt_zero _)
  | x :: ls, 0, h => by simp
  | x :: ls, i + 1, h => by
    have := flat_take ls i (by simpa using h)
    simp only [List.take_succ_cons, List.flatten_cons, List.getElem_cons_succ, this, List.append_assoc]
theorem flat_len (ls : List (List UInt8)) (i : Nat) : (ls.take i).flatten.length = lenS (ls.take i) := by unfold lenS; simp [List.length_flatten]
theorem concat_ok (ls : List (List UInt8)) (hn : ls.length ≤ 1048576) (hs : lenS ls ≤ 1048576) : CallR Try.prog 134 [.sl .b (ls.map Enc.b)] [] (.ow 1 (ls.flatten.map Enc.o)) := by
  refine CallR.of_body (n := 36) (rs := [.tmp 2]) hY.ok Try.func134 rfl (by decide) rfl rfl rfl rfl (fun F => ?_)
  have fx := And.intro Y3 (And.intro Y4 (And.intro Y5 (And.intro Y9 (And.intro Y20 (And.intro Y24 (Y157))))))
  have fy := Nat.add_zero
  refine goN ?_ ?_ ?_ ?_ ?_ ?_ ?_ ?_ ?_ ?_ ?_ ?_ ?_ ?_ ?_ ?_
  any_goals (first | exact True.intro | skip)
  skip
  refine SW.loop (fun i : Nat => ⟨[.sl .b (ls.map Enc.b), .undef, .undef, .int .i64 (lenS (ls.take i) : Nat), .undef, .undef, .undef, .undef, .undef, .sl .b (ls.map Enc.b), .int .i64 (ls.length : Nat), .int .i64 (i : Nat), .undef, .undef, .undef, .undef, .undef, .undef, .undef, .undef, .undef, .undef, .undef, .undef, .undef, .undef, .undef, .undef, .undef, .undef, .undef, .undef, .undef, .undef, .undef, .undef], [[]]⟩)
    (fun N i => N = ls.length - i ∧ i ≤ ls.length) (n := ls.length) (x := 0) (Norm.to 0 rfl (by simp [weakL, lenS])) ⟨rfl, Nat.zero_le _⟩ ?_
  rintro N i ⟨hN, hi⟩
  have fy := Nat.add_zero
  refine goS ?_
  refine SW.cond rfl (fun hc => ?_) (fun hc => ?_)
  · have hlt : i < ls.length := by simp at hc; omega
    have hgl : (ls.map Enc.b)[i]? = some (T.sl .b (ls[i].map Enc.b)) := map_get Enc.b ls i hlt
    have h1 := lenS_take ls i hlt
    have h2 := lenS_le ls (i + 1)
    generalize ls[i] = x at *
    generalize lenS (List.take i ls) = m at *
    have hwi : IntKind.i64.wrap ((i : Int) + 1) = ((i + 1 : Nat) : Int) := by rw [wrap64 _ (by omega) (by omega)]; omega
    have hwm : IntKind.i64.wrap ((m : Int) + (x.length : Int)) = ((m + x.length : Nat) : Int) := by rw [wrap64 _ (by omega) (by omega)]; omega
    have hneg : decide (((m + x.length : Nat) : Int) < 0) = false := by simp; omega
    have fy := And.intro hgl (And.intro hwi (And.intro hwm (hneg)))
    refine goR ?_ ?_ ?_ ?_ ?_ ?_ ?_ ?_ ?_ ?_ ?_ ?_ ?_ ?_ ?_ ?_
    any_goals (first | exact True.intro | skip)
    all_goals (repeat (refine Wh.mk fun hcc => ?_))
    refine ⟨N - 1, i + 1, by omega, ⟨by omega, by omega⟩, ?_⟩
    rw [h1]
    exact Norm.to 0 rfl (by simp [weakL])
  · have hge : i = ls.length := by
      have : ¬ i < ls.length := by simp at hc; omega
      omega
    subst hge
    rw [List.take_length]
    have hG := growBytes_ok (lenS ls) hs
    have hC1 := cx [.nl] (hG)
    have fy := Nat.add_zero
    refine goN ?_ ?_ ?_ ?_ ?_ ?_ ?_ ?_ ?_ ?_ ?_ ?_ ?_ ?_ ?_ ?_
    any_goals (first | exact True.intro | skip)
    skip
    refine SW.loop (fun i : Nat => ⟨[.undef, .undef, .undef, .undef, .undef, .undef, .ref 1 0 0 (lenS (ls.take i)), .undef, .undef, .undef, .undef, .undef, .undef, .undef, .undef, .undef, .undef, .undef, .undef, .undef, .undef, .undef, .undef, .undef, .undef, .sl .b (ls.map Enc.b), .int .i64 (ls.length : Nat), .int .i64 (i : Nat), .undef, .undef, .undef, .undef, .undef, .undef, .undef, .undef], [[], [.arr 1 ((ls.take i).flatten.map Enc.o) false]]⟩)
      (fun N i => N = ls.length - i ∧ i ≤ ls.length) (n := ls.length) (x := 0) ?_ ⟨rfl, Nat.zero_le _⟩ ?_
    · exact Norm.re [0, 1] (by decide) rfl (by simp [-List.map_append, heapFits, rowFits, obFits, T.ren, renL]) (by simp [tmFits, T.ren, lenS])
    rintro N i ⟨hN, hi⟩
    have fy := Nat.add_zero
    refine goS ?_
    refine SW.cond rfl (fun hc => ?_) (fun hc => ?_)
    · have hlt : i < ls.length := by simp at hc; omega
      have hgl : (ls.map Enc.b)[i]? = some (T.sl .b (ls[i].map Enc.b)) := map_get Enc.b ls i hlt
      have h1 := lenS_take ls i hlt
      have h2 := lenS_le ls (i + 1)
      have h3 := flat_take ls i hlt
      have h4 := flat_len ls i
      generalize ls[i] = x at *
      generalize lenS (List.take i ls) = m at *
      generalize (List.take i ls).flatten = acc at *
      subst h4
      have hwi : IntKind.i64.wrap ((i : Int) + 1) = ((i + 1 : Nat) : Int) := by rw [wrap64 _ (by omega) (by omega)]; omega
      have hap := fun (own_ e_ j_ : Nat) (H_ : Heap) (q1 : H_.at e_ j_ = some (.arr 1 ((acc).map Enc.o) false)) => append_runB (Y := Y) (own := own_) (t := 24) (u := 24) (e := e_) (j := j_) (off := 0) (n := (acc).length) (g := .b) (l := acc) (m := x) (H := H_) Y24 Y24 Y5 rfl (by decide) q1 (by rw [List.drop_zero]; exact List.take_of_length_le (by simp)) (by simp) (by omega) rfl rfl
      have fy := And.intro hgl (And.intro hwi (hap))
      refine goR ?_ ?_ ?_ ?_ ?_ ?_ ?_ ?_ ?_ ?_ ?_ ?_ ?_ ?_ ?_ ?_
      any_goals (first | exact True.intro | skip)
      all_goals (repeat (refine Wh.mk fun hcc => ?_))
      refine ⟨N - 1, i + 1, by omega, ⟨by omega, by omega⟩, ?_⟩
      rw [h1, h3]
      exact Norm.re [0, 2] (by decide) rfl (by first | (simp only [eq_self, heapFits, rowFits, obFits, List.getElem?_cons_zero, List.getElem?_cons_succ, renL_o, renL_b, true_and, and_true, and_self]; done) | simp [-List.map_append, heapFits, rowFits, obFits, T.ren, renL]) (by simp [tmFits, T.ren])
    · have hge : i = ls.length := by
        have : ¬ i < ls.length := by simp at hc; omega
        omega
      subst hge
      have h4 := flat_len ls ls.length
      rw [List.take_length] at h4 ⊢
      rw [← h4]
      generalize ls.flatten = Z
      have fy := Nat.add_zero
      refine goR ?_ ?_ ?_ ?_ ?_ ?_ ?_ ?_ ?_ ?_ ?_ ?_ ?_ ?_ ?_ ?_
      any_goals (first | exact True.intro | skip)
      all_goals (repeat (refine Wh.mk fun hcc => ?_))
      exact SW.ret (show RetQ _ _ _ _ _ _ _ from RetQ.y [1] [.ow 1 (Z.map Enc.o)])
theorem build3 {Y : TypeId → TyI} {own t el by' : Nat} {k : Ty} {a b c : T} (h1 : Y t = ⟨.sl el, 1, 24⟩) (h2 : Y el = ⟨k, 1, by'⟩) (h3 : k.isFn = false)
    (hs : setAll (plAr 1) (List.replicate 3 (zeroT Y 9 el)) [(0, a), (1, b), (2, c)] = some [a, b, c]) :
    buildSliceM Y own t 3 [(0, a), (1, b), (2, c)] = .pure { v := .ref own 0 0 3, news := [.arr 1 [a, b, c] false] } := by
  simp only [buildSliceM, h1, h2, h3]
  rw [if_pos ⟨by decide, by decide, trivial⟩, hs]
theorem iFrame_ok (l : List UInt8) (hl : l.length ≤ 1048576 - 10) : CallR Try.prog 70 [.sl .b (l.map Enc.b)] [] (.ow 1 ((frameL l).map Enc.o)) := by
  refine CallR.of_body (n := 11) (rs := [.tmp 2]) hY.ok Try.func70 rfl (by decide) rfl rfl rfl rfl (fun F => ?_)
  have fx := And.intro Y1 (And.intro Y2 (And.intro Y3 (And.intro Y5 (And.intro Y24 (Y157)))))
  have hP := putInt_ok [] (l.length : Int) (Nat.zero_le _)
  have hS := sumBytes_ok l (by omega)
  have hpl := putI_len l.length
  have hfl := four_len (crc l)
  unfold frameL
  simp only [List.nil_append] at hP
  generalize crc l = c at *
  generalize four c = FF at *
  generalize putI l.length = PP at *
  have hC0 := concat_ok [PP, l, FF] (by simp) (by unfold lenS; simp; omega)
  rw [show [PP, l, FF].flatten = PP ++ l ++ FF by simp] at hC0
  generalize PP ++ l ++ FF = Z at *
  have hC : CallR Try.prog 134 [.sl .b [.sl .b (PP.map Enc.b), .sl .b (l.map Enc.b), .sl .b (FF.map Enc.b)]] [] (.ow 1 (Z.map Enc.o)) := hC0
  have hb3 := fun own => build3 (Y := Y) (own := own) (t := 157) (a := .ref 1 0 0 PP.length) (b := .sl .b (l.map Enc.b)) (c := .ref 2 0 0 FF.length) Y157 Y24 rfl rfl
  have hC1 := cx [.own 1] (hP)
  have hC2 := cx [] (hS)
  have hC3 := cx [] (hC)
  have fy := hb3
  refine goR ?_ ?_ ?_ ?_ ?_ ?_ ?_ ?_ ?_ ?_ ?_ ?_ ?_ ?_ ?_ ?_
  any_goals (first | exact True.intro | skip)
  all_goals (repeat (refine Wh.mk fun hcc => ?_))
  exact SW.ret (show RetQ _ _ _ _ _ _ _ from RetQ.y [1] [.ow 1 (Z.map Enc.o)])
end Q6

namespace Q6
open Go Go.Vm Go.Proofs
set_option maxHeartbeats 4000000
set_option synthInstance.maxSize 2000
set_option synthInstance.maxHeartbeats 400000
set_option maxRecDepth 10000
set_option linter.unusedSimpArgs false
set_option linter.unusedVariables false

open Go.By
theorem putInts_ok (b : List UInt8) (l : List Int) (hb : b.length ≤ 1048576) (hl : l.length ≤ 1048576) : CallR Try.prog 164 [.ow 1 (b.map Enc.o), .sl .b (l.map Enc.b)] [] (.ow 1 ((b ++ putL l).map Enc.o)) := by
  refine CallR.of_body (n := 22) (rs := [.tmp 4]) hY.ok Try.func164 rfl (by decide) rfl rfl rfl rfl (fun F => ?_)
  have fx := And.intro Y3 (And.intro Y5 (And.intro Y24 (Y34)))
  have h0 := putInt_ok b l.length (by omega)
  have hpl := putI_len l.length
  have hC1 := cx [.own 1] (h0)
  have fy := Nat.add_zero
  refine goN ?_ ?_ ?_ ?_ ?_ ?_ ?_ ?_ ?_ ?_ ?_ ?_ ?_ ?_ ?_ ?_
  any_goals (first | exact True.intro | skip)
  skip
  refine SW.loop (fun x : Nat × List UInt8 => ⟨[.ref 1 0 0 x.2.length, .undef, .undef, .undef, .undef, .undef, .undef, .undef, .undef, .undef, .undef, .sl .b (l.map Enc.b), .int .i64 (l.length : Nat), .int .i64 (x.1 : Nat), .undef, .undef, .undef, .undef, .undef, .undef, .undef, .undef], [[.gone], [.arr 1 (x.2.map Enc.o) false]]⟩)
    (fun N x => N = l.length - x.1 ∧ x.1 ≤ l.length ∧ x.2 = b ++ putI l.length ++ (l.take x.1).flatMap putI) (n := l.length) (x := (0, b ++ putI l.length)) ?_ ⟨rfl, Nat.zero_le _, by simp⟩ ?_
  · exact Norm.re [0, 1] (by decide) rfl (by first | (simp only [eq_self, heapFits, rowFits, obFits, List.getElem?_cons_zero, List.getElem?_cons_succ, renL_o, renL_b, true_and, and_true, and_self]; done) | simp [-List.map_append, heapFits, rowFits, obFits, T.ren, renL]) (by simp [tmFits, T.ren])
  rintro N ⟨i, acc⟩ ⟨hN, hi, hac⟩
  simp only at hN hi hac ⊢
  have hacl : acc.length ≤ 8388608 := by
    have h1 := putF_len (l.take i)
    have h2 : (l.take i).length ≤ l.length := by rw [List.length_take]; omega
    rw [hac]; simp only [List.length_append]; omega
  have fy := Nat.add_zero
  refine goS ?_
  refine SW.cond rfl (fun hc => ?_) (fun hc => ?_)
  · have hlt : i < l.length := by simp at hc; omega
    have hg : (l.map Enc.b)[i]? = some (.int .i64 l[i]) := map_get Enc.b l i hlt
    have hwi : IntKind.i64.wrap ((i : Int) + 1) = ((i + 1 : Nat) : Int) := by rw [wrap64 _ (by omega) (by omega)]; omega
    have h1 := putInt_ok acc l[i] (by omega)
    have hC1 := cx [.own 1] (h1)
    have fy := And.intro hg (hwi)
    refine goN ?_ ?_ ?_ ?_ ?_ ?_ ?_ ?_ ?_ ?_ ?_ ?_ ?_ ?_ ?_ ?_
    any_goals (first | exact True.intro | skip)
    skip
    refine ⟨N - 1, (i + 1, acc ++ putI l[i]), by omega, ⟨by simp only; omega, by simp only; omega, ?_⟩, ?_⟩
    · simp only; rw [hac, List.take_succ_eq_append_getElem hlt, List.flatMap_append, ← List.append_assoc]; simp only [List.flatMap_cons, List.flatMap_nil, List.append_nil]
    · exact Norm.re [0, 2] (by decide) rfl (by first | (simp only [eq_self, heapFits, rowFits, obFits, List.getElem?_cons_zero, List.getElem?_cons_succ, renL_o, renL_b, true_and, and_true, and_self]; done) | simp [-List.map_append, heapFits, rowFits, obFits, T.ren, renL]) (by simp [tmFits, T.ren])
  · have hge : i = l.length := by
      have : ¬ i < l.length := by simp at hc; omega
      omega
    subst hge
    have hfin : b ++ putL l = acc := by rw [hac, List.take_length]; unfold putL; simp
    rw [hfin]
    have fy := Nat.add_zero
    refine goR ?_ ?_ ?_ ?_ ?_ ?_ ?_ ?_ ?_ ?_ ?_ ?_ ?_ ?_ ?_ ?_
    any_goals (first | exact True.intro | skip)
    all_goals (repeat (refine Wh.mk fun hcc => ?_))
    exact SW.ret (show RetQ _ _ _ _ _ _ _ from RetQ.y [1] [.ow 1 (acc.map Enc.o)])
theorem iPutObj_y (x : (Int × (List Int) × (List Int) × Unit)) (hx : Enc.lim 1048576 x) (ho : objB x = true) : CallR Try.prog 133 [.nd [.int .i64 x.1, .sl .b (x.2.1.map Enc.b), .sl .b (x.2.2.1.map Enc.b)]] [] (.ow 1 ((putObj x).map Enc.o)) := by
  refine CallR.of_body (n := 15) (rs := [.tmp 2]) hY.ok Try.func133 rfl (by decide) rfl rfl rfl rfl (fun F => ?_)
  have fx := And.intro Y1 (And.intro Y2 (And.intro Y3 (And.intro Y4 (And.intro Y5 (And.intro Y24 (And.intro Y34 (Y36)))))))
  have hO := implObjOk_ok x hx
  rw [ho] at hO
  have h1 := putInt_ok [] x.1 (by simp)
  rw [List.nil_append] at h1
  have hp1 := putI_len x.1
  have h2 := putInts_ok (putI x.1) x.2.1 (by omega) hx.2.1.1
  have hp2 := putL_len x.2.1
  have hb5 : x.2.1.length ≤ 5 ∧ x.2.2.1.length ≤ 5 := objB_len ho
  have h3 := putInts_ok (putI x.1 ++ putL x.2.1) x.2.2.1 (by simp only [List.length_append]; omega) hx.2.2.1.1
  have hpo : putObj x = putI x.1 ++ putL x.2.1 ++ putL x.2.2.1 := rfl
  rw [hpo]
  generalize putI x.1 ++ putL x.2.1 = P2 at *
  generalize P2 ++ putL x.2.2.1 = P3 at *
  generalize putI x.1 = P1 at *
  have hC1 := cx [] (hO)
  have hC2 := cx [.own 1] (h1)
  have hC3 := cx [.own 1] (h2)
  have hC4 := cx [.own 1] (h3)
  have fy := Nat.add_zero
  have hD1 := dx 3 [3, 3, 3] [(4, 0), (7, 0), (7, 1)]
  refine goR ?_ ?_ ?_ ?_ ?_ ?_ ?_ ?_ ?_ ?_ ?_ ?_ ?_ ?_ ?_ ?_
  any_goals (first | exact True.intro | skip)
  all_goals (repeat (refine Wh.mk fun hcc => ?_))
  all_goals exact SW.ret (show RetQ _ _ _ _ _ _ _ from RetQ.y [1] [.ow 1 (P3.map Enc.o)])
def flagI (b : Bool) : Int := if b = true then 1 else 0
theorem flag_ok (b : Bool) : CallR Try.prog 67 [.bool b] [] (.int .i64 (flagI b)) := by
  refine CallR.of_body (n := 4) (rs := [.tmp 2]) hY.ok Try.func67 rfl (by decide) rfl rfl rfl rfl (fun F => ?_)
  have fx := And.intro Y3 (Y4)
  cases b
  · skip
    have fy := Nat.add_zero
    refine goK ?_ ?_ ?_ ?_ ?_ ?_ ?_ ?_ ?_ ?_ ?_ ?_ ?_ ?_ ?_ ?_
    any_goals (first | exact True.intro | skip)
    all_goals (repeat (refine Wh.mk fun hcc => ?_))
    all_goals rfl
  · skip
    have fy := Nat.add_zero
    refine goK ?_ ?_ ?_ ?_ ?_ ?_ ?_ ?_ ?_ ?_ ?_ ?_ ?_ ?_ ?_ ?_
    any_goals (first | exact True.intro | skip)
    all_goals (repeat (refine Wh.mk fun hcc => ?_))
    all_goals rfl
theorem iPutSlot_ok (b : List UInt8) (s : SlotT) (hs : Enc.lim 1048576 s) (hsb : slotB s = true) (hb : b.length ≤ 1048576) : CallR Try.prog 69 [.ow 1 (b.map Enc.o), .nd [.bool s.1, .nd [.int .i64 s.2.1.1, .sl .b (s.2.1.2.1.map Enc.b), .sl .b (s.2.1.2.2.1.map Enc.b)]]] [] (.ow 1 ((b ++ putSl s).map Enc.o)) := by
  refine CallR.of_body (n := 20) (rs := [.tmp 4]) hY.ok Try.func69 rfl (by decide) rfl rfl rfl rfl (fun F => ?_)
  have fx := And.intro Y1 (And.intro Y3 (And.intro Y4 (And.intro Y5 (And.intro Y24 (And.intro Y34 (And.intro Y36 (Y38)))))))
  obtain ⟨has, o, ⟨⟩⟩ := s
  unfold putSl
  simp only at hs ⊢
  cases has
  · have hP := putInt_ok b 0 (by omega)
    simp only [Bool.false_eq_true, if_false]
    have hC1 := cx [.own 1] (hP)
    have fy := Nat.add_zero
    refine goR ?_ ?_ ?_ ?_ ?_ ?_ ?_ ?_ ?_ ?_ ?_ ?_ ?_ ?_ ?_ ?_
    any_goals (first | exact True.intro | skip)
    all_goals (repeat (refine Wh.mk fun hcc => ?_))
    all_goals exact SW.ret (show RetQ _ _ _ _ _ _ _ from RetQ.y [1] [.ow 1 ((b ++ putI 0).map Enc.o)])
  · have hob : objB o = true := hsb
    have hO := iPutObj_y o hs.2.1 hob
    have hol := putObj_len hob
    simp only [if_true]
    generalize putObj o = p at *
    have hP := putInt_ok b p.length (by omega)
    have hpl := putI_len p.length
    rw [← List.append_assoc]
    have hl2 : (b ++ putI p.length).length ≤ 1048582 := by simp only [List.length_append]; omega
    generalize b ++ putI p.length = B2 at *
    have hap := fun (own_ e_ j_ e2_ j2_ : Nat) (H_ : Heap) (q1 : H_.at e_ j_ = some (.arr 1 ((B2).map Enc.o) false)) (q2 : H_.at e2_ j2_ = some (.arr 1 ((p).map Enc.o) false)) => append_runR (Y := Y) (own := own_) (t := 24) (u := 24) (e := e_) (j := j_) (off := 0) (n := (B2).length) (e2 := e2_) (j2 := j2_) (l := B2) (m := p) (H := H_) Y24 Y24 Y5 rfl (by decide) q1 q2 (by rw [List.drop_zero]; exact List.take_of_length_le (by simp)) (by simp) (by omega) rfl rfl
    have hC1 := cx [] (hO)
    have hC2 := cx [.own 1] (hP)
    have fy := hap
    refine goR ?_ ?_ ?_ ?_ ?_ ?_ ?_ ?_ ?_ ?_ ?_ ?_ ?_ ?_ ?_ ?_
    any_goals (first | exact True.intro | skip)
    all_goals (repeat (refine Wh.mk fun hcc => ?_))
    rw [show B2.length + p.length = (B2 ++ p).length by simp]
    generalize B2 ++ p = Z
    all_goals exact SW.ret (show RetQ _ _ _ _ _ _ _ from RetQ.y [1] [.ow 1 (Z.map Enc.o)])
end Q6

namespace Q6
open Go Go.Vm Go.Proofs
set_option maxHeartbeats 4000000
set_option synthInstance.maxSize 2000
set_option synthInstance.maxHeartbeats 400000
set_option maxRecDepth 10000
set_option linter.unusedSimpArgs false
set_option linter.unusedVariables false

open Go.By

theorem bs6_34 (own : Nat) (a0 a1 a2 a3 a4 a5 : Int) : buildSliceM Y own 34 6 [(0, .int .i64 a0), (1, .int .i64 a1), (2, .int .i64 a2), (3, .int .i64 a3), (4, .int .i64 a4), (5, .int .i64 a5)] = .pure { v := .ref own 0 0 6, news := [.arr 1 ([a0, a1, a2, a3, a4, a5].map Enc.o) false] } := rfl
def flagN (b : Bool) : Int := if b = true then 1 else 0
def putLv (t : LiveT) : List UInt8 := putI t.1 ++ putI t.2.1 ++ putI (flagN t.2.2.1)
def recNs (x : RecT) : List Int := [x.1, x.2.1, x.2.2.1, x.2.2.2.1, x.2.2.2.2.1, x.2.2.2.2.2.2.2.1]
def putRec (x : RecT) : List UInt8 := (recNs x).flatMap putI ++ putSl x.2.2.2.2.2.1 ++ putSl x.2.2.2.2.2.2.1 ++ putI x.2.2.2.2.2.2.2.2.1.length ++ x.2.2.2.2.2.2.2.2.1.flatMap putLv
theorem recB_txs {x : RecT} (h : recB x = true) : x.2.2.2.2.2.2.2.2.1.length ≤ 20 := by
  unfold recB at h
  simp only [Bool.and_eq_true] at h
  obtain ⟨_, h⟩ := h
  split at h
  · unfold livesB at h
    simp only [Bool.and_eq_true, decide_eq_true_eq] at h
    exact h.2.2
  · simp only [Bool.and_eq_true, decide_eq_true_eq] at h
    omega
theorem recB_slots {x : RecT} (h : recB x = true) : slotB x.2.2.2.2.2.1 = true ∧ slotB x.2.2.2.2.2.2.1 = true := by
  have hn1 := @noSlot_slot x.2.2.2.2.2.1
  have hn2 := @noSlot_slot x.2.2.2.2.2.2.1
  unfold recB at h
  simp only [Bool.and_eq_true] at h
  obtain ⟨_, h⟩ := h
  split at h
  · simp only [Bool.and_eq_true] at h
    exact ⟨hn1 h.1.1.2.1.2, hn2 h.1.1.2.2⟩
  · simp only [Bool.and_eq_true] at h
    obtain ⟨_, h⟩ := h
    split at h
    · simp only [Bool.and_eq_true] at h; exact ⟨h.1.1.2, h.1.2⟩
    · split at h
      · simp only [Bool.and_eq_true] at h; exact ⟨hn1 h.1.1.2, h.1.2⟩
      · split at h
        · simp only [Bool.and_eq_true] at h; exact ⟨hn1 h.1.1.2, hn2 h.1.2⟩
        · cases h
theorem putLv_len (t : LiveT) : (putLv t).length ≤ 18 := by
  have h1 := putI_len t.1
  have h2 := putI_len t.2.1
  have h3 := putI_len (flagN t.2.2.1)
  unfold putLv; simp only [List.length_append]; omega
theorem putLvs_len : ∀ l : List LiveT, (l.flatMap putLv).length ≤ 18 * l.length
  | [] => by simp
  | x :: l => by have := putLvs_len l; have := putLv_len x; simp only [List.flatMap_cons, List.length_append, List.length_cons]; omega

theorem sPutRec_n (x : RecT) (hx : Enc.lim 1048576 x) (ho : recB x = false) : CallR Try.prog 59 [.nd [.int .i64 x.1, .int .i64 x.2.1, .int .i64 x.2.2.1, .int .i64 x.2.2.2.1, .int .i64 x.2.2.2.2.1, .nd [.bool x.2.2.2.2.2.1.1, .nd [.int .i64 x.2.2.2.2.2.1.2.1.1, .sl .b (x.2.2.2.2.2.1.2.1.2.1.map Enc.b), .sl .b (x.2.2.2.2.2.1.2.1.2.2.1.map Enc.b)]], .nd [.bool x.2.2.2.2.2.2.1.1, .nd [.int .i64 x.2.2.2.2.2.2.1.2.1.1, .sl .b (x.2.2.2.2.2.2.1.2.1.2.1.map Enc.b), .sl .b (x.2.2.2.2.2.2.1.2.1.2.2.1.map Enc.b)]], .int .i64 x.2.2.2.2.2.2.2.1, .sl .b (x.2.2.2.2.2.2.2.2.1.map Enc.b)]] [] (.ow 1 (([] : List UInt8).map Enc.o)) := by
  refine CallR.of_body (n := 78) (rs := [.tmp 2]) hY.ok Try.func59 rfl (by decide) rfl rfl rfl rfl (fun F => ?_)
  have fx := And.intro Y1 (And.intro Y2 (And.intro Y3 (And.intro Y4 (And.intro Y5 (And.intro Y6 (And.intro Y7 (And.intro Y8 (And.intro Y24 (And.intro Y34 (And.intro Y36 (And.intro Y38 (And.intro Y39 (And.intro Y41 (Y91))))))))))))))
  have hO := specRecOk_ok x hx
  rw [ho] at hO
  have hC1 := cx [] (hO)
  have fy := bs0_24
  have hD1 := dx 9 [4, 3, 4] [(5, 0), (8, 0), (8, 1)]
  have hD2 := dx 16 [8, 7, 2] [(9, 0), (11, 0), (13, 0)]
  refine goR ?_ ?_ ?_ ?_ ?_ ?_ ?_ ?_ ?_ ?_ ?_ ?_ ?_ ?_ ?_ ?_
  any_goals (first | exact True.intro | skip)
  all_goals (repeat (refine Wh.mk fun hcc => ?_))
  all_goals exact SW.ret (show RetQ _ _ _ _ _ _ _ from RetQ.y [1] [.ow 1 []])
theorem sPutRec_y (x : RecT) (hx : Enc.lim 1048576 x) (ho : recB x = true) : CallR Try.prog 59 [.nd [.int .i64 x.1, .int .i64 x.2.1, .int .i64 x.2.2.1, .int .i64 x.2.2.2.1, .int .i64 x.2.2.2.2.1, .nd [.bool x.2.2.2.2.2.1.1, .nd [.int .i64 x.2.2.2.2.2.1.2.1.1, .sl .b (x.2.2.2.2.2.1.2.1.2.1.map Enc.b), .sl .b (x.2.2.2.2.2.1.2.1.2.2.1.map Enc.b)]], .nd [.bool x.2.2.2.2.2.2.1.1, .nd [.int .i64 x.2.2.2.2.2.2.1.2.1.1, .sl .b (x.2.2.2.2.2.2.1.2.1.2.1.map Enc.b), .sl .b (x.2.2.2.2.2.2.1.2.1.2.2.1.map Enc.b)]], .int .i64 x.2.2.2.2.2.2.2.1, .sl .b (x.2.2.2.2.2.2.2.2.1.map Enc.b)]] [] (.ow 1 ((putRec x).map Enc.o)) := by
  refine CallR.of_body (n := 78) (rs := [.tmp 2]) hY.ok Try.func59 rfl (by decide) rfl rfl rfl rfl (fun F => ?_)
  have fx := And.intro Y1 (And.intro Y2 (And.intro Y3 (And.intro Y4 (And.intro Y5 (And.intro Y6 (And.intro Y7 (And.intro Y8 (And.intro Y24 (And.intro Y34 (And.intro Y36 (And.intro Y38 (And.intro Y39 (And.intro Y41 (Y91))))))))))))))
  have hO := specRecOk_ok x hx
  rw [ho] at hO
  have ht := recB_txs ho
  obtain ⟨hs1, hs2⟩ := recB_slots ho
  have hns : (recNs x).length = 6 := rfl
  have hp0 : ∀ l : List Int, (l.flatMap putI).length ≤ 6 * l.length := putF_len
  have hC1 := cx [] (hO)
  have fy := And.intro bs0_24 (bs6_34)
  have hD1 := dx 9 [4, 3, 4] [(5, 0), (8, 0), (8, 1)]
  have hD2 := dx 16 [8, 7, 2] [(9, 0), (11, 0), (13, 0)]
  refine goR ?_ ?_ ?_ ?_ ?_ ?_ ?_ ?_ ?_ ?_ ?_ ?_ ?_ ?_ ?_ ?_
  any_goals (first | exact True.intro | skip)
  all_goals (repeat (refine Wh.mk fun hcc => ?_))
  refine SW.loop (fun x_ : Nat × List UInt8 => ⟨[.undef, .ptr 1 0 [] 0, .undef, .ref 2 0 0 x_.2.length, .ref 3 0 0 6, .int .i64 (x_.1 : Nat), .undef, .undef, .undef, .undef, .undef, .undef, .undef, .undef, .undef, .undef, .undef, .undef, .undef, .undef, .undef, .undef, .undef, .undef, .undef, .undef, .undef, .undef, .undef, .undef, .undef, .undef, .undef, .undef, .undef, .undef, .undef, .undef, .undef, .undef, .undef, .undef, .undef, .undef, .undef, .undef, .undef, .undef, .undef, .undef, .undef, .undef, .undef, .undef, .undef, .undef, .undef, .undef, .undef, .undef, .undef, .undef, .undef, .undef, .undef, .undef, .undef, .undef, .undef, .undef, .undef, .undef, .undef, .undef, .undef, .undef, .undef, .undef], [[], [.var (.nd [.int .i64 x.1, .int .i64 x.2.1, .int .i64 x.2.2.1, .int .i64 x.2.2.2.1, .int .i64 x.2.2.2.2.1, .nd [.bool x.2.2.2.2.2.1.1, .nd [.int .i64 x.2.2.2.2.2.1.2.1.1, .sl .b (x.2.2.2.2.2.1.2.1.2.1.map Enc.b), .sl .b (x.2.2.2.2.2.1.2.1.2.2.1.map Enc.b)]], .nd [.bool x.2.2.2.2.2.2.1.1, .nd [.int .i64 x.2.2.2.2.2.2.1.2.1.1, .sl .b (x.2.2.2.2.2.2.1.2.1.2.1.map Enc.b), .sl .b (x.2.2.2.2.2.2.1.2.1.2.2.1.map Enc.b)]], .int .i64 x.2.2.2.2.2.2.2.1, .sl .b (x.2.2.2.2.2.2.2.2.1.map Enc.b)])], [.arr 1 (x_.2.map Enc.o) false], [.arr 1 ((recNs x).map Enc.o) false]]⟩)
    (fun N x_ => N = 6 - x_.1 ∧ x_.1 ≤ 6 ∧ x_.2 = ((recNs x).take x_.1).flatMap putI) (n := 6) (x := (0, [])) (Norm.re [0, 1, 3, 4] (by decide) rfl (by simp [-List.map_append, heapFits, rowFits, obFits, T.ren, renL, recNs]) (by simp [tmFits, T.ren])) ⟨rfl, by decide, rfl⟩ ?_
  rintro N ⟨i, acc⟩ ⟨hN, hi, hac⟩
  simp only at hN hi hac ⊢
  have hacl : acc.length ≤ 36 := by
    rw [hac]
    have h1 := hp0 ((recNs x).take i)
    have h2 : ((recNs x).take i).length ≤ 6 := by rw [List.length_take]; omega
    omega
  have fy := And.intro bs0_24 (bs6_34)
  refine goS ?_
  refine SW.cond rfl (fun hc => ?_) (fun hc => ?_)
  · have hlt : i < 6 := by simp at hc; omega
    have hlt' : i < (recNs x).length := hlt
    have hg : ((recNs x).map Enc.o)[i]? = some (.int .i64 ((recNs x)[i])) := map_get Enc.o (recNs x) i hlt'
    have hltI : (i : Int) < ((6 : Nat) : Int) := by omega
    have hwi : IntKind.i64.wrap ((i : Int) + 1) = ((i + 1 : Nat) : Int) := by rw [wrap64 _ (by omega) (by omega)]; omega
    have h1 := PutInt_ok acc (recNs x)[i] (by omega)
    have hz0 : (0 : Int) ≤ (i : Int) := by omega
    have hni : 0 + i < (recNs x).length := by omega
    have hC1 := cx [] (h1)
    have fy := And.intro hg (And.intro hwi (hltI))
    have hD1 := dx 9 [4, 3, 4] [(5, 0), (8, 0), (8, 1)]
    have hD2 := dx 16 [8, 7, 2] [(9, 0), (11, 0), (13, 0)]
    refine goN ?_ ?_ ?_ ?_ ?_ ?_ ?_ ?_ ?_ ?_ ?_ ?_ ?_ ?_ ?_ ?_
    any_goals (first | exact True.intro | skip)
    skip
    refine ⟨N - 1, (i + 1, acc ++ putI (recNs x)[i]), by omega, ⟨by simp only; omega, by simp only; omega, ?_⟩, ?_⟩
    · simp only; rw [hac, List.take_succ_eq_append_getElem hlt', List.flatMap_append]; simp only [List.flatMap_cons, List.flatMap_nil, List.append_nil]
    · exact Norm.re [0, 1, 4, 3] (by decide) rfl (by first | (simp only [eq_self, heapFits, rowFits, obFits, List.getElem?_cons_zero, List.getElem?_cons_succ, renL_o, renL_b, true_and, and_true, and_self]; done) | simp [-List.map_append, heapFits, rowFits, obFits, T.ren, renL]) (by simp [tmFits, T.ren])
  · have hge : i = 6 := by
      have : ¬ i < 6 := by simp at hc; omega
      omega
    subst hge
    have hacc : acc = (recNs x).flatMap putI := hac
    have hP1 := sPutSlot_ok acc x.2.2.2.2.2.1 hx.2.2.2.2.2.1 hs1 (by omega)
    have hl1 := putSl_len hs1
    have hl2 := putSl_len hs2
    have hP2 := sPutSlot_ok (acc ++ putSl x.2.2.2.2.2.1) x.2.2.2.2.2.2.1 hx.2.2.2.2.2.2.1 hs2 (by simp only [List.length_append]; omega)
    have hP3 := PutInt_ok (acc ++ putSl x.2.2.2.2.2.1 ++ putSl x.2.2.2.2.2.2.1) x.2.2.2.2.2.2.2.2.1.length (by simp only [List.length_append]; omega)
    have hl3 := putI_len x.2.2.2.2.2.2.2.2.1.length
    have hB : (acc ++ putSl x.2.2.2.2.2.1 ++ putSl x.2.2.2.2.2.2.1 ++ putI x.2.2.2.2.2.2.2.2.1.length).length ≤ 210 := by simp only [List.length_append]; omega
    have hres : putRec x = acc ++ putSl x.2.2.2.2.2.1 ++ putSl x.2.2.2.2.2.2.1 ++ putI x.2.2.2.2.2.2.2.2.1.length ++ x.2.2.2.2.2.2.2.2.1.flatMap putLv := by unfold putRec; rw [hacc]
    rw [hres]
    generalize acc ++ putSl x.2.2.2.2.2.1 ++ putSl x.2.2.2.2.2.2.1 ++ putI x.2.2.2.2.2.2.2.2.1.length = B at *
    generalize acc ++ putSl x.2.2.2.2.2.1 ++ putSl x.2.2.2.2.2.2.1 = B2 at *
    generalize acc ++ putSl x.2.2.2.2.2.1 = B1 at *
    have hC1 := cx [] (hP1)
    have hC2 := cx [] (hP2)
    have hC3 := cx [] (hP3)
    have fy := Nat.add_zero
    have hD1 := dx 9 [4, 3, 4] [(5, 0), (8, 0), (8, 1)]
    have hD2 := dx 16 [8, 7, 2] [(9, 0), (11, 0), (13, 0)]
    refine goN ?_ ?_ ?_ ?_ ?_ ?_ ?_ ?_ ?_ ?_ ?_ ?_ ?_ ?_ ?_ ?_
    any_goals (first | exact True.intro | skip)
    skip
    refine SW.loop (fun x_ : Nat × List UInt8 => ⟨[.undef, .ptr 1 0 [] 0, .undef, .ref 2 0 0 x_.2.length, .undef, .undef, .int .i64 (x_.1 : Nat), .undef, .undef, .undef, .undef, .undef, .undef, .undef, .undef, .undef, .undef, .undef, .undef, .undef, .undef, .undef, .undef, .undef, .undef, .undef, .undef, .undef, .undef, .undef, .undef, .undef, .undef, .undef, .undef, .undef, .undef, .undef, .undef, .undef, .undef, .undef, .undef, .undef, .undef, .undef, .undef, .undef, .undef, .undef, .undef, .undef, .undef, .undef, .undef, .undef, .undef, .undef, .undef, .undef, .undef, .undef, .undef, .undef, .undef, .undef, .undef, .undef, .undef, .undef, .undef, .undef, .undef, .undef, .undef, .undef, .undef, .undef], [[], [.var (.nd [.int .i64 x.1, .int .i64 x.2.1, .int .i64 x.2.2.1, .int .i64 x.2.2.2.1, .int .i64 x.2.2.2.2.1, .nd [.bool x.2.2.2.2.2.1.1, .nd [.int .i64 x.2.2.2.2.2.1.2.1.1, .sl .b (x.2.2.2.2.2.1.2.1.2.1.map Enc.b), .sl .b (x.2.2.2.2.2.1.2.1.2.2.1.map Enc.b)]], .nd [.bool x.2.2.2.2.2.2.1.1, .nd [.int .i64 x.2.2.2.2.2.2.1.2.1.1, .sl .b (x.2.2.2.2.2.2.1.2.1.2.1.map Enc.b), .sl .b (x.2.2.2.2.2.2.1.2.1.2.2.1.map Enc.b)]], .int .i64 x.2.2.2.2.2.2.2.1, .sl .b (x.2.2.2.2.2.2.2.2.1.map Enc.b)])], [.arr 1 (x_.2.map Enc.o) false]]⟩)
      (fun N x_ => N = x.2.2.2.2.2.2.2.2.1.length - x_.1 ∧ x_.1 ≤ x.2.2.2.2.2.2.2.2.1.length ∧ x_.2 = B ++ (x.2.2.2.2.2.2.2.2.1.take x_.1).flatMap putLv) (n := x.2.2.2.2.2.2.2.2.1.length) (x := (0, B)) (Norm.re [0, 1, 6] (by decide) rfl (by first | (simp only [eq_self, heapFits, rowFits, obFits, List.getElem?_cons_zero, List.getElem?_cons_succ, renL_o, renL_b, true_and, and_true, and_self]; done) | simp [-List.map_append, heapFits, rowFits, obFits, T.ren, renL]) (by simp [tmFits, T.ren])) ⟨rfl, Nat.zero_le _, by simp⟩ ?_
    skip
    rintro N ⟨i, ac2⟩ ⟨hN, hi, hac⟩
    simp only at hN hi hac ⊢
    have hacl : ac2.length ≤ 210 + 18 * 20 := by
      have h1 := putLvs_len (x.2.2.2.2.2.2.2.2.1.take i)
      have h2 : (x.2.2.2.2.2.2.2.2.1.take i).length ≤ 20 := by rw [List.length_take]; omega
      rw [hac]; simp only [List.length_append]; omega
    have fy := Nat.add_zero
    refine goS ?_
    refine SW.cond rfl (fun hc => ?_) (fun hc => ?_)
    · have hlt : i < x.2.2.2.2.2.2.2.2.1.length := by simp at hc; omega
      have hg : (x.2.2.2.2.2.2.2.2.1.map Enc.b)[i]? = some (.nd [.int .i64 x.2.2.2.2.2.2.2.2.1[i].1, .int .i64 x.2.2.2.2.2.2.2.2.1[i].2.1, .bool x.2.2.2.2.2.2.2.2.1[i].2.2.1]) := map_get Enc.b x.2.2.2.2.2.2.2.2.1 i hlt
      have hltI : (i : Int) < (x.2.2.2.2.2.2.2.2.1.length : Int) := by omega
      have hwi : IntKind.i64.wrap ((i : Int) + 1) = ((i + 1 : Nat) : Int) := by rw [wrap64 _ (by omega) (by omega)]; omega
      have h1 := PutInt_ok ac2 x.2.2.2.2.2.2.2.2.1[i].1 (by omega)
      have l1 := putI_len x.2.2.2.2.2.2.2.2.1[i].1
      have h2 := PutInt_ok (ac2 ++ putI x.2.2.2.2.2.2.2.2.1[i].1) x.2.2.2.2.2.2.2.2.1[i].2.1 (by simp only [List.length_append]; omega)
      have l2 := putI_len x.2.2.2.2.2.2.2.2.1[i].2.1
      have h3 := PutInt_ok (ac2 ++ putI x.2.2.2.2.2.2.2.2.1[i].1 ++ putI x.2.2.2.2.2.2.2.2.1[i].2.1) (flagN x.2.2.2.2.2.2.2.2.1[i].2.2.1) (by simp only [List.length_append]; omega)
      have hnx : ac2 ++ putI x.2.2.2.2.2.2.2.2.1[i].1 ++ putI x.2.2.2.2.2.2.2.2.1[i].2.1 ++ putI (flagN x.2.2.2.2.2.2.2.2.1[i].2.2.1) = B ++ (x.2.2.2.2.2.2.2.2.1.take (i + 1)).flatMap putLv := by
        rw [hac, List.take_succ_eq_append_getElem hlt, List.flatMap_append]; simp only [List.flatMap_cons, List.flatMap_nil, List.append_nil, putLv, List.append_assoc]
      generalize ac2 ++ putI x.2.2.2.2.2.2.2.2.1[i].1 ++ putI x.2.2.2.2.2.2.2.2.1[i].2.1 ++ putI (flagN x.2.2.2.2.2.2.2.2.1[i].2.2.1) = D3 at *
      generalize ac2 ++ putI x.2.2.2.2.2.2.2.2.1[i].1 ++ putI x.2.2.2.2.2.2.2.2.1[i].2.1 = D2 at *
      generalize ac2 ++ putI x.2.2.2.2.2.2.2.2.1[i].1 = D1 at *
      rcases hfl : x.2.2.2.2.2.2.2.2.1[i].2.2.1 with _ | _
      · rw [hfl] at hg h3
        simp only [flagN, Bool.false_eq_true, if_false, if_true] at h3
        have hC1 := cx [] (h1)
        have hC2 := cx [] (h2)
        have hC3 := cx [] (h3)
        have fy := And.intro hg (And.intro hwi (hltI))
        have hD1 := dx 9 [4, 3, 4] [(5, 0), (8, 0), (8, 1)]
        have hD2 := dx 16 [8, 7, 2] [(9, 0), (11, 0), (13, 0)]
        refine goR ?_ ?_ ?_ ?_ ?_ ?_ ?_ ?_ ?_ ?_ ?_ ?_ ?_ ?_ ?_ ?_
        any_goals (first | exact True.intro | skip)
        all_goals (repeat (refine Wh.mk fun hcc => ?_))
        refine ⟨N - 1, (i + 1, D3), by omega, ⟨by simp only; omega, by simp only; omega, hnx⟩, ?_⟩
        exact Norm.re [0, 1, 5] (by decide) rfl (by first | (simp only [eq_self, heapFits, rowFits, obFits, List.getElem?_cons_zero, List.getElem?_cons_succ, renL_o, renL_b, true_and, and_true, and_self]; done) | simp [-List.map_append, heapFits, rowFits, obFits, T.ren, renL]) (by simp [tmFits, T.ren])
      · rw [hfl] at hg h3
        simp only [flagN, Bool.false_eq_true, if_false, if_true] at h3
        have hC1 := cx [] (h1)
        have hC2 := cx [] (h2)
        have hC3 := cx [] (h3)
        have fy := And.intro hg (And.intro hwi (hltI))
        have hD1 := dx 9 [4, 3, 4] [(5, 0), (8, 0), (8, 1)]
        have hD2 := dx 16 [8, 7, 2] [(9, 0), (11, 0), (13, 0)]
        refine goR ?_ ?_ ?_ ?_ ?_ ?_ ?_ ?_ ?_ ?_ ?_ ?_ ?_ ?_ ?_ ?_
        any_goals (first | exact True.intro | skip)
        all_goals (repeat (refine Wh.mk fun hcc => ?_))
        refine ⟨N - 1, (i + 1, D3), by omega, ⟨by simp only; omega, by simp only; omega, hnx⟩, ?_⟩
        exact Norm.re [0, 1, 5] (by decide) rfl (by first | (simp only [eq_self, heapFits, rowFits, obFits, List.getElem?_cons_zero, List.getElem?_cons_succ, renL_o, renL_b, true_and, and_true, and_self]; done) | simp [-List.map_append, heapFits, rowFits, obFits, T.ren, renL]) (by simp [tmFits, T.ren])
    · have hge : i = x.2.2.2.2.2.2.2.2.1.length := by
        have : ¬ i < x.2.2.2.2.2.2.2.2.1.length := by simp at hc; omega
        omega
      subst hge
      rw [List.take_length] at hac
      rw [← hac]
      have fy := Nat.add_zero
      have hD1 := dx 9 [4, 3, 4] [(5, 0), (8, 0), (8, 1)]
      have hD2 := dx 16 [8, 7, 2] [(9, 0), (11, 0), (13, 0)]
      refine goR ?_ ?_ ?_ ?_ ?_ ?_ ?_ ?_ ?_ ?_ ?_ ?_ ?_ ?_ ?_ ?_
      any_goals (first | exact True.intro | skip)
      all_goals (repeat (refine Wh.mk fun hcc => ?_))
      all_goals exact SW.ret (show RetQ _ _ _ _ _ _ _ from RetQ.y [1] [.ow 1 (ac2.map Enc.o)])
end Q6

namespace Q6
open Go Go.Vm Go.Proofs
set_option maxHeartbeats 4000000
set_option synthInstance.maxSize 2000
set_option synthInstance.maxHeartbeats 400000
set_option maxRecDepth 10000
set_option linter.unusedSimpArgs false
set_option linter.unusedVariables false

theorem implRecOk_ok (x : RecT) (hx : Enc.lim 1048576 x) : CallR Try.prog 24 [.nd [.int .i64 x.1, .int .i64 x.2.1, .int .i64 x.2.2.1, .int .i64 x.2.2.2.1, .int .i64 x.2.2.2.2.1, .nd [.bool x.2.2.2.2.2.1.1, .nd [.int .i64 x.2.2.2.2.2.1.2.1.1, .sl .b (x.2.2.2.2.2.1.2.1.2.1.map Enc.b), .sl .b (x.2.2.2.2.2.1.2.1.2.2.1.map Enc.b)]], .nd [.bool x.2.2.2.2.2.2.1.1, .nd [.int .i64 x.2.2.2.2.2.2.1.2.1.1, .sl .b (x.2.2.2.2.2.2.1.2.1.2.1.map Enc.b), .sl .b (x.2.2.2.2.2.2.1.2.1.2.2.1.map Enc.b)]], .int .i64 x.2.2.2.2.2.2.2.1, .sl .b (x.2.2.2.2.2.2.2.2.1.map Enc.b)]] [] (.bool (recB x)) := by
  refine CallR.of_body (n := 121) (rs := [.tmp 2]) hY.ok Try.func24 rfl (by decide) rfl rfl rfl rfl (fun F => ?_)
  have fx := And.intro Y1 (And.intro Y2 (And.intro Y3 (And.intro Y4 (And.intro Y5 (And.intro Y6 (And.intro Y7 (And.intro Y8 (And.intro Y34 (And.intro Y36 (And.intro Y38 (And.intro Y39 (And.intro Y41 (Y91)))))))))))))
  have hq1 : (x.2.1 == 0) = decide (x.2.1 = 0) := rfl
  have hq2 : (x.2.2.1 == 0) = decide (x.2.2.1 = 0) := rfl
  have hq3 : (x.2.2.2.2.1 == 0) = decide (x.2.2.2.2.1 = 0) := rfl
  have hq4 : (x.2.2.2.2.2.2.2.1 == 0) = decide (x.2.2.2.2.2.2.2.1 = 0) := rfl
  have hq5 : decide ((x.2.2.2.2.2.2.2.2.1.length : Int) > 0) = !decide (x.2.2.2.2.2.2.2.2.1.length = 0) := by
    by_cases h : x.2.2.2.2.2.2.2.2.1.length = 0
    · simp [h]
    · have : (x.2.2.2.2.2.2.2.2.1.length : Int) > 0 := by omega
      rw [decide_eq_true this]; simp [h]
  have hk6 : (x.2.2.2.1 == 6) = decide (x.2.2.2.1 = 6) := rfl
  have hk1 : (x.2.2.2.1 == 1) = decide (x.2.2.2.1 = 1) := rfl
  have hk2 : (x.2.2.2.1 == 2) = decide (x.2.2.2.1 = 2) := rfl
  have hk3 : (x.2.2.2.1 == 3) = decide (x.2.2.2.1 = 3) := rfl
  have hk4 : (x.2.2.2.1 == 4) = decide (x.2.2.2.1 = 4) := rfl
  have hk5 : (x.2.2.2.1 == 5) = decide (x.2.2.2.1 = 5) := rfl
  cases hL : rng x.1 1 1000000
  · have hI := inR_ok x.1 1 1000000
    rw [hL] at hI
    have hC1 := cx [] (hI)
    have fy := Nat.add_zero
    refine goK ?_ ?_ ?_ ?_ ?_ ?_ ?_ ?_ ?_ ?_ ?_ ?_ ?_ ?_ ?_ ?_
    any_goals (first | exact True.intro | skip)
    all_goals (repeat (refine Wh.mk fun hcc => ?_))
    all_goals (simp only [tupOf, fixEs, recB, hL]; rfl)
  · have hI := inR_ok x.1 1 1000000
    rw [hL] at hI
    have hb := hL
    unfold rng at hb
    simp only [Bool.and_eq_true, decide_eq_true_eq] at hb
    have hw : IntKind.i64.wrap (x.1 - 1) = x.1 - 1 := wrap64 _ (by omega) (by omega)
    have hA := noSlot_ok x.2.2.2.2.2.1
    have hB := noSlot_ok x.2.2.2.2.2.2.1
    have hA' : CallR Try.prog 80 [.nd [.bool x.2.2.2.2.2.1.1, .nd [.int .i64 x.2.2.2.2.2.1.2.1.1, .sl .b (x.2.2.2.2.2.1.2.1.2.1.map Enc.b), .sl .b (x.2.2.2.2.2.1.2.1.2.2.1.map Enc.b)]]] [] (.bool (noSlotB x.2.2.2.2.2.1)) := hA
    have hB' : CallR Try.prog 80 [.nd [.bool x.2.2.2.2.2.2.1.1, .nd [.int .i64 x.2.2.2.2.2.2.1.2.1.1, .sl .b (x.2.2.2.2.2.2.1.2.1.2.1.map Enc.b), .sl .b (x.2.2.2.2.2.2.1.2.1.2.2.1.map Enc.b)]]] [] (.bool (noSlotB x.2.2.2.2.2.2.1)) := hB
    have hV := livesOk_ok x.2.2.2.2.2.2.2.2.1 x.1 hx.2.2.2.2.2.2.2.2.1.1 (by omega) (by omega)
    have hT := isTx_ok x.2.1
    have hP := inR_ok x.2.2.1 0 (x.1 - 1)
    have hN := inR_ok x.2.2.2.2.2.2.2.1 0 (x.1 - 1)
    have hO : CallR Try.prog 83 [.int .i64 x.2.2.2.2.1] [] (.bool (rng x.2.2.2.2.1 1 31)) := oid_ok x.2.2.2.2.1
    have hSA := slotOk_ok x.2.2.2.2.2.1 hx.2.2.2.2.2.1
    have hSB := slotOk_ok x.2.2.2.2.2.2.1 hx.2.2.2.2.2.2.1
    have hG1 := fun u1 u2 u3 => inR_ok u1 u2 u3
    have hC1 := cx [] (hA')
    have hC2 := cx [] (hB')
    have hC3 := cx [] (hV)
    have hC4 := cx [] (hT)
    have hC5 := cx [] (hO)
    have hC6 := cx [] (hSA)
    have hC7 := cx [] (hSB)
    have fy := And.intro hL (And.intro hq1 (And.intro hq2 (And.intro hq3 (And.intro hq4 (And.intro hq5 (And.intro hk1 (And.intro hk2 (And.intro hk3 (And.intro hk4 (And.intro hk5 (And.intro hk6 (hw))))))))))))
    refine goK ?_ ?_ ?_ ?_ ?_ ?_ ?_ ?_ ?_ ?_ ?_ ?_ ?_ ?_ ?_ ?_
    any_goals (first | exact True.intro | skip)
    all_goals (repeat (refine Wh.mk fun hcc => ?_))
    all_goals (try simp only [tupOf, fixEs])
    all_goals (simp only [recB, hL, Bool.true_and])
    all_goals first | rfl | (simp_all; done) | grind
end Q6

namespace Q6
open Go Go.Vm Go.Proofs
set_option maxHeartbeats 4000000
set_option synthInstance.maxSize 2000
set_option synthInstance.maxHeartbeats 400000
set_option maxRecDepth 10000
set_option linter.unusedSimpArgs false
set_option linter.unusedVariables false

open Go.By

/-! ### draws: a cursor, and what comes of it -/
def xr (a b : Int) : Int := IntKind.i64.wrap ((BitVec.ofInt IntKind.i64.bits a ^^^ BitVec.ofInt IntKind.i64.bits b).toNat : Int)
def an (a b : Int) : Int := IntKind.i64.wrap ((BitVec.ofInt IntKind.i64.bits a &&& BitVec.ofInt IntKind.i64.bits b).toNat : Int)
def sr (a k : Int) : Int := a.fdiv (2 ^ (min k.toNat IntKind.i64.bits))
theorem xr_eq (a b : Int) : IntKind.i64.wrap ((BitVec.ofInt IntKind.i64.bits a ^^^ BitVec.ofInt IntKind.i64.bits b).toNat : Int) = xr a b := rfl
theorem an_eq (a b : Int) : IntKind.i64.wrap ((BitVec.ofInt IntKind.i64.bits a &&& BitVec.ofInt IntKind.i64.bits b).toNat : Int) = an a b := rfl
theorem sr_eq (a k : Int) : a.fdiv (2 ^ (min k.toNat IntKind.i64.bits)) = sr a k := rfl
theorem an_rng (a : Int) (b : Nat) (hb : b < 2 ^ 62) : 0 ≤ an a b ∧ an a b ≤ b := by
  unfold an
  have h : (BitVec.ofInt IntKind.i64.bits a &&& BitVec.ofInt IntKind.i64.bits (b : Int)).toNat ≤ b := by
    rw [BitVec.toNat_and]
    refine Nat.le_trans Nat.and_le_right ?_
    rw [show IntKind.i64.bits = 64 from rfl, BitVec.ofInt_natCast, BitVec.toNat_ofNat]
    exact Nat.mod_le _ _
  rw [wrap64 _ (by omega) (by omega)]
  omega
theorem an_255 (a : Int) : 0 ≤ an a 255 ∧ an a 255 ≤ 255 := an_rng a 255 (by decide)
def hs1 (h : Int) : Int := IntKind.i64.wrap (IntKind.i64.wrap (h * 6364136223846793005) + 1442695040888963407)
def hx1 (h : Int) : Int := an (xr (sr (hs1 h) 33) (sr (hs1 h) 47)) 255

abbrev CS := Nat × Int
theorem byte_ok (l : List UInt8) (s : CS) (hl : l.length ≤ 1048576) (hi : s.1 ≤ l.length) : ∃ (s' : CS) (x : Int), s'.1 ≤ l.length ∧ (0 ≤ x ∧ x ≤ 255) ∧ CallR Try.prog 172 [.io (.nd [.sl .s (l.map Enc.b), .int .i64 (s.1 : Nat), .int .i64 s.2])] [.nd [.sl .s (l.map Enc.b), .int .i64 (s'.1 : Nat), .int .i64 s'.2]] (.int .i64 x) := by
  obtain ⟨i, h⟩ := s
  simp only at hi ⊢
  by_cases hlt : i < l.length
  · refine ⟨(i + 1, hs1 h), an (IntKind.i64.wrap (hx1 h + (l[i].toNat : Int))) 255, hlt, an_255 _, ?_⟩
    have hg : (l.map Enc.b)[i]? = some (T.int .u8 (l[i].toNat : Int)) := map_get Enc.b l i hlt
    have hbi := byte_i64 l[i]
    generalize l[i] = v at *
    have hd : decide ((i : Int) < (l.length : Int)) = true := by simp; omega
    have hwi : IntKind.i64.wrap ((i : Int) + 1) = ((i + 1 : Nat) : Int) := by rw [wrap64 _ (by omega) (by omega)]; omega
    refine CallR.of_body (n := 58) (rs := [.tmp 2]) hY.ok Try.func172 rfl (by decide) rfl rfl rfl rfl (fun F => ?_)
    have fx := And.intro Y1 (And.intro Y2 (And.intro Y3 (And.intro Y4 (And.intro Y5 (And.intro Y24 (And.intro Y87 (And.intro Y133 (Y139))))))))
    have e1 : IntKind.i64.wrap (IntKind.i64.wrap (h * 6364136223846793005) + 1442695040888963407) = hs1 h := rfl
    have e2 : an (xr (sr (hs1 h) 33) (sr (hs1 h) 47)) 255 = hx1 h := rfl
    have fy := And.intro xr_eq (And.intro an_eq (And.intro sr_eq (And.intro e1 (And.intro e2 (And.intro hd (And.intro hg (And.intro hbi (hwi))))))))
    refine goR ?_ ?_ ?_ ?_ ?_ ?_ ?_ ?_ ?_ ?_ ?_ ?_ ?_ ?_ ?_ ?_
    any_goals (first | exact True.intro | skip)
    all_goals (repeat (refine Wh.mk fun hcc => ?_))
    all_goals exact SW.ret (show RetQ _ _ _ _ _ _ _ from RetQ.y [0] [.int .i64 (an (IntKind.i64.wrap (hx1 h + (v.toNat : Int))) 255)])
  · have hge : i = l.length := by omega
    subst hge
    refine ⟨(l.length, hs1 h), hx1 h, Nat.le_refl _, an_255 _, ?_⟩
    have hd : decide ((l.length : Int) < (l.length : Int)) = false := by simp
    refine CallR.of_body (n := 58) (rs := [.tmp 2]) hY.ok Try.func172 rfl (by decide) rfl rfl rfl rfl (fun F => ?_)
    have fx := And.intro Y1 (And.intro Y2 (And.intro Y3 (And.intro Y4 (And.intro Y5 (And.intro Y24 (And.intro Y87 (And.intro Y133 (Y139))))))))
    have e1 : IntKind.i64.wrap (IntKind.i64.wrap (h * 6364136223846793005) + 1442695040888963407) = hs1 h := rfl
    have e2 : an (xr (sr (hs1 h) 33) (sr (hs1 h) 47)) 255 = hx1 h := rfl
    have fy := And.intro xr_eq (And.intro an_eq (And.intro sr_eq (And.intro e1 (And.intro e2 (hd)))))
    refine goR ?_ ?_ ?_ ?_ ?_ ?_ ?_ ?_ ?_ ?_ ?_ ?_ ?_ ?_ ?_ ?_
    any_goals (first | exact True.intro | skip)
    all_goals (repeat (refine Wh.mk fun hcc => ?_))
    all_goals exact SW.ret (show RetQ _ _ _ _ _ _ _ from RetQ.y [0] [.int .i64 (hx1 h)])
theorem below_ok (l : List UInt8) (s : CS) (hl : l.length ≤ 1048576) (hi : s.1 ≤ l.length) (n : Int) : ∃ (s' : CS) (x : Int), s'.1 ≤ l.length ∧ (0 ≤ x ∧ (0 < n → x < n)) ∧ CallR Try.prog 145 [.io (.nd [.sl .s (l.map Enc.b), .int .i64 (s.1 : Nat), .int .i64 s.2]), .int .i64 n] [.nd [.sl .s (l.map Enc.b), .int .i64 (s'.1 : Nat), .int .i64 s'.2]] (.int .i64 x) := by
  by_cases h0 : n ≤ 0
  · refine ⟨s, 0, hi, ⟨Int.le_refl _, fun h => by omega⟩, ?_⟩
    have hd0 : decide (n ≤ 0) = true := decide_eq_true h0
    refine CallR.of_body (n := 31) (rs := [.tmp 4]) hY.ok Try.func145 rfl (by decide) rfl rfl rfl rfl (fun F => ?_)
    have fx := And.intro Y3 (And.intro Y4 (Y87))
    have fy := hd0
    refine goR ?_ ?_ ?_ ?_ ?_ ?_ ?_ ?_ ?_ ?_ ?_ ?_ ?_ ?_ ?_ ?_
    any_goals (first | exact True.intro | skip)
    all_goals (repeat (refine Wh.mk fun hcc => ?_))
    all_goals exact SW.ret (show RetQ _ _ _ _ _ _ _ from RetQ.y [0] [.int .i64 0])
  have hd0 : decide (n ≤ 0) = false := decide_eq_false h0
  have hn0 : ¬ n = 0 := by omega
  obtain ⟨s1, x1, e1, p1, c1⟩ := byte_ok l s hl hi
  by_cases h1 : n ≤ 256
  · refine ⟨s1, x1.tmod n, e1, ⟨Int.tmod_nonneg _ p1.1, fun h => Int.tmod_lt_of_pos _ h⟩, ?_⟩
    have hd1 : decide (n ≤ 256) = true := decide_eq_true h1
    refine CallR.of_body (n := 31) (rs := [.tmp 4]) hY.ok Try.func145 rfl (by decide) rfl rfl rfl rfl (fun F => ?_)
    have fx := And.intro Y3 (And.intro Y4 (Y87))
    have hC1 := cx [.io] (c1)
    have fy := And.intro hd0 (And.intro hd1 (hn0))
    refine goR ?_ ?_ ?_ ?_ ?_ ?_ ?_ ?_ ?_ ?_ ?_ ?_ ?_ ?_ ?_ ?_
    any_goals (first | exact True.intro | skip)
    all_goals (repeat (refine Wh.mk fun hcc => ?_))
    all_goals exact SW.ret (show RetQ _ _ _ _ _ _ _ from RetQ.y [0] [.int .i64 (x1.tmod n)])
  have hd1 : decide (n ≤ 256) = false := decide_eq_false h1
  obtain ⟨s2, x2, e2, p2, c2⟩ := byte_ok l s1 hl e1
  obtain ⟨s3, x3, e3, p3, c3⟩ := byte_ok l s2 hl e2
  have w1 : IntKind.i64.wrap (x1 * 65536) = x1 * 65536 := wrap64 _ (by omega) (by omega)
  have w2 : IntKind.i64.wrap (x2 * 256) = x2 * 256 := wrap64 _ (by omega) (by omega)
  have w3 : IntKind.i64.wrap (x1 * 65536 + x2 * 256) = x1 * 65536 + x2 * 256 := wrap64 _ (by omega) (by omega)
  have w4 : IntKind.i64.wrap (x1 * 65536 + x2 * 256 + x3) = x1 * 65536 + x2 * 256 + x3 := wrap64 _ (by omega) (by omega)
  refine ⟨s3, (x1 * 65536 + x2 * 256 + x3).tmod n, e3, ⟨Int.tmod_nonneg _ (by omega), fun h => Int.tmod_lt_of_pos _ h⟩, ?_⟩
  refine CallR.of_body (n := 31) (rs := [.tmp 4]) hY.ok Try.func145 rfl (by decide) rfl rfl rfl rfl (fun F => ?_)
  have fx := And.intro Y3 (And.intro Y4 (Y87))
  have hC1 := cx [.io] (c1)
  have hC2 := cx [.io] (c2)
  have hC3 := cx [.io] (c3)
  have fy := And.intro hd0 (And.intro hd1 (And.intro hn0 (And.intro w1 (And.intro w2 (And.intro w3 (w4))))))
  refine goR ?_ ?_ ?_ ?_ ?_ ?_ ?_ ?_ ?_ ?_ ?_ ?_ ?_ ?_ ?_ ?_
  any_goals (first | exact True.intro | skip)
  all_goals (repeat (refine Wh.mk fun hcc => ?_))
  all_goals exact SW.ret (show RetQ _ _ _ _ _ _ _ from RetQ.y [0] [.int .i64 ((x1 * 65536 + x2 * 256 + x3).tmod n)])
theorem once_ok (l : List UInt8) (s : CS) (hl : l.length ≤ 1048576) (hi : s.1 ≤ l.length) (n : Int) : ∃ (s' : CS) (x : Bool), s'.1 ≤ l.length ∧ CallR Try.prog 91 [.io (.nd [.sl .s (l.map Enc.b), .int .i64 (s.1 : Nat), .int .i64 s.2]), .int .i64 n] [.nd [.sl .s (l.map Enc.b), .int .i64 (s'.1 : Nat), .int .i64 s'.2]] (.bool x) := by
  obtain ⟨s1, x1, e1, p1, c1⟩ := below_ok l s hl hi n
  refine ⟨s1, (x1 == 0), e1, ?_⟩
  refine CallR.of_body (n := 9) (rs := [.tmp 4]) hY.ok Try.func91 rfl (by decide) rfl rfl rfl rfl (fun F => ?_)
  have fx := And.intro Y3 (And.intro Y4 (Y87))
  have hC1 := cx [.io] (c1)
  have fy := Nat.add_zero
  refine goR ?_ ?_ ?_ ?_ ?_ ?_ ?_ ?_ ?_ ?_ ?_ ?_ ?_ ?_ ?_ ?_
  any_goals (first | exact True.intro | skip)
  all_goals (repeat (refine Wh.mk fun hcc => ?_))
  all_goals exact SW.ret (show RetQ _ _ _ _ _ _ _ from RetQ.y [0] [.bool (x1 == 0)])
theorem int_ok (l : List UInt8) (s : CS) (hl : l.length ≤ 1048576) (hi : s.1 ≤ l.length) (ns : List Int) (h0 : 0 < ns.length) (h1 : ns.length ≤ 1048576) : ∃ (s' : CS) (x : Int), s'.1 ≤ l.length ∧ x ∈ ns ∧ CallR Try.prog 92 [.io (.nd [.sl .s (l.map Enc.b), .int .i64 (s.1 : Nat), .int .i64 s.2]), .sl .b (ns.map Enc.b)] [.nd [.sl .s (l.map Enc.b), .int .i64 (s'.1 : Nat), .int .i64 s'.2]] (.int .i64 x) := by
  obtain ⟨s1, x1, e1, p1, c1⟩ := below_ok l s hl hi (ns.length : Int)
  obtain ⟨k, rfl⟩ : ∃ k : Nat, x1 = (k : Int) := ⟨x1.toNat, by omega⟩
  have hk : k < ns.length := by have := p1.2 (by omega); omega
  refine ⟨s1, ns[k], e1, List.getElem_mem hk, ?_⟩
  have hg : (ns.map Enc.b)[k]? = some (T.int .i64 ns[k]) := map_get Enc.b ns k hk
  refine CallR.of_body (n := 12) (rs := [.tmp 4]) hY.ok Try.func92 rfl (by decide) rfl rfl rfl rfl (fun F => ?_)
  have fx := And.intro Y3 (And.intro Y34 (Y87))
  have hC1 := cx [.io] (c1)
  have fy := hg
  refine goR ?_ ?_ ?_ ?_ ?_ ?_ ?_ ?_ ?_ ?_ ?_ ?_ ?_ ?_ ?_ ?_
  any_goals (first | exact True.intro | skip)
  all_goals (repeat (refine Wh.mk fun hcc => ?_))
  all_goals exact SW.ret (show RetQ _ _ _ _ _ _ _ from RetQ.y [0] [.int .i64 ns[k]])
theorem new_ok (l : List UInt8) (hl : l.length ≤ 1048576) : ∃ h : Int, CallR Try.prog 73 [.sl .s (l.map Enc.b)] [] (.fp (.io (.nd [.sl .s (l.map Enc.b), .int .i64 0, .int .i64 h]))) := by
  let st : List UInt8 → Int := fun m => m.foldl (fun h v => an (IntKind.i64.wrap (IntKind.i64.wrap (IntKind.i64.wrap (h * 137) + (v.toNat : Int)) + 11)) 1073741823) (IntKind.i64.wrap (278278 + (l.length : Int)))
  refine ⟨st (l.take 4000), ?_⟩
  refine CallR.of_body (n := 32) (rs := [.tmp 2]) hY.ok Try.func73 rfl (by decide) rfl rfl rfl rfl (fun F => ?_)
  have fx := And.intro Y2 (And.intro Y3 (And.intro Y4 (And.intro Y5 (And.intro Y24 (And.intro Y87 (Y139))))))
  have fy := Nat.add_zero
  refine goN ?_ ?_ ?_ ?_ ?_ ?_ ?_ ?_ ?_ ?_ ?_ ?_ ?_ ?_ ?_ ?_
  any_goals (first | exact True.intro | skip)
  skip
  refine SW.loop (fun i : Nat => ⟨[.sl .s (l.map Enc.b), .undef, .undef, .int .i64 (st (l.take i)), .int .i64 (i : Nat), .undef, .undef, .undef, .undef, .undef, .undef, .undef, .undef, .undef, .undef, .undef, .undef, .undef, .undef, .undef, .undef, .undef, .undef, .undef, .undef, .undef, .undef, .undef, .undef, .undef, .undef, .undef], [[]]⟩)
    (fun N i => N = l.length - i ∧ i ≤ l.length ∧ i ≤ 4000) (n := l.length) (x := 0) (Norm.to 0 rfl (by simp [weakL, st])) ⟨rfl, Nat.zero_le _, by decide⟩ ?_
  rintro N i ⟨hn, hi, hi4⟩
  have fy := Nat.add_zero
  refine goS ?_
  by_cases hgo : i < l.length ∧ i < 4000
  · obtain ⟨hlt, h4⟩ := hgo
    have hd1 : decide ((i : Int) < (l.length : Int)) = true := by simp; omega
    have hd2 : decide ((i : Int) < 4000) = true := by simp; omega
    have hg : (l.map Enc.b)[i]? = some (T.int .u8 (l[i].toNat : Int)) := map_get Enc.b l i hlt
    have hbi := byte_i64 l[i]
    have hst : st (l.take (i + 1)) = an (IntKind.i64.wrap (IntKind.i64.wrap (IntKind.i64.wrap (st (l.take i) * 137) + (l[i].toNat : Int)) + 11)) 1073741823 := by
      show List.foldl _ _ _ = _
      rw [List.take_add_one, List.getElem?_eq_getElem hlt, List.foldl_append]; rfl
    generalize l[i] = v at *
    have hwi : IntKind.i64.wrap ((i : Int) + 1) = ((i + 1 : Nat) : Int) := by rw [wrap64 _ (by omega) (by omega)]; omega
    generalize st (List.take i l) = c at *
    have fy := And.intro hd1 (And.intro hd2 (And.intro hg (And.intro hbi (And.intro hwi (an_eq)))))
    refine goR ?_ ?_ ?_ ?_ ?_ ?_ ?_ ?_ ?_ ?_ ?_ ?_ ?_ ?_ ?_ ?_
    any_goals (first | exact True.intro | skip)
    all_goals (repeat (refine Wh.mk fun hcc => ?_))
    all_goals first | (exfalso; simp at hcc; done) | (exfalso; simp at hcc; omega) | skip
    refine ⟨N - 1, i + 1, by omega, ⟨by omega, by omega, by omega⟩, ?_⟩
    rw [hst]
    exact Norm.to 0 rfl (by simp [weakL])
  · have hd : (decide ((i : Int) < (l.length : Int)) && decide ((i : Int) < 4000)) = false := by simp; omega
    have hfin : st (l.take 4000) = st (l.take i) := by
      by_cases h4 : i = 4000
      · rw [h4]
      · have : i = l.length := by omega
        rw [this, List.take_length, List.take_of_length_le (by omega)]
    rw [hfin]
    generalize st (List.take i l) = c at *
    cases hd1 : decide ((i : Int) < (l.length : Int))
    · skip
      have fy := hd1
      refine goR ?_ ?_ ?_ ?_ ?_ ?_ ?_ ?_ ?_ ?_ ?_ ?_ ?_ ?_ ?_ ?_
      any_goals (first | exact True.intro | skip)
      all_goals (repeat (refine Wh.mk fun hcc => ?_))
      all_goals first | (exfalso; simp at hcc; done) | (exfalso; simp at hcc; omega) | exact SW.ret (show RetQ _ _ _ _ _ _ _ from RetQ.y [4294967295] [.fp (.io (.nd [.sl .s (l.map Enc.b), .int .i64 0, .int .i64 c]))])
    · have hd2 : decide ((i : Int) < 4000) = false := by rw [hd1] at hd; simpa using hd
      have fy := And.intro hd1 (hd2)
      refine goR ?_ ?_ ?_ ?_ ?_ ?_ ?_ ?_ ?_ ?_ ?_ ?_ ?_ ?_ ?_ ?_
      any_goals (first | exact True.intro | skip)
      all_goals (repeat (refine Wh.mk fun hcc => ?_))
      all_goals first | (exfalso; simp [hd2] at hcc; done) | (exfalso; simp at hcc; done) | (exfalso; simp at hcc; omega) | exact SW.ret (show RetQ _ _ _ _ _ _ _ from RetQ.y [4294967295] [.fp (.io (.nd [.sl .s (l.map Enc.b), .int .i64 0, .int .i64 c]))])
end Q6

namespace Q6
open Go Go.Vm Go.Proofs
set_option maxHeartbeats 4000000
set_option synthInstance.maxSize 2000
set_option synthInstance.maxHeartbeats 400000
set_option maxRecDepth 10000
set_option linter.unusedSimpArgs false
set_option linter.unusedVariables false

open Go.By

/-! ### draws as functions -/
noncomputable def pick {α : Type} [Inhabited α] (P : CS × α → Prop) : CS × α := by
  classical
  exact if h : ∃ x, P x then Classical.choose h else ((0, 0), default)
theorem pick_spec {α : Type} [Inhabited α] {P : CS × α → Prop} (h : ∃ x, P x) : P (pick P) := by
  unfold pick
  rw [dif_pos h]
  exact Classical.choose_spec h
noncomputable def belowF (l : List UInt8) (s : CS) (n : Int) : CS × Int := pick fun x => x.1.1 ≤ l.length ∧ (0 ≤ x.2 ∧ (0 < n → x.2 < n)) ∧ CallR Try.prog 145 [.io (.nd [.sl .s (l.map Enc.b), .int .i64 (s.1 : Nat), .int .i64 s.2]), .int .i64 n] [.nd [.sl .s (l.map Enc.b), .int .i64 (x.1.1 : Nat), .int .i64 x.1.2]] (.int .i64 x.2)
theorem belowF_ok (l : List UInt8) (s : CS) (n : Int) (hl : l.length ≤ 1048576) (hi : s.1 ≤ l.length) : (belowF l s n).1.1 ≤ l.length ∧ (0 ≤ (belowF l s n).2 ∧ (0 < n → (belowF l s n).2 < n)) ∧ CallR Try.prog 145 [.io (.nd [.sl .s (l.map Enc.b), .int .i64 (s.1 : Nat), .int .i64 s.2]), .int .i64 n] [.nd [.sl .s (l.map Enc.b), .int .i64 (((belowF l s n).1).1 : Nat), .int .i64 ((belowF l s n).1).2]] (.int .i64 (belowF l s n).2) :=
  pick_spec (P := fun x => x.1.1 ≤ l.length ∧ (0 ≤ x.2 ∧ (0 < n → x.2 < n)) ∧ CallR Try.prog 145 [.io (.nd [.sl .s (l.map Enc.b), .int .i64 (s.1 : Nat), .int .i64 s.2]), .int .i64 n] [.nd [.sl .s (l.map Enc.b), .int .i64 (x.1.1 : Nat), .int .i64 x.1.2]] (.int .i64 x.2)) (by
    obtain ⟨s', x, h1, h2, h3⟩ := below_ok l s hl hi n
    exact ⟨(s', x), h1, h2, h3⟩)
noncomputable def onceF (l : List UInt8) (s : CS) (n : Int) : CS × Bool := pick fun x => x.1.1 ≤ l.length ∧ CallR Try.prog 91 [.io (.nd [.sl .s (l.map Enc.b), .int .i64 (s.1 : Nat), .int .i64 s.2]), .int .i64 n] [.nd [.sl .s (l.map Enc.b), .int .i64 (x.1.1 : Nat), .int .i64 x.1.2]] (.bool x.2)
theorem onceF_ok (l : List UInt8) (s : CS) (n : Int) (hl : l.length ≤ 1048576) (hi : s.1 ≤ l.length) : (onceF l s n).1.1 ≤ l.length ∧ CallR Try.prog 91 [.io (.nd [.sl .s (l.map Enc.b), .int .i64 (s.1 : Nat), .int .i64 s.2]), .int .i64 n] [.nd [.sl .s (l.map Enc.b), .int .i64 (((onceF l s n).1).1 : Nat), .int .i64 ((onceF l s n).1).2]] (.bool (onceF l s n).2) :=
  pick_spec (P := fun x => x.1.1 ≤ l.length ∧ CallR Try.prog 91 [.io (.nd [.sl .s (l.map Enc.b), .int .i64 (s.1 : Nat), .int .i64 s.2]), .int .i64 n] [.nd [.sl .s (l.map Enc.b), .int .i64 (x.1.1 : Nat), .int .i64 x.1.2]] (.bool x.2)) (by
    obtain ⟨s', x, h1, h3⟩ := once_ok l s hl hi n
    exact ⟨(s', x), h1, h3⟩)
noncomputable def intF (l : List UInt8) (s : CS) (ns : List Int) : CS × Int := pick fun x => x.1.1 ≤ l.length ∧ x.2 ∈ ns ∧ CallR Try.prog 92 [.io (.nd [.sl .s (l.map Enc.b), .int .i64 (s.1 : Nat), .int .i64 s.2]), .sl .b (ns.map Enc.b)] [.nd [.sl .s (l.map Enc.b), .int .i64 (x.1.1 : Nat), .int .i64 x.1.2]] (.int .i64 x.2)
theorem intF_ok (l : List UInt8) (s : CS) (ns : List Int) (hl : l.length ≤ 1048576) (hi : s.1 ≤ l.length) (h0 : 0 < ns.length) (h1 : ns.length ≤ 1048576) : (intF l s ns).1.1 ≤ l.length ∧ (intF l s ns).2 ∈ ns ∧ CallR Try.prog 92 [.io (.nd [.sl .s (l.map Enc.b), .int .i64 (s.1 : Nat), .int .i64 s.2]), .sl .b (ns.map Enc.b)] [.nd [.sl .s (l.map Enc.b), .int .i64 (((intF l s ns).1).1 : Nat), .int .i64 ((intF l s ns).1).2]] (.int .i64 (intF l s ns).2) :=
  pick_spec (P := fun x => x.1.1 ≤ l.length ∧ x.2 ∈ ns ∧ CallR Try.prog 92 [.io (.nd [.sl .s (l.map Enc.b), .int .i64 (s.1 : Nat), .int .i64 s.2]), .sl .b (ns.map Enc.b)] [.nd [.sl .s (l.map Enc.b), .int .i64 (x.1.1 : Nat), .int .i64 x.1.2]] (.int .i64 x.2)) (by
    obtain ⟨s', x, h1, h2, h3⟩ := int_ok l s hl hi ns h0 h1
    exact ⟨(s', x), h1, h2, h3⟩)
theorem buildN {Y : TypeId → TyI} {own t el by' n : Nat} {k : Ty} {ps : List (Nat × T)} {r : List T} (h1 : Y t = ⟨.sl el, 1, 24⟩) (h2 : Y el = ⟨k, 1, by'⟩) (h3 : k.isFn = false) (hn : n * 1 ≤ 2 ^ 24)
    (hs : setAll (plAr 1) (List.replicate n (zeroT Y 9 el)) ps = some r) :
    buildSliceM Y own t n ps = .pure { v := .ref own 0 0 n, news := [.arr 1 r false] } := by
  simp only [buildSliceM, h1, h2, h3]
  rw [if_pos ⟨by decide, hn, trivial⟩, hs]
/-! objects -/
noncomputable def oIntsF (l : List UInt8) : Nat → CS → List Int → CS × List Int
  | 0, s, acc => (s, acc)
  | n + 1, s, acc => oIntsF l n (intF l (belowF l s 50).1 [0, 1, -1, 7, 1000000, -1000000, (belowF l s 50).2]).1 (acc ++ [(intF l (belowF l s 50).1 [0, 1, -1, 7, 1000000, -1000000, (belowF l s 50).2]).2])
noncomputable def oRefsF (l : List UInt8) : Nat → CS → List Int → CS × List Int
  | 0, s, acc => (s, acc)
  | n + 1, s, acc => oRefsF l n (intF l (belowF l s 32).1 [0, 1, 2, 3, 5, 8, 12, 31, (belowF l s 32).2]).1 (acc ++ [(intF l (belowF l s 32).1 [0, 1, 2, 3, 5, 8, 12, 31, (belowF l s 32).2]).2])
noncomputable def objF (l : List UInt8) (s : CS) : CS × ObjT :=
  let k := belowF l s 5; let n := belowF l k.1 3; let a := oIntsF l n.2.toNat n.1 []; let m := belowF l a.1 4; let b := oRefsF l m.2.toNat m.1 []
  (b.1, (1 + k.2, a.2, b.2, ()))
theorem oIntsF_ok (l : List UInt8) (hl : l.length ≤ 1048576) : ∀ (n : Nat) (s : CS) (acc : List Int), s.1 ≤ l.length → (∀ x ∈ acc, intB x = true) →
    (oIntsF l n s acc).1.1 ≤ l.length ∧ (∀ x ∈ (oIntsF l n s acc).2, intB x = true) ∧ (oIntsF l n s acc).2.length = acc.length + n
  | 0, s, acc, h, ha => ⟨h, ha, rfl⟩
  | n + 1, s, acc, h, ha => by
    obtain ⟨b1, b2, _⟩ := belowF_ok l s 50 hl h
    obtain ⟨c1, c2, _⟩ := intF_ok l (belowF l s 50).1 [0, 1, -1, 7, 1000000, -1000000, (belowF l s 50).2] hl b1 (by simp) (by simp)
    have ih := oIntsF_ok l hl n _ (acc ++ [(intF l (belowF l s 50).1 [0, 1, -1, 7, 1000000, -1000000, (belowF l s 50).2]).2]) c1 (by
      intro x hx
      rcases List.mem_append.1 hx with hx | hx
      · exact ha x hx
      · simp only [List.mem_singleton] at hx
        subst hx
        have h50 := b2.2 (by decide)
        simp only [List.mem_cons, List.not_mem_nil, or_false] at c2
        unfold intB
        simp only [Bool.and_eq_true, decide_eq_true_eq]
        omega)
    simp only [oIntsF]
    refine ⟨ih.1, ih.2.1, ?_⟩
    rw [ih.2.2, List.length_append]; simp; omega
theorem oRefsF_ok (l : List UInt8) (hl : l.length ≤ 1048576) : ∀ (n : Nat) (s : CS) (acc : List Int), s.1 ≤ l.length → (∀ x ∈ acc, refB x = true) →
    (oRefsF l n s acc).1.1 ≤ l.length ∧ (∀ x ∈ (oRefsF l n s acc).2, refB x = true) ∧ (oRefsF l n s acc).2.length = acc.length + n
  | 0, s, acc, h, ha => ⟨h, ha, rfl⟩
  | n + 1, s, acc, h, ha => by
    obtain ⟨b1, b2, _⟩ := belowF_ok l s 32 hl h
    obtain ⟨c1, c2, _⟩ := intF_ok l (belowF l s 32).1 [0, 1, 2, 3, 5, 8, 12, 31, (belowF l s 32).2] hl b1 (by simp) (by simp)
    have ih := oRefsF_ok l hl n _ (acc ++ [(intF l (belowF l s 32).1 [0, 1, 2, 3, 5, 8, 12, 31, (belowF l s 32).2]).2]) c1 (by
      intro x hx
      rcases List.mem_append.1 hx with hx | hx
      · exact ha x hx
      · simp only [List.mem_singleton] at hx
        subst hx
        have h50 := b2.2 (by decide)
        simp only [List.mem_cons, List.not_mem_nil, or_false] at c2
        unfold refB
        simp only [Bool.and_eq_true, decide_eq_true_eq]
        omega)
    simp only [oRefsF]
    refine ⟨ih.1, ih.2.1, ?_⟩
    rw [ih.2.2, List.length_append]; simp; omega
theorem objF_ok (l : List UInt8) (s : CS) (hl : l.length ≤ 1048576) (hi : s.1 ≤ l.length) : (objF l s).1.1 ≤ l.length ∧ objB (objF l s).2 = true := by
  unfold objF
  simp only
  obtain ⟨a1, a2, _⟩ := belowF_ok l s 5 hl hi
  obtain ⟨b1, b2, _⟩ := belowF_ok l _ 3 hl a1
  obtain ⟨c1, c2, c3⟩ := oIntsF_ok l hl (belowF l (belowF l s 5).1 3).2.toNat _ [] b1 (by simp)
  obtain ⟨d1, d2, _⟩ := belowF_ok l _ 4 hl c1
  obtain ⟨e1, e2, e3⟩ := oRefsF_ok l hl (belowF l (oIntsF l (belowF l (belowF l s 5).1 3).2.toNat (belowF l (belowF l s 5).1 3).1 []).1 4).2.toNat _ [] d1 (by simp)
  refine ⟨e1, ?_⟩
  have h5 := a2.2 (by decide)
  have h3 := b2.2 (by decide)
  have h4 := d2.2 (by decide)
  unfold objB
  simp only [Bool.and_eq_true, decide_eq_true_eq, List.all_eq_true]
  simp only [List.length_nil, Nat.zero_add] at c3 e3
  refine ⟨⟨⟨⟨⟨by omega, by omega⟩, by omega⟩, by omega⟩, c2⟩, e2⟩

end Q6

namespace Q6
open Go Go.Vm Go.Proofs
set_option maxHeartbeats 4000000
set_option synthInstance.maxSize 2000
set_option synthInstance.maxHeartbeats 400000
set_option maxRecDepth 10000
set_option linter.unusedSimpArgs false
set_option linter.unusedVariables false

open Go.By
theorem objW_ok (l : List UInt8) (s : CS) (hl : l.length ≤ 1048576) (hi : s.1 ≤ l.length) : CallR Try.prog 147 [.io (.nd [.sl .s (l.map Enc.b), .int .i64 (s.1 : Nat), .int .i64 s.2])] [.nd [.sl .s (l.map Enc.b), .int .i64 (((objF l s).1).1 : Nat), .int .i64 ((objF l s).1).2]] (.nd [.int .i64 (((objF l s).2).1), .ow 1 ((((objF l s).2).2.1).map Enc.o), .ow 1 ((((objF l s).2).2.2.1).map Enc.o)]) := by
  refine CallR.of_body (n := 43) (rs := [.cell 2 36]) hY.ok Try.func147 rfl (by decide) rfl rfl rfl rfl (fun F => ?_)
  have fx := And.intro Y1 (And.intro Y2 (And.intro Y3 (And.intro Y4 (And.intro Y5 (And.intro Y6 (And.intro Y7 (And.intro Y8 (And.intro Y9 (And.intro Y34 (And.intro Y36 (Y87)))))))))))
  unfold objF
  simp only
  obtain ⟨e1, p1, c1⟩ := belowF_ok l s 5 hl hi
  generalize belowF l s 5 = k at *
  obtain ⟨e2, p2, c2⟩ := belowF_ok l k.1 3 hl e1
  generalize belowF l k.1 3 = n at *
  obtain ⟨s2, n2⟩ := n
  simp only at e2 p2 c2 ⊢
  obtain ⟨N0, rfl⟩ : ∃ N0 : Nat, n2 = (N0 : Int) := ⟨n2.toNat, by omega⟩
  have hN0 : N0 ≤ 2 := by have := p2.2 (by decide); omega
  rw [Int.toNat_natCast]
  have hk5 := p1.2 (by decide)
  have hwk : IntKind.i64.wrap (1 + k.2) = 1 + k.2 := wrap64 _ (by omega) (by omega)
  have hA := oIntsF_ok l hl N0 s2 [] e2 (by simp)
  generalize hT1 : oIntsF l N0 s2 [] = T1 at *
  have hC1 := cx [.io] (c1)
  have hC2 := cx [.io] (c2)
  have fy := hwk
  have hD1 := dx 5 [5, 1, 1, 1, 1, 2] [(1, 1), (1, 2), (1, 3), (1, 4)]
  have hD2 := dx 9 [5, 1, 1, 1, 1, 2] [(1, 1), (1, 2), (1, 3), (1, 4)]
  refine goN ?_ ?_ ?_ ?_ ?_ ?_ ?_ ?_ ?_ ?_ ?_ ?_ ?_ ?_ ?_ ?_
  any_goals (first | exact True.intro | skip)
  skip
  refine SW.loop (fun x : Nat × CS × List Int => ⟨[.ptr 0 0 [] 0, .undef, .ptr 1 0 [] 0, .ptr 2 0 [] 0, .int .i64 (x.1 : Nat), .undef, .undef, .undef, .undef, .undef, .undef, .undef, .undef, .undef, .undef, .undef, .undef, .undef, .undef, .undef, .undef, .undef, .undef, .undef, .undef, .undef, .undef, .undef, .undef, .undef, .undef, .undef, .undef, .undef, .undef, .undef, .undef, .undef, .undef, .undef, .undef, .undef, .undef], [[.var (.nd [.sl .s (l.map Enc.b), .int .i64 (x.2.1.1 : Nat), .int .i64 x.2.1.2])], [.var (.nd [.int .i64 0, .nils 1, .nils 1])], [.var (.nd [.int .i64 (1 + k.2), .ref 3 0 0 x.2.2.length, .nils 1])], [.arr 1 (x.2.2.map Enc.o) false]]⟩)
    (fun N x => N = x.1 ∧ x.1 + x.2.2.length = N0 ∧ x.2.1.1 ≤ l.length ∧ oIntsF l x.1 x.2.1 x.2.2 = T1) (n := N0) (x := (N0, s2, [])) ?_ ⟨rfl, by simp, e2, hT1⟩ ?_
  · skip
    refine Norm.trans (Norm.forget (u := .nd [.int .i64 (1 + k.2), .ow 1 [], .nils 1]) 3 0 rfl (.inr ⟨_, rfl, ⟨_, _, rfl, rfl, ⟨_, _, rfl, .inr (.inr rfl), ⟨_, _, rfl, .inl rfl, rfl⟩⟩⟩⟩)) ?_
    simp only [Heap.put, List.getElem?_cons_zero, List.getElem?_cons_succ, List.set_cons_succ, List.set_cons_zero]
    refine Norm.trans (Norm.expelVar 3 0 rfl) ?_
    simp only [Heap.put, List.getElem?_cons_zero, List.getElem?_cons_succ, List.set_cons_succ, List.set_cons_zero, thawA, thawAL, List.length_cons, List.length_nil, Nat.reduceAdd, List.nil_append, List.append_nil, List.cons_append, Nat.zero_add]
    exact Norm.re [0, 1, 3, 5] (by decide) rfl (by first | (simp only [eq_self, heapFits, rowFits, obFits, List.getElem?_cons_zero, List.getElem?_cons_succ, renL_o, renL_b, true_and, and_true, and_self]; done) | simp [-List.map_append, heapFits, rowFits, obFits, T.ren, renL]) (by simp [tmFits, T.ren])
  rintro N ⟨r, s', acc⟩ ⟨hN, hr, hs, hT⟩
  simp only at hN hr hs hT ⊢
  have fy := Nat.add_zero
  refine goS ?_
  refine SW.cond rfl (fun hc => ?_) (fun hc => ?_)
  · have hpos : 0 < r := by simp at hc; omega
    obtain ⟨r, rfl⟩ : ∃ r', r = r' + 1 := ⟨r - 1, by omega⟩
    simp only [oIntsF] at hT
    obtain ⟨f1, q1, d1⟩ := belowF_ok l s' 50 hl hs
    generalize belowF l s' 50 = y at *
    obtain ⟨f2, q2, d2'⟩ := intF_ok l y.1 [0, 1, -1, 7, 1000000, -1000000, y.2] hl f1 (by simp) (by simp)
    have d2 : CallR Try.prog 92 [.io (.nd [.sl .s (l.map Enc.b), .int .i64 (y.1.1 : Nat), .int .i64 y.1.2]), .sl .b [.int .i64 0, .int .i64 1, .int .i64 (-1), .int .i64 7, .int .i64 1000000, .int .i64 (-1000000), .int .i64 y.2]] [.nd [.sl .s (l.map Enc.b), .int .i64 (((intF l y.1 [0, 1, -1, 7, 1000000, -1000000, y.2]).1).1 : Nat), .int .i64 ((intF l y.1 [0, 1, -1, 7, 1000000, -1000000, y.2]).1).2]] (.int .i64 (intF l y.1 [0, 1, -1, 7, 1000000, -1000000, y.2]).2) := d2'
    clear d2' q2
    generalize intF l y.1 [0, 1, -1, 7, 1000000, -1000000, y.2] = z at *
    have hwr : IntKind.i64.wrap (((r + 1 : Nat) : Int) - 1) = (r : Int) := by rw [wrap64 _ (by omega) (by omega)]; omega
    have hb7 := fun own => buildN (Y := Y) (own := own) (t := 34) (n := 7) (ps := [(0, .int .i64 0), (1, .int .i64 1), (2, .int .i64 (-1)), (3, .int .i64 7), (4, .int .i64 1000000), (5, .int .i64 (-1000000)), (6, .int .i64 y.2)]) (r := [.int .i64 0, .int .i64 1, .int .i64 (-1), .int .i64 7, .int .i64 1000000, .int .i64 (-1000000), .int .i64 y.2]) Y34 Y3 rfl (by decide) rfl
    have hap := fun (own e j e2 j2 : Nat) (H : Heap) (q1 : H.at e j = some (.arr 1 ((acc).map Enc.o) false)) (q2 : H.at e2 j2 = some (.arr 1 [.int .i64 z.2] false)) => append_runP (Y := Y) (own := own) (t := 34) (u := 34) (e := e) (j := j) (off := 0) (n := (acc).length) (e2 := e2) (j2 := j2) (f := (acc).map Enc.o) (l := acc) (x := z.2) (H := H) Y34 Y34 Y3 rfl (by decide) q1 q2 (by rw [List.drop_zero]; exact take_map_len _ _) (by simp) (by omega) rfl rfl
    have hC1 := cx [.io] (d1)
    have hC2 := cx [.io] (d2)
    have fy := And.intro hwr (And.intro hb7 (And.intro bs1_34 (hap)))
    have hD1 := dx 5 [5, 1, 1, 1, 1, 2] [(1, 1), (1, 2), (1, 3), (1, 4)]
    have hD2 := dx 9 [5, 1, 1, 1, 1, 2] [(1, 1), (1, 2), (1, 3), (1, 4)]
    refine goR ?_ ?_ ?_ ?_ ?_ ?_ ?_ ?_ ?_ ?_ ?_ ?_ ?_ ?_ ?_ ?_
    any_goals (first | exact True.intro | skip)
    all_goals (repeat (refine Wh.mk fun hcc => ?_))
    refine ⟨N - 1, (r, z.1, acc ++ [z.2]), by omega, ⟨by simp only; omega, by simp only [List.length_append, List.length_cons, List.length_nil]; omega, f2, hT⟩, ?_⟩
    exact Norm.re [0, 1, 2, 8] (by decide) rfl (by first | (simp only [eq_self, heapFits, rowFits, obFits, List.getElem?_cons_zero, List.getElem?_cons_succ, renL_o, renL_b, true_and, and_true, and_self]; done) | simp [-List.map_append, heapFits, rowFits, obFits, T.ren, renL]) (by simp [tmFits, T.ren])
  · have hr0 : r = 0 := by
      have : ¬ 0 < r := by simp at hc; omega
      omega
    subst hr0
    simp only [oIntsF] at hT
    subst hT
    simp only at hA ⊢
    obtain ⟨hA1, hA2, hA3⟩ := hA
    obtain ⟨e3, p3, c3⟩ := belowF_ok l s' 4 hl hs
    generalize belowF l s' 4 = m at *
    obtain ⟨s3, m2⟩ := m
    simp only at e3 p3 c3 ⊢
    obtain ⟨M0, rfl⟩ : ∃ M0 : Nat, m2 = (M0 : Int) := ⟨m2.toNat, by omega⟩
    have hM0 : M0 ≤ 3 := by have := p3.2 (by decide); omega
    rw [Int.toNat_natCast]
    generalize hT2 : oRefsF l M0 s3 [] = T2 at *
    have hC1 := cx [.io] (c3)
    have fy := Nat.add_zero
    have hD1 := dx 5 [5, 1, 1, 1, 1, 2] [(1, 1), (1, 2), (1, 3), (1, 4)]
    have hD2 := dx 9 [5, 1, 1, 1, 1, 2] [(1, 1), (1, 2), (1, 3), (1, 4)]
    refine goN ?_ ?_ ?_ ?_ ?_ ?_ ?_ ?_ ?_ ?_ ?_ ?_ ?_ ?_ ?_ ?_
    any_goals (first | exact True.intro | skip)
    skip
    refine SW.loop (fun x : Nat × CS × List Int => ⟨[.ptr 0 0 [] 0, .undef, .ptr 1 0 [] 0, .ptr 2 0 [] 0, .undef, .int .i64 (x.1 : Nat), .undef, .undef, .undef, .undef, .undef, .undef, .undef, .undef, .undef, .undef, .undef, .undef, .undef, .undef, .undef, .undef, .undef, .undef, .undef, .undef, .undef, .undef, .undef, .undef, .undef, .undef, .undef, .undef, .undef, .undef, .undef, .undef, .undef, .undef, .undef, .undef, .undef], [[.var (.nd [.sl .s (l.map Enc.b), .int .i64 (x.2.1.1 : Nat), .int .i64 x.2.1.2])], [.var (.nd [.int .i64 0, .nils 1, .nils 1])], [.var (.nd [.int .i64 (1 + k.2), .ref 3 0 0 acc.length, .ref 4 0 0 x.2.2.length])], [.arr 1 (acc.map Enc.o) false], [.arr 1 (x.2.2.map Enc.o) false]]⟩)
      (fun N x => N = x.1 ∧ x.1 + x.2.2.length = M0 ∧ x.2.1.1 ≤ l.length ∧ oRefsF l x.1 x.2.1 x.2.2 = T2) (n := M0) (x := (M0, s3, [])) ?_ ⟨rfl, by simp, e3, hT2⟩ ?_
    · skip
      refine Norm.trans (Norm.forget (u := .nd [.int .i64 (1 + k.2), .ref 3 0 0 acc.length, .ow 1 []]) 2 0 rfl (.inr ⟨_, rfl, ⟨_, _, rfl, rfl, ⟨_, _, rfl, .inl rfl, ⟨_, _, rfl, .inr (.inr rfl), rfl⟩⟩⟩⟩)) ?_
      simp only [Heap.put, List.getElem?_cons_zero, List.getElem?_cons_succ, List.set_cons_succ, List.set_cons_zero]
      refine Norm.trans (Norm.expelVar 2 0 rfl) ?_
      simp only [Heap.put, List.getElem?_cons_zero, List.getElem?_cons_succ, List.set_cons_succ, List.set_cons_zero, thawA, thawAL, List.length_cons, List.length_nil, Nat.reduceAdd, List.nil_append, List.append_nil, List.cons_append, Nat.zero_add]
      exact Norm.re [0, 1, 2, 3, 5] (by decide) rfl (by first | (simp only [eq_self, heapFits, rowFits, obFits, List.getElem?_cons_zero, List.getElem?_cons_succ, renL_o, renL_b, true_and, and_true, and_self]; done) | simp [-List.map_append, heapFits, rowFits, obFits, T.ren, renL]) (by simp [tmFits, T.ren])
    rename_i s0
    rintro N ⟨r, s', acc2⟩ ⟨hN, hr, hs, hT⟩
    simp only at hN hr hs hT ⊢
    have fy := Nat.add_zero
    refine goS ?_
    refine SW.cond rfl (fun hc => ?_) (fun hc => ?_)
    · have hpos : 0 < r := by simp at hc; omega
      obtain ⟨r, rfl⟩ : ∃ r', r = r' + 1 := ⟨r - 1, by omega⟩
      simp only [oRefsF] at hT
      obtain ⟨f1, q1, d1⟩ := belowF_ok l s' 32 hl hs
      generalize belowF l s' 32 = y at *
      obtain ⟨f2, q2, d2'⟩ := intF_ok l y.1 [0, 1, 2, 3, 5, 8, 12, 31, y.2] hl f1 (by simp) (by simp)
      have d2 : CallR Try.prog 92 [.io (.nd [.sl .s (l.map Enc.b), .int .i64 (y.1.1 : Nat), .int .i64 y.1.2]), .sl .b [.int .i64 0, .int .i64 1, .int .i64 2, .int .i64 3, .int .i64 5, .int .i64 8, .int .i64 12, .int .i64 31, .int .i64 y.2]] [.nd [.sl .s (l.map Enc.b), .int .i64 (((intF l y.1 [0, 1, 2, 3, 5, 8, 12, 31, y.2]).1).1 : Nat), .int .i64 ((intF l y.1 [0, 1, 2, 3, 5, 8, 12, 31, y.2]).1).2]] (.int .i64 (intF l y.1 [0, 1, 2, 3, 5, 8, 12, 31, y.2]).2) := d2'
      clear d2' q2
      generalize intF l y.1 [0, 1, 2, 3, 5, 8, 12, 31, y.2] = z at *
      have hwr : IntKind.i64.wrap (((r + 1 : Nat) : Int) - 1) = (r : Int) := by rw [wrap64 _ (by omega) (by omega)]; omega
      have hb7 := fun own => buildN (Y := Y) (own := own) (t := 34) (n := 9) (ps := [(0, .int .i64 0), (1, .int .i64 1), (2, .int .i64 2), (3, .int .i64 3), (4, .int .i64 5), (5, .int .i64 8), (6, .int .i64 12), (7, .int .i64 31), (8, .int .i64 y.2)]) (r := [.int .i64 0, .int .i64 1, .int .i64 2, .int .i64 3, .int .i64 5, .int .i64 8, .int .i64 12, .int .i64 31, .int .i64 y.2]) Y34 Y3 rfl (by decide) rfl
      have hap := fun (own e j e2 j2 : Nat) (H : Heap) (q1 : H.at e j = some (.arr 1 ((acc2).map Enc.o) false)) (q2 : H.at e2 j2 = some (.arr 1 [.int .i64 z.2] false)) => append_runP (Y := Y) (own := own) (t := 34) (u := 34) (e := e) (j := j) (off := 0) (n := (acc2).length) (e2 := e2) (j2 := j2) (f := (acc2).map Enc.o) (l := acc2) (x := z.2) (H := H) Y34 Y34 Y3 rfl (by decide) q1 q2 (by rw [List.drop_zero]; exact take_map_len _ _) (by simp) (by omega) rfl rfl
      have hC1 := cx [.io] (d1)
      have hC2 := cx [.io] (d2)
      have fy := And.intro hwr (And.intro hb7 (And.intro bs1_34 (hap)))
      have hD1 := dx 5 [5, 1, 1, 1, 1, 2] [(1, 1), (1, 2), (1, 3), (1, 4)]
      have hD2 := dx 9 [5, 1, 1, 1, 1, 2] [(1, 1), (1, 2), (1, 3), (1, 4)]
      refine goR ?_ ?_ ?_ ?_ ?_ ?_ ?_ ?_ ?_ ?_ ?_ ?_ ?_ ?_ ?_ ?_
      any_goals (first | exact True.intro | skip)
      all_goals (repeat (refine Wh.mk fun hcc => ?_))
      refine ⟨N - 1, (r, z.1, acc2 ++ [z.2]), by omega, ⟨by simp only; omega, by simp only [List.length_append, List.length_cons, List.length_nil]; omega, f2, hT⟩, ?_⟩
      exact Norm.re [0, 1, 2, 3, 9] (by decide) rfl (by first | (simp only [eq_self, heapFits, rowFits, obFits, List.getElem?_cons_zero, List.getElem?_cons_succ, renL_o, renL_b, true_and, and_true, and_self]; done) | simp [-List.map_append, heapFits, rowFits, obFits, T.ren, renL]) (by simp [tmFits, T.ren])
    · have hr0 : r = 0 := by
        have : ¬ 0 < r := by simp at hc; omega
        omega
      subst hr0
      simp only [oRefsF] at hT
      subst hT
      have fy := Nat.add_zero
      have hD1 := dx 5 [5, 1, 1, 1, 1, 2] [(1, 1), (1, 2), (1, 3), (1, 4)]
      have hD2 := dx 9 [5, 1, 1, 1, 1, 2] [(1, 1), (1, 2), (1, 3), (1, 4)]
      refine goR ?_ ?_ ?_ ?_ ?_ ?_ ?_ ?_ ?_ ?_ ?_ ?_ ?_ ?_ ?_ ?_
      any_goals (first | exact True.intro | skip)
      all_goals (repeat (refine Wh.mk fun hcc => ?_))
      all_goals exact SW.ret (show RetQ _ _ _ _ _ _ _ from RetQ.y [0] [.nd [.int .i64 (1 + k.2), .ow 1 (acc.map Enc.o), .ow 1 (acc2.map Enc.o)]])
end Q6

namespace Q6
open Go Go.Vm Go.Proofs
set_option maxHeartbeats 4000000
set_option synthInstance.maxSize 2000
set_option synthInstance.maxHeartbeats 400000
set_option maxRecDepth 10000
set_option linter.unusedSimpArgs false
set_option linter.unusedVariables false

open Go.By

noncomputable def slotF (l : List UInt8) (s : CS) : CS × SlotT := if (onceF l s 3).2 = true then ((onceF l s 3).1, slot0') else ((objF l (onceF l s 3).1).1, (true, (objF l (onceF l s 3).1).2, ()))
theorem slotF_ok (l : List UInt8) (s : CS) (hl : l.length ≤ 1048576) (hi : s.1 ≤ l.length) : (slotF l s).1.1 ≤ l.length ∧ slotB (slotF l s).2 = true := by
  obtain ⟨e1, _⟩ := onceF_ok l s 3 hl hi
  unfold slotF
  split
  · exact ⟨e1, by unfold slot0' slotB noObjB; rfl⟩
  · obtain ⟨e2, h2⟩ := objF_ok l (onceF l s 3).1 hl e1
    exact ⟨e2, h2⟩
theorem slotB_lim {s : SlotT} (h : slotB s = true) : s.2.1.2.1.length ≤ 5 ∧ s.2.1.2.2.1.length ≤ 5 := by
  unfold slotB at h
  split at h
  · exact objB_len h
  · unfold noObjB at h
    simp only [Bool.and_eq_true, decide_eq_true_eq] at h
    omega
noncomputable def lvF (l : List UInt8) : Nat → Int → CS → List LiveT → CS × List LiveT
  | 0, _, s, acc => (s, acc)
  | n + 1, i, s, acc => if (onceF l s 2).2 = true then
      lvF l n (i + 1) (onceF l (belowF l (onceF l s 2).1 4).1 2).1 (acc ++ [(i, 1 + (belowF l (onceF l s 2).1 4).2, (onceF l (belowF l (onceF l s 2).1 4).1 2).2, ())])
    else lvF l n (i + 1) (onceF l s 2).1 acc
theorem lvF_ok (l : List UInt8) (hl : l.length ≤ 1048576) : ∀ (n : Nat) (i : Int) (s : CS) (acc : List LiveT), s.1 ≤ l.length → (lvF l n i s acc).1.1 ≤ l.length ∧ (lvF l n i s acc).2.length ≤ acc.length + n
  | 0, i, s, acc, h => ⟨h, Nat.le_refl _⟩
  | n + 1, i, s, acc, h => by
    obtain ⟨e1, _⟩ := onceF_ok l s 2 hl h
    unfold lvF
    split
    · obtain ⟨e2, _⟩ := belowF_ok l (onceF l s 2).1 4 hl e1
      obtain ⟨e3, _⟩ := onceF_ok l (belowF l (onceF l s 2).1 4).1 2 hl e2
      have ih := lvF_ok l hl n (i + 1) _ (acc ++ [(i, 1 + (belowF l (onceF l s 2).1 4).2, (onceF l (belowF l (onceF l s 2).1 4).1 2).2, ())]) e3
      refine ⟨ih.1, Nat.le_trans ih.2 ?_⟩
      rw [List.length_append]; simp; omega
    · have ih := lvF_ok l hl n (i + 1) _ acc e1
      exact ⟨ih.1, by omega⟩
noncomputable def recF (l : List UInt8) (s : CS) : CS × RecT :=
  let a := belowF l s 40; let b := belowF l a.1 4; let c := belowF l b.1 6; let p := intF l c.1 [0, 1, 4, 5 + a.2 - 1]
  if 1 + c.2 = 1 then
    let o := belowF l p.1 31; let s1 := slotF l o.1; let s2 := slotF l s1.1
    (s2.1, (5 + a.2, 1 + b.2, p.2, 1 + c.2, 1 + o.2, s1.2, s2.2, 0, [], ()))
  else if 1 + c.2 = 4 then
    let o := belowF l p.1 31; let s2 := slotF l o.1; let x := intF l s2.1 [0, 1, 5 + a.2 - 1]
    (x.1, (5 + a.2, 1 + b.2, p.2, 1 + c.2, 1 + o.2, slot0', s2.2, x.2, [], ()))
  else if 1 + c.2 = 6 then
    let t := lvF l 4 1 p.1 []
    (t.1, (5 + a.2, 0, 0, 1 + c.2, 0, slot0', slot0', 0, t.2, ()))
  else (p.1, (5 + a.2, 1 + b.2, p.2, 1 + c.2, 0, slot0', slot0', 0, [], ()))

theorem slotW_ok (l : List UInt8) (s : CS) (hl : l.length ≤ 1048576) (hi : s.1 ≤ l.length) : CallR Try.prog 90 [.io (.nd [.sl .s (l.map Enc.b), .int .i64 (s.1 : Nat), .int .i64 s.2])] [.nd [.sl .s (l.map Enc.b), .int .i64 (((slotF l s).1).1 : Nat), .int .i64 ((slotF l s).1).2]] (.nd [.bool (((slotF l s).2).1), .nd [.int .i64 ((((slotF l s).2).2.1).1), .ow 1 (((((slotF l s).2).2.1).2.1).map Enc.o), .ow 1 (((((slotF l s).2).2.1).2.2.1).map Enc.o)]]) := by
  refine CallR.of_body (n := 9) (rs := [.cell 2 38]) hY.ok Try.func90 rfl (by decide) rfl rfl rfl rfl (fun F => ?_)
  have fx := And.intro Y1 (And.intro Y3 (And.intro Y4 (And.intro Y34 (And.intro Y36 (And.intro Y38 (Y87))))))
  obtain ⟨e1, c1⟩ := onceF_ok l s 3 hl hi
  unfold slotF
  generalize onceF l s 3 = o at *
  obtain ⟨s1, b⟩ := o
  simp only at e1 c1 ⊢
  have c2 := objW_ok l s1 hl e1
  generalize objF l s1 = x at *
  cases b
  · simp only [Bool.false_eq_true, if_false, if_true]
    have hC1 := cx [.io] (c1)
    have hC2 := cx [.io] (c2)
    have fy := Nat.add_zero
    refine goR ?_ ?_ ?_ ?_ ?_ ?_ ?_ ?_ ?_ ?_ ?_ ?_ ?_ ?_ ?_ ?_
    any_goals (first | exact True.intro | skip)
    all_goals (repeat (refine Wh.mk fun hcc => ?_))
    all_goals exact SW.ret (show RetQ _ _ _ _ _ _ _ from RetQ.y [0] [.nd [.bool true, .nd [.int .i64 x.2.1, .ow 1 (x.2.2.1.map Enc.o), .ow 1 (x.2.2.2.1.map Enc.o)]]])
  · simp only [Bool.false_eq_true, if_false, if_true]
    unfold slot0'
    have hC1 := cx [.io] (c1)
    have hC2 := cx [.io] (c2)
    have fy := Nat.add_zero
    refine goR ?_ ?_ ?_ ?_ ?_ ?_ ?_ ?_ ?_ ?_ ?_ ?_ ?_ ?_ ?_ ?_
    any_goals (first | exact True.intro | skip)
    all_goals (repeat (refine Wh.mk fun hcc => ?_))
    all_goals exact SW.ret (show RetQ _ _ _ _ _ _ _ from RetQ.y [0] [.nd [.bool false, .nd [.int .i64 0, .ow 1 [], .ow 1 []]]])
theorem recW_ok (l : List UInt8) (s : CS) (hl : l.length ≤ 1048576) (hi : s.1 ≤ l.length) : CallR Try.prog 137 [.io (.nd [.sl .s (l.map Enc.b), .int .i64 (s.1 : Nat), .int .i64 s.2])] [.nd [.sl .s (l.map Enc.b), .int .i64 (((recF l s).1).1 : Nat), .int .i64 ((recF l s).1).2]] (.nd [.int .i64 (((recF l s).2).1), .int .i64 (((recF l s).2).2.1), .int .i64 (((recF l s).2).2.2.1), .int .i64 (((recF l s).2).2.2.2.1), .int .i64 (((recF l s).2).2.2.2.2.1), .nd [.bool ((((recF l s).2).2.2.2.2.2.1).1), .nd [.int .i64 (((((recF l s).2).2.2.2.2.2.1).2.1).1), .ow 1 ((((((recF l s).2).2.2.2.2.2.1).2.1).2.1).map Enc.o), .ow 1 ((((((recF l s).2).2.2.2.2.2.1).2.1).2.2.1).map Enc.o)]], .nd [.bool ((((recF l s).2).2.2.2.2.2.2.1).1), .nd [.int .i64 (((((recF l s).2).2.2.2.2.2.2.1).2.1).1), .ow 1 ((((((recF l s).2).2.2.2.2.2.2.1).2.1).2.1).map Enc.o), .ow 1 ((((((recF l s).2).2.2.2.2.2.2.1).2.1).2.2.1).map Enc.o)]], .int .i64 (((recF l s).2).2.2.2.2.2.2.2.1), .ow 3 ((((recF l s).2).2.2.2.2.2.2.2.2.1).map Enc.o)]) := by
  refine CallR.of_body (n := 75) (rs := [.cell 2 41]) hY.ok Try.func137 rfl (by decide) rfl rfl rfl rfl (fun F => ?_)
  have fx := And.intro Y1 (And.intro Y2 (And.intro Y3 (And.intro Y4 (And.intro Y5 (And.intro Y6 (And.intro Y7 (And.intro Y8 (And.intro Y34 (And.intro Y36 (And.intro Y38 (And.intro Y39 (And.intro Y41 (And.intro Y87 (Y91))))))))))))))
  unfold recF
  simp only
  obtain ⟨e1, p1, c1⟩ := belowF_ok l s 40 hl hi
  generalize belowF l s 40 = a at *
  obtain ⟨e2, p2, c2⟩ := belowF_ok l a.1 4 hl e1
  generalize belowF l a.1 4 = b at *
  obtain ⟨e3, p3, c3⟩ := belowF_ok l b.1 6 hl e2
  generalize belowF l b.1 6 = c at *
  have g1 := p1.2 (by decide)
  have g2 := p2.2 (by decide)
  have g3 := p3.2 (by decide)
  have w1 : IntKind.i64.wrap (5 + a.2) = 5 + a.2 := wrap64 _ (by omega) (by omega)
  have w2 : IntKind.i64.wrap (1 + b.2) = 1 + b.2 := wrap64 _ (by omega) (by omega)
  have w3 : IntKind.i64.wrap (1 + c.2) = 1 + c.2 := wrap64 _ (by omega) (by omega)
  have w4 : IntKind.i64.wrap (5 + a.2 - 1) = 5 + a.2 - 1 := wrap64 _ (by omega) (by omega)
  obtain ⟨ep, qp, dp'⟩ := intF_ok l c.1 [0, 1, 4, 5 + a.2 - 1] hl e3 (by simp) (by simp)
  have dp : CallR Try.prog 92 [.io (.nd [.sl .s (l.map Enc.b), .int .i64 (c.1.1 : Nat), .int .i64 c.1.2]), .sl .b [.int .i64 0, .int .i64 1, .int .i64 4, .int .i64 (5 + a.2 - 1)]] [.nd [.sl .s (l.map Enc.b), .int .i64 (((intF l c.1 [0, 1, 4, 5 + a.2 - 1]).1).1 : Nat), .int .i64 ((intF l c.1 [0, 1, 4, 5 + a.2 - 1]).1).2]] (.int .i64 (intF l c.1 [0, 1, 4, 5 + a.2 - 1]).2) := dp'
  clear dp'
  generalize intF l c.1 [0, 1, 4, 5 + a.2 - 1] = p at *
  have bp := fun own => buildN (Y := Y) (own := own) (t := 34) (n := 4) (ps := [(0, .int .i64 0), (1, .int .i64 1), (2, .int .i64 4), (3, .int .i64 (5 + a.2 - 1))]) (r := [.int .i64 0, .int .i64 1, .int .i64 4, .int .i64 (5 + a.2 - 1)]) Y34 Y3 rfl (by decide) rfl
  have k1 : (1 + c.2 == 1) = decide (1 + c.2 = 1) := rfl
  have k4 : (1 + c.2 == 4) = decide (1 + c.2 = 4) := rfl
  have k6 : (1 + c.2 == 6) = decide (1 + c.2 = 6) := rfl
  by_cases h1 : 1 + c.2 = 1
  · simp only [if_pos h1]
    have h1d : decide (1 + c.2 = 1) = true := decide_eq_true h1
    obtain ⟨e5, p5, c5⟩ := belowF_ok l p.1 31 hl ep
    generalize belowF l p.1 31 = o at *
    have g5 := p5.2 (by decide)
    have w5 : IntKind.i64.wrap (1 + o.2) = 1 + o.2 := wrap64 _ (by omega) (by omega)
    have c6 := slotW_ok l o.1 hl e5
    obtain ⟨e6, _⟩ := slotF_ok l o.1 hl e5
    generalize slotF l o.1 = s1 at *
    have c7 := slotW_ok l s1.1 hl e6
    generalize slotF l s1.1 = s2 at *
    have hC1 := cx [.io] (c1)
    have hC2 := cx [.io] (c2)
    have hC3 := cx [.io] (c3)
    have hC4 := cx [.io] (dp)
    have hC5 := cx [.io] (c5)
    have hC6 := cx [.io] (c6)
    have hC7 := cx [.io] (c7)
    have fy := And.intro w1 (And.intro w2 (And.intro w3 (And.intro w4 (And.intro bp (And.intro k1 (And.intro k4 (And.intro k6 (And.intro h1d (w5)))))))))
    have hD1 := dx 19 [5, 3, 1, 1, 1, 2] [(1, 1), (1, 2), (1, 3), (1, 4)]
    refine goR ?_ ?_ ?_ ?_ ?_ ?_ ?_ ?_ ?_ ?_ ?_ ?_ ?_ ?_ ?_ ?_
    any_goals (first | exact True.intro | skip)
    all_goals (repeat (refine Wh.mk fun hcc => ?_))
    all_goals exact SW.ret (show RetQ _ _ _ _ _ _ _ from RetQ.y [0] [.nd [.int .i64 (5 + a.2), .int .i64 (1 + b.2), .int .i64 p.2, .int .i64 (1 + c.2), .int .i64 (1 + o.2), .nd [.bool s1.2.1, .nd [.int .i64 s1.2.2.1.1, .ow 1 (s1.2.2.1.2.1.map Enc.o), .ow 1 (s1.2.2.1.2.2.1.map Enc.o)]], .nd [.bool s2.2.1, .nd [.int .i64 s2.2.2.1.1, .ow 1 (s2.2.2.1.2.1.map Enc.o), .ow 1 (s2.2.2.1.2.2.1.map Enc.o)]], .int .i64 0, .ow 3 []]])
  simp only [if_neg h1]
  have h1d : decide (1 + c.2 = 1) = false := decide_eq_false h1
  by_cases h4 : 1 + c.2 = 4
  · simp only [if_pos h4]
    have h4d : decide (1 + c.2 = 4) = true := decide_eq_true h4
    obtain ⟨e5, p5, c5⟩ := belowF_ok l p.1 31 hl ep
    generalize belowF l p.1 31 = o at *
    have g5 := p5.2 (by decide)
    have w5 : IntKind.i64.wrap (1 + o.2) = 1 + o.2 := wrap64 _ (by omega) (by omega)
    have c6 := slotW_ok l o.1 hl e5
    obtain ⟨e6, _⟩ := slotF_ok l o.1 hl e5
    generalize slotF l o.1 = s2 at *
    obtain ⟨ev, qv, dv'⟩ := intF_ok l s2.1 [0, 1, 5 + a.2 - 1] hl e6 (by simp) (by simp)
    have dv : CallR Try.prog 92 [.io (.nd [.sl .s (l.map Enc.b), .int .i64 (s2.1.1 : Nat), .int .i64 s2.1.2]), .sl .b [.int .i64 0, .int .i64 1, .int .i64 (5 + a.2 - 1)]] [.nd [.sl .s (l.map Enc.b), .int .i64 (((intF l s2.1 [0, 1, 5 + a.2 - 1]).1).1 : Nat), .int .i64 ((intF l s2.1 [0, 1, 5 + a.2 - 1]).1).2]] (.int .i64 (intF l s2.1 [0, 1, 5 + a.2 - 1]).2) := dv'
    clear dv'
    generalize intF l s2.1 [0, 1, 5 + a.2 - 1] = v at *
    have bv := fun own => buildN (Y := Y) (own := own) (t := 34) (n := 3) (ps := [(0, .int .i64 0), (1, .int .i64 1), (2, .int .i64 (5 + a.2 - 1))]) (r := [.int .i64 0, .int .i64 1, .int .i64 (5 + a.2 - 1)]) Y34 Y3 rfl (by decide) rfl
    unfold slot0'
    have hC1 := cx [.io] (c1)
    have hC2 := cx [.io] (c2)
    have hC3 := cx [.io] (c3)
    have hC4 := cx [.io] (dp)
    have hC5 := cx [.io] (c5)
    have hC6 := cx [.io] (c6)
    have hC7 := cx [.io] (dv)
    have fy := And.intro w1 (And.intro w2 (And.intro w3 (And.intro w4 (And.intro bp (And.intro k1 (And.intro k4 (And.intro k6 (And.intro h1d (And.intro h4d (And.intro w5 (bv)))))))))))
    have hD1 := dx 19 [5, 3, 1, 1, 1, 2] [(1, 1), (1, 2), (1, 3), (1, 4)]
    refine goR ?_ ?_ ?_ ?_ ?_ ?_ ?_ ?_ ?_ ?_ ?_ ?_ ?_ ?_ ?_ ?_
    any_goals (first | exact True.intro | skip)
    all_goals (repeat (refine Wh.mk fun hcc => ?_))
    all_goals exact SW.ret (show RetQ _ _ _ _ _ _ _ from RetQ.y [0] [.nd [.int .i64 (5 + a.2), .int .i64 (1 + b.2), .int .i64 p.2, .int .i64 (1 + c.2), .int .i64 (1 + o.2), .nd [.bool false, .nd [.int .i64 0, .ow 1 [], .ow 1 []]], .nd [.bool s2.2.1, .nd [.int .i64 s2.2.2.1.1, .ow 1 (s2.2.2.1.2.1.map Enc.o), .ow 1 (s2.2.2.1.2.2.1.map Enc.o)]], .int .i64 v.2, .ow 3 []]])
  simp only [if_neg h4]
  have h4d : decide (1 + c.2 = 4) = false := decide_eq_false h4
  by_cases h6 : 1 + c.2 = 6
  rotate_left
  · simp only [if_neg h6]
    have h6d : decide (1 + c.2 = 6) = false := decide_eq_false h6
    unfold slot0'
    have hC1 := cx [.io] (c1)
    have hC2 := cx [.io] (c2)
    have hC3 := cx [.io] (c3)
    have hC4 := cx [.io] (dp)
    have fy := And.intro w1 (And.intro w2 (And.intro w3 (And.intro w4 (And.intro bp (And.intro k1 (And.intro k4 (And.intro k6 (And.intro h1d (And.intro h4d (h6d))))))))))
    have hD1 := dx 19 [5, 3, 1, 1, 1, 2] [(1, 1), (1, 2), (1, 3), (1, 4)]
    refine goR ?_ ?_ ?_ ?_ ?_ ?_ ?_ ?_ ?_ ?_ ?_ ?_ ?_ ?_ ?_ ?_
    any_goals (first | exact True.intro | skip)
    all_goals (repeat (refine Wh.mk fun hcc => ?_))
    all_goals exact SW.ret (show RetQ _ _ _ _ _ _ _ from RetQ.y [0] [.nd [.int .i64 (5 + a.2), .int .i64 (1 + b.2), .int .i64 p.2, .int .i64 (1 + c.2), .int .i64 0, .nd [.bool false, .nd [.int .i64 0, .ow 1 [], .ow 1 []]], .nd [.bool false, .nd [.int .i64 0, .ow 1 [], .ow 1 []]], .int .i64 0, .ow 3 []]])
  · simp only [if_pos h6]
    have h6d : decide (1 + c.2 = 6) = true := decide_eq_true h6
    unfold slot0'
    obtain ⟨f1, f2⟩ := lvF_ok l hl 4 1 p.1 [] ep
    generalize hT0 : lvF l 4 1 p.1 [] = T0 at *
    have hC1 := cx [.io] (c1)
    have hC2 := cx [.io] (c2)
    have hC3 := cx [.io] (c3)
    have hC4 := cx [.io] (dp)
    have fy := And.intro w1 (And.intro w2 (And.intro w3 (And.intro w4 (And.intro bp (And.intro k1 (And.intro k4 (And.intro k6 (And.intro h1d (And.intro h4d (h6d))))))))))
    have hD1 := dx 19 [5, 3, 1, 1, 1, 2] [(1, 1), (1, 2), (1, 3), (1, 4)]
    refine goR ?_ ?_ ?_ ?_ ?_ ?_ ?_ ?_ ?_ ?_ ?_ ?_ ?_ ?_ ?_ ?_
    any_goals (first | exact True.intro | skip)
    all_goals (repeat (refine Wh.mk fun hcc => ?_))
    refine SW.loop (fun x : Nat × Int × CS × List LiveT => ⟨[.ptr 0 0 [] 0, .undef, .ptr 1 0 [] 0, .ptr 2 0 [] 0, .int .i64 x.2.1, .undef, .undef, .undef, .undef, .undef, .undef, .undef, .undef, .undef, .undef, .undef, .undef, .undef, .undef, .undef, .undef, .undef, .undef, .undef, .undef, .undef, .undef, .undef, .undef, .undef, .undef, .undef, .undef, .undef, .undef, .undef, .undef, .undef, .undef, .undef, .undef, .undef, .undef, .undef, .undef, .undef, .undef, .undef, .undef, .undef, .undef, .undef, .undef, .undef, .undef, .undef, .undef, .undef, .undef, .undef, .undef, .undef, .undef, .undef, .undef, .undef, .undef, .undef, .undef, .undef, .undef, .undef, .undef, .undef, .undef], [[.var (.nd [.sl .s (l.map Enc.b), .int .i64 (x.2.2.1.1 : Nat), .int .i64 x.2.2.1.2])], [.var (.nd [.int .i64 0, .int .i64 0, .int .i64 0, .int .i64 0, .int .i64 0, .nd [.bool false, .nd [.int .i64 0, .nils 1, .nils 1]], .nd [.bool false, .nd [.int .i64 0, .nils 1, .nils 1]], .int .i64 0, .nils 3])], [.var (.nd [.int .i64 (5 + a.2), .int .i64 0, .int .i64 0, .int .i64 (1 + c.2), .int .i64 0, .nd [.bool false, .nd [.int .i64 0, .nils 1, .nils 1]], .nd [.bool false, .nd [.int .i64 0, .nils 1, .nils 1]], .int .i64 0, .ref 3 0 0 x.2.2.2.length])], [.arr 3 (x.2.2.2.map Enc.o) false]]⟩)
      (fun N x => N = x.1 ∧ x.2.1 + x.1 = 5 ∧ x.1 ≤ 4 ∧ x.2.2.1.1 ≤ l.length ∧ x.2.2.2.length + x.1 ≤ 4 ∧ lvF l x.1 x.2.1 x.2.2.1 x.2.2.2 = T0) (n := 4) (x := (4, 1, p.1, [])) ?_ ⟨rfl, by simp, by simp, ep, by simp, hT0⟩ ?_
    · skip
      refine Norm.trans (Norm.forget (u := .nd [.int .i64 (5 + a.2), .int .i64 0, .int .i64 0, .int .i64 (1 + c.2), .int .i64 0, .nd [.bool false, .nd [.int .i64 0, .nils 1, .nils 1]], .nd [.bool false, .nd [.int .i64 0, .nils 1, .nils 1]], .int .i64 0, .ow 3 []]) 5 0 rfl (.inr ⟨_, rfl, ⟨_, _, rfl, rfl, ⟨_, _, rfl, rfl, ⟨_, _, rfl, rfl, ⟨_, _, rfl, rfl, ⟨_, _, rfl, rfl, ⟨_, _, rfl, .inl rfl, ⟨_, _, rfl, .inl rfl, ⟨_, _, rfl, rfl, ⟨_, _, rfl, .inr (.inr rfl), rfl⟩⟩⟩⟩⟩⟩⟩⟩⟩⟩)) ?_
      simp only [Heap.put, List.getElem?_cons_zero, List.getElem?_cons_succ, List.set_cons_succ, List.set_cons_zero]
      refine Norm.trans (Norm.expelVar 5 0 rfl) ?_
      simp only [Heap.put, List.getElem?_cons_zero, List.getElem?_cons_succ, List.set_cons_succ, List.set_cons_zero, thawA, thawAL, List.length_cons, List.length_nil, Nat.reduceAdd, List.nil_append, List.append_nil, List.cons_append, Nat.zero_add]
      exact Norm.re [0, 1, 5, 8] (by decide) rfl (by first | (simp only [eq_self, heapFits, rowFits, obFits, List.getElem?_cons_zero, List.getElem?_cons_succ, renL_o, renL_b, true_and, and_true, and_self]; done) | simp [-List.map_append, heapFits, rowFits, obFits, T.ren, renL]) (by simp [tmFits, T.ren])
    clear hT0
    rintro N ⟨r, i, s', acc⟩ ⟨hN, hi5, hr4, hs, hal, hT⟩
    simp only at hN hi5 hr4 hs hal hT ⊢
    have fy := Nat.add_zero
    refine goS ?_
    refine SW.cond rfl (fun hc => ?_) (fun hc => ?_)
    · have hpos : 0 < r := by simp at hc; omega
      obtain ⟨r, rfl⟩ : ∃ r', r = r' + 1 := ⟨r - 1, by omega⟩
      simp only [lvF] at hT
      obtain ⟨g6, d6⟩ := onceF_ok l s' 2 hl hs
      generalize onceF l s' 2 = o at *
      obtain ⟨so, bo⟩ := o
      simp only at g6 d6 hT
      have hwi : IntKind.i64.wrap (i + 1) = i + 1 := wrap64 _ (by omega) (by omega)
      cases bo
      · simp only [Bool.false_eq_true, if_false] at hT
        have hC1 := cx [.io] (d6)
        have fy := hwi
        have hD1 := dx 19 [5, 3, 1, 1, 1, 2] [(1, 1), (1, 2), (1, 3), (1, 4)]
        refine goR ?_ ?_ ?_ ?_ ?_ ?_ ?_ ?_ ?_ ?_ ?_ ?_ ?_ ?_ ?_ ?_
        any_goals (first | exact True.intro | skip)
        all_goals (repeat (refine Wh.mk fun hcc => ?_))
        refine ⟨N - 1, (r, i + 1, so, acc), by omega, ⟨by simp only; omega, by simp only; omega, by simp only; omega, g6, by simp only; omega, hT⟩, ?_⟩
        exact Norm.re [0, 1, 2, 3] (by decide) rfl (by first | (simp only [eq_self, heapFits, rowFits, obFits, List.getElem?_cons_zero, List.getElem?_cons_succ, renL_o, renL_b, true_and, and_true, and_self]; done) | simp [-List.map_append, heapFits, rowFits, obFits, T.ren, renL]) (by simp [tmFits, T.ren])
      · simp only [if_true] at hT
        obtain ⟨g7, r7, d7⟩ := belowF_ok l so 4 hl g6
        generalize belowF l so 4 = m at *
        have g7' := r7.2 (by decide)
        obtain ⟨g8, d8⟩ := onceF_ok l m.1 2 hl g7
        generalize onceF l m.1 2 = o2 at *
        have hwm : IntKind.i64.wrap (1 + m.2) = 1 + m.2 := wrap64 _ (by omega) (by omega)
        have hap := fun (own e j e2 j2 : Nat) (H : Heap) (q1 : H.at e j = some (.arr 3 ((acc).map Enc.o) false)) (q2 : H.at e2 j2 = some (.arr 3 [.nd [.int .i64 (((((i, 1 + m.2, o2.2, ()) : LiveT))).1), .int .i64 (((((i, 1 + m.2, o2.2, ()) : LiveT))).2.1), .bool (((((i, 1 + m.2, o2.2, ()) : LiveT))).2.2.1)]] false)) => append_runP (Y := Y) (own := own) (t := 39) (u := 39) (e := e) (j := j) (off := 0) (n := (acc).length) (e2 := e2) (j2 := j2) (f := (acc).map Enc.o) (l := acc) (x := ((i, 1 + m.2, o2.2, ()) : LiveT)) (H := H) Y39 Y39 Y91 rfl (by decide) q1 q2 (by rw [List.drop_zero]; exact take_map_len _ _) (by simp) (by omega) rfl rfl
        have hC1 := cx [.io] (d6)
        have hC2 := cx [.io] (d7)
        have hC3 := cx [.io] (d8)
        have fy := And.intro hwi (And.intro hwm (And.intro bs1_39 (hap)))
        have hD1 := dx 19 [5, 3, 1, 1, 1, 2] [(1, 1), (1, 2), (1, 3), (1, 4)]
        refine goR ?_ ?_ ?_ ?_ ?_ ?_ ?_ ?_ ?_ ?_ ?_ ?_ ?_ ?_ ?_ ?_
        any_goals (first | exact True.intro | skip)
        all_goals (repeat (refine Wh.mk fun hcc => ?_))
        refine ⟨N - 1, (r, i + 1, o2.1, acc ++ [(i, 1 + m.2, o2.2, ())]), by omega, ⟨by simp only; omega, by simp only; omega, by simp only; omega, g8, by simp only [List.length_append, List.length_cons, List.length_nil]; omega, hT⟩, ?_⟩
        exact Norm.re [0, 1, 2, 8] (by decide) rfl (by first | (simp only [eq_self, heapFits, rowFits, obFits, List.getElem?_cons_zero, List.getElem?_cons_succ, renL_o, renL_b, true_and, and_true, and_self]; done) | simp [-List.map_append, heapFits, rowFits, obFits, T.ren, renL]) (by simp [tmFits, T.ren])
    · have hr0 : r = 0 := by
        have : ¬ 0 < r := by simp at hc; omega
        omega
      subst hr0
      simp only [lvF] at hT
      subst hT
      have fy := Nat.add_zero
      have hD1 := dx 19 [5, 3, 1, 1, 1, 2] [(1, 1), (1, 2), (1, 3), (1, 4)]
      refine goR ?_ ?_ ?_ ?_ ?_ ?_ ?_ ?_ ?_ ?_ ?_ ?_ ?_ ?_ ?_ ?_
      any_goals (first | exact True.intro | skip)
      all_goals (repeat (refine Wh.mk fun hcc => ?_))
      all_goals exact SW.ret (show RetQ _ _ _ _ _ _ _ from RetQ.y [0] [.nd [.int .i64 (5 + a.2), .int .i64 0, .int .i64 0, .int .i64 (1 + c.2), .int .i64 0, .nd [.bool false, .nd [.int .i64 0, .ow 1 [], .ow 1 []]], .nd [.bool false, .nd [.int .i64 0, .ow 1 [], .ow 1 []]], .int .i64 0, .ow 3 (acc.map Enc.o)]])
end Q6

namespace Q6
open Go Go.Vm Go.Proofs
set_option maxHeartbeats 4000000
set_option synthInstance.maxSize 2000
set_option synthInstance.maxHeartbeats 400000
set_option maxRecDepth 10000
set_option linter.unusedSimpArgs false
set_option linter.unusedVariables false

open Go.By

noncomputable def bendF (l : List UInt8) (s : CS) (x : RecT) : CS × RecT :=
  let k := belowF l s 8
  if k.2 = 0 then let v := intF l k.1 [0, 1, 1000000, 1000001]; (v.1, (v.2, x.2))
  else if k.2 = 1 then let v := intF l k.1 [0, 1000, 1001]; (v.1, (x.1, v.2, x.2.2))
  else if k.2 = 2 then let v := intF l k.1 [-1, x.1, 0]; (v.1, (x.1, x.2.1, v.2, x.2.2.2))
  else if k.2 = 3 then let v := intF l k.1 [0, 7, 1, 4]; (v.1, (x.1, x.2.1, x.2.2.1, v.2, x.2.2.2.2))
  else if k.2 = 4 then let v := intF l k.1 [0, 31, 32]; (v.1, (x.1, x.2.1, x.2.2.1, x.2.2.2.1, v.2, x.2.2.2.2.2))
  else if k.2 = 5 then let v := intF l k.1 [1, -1, x.1]; (v.1, (x.1, x.2.1, x.2.2.1, x.2.2.2.1, x.2.2.2.2.1, x.2.2.2.2.2.1, x.2.2.2.2.2.2.1, v.2, x.2.2.2.2.2.2.2.2))
  else if k.2 = 6 then let v := intF l k.1 [1, 9, 0]; let w := intF l v.1 [0, 1, 99]; (w.1, (x.1, x.2.1, x.2.2.1, x.2.2.2.1, x.2.2.2.2.1, x.2.2.2.2.2.1, x.2.2.2.2.2.2.1, x.2.2.2.2.2.2.2.1, x.2.2.2.2.2.2.2.2.1 ++ [(v.2, w.2, false, ())], ()))
  else (k.1, x)
noncomputable def recAnyF (l : List UInt8) (s : CS) : CS × RecT :=
  let r := recF l s; let o := onceF l r.1 5
  if o.2 = true then bendF l o.1 r.2 else (o.1, r.2)

theorem bendW_ok (l : List UInt8) (s : CS) (x : RecT) (hl : l.length ≤ 1048576) (hi : s.1 ≤ l.length) (hE : x.2.2.2.2.2.2.2.2.1.length ≤ 100) : CallR Try.prog 138 [.io (.nd [.sl .s (l.map Enc.b), .int .i64 (s.1 : Nat), .int .i64 s.2]), .nd [.int .i64 x.1, .int .i64 x.2.1, .int .i64 x.2.2.1, .int .i64 x.2.2.2.1, .int .i64 x.2.2.2.2.1, .nd [.bool x.2.2.2.2.2.1.1, .nd [.int .i64 x.2.2.2.2.2.1.2.1.1, .ow 1 (x.2.2.2.2.2.1.2.1.2.1.map Enc.o), .ow 1 (x.2.2.2.2.2.1.2.1.2.2.1.map Enc.o)]], .nd [.bool x.2.2.2.2.2.2.1.1, .nd [.int .i64 x.2.2.2.2.2.2.1.2.1.1, .ow 1 (x.2.2.2.2.2.2.1.2.1.2.1.map Enc.o), .ow 1 (x.2.2.2.2.2.2.1.2.1.2.2.1.map Enc.o)]], .int .i64 x.2.2.2.2.2.2.2.1, .ow 3 (x.2.2.2.2.2.2.2.2.1.map Enc.o)]] [.nd [.sl .s (l.map Enc.b), .int .i64 (((bendF l s x).1).1 : Nat), .int .i64 ((bendF l s x).1).2]] (.nd [.int .i64 (((bendF l s x).2).1), .int .i64 (((bendF l s x).2).2.1), .int .i64 (((bendF l s x).2).2.2.1), .int .i64 (((bendF l s x).2).2.2.2.1), .int .i64 (((bendF l s x).2).2.2.2.2.1), .nd [.bool ((((bendF l s x).2).2.2.2.2.2.1).1), .nd [.int .i64 (((((bendF l s x).2).2.2.2.2.2.1).2.1).1), .ow 1 ((((((bendF l s x).2).2.2.2.2.2.1).2.1).2.1).map Enc.o), .ow 1 ((((((bendF l s x).2).2.2.2.2.2.1).2.1).2.2.1).map Enc.o)]], .nd [.bool ((((bendF l s x).2).2.2.2.2.2.2.1).1), .nd [.int .i64 (((((bendF l s x).2).2.2.2.2.2.2.1).2.1).1), .ow 1 ((((((bendF l s x).2).2.2.2.2.2.2.1).2.1).2.1).map Enc.o), .ow 1 ((((((bendF l s x).2).2.2.2.2.2.2.1).2.1).2.2.1).map Enc.o)]], .int .i64 (((bendF l s x).2).2.2.2.2.2.2.2.1), .ow 3 ((((bendF l s x).2).2.2.2.2.2.2.2.2.1).map Enc.o)]) := by
  refine CallR.of_body (n := 64) (rs := [.cell 4 41]) hY.ok Try.func138 rfl (by decide) rfl rfl rfl rfl (fun F => ?_)
  have fx := And.intro Y1 (And.intro Y2 (And.intro Y3 (And.intro Y4 (And.intro Y6 (And.intro Y7 (And.intro Y8 (And.intro Y34 (And.intro Y36 (And.intro Y38 (And.intro Y39 (And.intro Y41 (And.intro Y87 (Y91)))))))))))))
  obtain ⟨e1, p1, c1⟩ := belowF_ok l s 8 hl hi
  obtain ⟨x1, x2, x3, x4, x5, ⟨p', ⟨u', A, B, ⟨⟩⟩, ⟨⟩⟩, ⟨q', ⟨v', C, D, ⟨⟩⟩, ⟨⟩⟩, x8, E, ⟨⟩⟩ := x
  unfold bendF
  simp only at hE ⊢
  generalize belowF l s 8 = k at *
  have k0 : (k.2 == 0) = decide (k.2 = 0) := rfl
  have k1 : (k.2 == 1) = decide (k.2 = 1) := rfl
  have k2 : (k.2 == 2) = decide (k.2 = 2) := rfl
  have k3 : (k.2 == 3) = decide (k.2 = 3) := rfl
  have k4 : (k.2 == 4) = decide (k.2 = 4) := rfl
  have k5 : (k.2 == 5) = decide (k.2 = 5) := rfl
  have k6 : (k.2 == 6) = decide (k.2 = 6) := rfl
  by_cases h0 : k.2 = 0
  · simp only [if_pos h0]
    have z0 : decide (k.2 = 0) = true := decide_eq_true h0
    obtain ⟨ev, qv, dv'⟩ := intF_ok l k.1 [0, 1, 1000000, 1000001] hl e1 (by simp) (by simp)
    have dv : CallR Try.prog 92 [.io (.nd [.sl .s (l.map Enc.b), .int .i64 (k.1.1 : Nat), .int .i64 k.1.2]), .sl .b [.int .i64 0, .int .i64 1, .int .i64 1000000, .int .i64 1000001]] [.nd [.sl .s (l.map Enc.b), .int .i64 (((intF l k.1 [0, 1, 1000000, 1000001]).1).1 : Nat), .int .i64 ((intF l k.1 [0, 1, 1000000, 1000001]).1).2]] (.int .i64 (intF l k.1 [0, 1, 1000000, 1000001]).2) := dv'
    clear dv'
    generalize intF l k.1 [0, 1, 1000000, 1000001] = v at *
    have bv := fun own => buildN (Y := Y) (own := own) (t := 34) (n := 4) (ps := [(0, .int .i64 0), (1, .int .i64 1), (2, .int .i64 1000000), (3, .int .i64 1000001)]) (r := [.int .i64 0, .int .i64 1, .int .i64 1000000, .int .i64 1000001]) Y34 Y3 rfl (by decide) rfl
    have hC1 := cx [.io] (c1)
    have hC2 := cx [.io] (dv)
    have fy := And.intro k0 (And.intro k1 (And.intro k2 (And.intro k3 (And.intro k4 (And.intro k5 (And.intro k6 (And.intro z0 (bv))))))))
    refine goR ?_ ?_ ?_ ?_ ?_ ?_ ?_ ?_ ?_ ?_ ?_ ?_ ?_ ?_ ?_ ?_
    any_goals (first | exact True.intro | skip)
    all_goals (repeat (refine Wh.mk fun hcc => ?_))
    all_goals exact SW.ret (show RetQ _ _ _ _ _ _ _ from RetQ.y [0] [.nd [.int .i64 v.2, .int .i64 x2, .int .i64 x3, .int .i64 x4, .int .i64 x5, .nd [.bool p', .nd [.int .i64 u', .ow 1 (A.map Enc.o), .ow 1 (B.map Enc.o)]], .nd [.bool q', .nd [.int .i64 v', .ow 1 (C.map Enc.o), .ow 1 (D.map Enc.o)]], .int .i64 x8, .ow 3 (E.map Enc.o)]])
  simp only [if_neg h0]
  have z0 : decide (k.2 = 0) = false := decide_eq_false h0
  by_cases h1 : k.2 = 1
  · simp only [if_pos h1]
    have z1 : decide (k.2 = 1) = true := decide_eq_true h1
    obtain ⟨ev, qv, dv'⟩ := intF_ok l k.1 [0, 1000, 1001] hl e1 (by simp) (by simp)
    have dv : CallR Try.prog 92 [.io (.nd [.sl .s (l.map Enc.b), .int .i64 (k.1.1 : Nat), .int .i64 k.1.2]), .sl .b [.int .i64 0, .int .i64 1000, .int .i64 1001]] [.nd [.sl .s (l.map Enc.b), .int .i64 (((intF l k.1 [0, 1000, 1001]).1).1 : Nat), .int .i64 ((intF l k.1 [0, 1000, 1001]).1).2]] (.int .i64 (intF l k.1 [0, 1000, 1001]).2) := dv'
    clear dv'
    generalize intF l k.1 [0, 1000, 1001] = v at *
    have bv := fun own => buildN (Y := Y) (own := own) (t := 34) (n := 3) (ps := [(0, .int .i64 0), (1, .int .i64 1000), (2, .int .i64 1001)]) (r := [.int .i64 0, .int .i64 1000, .int .i64 1001]) Y34 Y3 rfl (by decide) rfl
    have hC1 := cx [.io] (c1)
    have hC2 := cx [.io] (dv)
    have fy := And.intro k0 (And.intro k1 (And.intro k2 (And.intro k3 (And.intro k4 (And.intro k5 (And.intro k6 (And.intro z0 (And.intro z1 (bv)))))))))
    refine goR ?_ ?_ ?_ ?_ ?_ ?_ ?_ ?_ ?_ ?_ ?_ ?_ ?_ ?_ ?_ ?_
    any_goals (first | exact True.intro | skip)
    all_goals (repeat (refine Wh.mk fun hcc => ?_))
    all_goals exact SW.ret (show RetQ _ _ _ _ _ _ _ from RetQ.y [0] [.nd [.int .i64 x1, .int .i64 v.2, .int .i64 x3, .int .i64 x4, .int .i64 x5, .nd [.bool p', .nd [.int .i64 u', .ow 1 (A.map Enc.o), .ow 1 (B.map Enc.o)]], .nd [.bool q', .nd [.int .i64 v', .ow 1 (C.map Enc.o), .ow 1 (D.map Enc.o)]], .int .i64 x8, .ow 3 (E.map Enc.o)]])
  simp only [if_neg h1]
  have z1 : decide (k.2 = 1) = false := decide_eq_false h1
  by_cases h2 : k.2 = 2
  · simp only [if_pos h2]
    have z2 : decide (k.2 = 2) = true := decide_eq_true h2
    obtain ⟨ev, qv, dv'⟩ := intF_ok l k.1 [-1, x1, 0] hl e1 (by simp) (by simp)
    have dv : CallR Try.prog 92 [.io (.nd [.sl .s (l.map Enc.b), .int .i64 (k.1.1 : Nat), .int .i64 k.1.2]), .sl .b [.int .i64 (-1), .int .i64 x1, .int .i64 0]] [.nd [.sl .s (l.map Enc.b), .int .i64 (((intF l k.1 [-1, x1, 0]).1).1 : Nat), .int .i64 ((intF l k.1 [-1, x1, 0]).1).2]] (.int .i64 (intF l k.1 [-1, x1, 0]).2) := dv'
    clear dv'
    generalize intF l k.1 [-1, x1, 0] = v at *
    have bv := fun own => buildN (Y := Y) (own := own) (t := 34) (n := 3) (ps := [(0, .int .i64 (-1)), (1, .int .i64 x1), (2, .int .i64 0)]) (r := [.int .i64 (-1), .int .i64 x1, .int .i64 0]) Y34 Y3 rfl (by decide) rfl
    have hC1 := cx [.io] (c1)
    have hC2 := cx [.io] (dv)
    have fy := And.intro k0 (And.intro k1 (And.intro k2 (And.intro k3 (And.intro k4 (And.intro k5 (And.intro k6 (And.intro z0 (And.intro z1 (And.intro z2 (bv))))))))))
    refine goR ?_ ?_ ?_ ?_ ?_ ?_ ?_ ?_ ?_ ?_ ?_ ?_ ?_ ?_ ?_ ?_
    any_goals (first | exact True.intro | skip)
    all_goals (repeat (refine Wh.mk fun hcc => ?_))
    all_goals exact SW.ret (show RetQ _ _ _ _ _ _ _ from RetQ.y [0] [.nd [.int .i64 x1, .int .i64 x2, .int .i64 v.2, .int .i64 x4, .int .i64 x5, .nd [.bool p', .nd [.int .i64 u', .ow 1 (A.map Enc.o), .ow 1 (B.map Enc.o)]], .nd [.bool q', .nd [.int .i64 v', .ow 1 (C.map Enc.o), .ow 1 (D.map Enc.o)]], .int .i64 x8, .ow 3 (E.map Enc.o)]])
  simp only [if_neg h2]
  have z2 : decide (k.2 = 2) = false := decide_eq_false h2
  by_cases h3 : k.2 = 3
  · simp only [if_pos h3]
    have z3 : decide (k.2 = 3) = true := decide_eq_true h3
    obtain ⟨ev, qv, dv'⟩ := intF_ok l k.1 [0, 7, 1, 4] hl e1 (by simp) (by simp)
    have dv : CallR Try.prog 92 [.io (.nd [.sl .s (l.map Enc.b), .int .i64 (k.1.1 : Nat), .int .i64 k.1.2]), .sl .b [.int .i64 0, .int .i64 7, .int .i64 1, .int .i64 4]] [.nd [.sl .s (l.map Enc.b), .int .i64 (((intF l k.1 [0, 7, 1, 4]).1).1 : Nat), .int .i64 ((intF l k.1 [0, 7, 1, 4]).1).2]] (.int .i64 (intF l k.1 [0, 7, 1, 4]).2) := dv'
    clear dv'
    generalize intF l k.1 [0, 7, 1, 4] = v at *
    have bv := fun own => buildN (Y := Y) (own := own) (t := 34) (n := 4) (ps := [(0, .int .i64 0), (1, .int .i64 7), (2, .int .i64 1), (3, .int .i64 4)]) (r := [.int .i64 0, .int .i64 7, .int .i64 1, .int .i64 4]) Y34 Y3 rfl (by decide) rfl
    have hC1 := cx [.io] (c1)
    have hC2 := cx [.io] (dv)
    have fy := And.intro k0 (And.intro k1 (And.intro k2 (And.intro k3 (And.intro k4 (And.intro k5 (And.intro k6 (And.intro z0 (And.intro z1 (And.intro z2 (And.intro z3 (bv)))))))))))
    refine goR ?_ ?_ ?_ ?_ ?_ ?_ ?_ ?_ ?_ ?_ ?_ ?_ ?_ ?_ ?_ ?_
    any_goals (first | exact True.intro | skip)
    all_goals (repeat (refine Wh.mk fun hcc => ?_))
    all_goals exact SW.ret (show RetQ _ _ _ _ _ _ _ from RetQ.y [0] [.nd [.int .i64 x1, .int .i64 x2, .int .i64 x3, .int .i64 v.2, .int .i64 x5, .nd [.bool p', .nd [.int .i64 u', .ow 1 (A.map Enc.o), .ow 1 (B.map Enc.o)]], .nd [.bool q', .nd [.int .i64 v', .ow 1 (C.map Enc.o), .ow 1 (D.map Enc.o)]], .int .i64 x8, .ow 3 (E.map Enc.o)]])
  simp only [if_neg h3]
  have z3 : decide (k.2 = 3) = false := decide_eq_false h3
  by_cases h4 : k.2 = 4
  · simp only [if_pos h4]
    have z4 : decide (k.2 = 4) = true := decide_eq_true h4
    obtain ⟨ev, qv, dv'⟩ := intF_ok l k.1 [0, 31, 32] hl e1 (by simp) (by simp)
    have dv : CallR Try.prog 92 [.io (.nd [.sl .s (l.map Enc.b), .int .i64 (k.1.1 : Nat), .int .i64 k.1.2]), .sl .b [.int .i64 0, .int .i64 31, .int .i64 32]] [.nd [.sl .s (l.map Enc.b), .int .i64 (((intF l k.1 [0, 31, 32]).1).1 : Nat), .int .i64 ((intF l k.1 [0, 31, 32]).1).2]] (.int .i64 (intF l k.1 [0, 31, 32]).2) := dv'
    clear dv'
    generalize intF l k.1 [0, 31, 32] = v at *
    have bv := fun own => buildN (Y := Y) (own := own) (t := 34) (n := 3) (ps := [(0, .int .i64 0), (1, .int .i64 31), (2, .int .i64 32)]) (r := [.int .i64 0, .int .i64 31, .int .i64 32]) Y34 Y3 rfl (by decide) rfl
    have hC1 := cx [.io] (c1)
    have hC2 := cx [.io] (dv)
    have fy := And.intro k0 (And.intro k1 (And.intro k2 (And.intro k3 (And.intro k4 (And.intro k5 (And.intro k6 (And.intro z0 (And.intro z1 (And.intro z2 (And.intro z3 (And.intro z4 (bv))))))))))))
    refine goR ?_ ?_ ?_ ?_ ?_ ?_ ?_ ?_ ?_ ?_ ?_ ?_ ?_ ?_ ?_ ?_
    any_goals (first | exact True.intro | skip)
    all_goals (repeat (refine Wh.mk fun hcc => ?_))
    all_goals exact SW.ret (show RetQ _ _ _ _ _ _ _ from RetQ.y [0] [.nd [.int .i64 x1, .int .i64 x2, .int .i64 x3, .int .i64 x4, .int .i64 v.2, .nd [.bool p', .nd [.int .i64 u', .ow 1 (A.map Enc.o), .ow 1 (B.map Enc.o)]], .nd [.bool q', .nd [.int .i64 v', .ow 1 (C.map Enc.o), .ow 1 (D.map Enc.o)]], .int .i64 x8, .ow 3 (E.map Enc.o)]])
  simp only [if_neg h4]
  have z4 : decide (k.2 = 4) = false := decide_eq_false h4
  by_cases h5 : k.2 = 5
  · simp only [if_pos h5]
    have z5 : decide (k.2 = 5) = true := decide_eq_true h5
    obtain ⟨ev, qv, dv'⟩ := intF_ok l k.1 [1, -1, x1] hl e1 (by simp) (by simp)
    have dv : CallR Try.prog 92 [.io (.nd [.sl .s (l.map Enc.b), .int .i64 (k.1.1 : Nat), .int .i64 k.1.2]), .sl .b [.int .i64 1, .int .i64 (-1), .int .i64 x1]] [.nd [.sl .s (l.map Enc.b), .int .i64 (((intF l k.1 [1, -1, x1]).1).1 : Nat), .int .i64 ((intF l k.1 [1, -1, x1]).1).2]] (.int .i64 (intF l k.1 [1, -1, x1]).2) := dv'
    clear dv'
    generalize intF l k.1 [1, -1, x1] = v at *
    have bv := fun own => buildN (Y := Y) (own := own) (t := 34) (n := 3) (ps := [(0, .int .i64 1), (1, .int .i64 (-1)), (2, .int .i64 x1)]) (r := [.int .i64 1, .int .i64 (-1), .int .i64 x1]) Y34 Y3 rfl (by decide) rfl
    have hC1 := cx [.io] (c1)
    have hC2 := cx [.io] (dv)
    have fy := And.intro k0 (And.intro k1 (And.intro k2 (And.intro k3 (And.intro k4 (And.intro k5 (And.intro k6 (And.intro z0 (And.intro z1 (And.intro z2 (And.intro z3 (And.intro z4 (And.intro z5 (bv)))))))))))))
    refine goR ?_ ?_ ?_ ?_ ?_ ?_ ?_ ?_ ?_ ?_ ?_ ?_ ?_ ?_ ?_ ?_
    any_goals (first | exact True.intro | skip)
    all_goals (repeat (refine Wh.mk fun hcc => ?_))
    all_goals exact SW.ret (show RetQ _ _ _ _ _ _ _ from RetQ.y [0] [.nd [.int .i64 x1, .int .i64 x2, .int .i64 x3, .int .i64 x4, .int .i64 x5, .nd [.bool p', .nd [.int .i64 u', .ow 1 (A.map Enc.o), .ow 1 (B.map Enc.o)]], .nd [.bool q', .nd [.int .i64 v', .ow 1 (C.map Enc.o), .ow 1 (D.map Enc.o)]], .int .i64 v.2, .ow 3 (E.map Enc.o)]])
  simp only [if_neg h5]
  have z5 : decide (k.2 = 5) = false := decide_eq_false h5
  by_cases h6 : k.2 = 6
  · simp only [if_pos h6]
    have z6 : decide (k.2 = 6) = true := decide_eq_true h6
    obtain ⟨ev, qv, dv'⟩ := intF_ok l k.1 [1, 9, 0] hl e1 (by simp) (by simp)
    have dv : CallR Try.prog 92 [.io (.nd [.sl .s (l.map Enc.b), .int .i64 (k.1.1 : Nat), .int .i64 k.1.2]), .sl .b [.int .i64 1, .int .i64 9, .int .i64 0]] [.nd [.sl .s (l.map Enc.b), .int .i64 (((intF l k.1 [1, 9, 0]).1).1 : Nat), .int .i64 ((intF l k.1 [1, 9, 0]).1).2]] (.int .i64 (intF l k.1 [1, 9, 0]).2) := dv'
    clear dv'
    generalize intF l k.1 [1, 9, 0] = v at *
    have bv := fun own => buildN (Y := Y) (own := own) (t := 34) (n := 3) (ps := [(0, .int .i64 1), (1, .int .i64 9), (2, .int .i64 0)]) (r := [.int .i64 1, .int .i64 9, .int .i64 0]) Y34 Y3 rfl (by decide) rfl
    obtain ⟨ew, qw, dw'⟩ := intF_ok l v.1 [0, 1, 99] hl ev (by simp) (by simp)
    have dw : CallR Try.prog 92 [.io (.nd [.sl .s (l.map Enc.b), .int .i64 (v.1.1 : Nat), .int .i64 v.1.2]), .sl .b [.int .i64 0, .int .i64 1, .int .i64 99]] [.nd [.sl .s (l.map Enc.b), .int .i64 (((intF l v.1 [0, 1, 99]).1).1 : Nat), .int .i64 ((intF l v.1 [0, 1, 99]).1).2]] (.int .i64 (intF l v.1 [0, 1, 99]).2) := dw'
    clear dw'
    generalize intF l v.1 [0, 1, 99] = w at *
    have bw := fun own => buildN (Y := Y) (own := own) (t := 34) (n := 3) (ps := [(0, .int .i64 0), (1, .int .i64 1), (2, .int .i64 99)]) (r := [.int .i64 0, .int .i64 1, .int .i64 99]) Y34 Y3 rfl (by decide) rfl
    have hap0 := fun (own_ e_ j_ e2_ j2_ : Nat) (H_ : Heap) (q1 : H_.at e_ j_ = some (.arr 3 ((([] : List LiveT)).map Enc.o) false)) (q2 : H_.at e2_ j2_ = some (.arr 3 ((E).map Enc.o) false)) => append_runR (Y := Y) (own := own_) (t := 39) (u := 39) (e := e_) (j := j_) (off := 0) (n := 0) (e2 := e2_) (j2 := j2_) (l := ([] : List LiveT)) (m := E) (H := H_) Y39 Y39 Y91 rfl (by decide) q1 q2 (by rw [List.drop_zero]; exact List.take_of_length_le (by first | (simp; done) | (rw [List.length_map]; decide))) (by first | (simp; done) | (rw [List.length_map]; decide)) (by simp; omega) rfl rfl
    simp only [List.nil_append, Nat.zero_add] at hap0
    have hap := fun (own e j e2 j2 : Nat) (H : Heap) (q1 : H.at e j = some (.arr 3 ((E).map Enc.o) false)) (q2 : H.at e2 j2 = some (.arr 3 [.nd [.int .i64 (((((v.2, w.2, false, ()) : LiveT))).1), .int .i64 (((((v.2, w.2, false, ()) : LiveT))).2.1), .bool (((((v.2, w.2, false, ()) : LiveT))).2.2.1)]] false)) => append_runP (Y := Y) (own := own) (t := 39) (u := 39) (e := e) (j := j) (off := 0) (n := (E).length) (e2 := e2) (j2 := j2) (f := (E).map Enc.o) (l := E) (x := ((v.2, w.2, false, ()) : LiveT)) (H := H) Y39 Y39 Y91 rfl (by decide) q1 q2 (by rw [List.drop_zero]; exact take_map_len _ _) (by simp) (by omega) rfl rfl
    have hC1 := cx [.io] (c1)
    have hC2 := cx [.io] (dv)
    have hC3 := cx [.io] (dw)
    have fy := And.intro k0 (And.intro k1 (And.intro k2 (And.intro k3 (And.intro k4 (And.intro k5 (And.intro k6 (And.intro z0 (And.intro z1 (And.intro z2 (And.intro z3 (And.intro z4 (And.intro z5 (And.intro z6 (And.intro bv (And.intro bw (And.intro bs0_39 (And.intro bs1_39 (And.intro hap0 (hap)))))))))))))))))))
    refine goR ?_ ?_ ?_ ?_ ?_ ?_ ?_ ?_ ?_ ?_ ?_ ?_ ?_ ?_ ?_ ?_
    any_goals (first | exact True.intro | skip)
    all_goals (repeat (refine Wh.mk fun hcc => ?_))
    generalize hZ : E ++ [(v.2, w.2, false, ())] = Z at *
    have hZl : E.length + 1 = Z.length := by rw [← hZ]; simp
    rw [hZl]
    all_goals exact SW.ret (show RetQ _ _ _ _ _ _ _ from RetQ.y [0] [.nd [.int .i64 x1, .int .i64 x2, .int .i64 x3, .int .i64 x4, .int .i64 x5, .nd [.bool p', .nd [.int .i64 u', .ow 1 (A.map Enc.o), .ow 1 (B.map Enc.o)]], .nd [.bool q', .nd [.int .i64 v', .ow 1 (C.map Enc.o), .ow 1 (D.map Enc.o)]], .int .i64 x8, .ow 3 (Z.map Enc.o)]])
  simp only [if_neg h6]
  have z6 : decide (k.2 = 6) = false := decide_eq_false h6
  have hC1 := cx [.io] (c1)
  have fy := And.intro k0 (And.intro k1 (And.intro k2 (And.intro k3 (And.intro k4 (And.intro k5 (And.intro k6 (And.intro z0 (And.intro z1 (And.intro z2 (And.intro z3 (And.intro z4 (And.intro z5 (z6)))))))))))))
  refine goR ?_ ?_ ?_ ?_ ?_ ?_ ?_ ?_ ?_ ?_ ?_ ?_ ?_ ?_ ?_ ?_
  any_goals (first | exact True.intro | skip)
  all_goals (repeat (refine Wh.mk fun hcc => ?_))
  all_goals exact SW.ret (show RetQ _ _ _ _ _ _ _ from RetQ.y [0] [.nd [.int .i64 x1, .int .i64 x2, .int .i64 x3, .int .i64 x4, .int .i64 x5, .nd [.bool p', .nd [.int .i64 u', .ow 1 (A.map Enc.o), .ow 1 (B.map Enc.o)]], .nd [.bool q', .nd [.int .i64 v', .ow 1 (C.map Enc.o), .ow 1 (D.map Enc.o)]], .int .i64 x8, .ow 3 (E.map Enc.o)]])
end Q6
