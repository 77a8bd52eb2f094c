/- Shows what the parts of the program do that the claim reaches: a machine of values over the model, and the contracts of functions, for all arguments within the lengths that each theorem names. -/
import Derived.Test.YtalhmcbkmpggiaaXLoadP1
import Derived.Test.YtalhmcbkmpggiaaXLoadP3
import Derived.Test.YtalhmcbkmpggiaaXLoadV5
import Derived.Test.YtalhmcbkmpggiaaXLoadP2
set_option linter.all false

namespace Q6
open Go Go.Vm Go.Proofs
set_option maxHeartbeats 4000000
set_option synthInstance.maxSize 2000
set_option synthInstance.maxHeartbeats 400000
set_option maxRecDepth 10000
set_option linter.unusedSimpArgs false
set_option linter.unusedVariables false

open Go.By

/-! ### a frame -/
def bodyOf (l : List UInt8) (e n : Nat) : List UInt8 := (l.drop e).take n
def unfK (l : List UInt8) (a : Nat) (n : Int) (e : Nat) : List UInt8 × Nat × Int :=
  if (l.length : Int) - (e : Nat) < n + 4 then ([], a, 1)
  else if decide (four (crc (bodyOf l e n.toNat)) = (l.drop (e + n.toNat)).take 4) = true then (bodyOf l e n.toNat, e + n.toNat + 4, 0) else ([], a, 2)
def unfI (l : List UInt8) (a : Nat) : List UInt8 × Nat × Int :=
  if (grpR l a).2.2.2 = true then ([], a, 1)
  else if (!(getR l a).2.2 || decide ((getR l a).1 < 0)) = true then ([], a, 3)
  else unfK l a (getR l a).1 (getR l a).2.1
def unfS (l : List UInt8) (a : Nat) : List UInt8 × Nat × Int :=
  if (!(getR l a).2.2 && endsB l a) = true then ([], a, 1)
  else if (!(getR l a).2.2 || decide ((getR l a).1 < 0)) = true then ([], a, 3)
  else unfK l a (getR l a).1 (getR l a).2.1
theorem getR_okN (l : List UInt8) (a : Nat) : -1000000000000 ≤ (getR l a).1 ∧ (getR l a).1 ≤ 1000000000000 := by
  have : okN (getR l a).1 = true := by
    unfold getR
    split
    · split
      · assumption
      · rfl
    · rfl
  unfold okN M12 at this
  simp only [Bool.and_eq_true, decide_eq_true_eq] at this
  omega
theorem unfK_le (l : List UInt8) (a : Nat) (n : Int) (e : Nat) (ha : a ≤ l.length) (hn : 0 ≤ n) : (unfK l a n e).1.length ≤ l.length ∧ (unfK l a n e).2.1 ≤ l.length := by
  unfold unfK bodyOf
  split
  · exact ⟨Nat.zero_le _, ha⟩
  · split
    · simp only [List.length_take, List.length_drop]; omega
    · exact ⟨Nat.zero_le _, ha⟩
theorem unfI_le (l : List UInt8) (a : Nat) (ha : a ≤ l.length) : (unfI l a).1.length ≤ l.length ∧ (unfI l a).2.1 ≤ l.length := by
  unfold unfI
  split
  · exact ⟨Nat.zero_le _, ha⟩
  · split
    · exact ⟨Nat.zero_le _, ha⟩
    · rename_i h; exact unfK_le l a _ _ ha (by simp at h; omega)
theorem unfS_le (l : List UInt8) (a : Nat) (ha : a ≤ l.length) : (unfS l a).1.length ≤ l.length ∧ (unfS l a).2.1 ≤ l.length := by
  unfold unfS
  split
  · exact ⟨Nat.zero_le _, ha⟩
  · split
    · exact ⟨Nat.zero_le _, ha⟩
    · rename_i h; exact unfK_le l a _ _ ha (by simp at h; omega)
theorem grp_endsF : ∀ (l : List UInt8) (k n : Nat) (g : Bool), (grp l k n g).2.2.2 = true → (grp l k n g).2.2.1 = false
  | [], _, _, _, _ => rfl
  | v :: l, k, n, g, h => by
    unfold grp at h ⊢
    simp only at h ⊢
    split at h
    · rename_i hv; rw [if_pos hv]; exact grp_endsF l _ _ _ h
    · cases h

theorem unframeI_ok (l : List UInt8) (a : Nat) (hl : l.length ≤ 1048576) (ha : a ≤ l.length) : CallR Try.prog 97 [.sl .b (l.map Enc.b), .int .i64 (a : Nat)] [] (.tup [.ow 1 ((unfI l a).1.map Enc.o), .int .i64 ((unfI l a).2.1 : Nat), .int .i64 (unfI l a).2.2]) := by
  refine CallR.of_body (n := 78) (rs := [.tmp 4, .tmp 5, .tmp 6]) hY.ok Try.func97 rfl (by decide) rfl rfl rfl rfl (fun F => ?_)
  have fx := And.intro Y1 (And.intro Y2 (And.intro Y3 (And.intro Y4 (And.intro Y5 (Y24)))))
  have hIn := in_ok (a : Int) 0 (l.length : Int)
  rw [show (decide ((a : Int) ≥ 0) && decide ((a : Int) ≤ (l.length : Int))) = true by simp; omega] at hIn
  have hG := groups_ok l a hl ha
  have hN := GetInt_ok l a hl ha
  have hR := getR_okN l a
  have hle := getR_le l a ha
  unfold unfI
  generalize grpR l a = g at *
  generalize getR l a = r at *
  obtain ⟨g1, g2, g3, ge⟩ := g
  obtain ⟨n, e, ok⟩ := r
  simp only at hG hN hR hle ⊢
  cases ge
  rotate_left
  · skip
    have hC1 := cx [] (hIn)
    have hC2 := cx [] (hG)
    have fy := Nat.add_zero
    have hD1 := dx 12 [5, 6] [(9, 0)]
    refine goR ?_ ?_ ?_ ?_ ?_ ?_ ?_ ?_ ?_ ?_ ?_ ?_ ?_ ?_ ?_ ?_
    any_goals (first | exact True.intro | skip)
    all_goals (repeat (refine Wh.mk fun hcc => ?_))
    all_goals exact SW.ret (show RetQ _ _ _ _ _ _ _ from RetQ.y [0, 0, 0] [.ow 1 (([] : List UInt8).map Enc.o), .int .i64 (a : Nat), .int .i64 1])
  · simp only [Bool.false_eq_true, if_false]
    cases ok
    · simp only [Bool.not_false, Bool.true_or, if_true]
      have hC1 := cx [] (hIn)
      have hC2 := cx [] (hG)
      have hC3 := cx [] (hN)
      have fy := Nat.add_zero
      have hD1 := dx 12 [5, 6] [(9, 0)]
      refine goR ?_ ?_ ?_ ?_ ?_ ?_ ?_ ?_ ?_ ?_ ?_ ?_ ?_ ?_ ?_ ?_
      any_goals (first | exact True.intro | skip)
      all_goals (repeat (refine Wh.mk fun hcc => ?_))
      all_goals exact SW.ret (show RetQ _ _ _ _ _ _ _ from RetQ.y [0, 0, 0] [.ow 1 (([] : List UInt8).map Enc.o), .int .i64 (a : Nat), .int .i64 3])
    · simp only [Bool.not_true, Bool.false_or]
      by_cases h0 : n < 0
      · rw [if_pos (decide_eq_true h0)]
        have h0d : decide (n < 0) = true := decide_eq_true h0
        have hC1 := cx [] (hIn)
        have hC2 := cx [] (hG)
        have hC3 := cx [] (hN)
        have fy := h0d
        have hD1 := dx 12 [5, 6] [(9, 0)]
        refine goR ?_ ?_ ?_ ?_ ?_ ?_ ?_ ?_ ?_ ?_ ?_ ?_ ?_ ?_ ?_ ?_
        any_goals (first | exact True.intro | skip)
        all_goals (repeat (refine Wh.mk fun hcc => ?_))
        all_goals exact SW.ret (show RetQ _ _ _ _ _ _ _ from RetQ.y [0, 0, 0] [.ow 1 (([] : List UInt8).map Enc.o), .int .i64 (a : Nat), .int .i64 3])
      · rw [if_neg (by simpa using h0)]
        have h0d : decide (n < 0) = false := decide_eq_false h0
        unfold unfK
        have hwl : IntKind.i64.wrap ((l.length : Int) - (e : Nat)) = (l.length : Int) - (e : Nat) := wrap64 _ (by omega) (by omega)
        have hwn : IntKind.i64.wrap (n + 4) = n + 4 := wrap64 _ (by omega) (by omega)
        have hwm : IntKind.i64.wrap ((l.length : Int) - (e : Nat) - 4) = (l.length : Int) - (e : Nat) - 4 := wrap64 _ (by omega) (by omega)
        by_cases h1 : (l.length : Int) - (e : Nat) < n + 4
        · rw [if_pos h1]
          have h1d : decide ((l.length : Int) - (e : Nat) < n + 4) = true := decide_eq_true h1
          have hC1 := cx [] (hIn)
          have hC2 := cx [] (hG)
          have hC3 := cx [] (hN)
          have fy := And.intro h0d (And.intro hwl (And.intro hwn (h1d)))
          have hD1 := dx 12 [5, 6] [(9, 0)]
          refine goR ?_ ?_ ?_ ?_ ?_ ?_ ?_ ?_ ?_ ?_ ?_ ?_ ?_ ?_ ?_ ?_
          any_goals (first | exact True.intro | skip)
          all_goals (repeat (refine Wh.mk fun hcc => ?_))
          all_goals exact SW.ret (show RetQ _ _ _ _ _ _ _ from RetQ.y [0, 0, 0] [.ow 1 (([] : List UInt8).map Enc.o), .int .i64 (a : Nat), .int .i64 1])
        · rw [if_neg h1]
          have h1d : decide ((l.length : Int) - (e : Nat) < n + 4) = false := decide_eq_false h1
          obtain ⟨N, hN⟩ : ∃ N : Nat, n = (N : Int) := ⟨n.toNat, by omega⟩
          subst hN
          rw [Int.toNat_natCast]
          have hsl := slice_sub .b l e (e + N) Y24 Y5 (by omega) (by omega)
          rw [Nat.add_sub_cancel_left] at hsl
          have hsl2 := slice_sub .b l (e + N) (e + N + 4) Y24 Y5 (by omega) (by omega)
          rw [Nat.add_sub_cancel_left] at hsl2
          have hwa : IntKind.i64.wrap ((e : Int) + (N : Int)) = ((e + N : Nat) : Int) := by rw [wrap64 _ (by omega) (by omega)]; omega
          have hwb : IntKind.i64.wrap (((e + N : Nat) : Int) + 4) = ((e + N + 4 : Nat) : Int) := by rw [wrap64 _ (by omega) (by omega)]; omega
          have hbl : (bodyOf l e N).length ≤ 1048576 := by unfold bodyOf; rw [List.length_take, List.length_drop]; omega
          rw [show (l.drop e).take N = bodyOf l e N from rfl] at hsl
          have hS := sumBytes_ok (bodyOf l e N) hbl
          have hE := equalBytes_ok (four (crc (bodyOf l e N))) ((l.drop (e + N)).take 4) (by rw [four_len]; decide)
          have hC := cloneBytes_ok (bodyOf l e N) hbl
          generalize hF : four (crc (bodyOf l e N)) = FF at *
          have hFl : FF.length = 4 := by rw [← hF]; rfl
          generalize (l.drop (e + N)).take 4 = ZZ at *
          generalize decide (FF = ZZ) = d at *
          cases d
          · simp only [if_true, Bool.false_eq_true, if_false]
            have hC1 := cx [] (hIn)
            have hC2 := cx [] (hG)
            have hC3 := cx [] (hN)
            have hC4 := cx [] (hS)
            have hC5 := cx [] (hE)
            have fy := And.intro h0d (And.intro hwl (And.intro hwn (And.intro h1d (And.intro hwa (And.intro hwb (And.intro hsl (hsl2)))))))
            have hD1 := dx 12 [5, 6] [(9, 0)]
            refine goR ?_ ?_ ?_ ?_ ?_ ?_ ?_ ?_ ?_ ?_ ?_ ?_ ?_ ?_ ?_ ?_
            any_goals (first | exact True.intro | skip)
            all_goals (repeat (refine Wh.mk fun hcc => ?_))
            all_goals exact SW.ret (show RetQ _ _ _ _ _ _ _ from RetQ.y [0, 0, 0] [.ow 1 (([] : List UInt8).map Enc.o), .int .i64 (a : Nat), .int .i64 2])
          · simp only [if_true, Bool.false_eq_true, if_false]
            have hC1 := cx [] (hIn)
            have hC2 := cx [] (hG)
            have hC3 := cx [] (hN)
            have hC4 := cx [] (hS)
            have hC5 := cx [] (hE)
            have hC6 := cx [] (hC)
            have fy := And.intro h0d (And.intro hwl (And.intro hwn (And.intro h1d (And.intro hwa (And.intro hwb (And.intro hsl (hsl2)))))))
            have hD1 := dx 12 [5, 6] [(9, 0)]
            refine goR ?_ ?_ ?_ ?_ ?_ ?_ ?_ ?_ ?_ ?_ ?_ ?_ ?_ ?_ ?_ ?_
            any_goals (first | exact True.intro | skip)
            all_goals (repeat (refine Wh.mk fun hcc => ?_))
            all_goals exact SW.ret (show RetQ _ _ _ _ _ _ _ from RetQ.y [0, 0, 0] [.ow 1 ((bodyOf l e N).map Enc.o), .int .i64 (e + N + 4 : Nat), .int .i64 0])
theorem unframeS_ok (l : List UInt8) (a : Nat) (hl : l.length ≤ 1048576) (ha : a ≤ l.length) : CallR Try.prog 103 [.sl .b (l.map Enc.b), .int .i64 (a : Nat)] [] (.tup [.ow 1 ((unfS l a).1.map Enc.o), .int .i64 ((unfS l a).2.1 : Nat), .int .i64 (unfS l a).2.2]) := by
  refine CallR.of_body (n := 91) (rs := [.tmp 4, .tmp 5, .tmp 6]) hY.ok Try.func103 rfl (by decide) rfl rfl rfl rfl (fun F => ?_)
  have fx := And.intro Y1 (And.intro Y2 (And.intro Y3 (And.intro Y4 (And.intro Y5 (Y24)))))
  have hIn := l1In_ok (a : Int) 0 (l.length : Int)
  rw [show (decide ((a : Int) ≥ 0) && decide ((a : Int) ≤ (l.length : Int))) = true by simp; omega] at hIn
  have hG := ends_ok l a hl ha
  have hN := sGetInt_ok l a hl ha
  have hR := getR_okN l a
  have hle := getR_le l a ha
  unfold unfS
  generalize endsB l a = ge at *
  generalize getR l a = r at *
  obtain ⟨n, e, ok⟩ := r
  simp only at hG hN hR hle ⊢
  cases ok
  · cases ge
    · simp only [Bool.not_false, Bool.and_false, Bool.false_eq_true, if_false, Bool.true_or, if_true]
      have hC1 := cx [] (hIn)
      have hC2 := cx [] (hN)
      have hC3 := cx [] (hG)
      have fy := bs0_24
      refine goR ?_ ?_ ?_ ?_ ?_ ?_ ?_ ?_ ?_ ?_ ?_ ?_ ?_ ?_ ?_ ?_
      any_goals (first | exact True.intro | skip)
      all_goals (repeat (refine Wh.mk fun hcc => ?_))
      all_goals exact SW.ret (show RetQ _ _ _ _ _ _ _ from RetQ.y [0, 0, 0] [.ow 1 (([] : List UInt8).map Enc.o), .int .i64 (a : Nat), .int .i64 3])
    · simp only [Bool.not_false, Bool.and_self, if_true]
      have hC1 := cx [] (hIn)
      have hC2 := cx [] (hN)
      have hC3 := cx [] (hG)
      have fy := bs0_24
      refine goR ?_ ?_ ?_ ?_ ?_ ?_ ?_ ?_ ?_ ?_ ?_ ?_ ?_ ?_ ?_ ?_
      any_goals (first | exact True.intro | skip)
      all_goals (repeat (refine Wh.mk fun hcc => ?_))
      all_goals exact SW.ret (show RetQ _ _ _ _ _ _ _ from RetQ.y [0, 0, 0] [.ow 1 (([] : List UInt8).map Enc.o), .int .i64 (a : Nat), .int .i64 1])
  · simp only [Bool.not_true, Bool.false_and, Bool.false_eq_true, if_false, Bool.false_or]
    by_cases h0 : n < 0
    · rw [if_pos (decide_eq_true h0)]
      have h0d : decide (n < 0) = true := decide_eq_true h0
      have hC1 := cx [] (hIn)
      have hC2 := cx [] (hN)
      have fy := And.intro h0d (bs0_24)
      refine goR ?_ ?_ ?_ ?_ ?_ ?_ ?_ ?_ ?_ ?_ ?_ ?_ ?_ ?_ ?_ ?_
      any_goals (first | exact True.intro | skip)
      all_goals (repeat (refine Wh.mk fun hcc => ?_))
      all_goals exact SW.ret (show RetQ _ _ _ _ _ _ _ from RetQ.y [0, 0, 0] [.ow 1 (([] : List UInt8).map Enc.o), .int .i64 (a : Nat), .int .i64 3])
    · rw [if_neg (by simpa using h0)]
      have h0d : decide (n < 0) = false := decide_eq_false h0
      unfold unfK
      have hwl : IntKind.i64.wrap ((l.length : Int) - (e : Nat)) = (l.length : Int) - (e : Nat) := wrap64 _ (by omega) (by omega)
      have hwn : IntKind.i64.wrap (n + 4) = n + 4 := wrap64 _ (by omega) (by omega)
      have hwm : IntKind.i64.wrap ((l.length : Int) - (e : Nat) - 4) = (l.length : Int) - (e : Nat) - 4 := wrap64 _ (by omega) (by omega)
      by_cases h1 : (l.length : Int) - (e : Nat) < n + 4
      · rw [if_pos h1]
        have h1d : decide (n > (l.length : Int) - (e : Nat) - 4) = true := decide_eq_true (by omega)
        have hC1 := cx [] (hIn)
        have hC2 := cx [] (hN)
        have fy := And.intro h0d (And.intro hwl (And.intro hwm (And.intro h1d (bs0_24))))
        refine goR ?_ ?_ ?_ ?_ ?_ ?_ ?_ ?_ ?_ ?_ ?_ ?_ ?_ ?_ ?_ ?_
        any_goals (first | exact True.intro | skip)
        all_goals (repeat (refine Wh.mk fun hcc => ?_))
        all_goals exact SW.ret (show RetQ _ _ _ _ _ _ _ from RetQ.y [0, 0, 0] [.ow 1 (([] : List UInt8).map Enc.o), .int .i64 (a : Nat), .int .i64 1])
      · rw [if_neg h1]
        have h1d : decide (n > (l.length : Int) - (e : Nat) - 4) = false := decide_eq_false (by omega)
        obtain ⟨N, hN⟩ : ∃ N : Nat, n = (N : Int) := ⟨n.toNat, by omega⟩
        subst hN
        rw [Int.toNat_natCast]
        have hsl := slice_sub .b l e (e + N) Y24 Y5 (by omega) (by omega)
        rw [Nat.add_sub_cancel_left] at hsl
        have hsl2 := slice_sub .b l (e + N) (e + N + 4) Y24 Y5 (by omega) (by omega)
        rw [Nat.add_sub_cancel_left] at hsl2
        have hwa : IntKind.i64.wrap ((e : Int) + (N : Int)) = ((e + N : Nat) : Int) := by rw [wrap64 _ (by omega) (by omega)]; omega
        have hwb : IntKind.i64.wrap (((e + N : Nat) : Int) + 4) = ((e + N + 4 : Nat) : Int) := by rw [wrap64 _ (by omega) (by omega)]; omega
        have hbl : (bodyOf l e N).length ≤ 1048576 := by unfold bodyOf; rw [List.length_take, List.length_drop]; omega
        rw [show (l.drop e).take N = bodyOf l e N from rfl] at hsl
        have hS := specCrc_ok (bodyOf l e N) hbl
        have hF4 := l1Four_ok (crc (bodyOf l e N))
        generalize hF : four (crc (bodyOf l e N)) = FF at *
        have hFl : FF.length = 4 := by rw [← hF]; rfl
        have hbo : (bodyOf l e N).map (Enc.b : UInt8 → T) = (bodyOf l e N).map Enc.o := rfl
        have hap := fun (own e' j : Nat) (H : Heap) (q1 : H.at e' j = some (.arr 1 [] false)) => append_runB (Y := Y) (own := own) (t := 24) (u := 24) (e := e') (j := j) (off := 0) (n := 0) (g := .b) (l := []) (m := bodyOf l e N) (H := H) Y24 Y24 Y5 rfl (by decide) q1 rfl (by simp) (by omega) rfl rfl
        simp only [List.nil_append, Nat.zero_add] at hap
        generalize hBd : bodyOf l e N = Bd at *
        have hC1 := cx [] (hIn)
        have hC2 := cx [] (hN)
        have hC3 := cx [] (hS)
        have hC4 := cx [] (hF4)
        have fy := And.intro h0d (And.intro hwl (And.intro hwm (And.intro h1d (And.intro hwa (And.intro hwb (And.intro hsl (And.intro bs0_24 (hap))))))))
        refine goR ?_ ?_ ?_ ?_ ?_ ?_ ?_ ?_ ?_ ?_ ?_ ?_ ?_ ?_ ?_ ?_
        any_goals (first | exact True.intro | skip)
        all_goals (repeat (refine Wh.mk fun hcc => ?_))
        refine SW.loop (fun k : Nat => ⟨[.sl .b (l.map Enc.b), .int .i64 (a : Nat), .undef, .undef, .undef, .undef, .undef, .int .i64 (N : Nat), .int .i64 (e : Nat), .undef, .ref 1 0 0 Bd.length, .ref 2 0 0 FF.length, .int .i64 (k : Nat), .undef, .undef, .undef, .undef, .undef, .undef, .undef, .undef, .undef, .undef, .undef, .undef, .undef, .undef, .undef, .undef, .undef, .undef, .undef, .undef, .undef, .undef, .undef, .undef, .undef, .undef, .undef, .undef, .undef, .undef, .undef, .undef, .undef, .undef, .undef, .undef, .undef, .undef, .undef, .undef, .undef, .undef, .undef, .undef, .undef, .undef, .undef, .undef, .undef, .undef, .undef, .undef, .undef, .undef, .undef, .undef, .undef, .undef, .undef, .undef, .undef, .undef, .undef, .undef, .undef, .undef, .undef, .undef, .undef, .undef, .undef, .undef, .undef, .undef, .undef, .undef, .undef, .undef], [[], [.arr 1 (Bd.map Enc.o) false], [.arr 1 (FF.map Enc.o) false]]⟩)
          (fun M k => M = 4 - k ∧ k ≤ 4 ∧ decide (FF = (l.drop (e + N)).take 4) = decide (FF.drop k = (l.drop (e + N + k)).take (4 - k))) (n := 4) (x := 0) ?_ ⟨rfl, by decide, rfl⟩ ?_
        · exact Norm.re [0, 4, 6] (by decide) rfl (by first | (simp only [eq_self, heapFits, rowFits, obFits, List.getElem?_cons_zero, List.getElem?_cons_succ, renL_o, renL_b, true_and, and_true, and_self]; done) | simp [-List.map_append, heapFits, rowFits, obFits, T.ren, renL]) (by simp [tmFits, T.ren])
        rintro M k ⟨hM, hk, hD⟩
        have fy := Nat.add_zero
        refine goS ?_
        refine SW.cond rfl (fun hc => ?_) (fun hc => ?_)
        · have hlt : k < 4 := by simp at hc; omega
          have hwk : IntKind.i64.wrap ((k : Int) + 1) = ((k + 1 : Nat) : Int) := by rw [wrap64 _ (by omega) (by omega)]; omega
          have hwc : IntKind.i64.wrap (((e + N : Nat) : Int) + (k : Int)) = ((e + N + k : Nat) : Int) := by rw [wrap64 _ (by omega) (by omega)]; omega
          have hin : e + N + k < l.length := by omega
          have hkF : (k : Int) < (FF.length : Int) := by omega
          have hgl : (l.map Enc.b)[e + N + k]? = some (T.int .u8 (l[e + N + k].toNat : Int)) := map_get Enc.b l _ hin
          have hgf : (FF.map Enc.o)[k]? = some (T.int .u8 ((FF[k]'(by omega)).toNat : Int)) := map_get Enc.o FF k (by omega)
          rw [List.drop_eq_getElem_cons (show k < FF.length by omega), List.drop_eq_getElem_cons hin, show 4 - k = (4 - (k + 1)) + 1 by omega, List.take_succ_cons] at hD
          generalize hx : l[e + N + k] = x at *
          generalize hy : FF[k]'(by omega) = y at *
          have fy := And.intro hgl (And.intro hgf (And.intro hkF (And.intro hwk (And.intro hwa (And.intro hwc (bs0_24))))))
          refine goR ?_ ?_ ?_ ?_ ?_ ?_ ?_ ?_ ?_ ?_ ?_ ?_ ?_ ?_ ?_ ?_
          any_goals (first | exact True.intro | skip)
          all_goals (repeat (refine Wh.mk fun hcc => ?_))
          · have hne : ¬ y = x := by
              intro h; subst h; simp at hcc
            have hDf : decide (FF = List.take 4 (List.drop (e + N) l)) = false := by rw [hD]; simp [hne]
            simp only [hDf, Bool.false_eq_true, if_false]
            exact SW.ret (show RetQ _ _ _ _ _ _ _ from RetQ.y [0, 0, 0] [.ow 1 (([] : List UInt8).map Enc.o), .int .i64 (a : Nat), .int .i64 2])
          · have he : y = x := by apply UInt8.toNat_inj.1; simp at hcc; omega
            refine ⟨M - 1, k + 1, by omega, ⟨by omega, by omega, ?_⟩, Norm.to 0 rfl (by simp [weakL])⟩
            rw [hD, he]; simp [Nat.add_assoc]
        · have hk4 : k = 4 := by
            have : ¬ k < 4 := by simp at hc; omega
            omega
          subst hk4
          rw [show FF.drop 4 = [] from List.drop_eq_nil_of_le (by omega)] at hD
          simp only [Nat.sub_self, List.take_zero, decide_true] at hD
          rw [hD]
          simp only [if_true]
          have fy := And.intro hwa (hwb)
          refine goR ?_ ?_ ?_ ?_ ?_ ?_ ?_ ?_ ?_ ?_ ?_ ?_ ?_ ?_ ?_ ?_
          any_goals (first | exact True.intro | skip)
          all_goals (repeat (refine Wh.mk fun hcc => ?_))
          all_goals exact SW.ret (show RetQ _ _ _ _ _ _ _ from RetQ.y [0, 0, 0] [.ow 1 (Bd.map Enc.o), .int .i64 (e + N + 4 : Nat), .int .i64 0])
end Q6

namespace Q6
open Go Go.Vm Go.Proofs
set_option maxHeartbeats 4000000
set_option synthInstance.maxSize 2000
set_option synthInstance.maxHeartbeats 400000
set_option maxRecDepth 10000
set_option linter.unusedSimpArgs false
set_option linter.unusedVariables false

open Go.By

def frameL (l : List UInt8) : List UInt8 := putI l.length ++ l ++ four (crc l)
theorem frameL_len (l : List UInt8) : (frameL l).length ≤ l.length + 10 := by
  have := putI_len l.length
  unfold frameL; simp only [List.length_append, four_len]; omega

theorem sFrame_ok (l : List UInt8) (hl : l.length ≤ 1048576) : CallR Try.prog 64 [.sl .b (l.map Enc.b)] [] (.ow 1 ((frameL l).map Enc.o)) := by
  refine CallR.of_body (n := 15) (rs := [.tmp 2]) hY.ok Try.func64 rfl (by decide) rfl rfl rfl rfl (fun F => ?_)
  have fx := And.intro Y3 (And.intro Y5 (Y24))
  have hP := PutInt_ok [] (l.length : Int) (Nat.zero_le _)
  have hS := specCrc_ok l hl
  have hF4 := l1Four_ok (crc l)
  have hpl := putI_len l.length
  have hfl := four_len (crc l)
  unfold frameL
  simp only [List.nil_append] at hP
  generalize crc l = c at *
  generalize four c = FF at *
  generalize putI l.length = PP at *
  have hap1 := fun (own_ e_ j_ : Nat) (H_ : Heap) (q1 : H_.at e_ j_ = some (.arr 1 ((PP).map Enc.o) false)) => append_runB (Y := Y) (own := own_) (t := 24) (u := 24) (e := e_) (j := j_) (off := 0) (n := (PP).length) (g := .b) (l := PP) (m := l) (H := H_) Y24 Y24 Y5 rfl (by decide) q1 (by rw [List.drop_zero]; exact List.take_of_length_le (by simp)) (by simp) (by omega) rfl rfl
  have hap2 := fun (own_ e_ j_ e2_ j2_ : Nat) (H_ : Heap) (q1 : H_.at e_ j_ = some (.arr 1 ((PP ++ l).map Enc.o) false)) (q2 : H_.at e2_ j2_ = some (.arr 1 ((FF).map Enc.o) false)) => append_runR (Y := Y) (own := own_) (t := 24) (u := 24) (e := e_) (j := j_) (off := 0) (n := PP.length + l.length) (e2 := e2_) (j2 := j2_) (l := PP ++ l) (m := FF) (H := H_) Y24 Y24 Y5 rfl (by decide) q1 q2 (by rw [List.drop_zero]; exact List.take_of_length_le (by simp)) (by simp) (by omega) rfl rfl
  have hC1 := cx [] (hP)
  have hC2 := cx [] (hS)
  have hC3 := cx [] (hF4)
  have fy := And.intro bs0_24 (And.intro hap1 (hap2))
  refine goR ?_ ?_ ?_ ?_ ?_ ?_ ?_ ?_ ?_ ?_ ?_ ?_ ?_ ?_ ?_ ?_
  any_goals (first | exact True.intro | skip)
  all_goals (repeat (refine Wh.mk fun hcc => ?_))
  have hZ : PP.length + l.length + FF.length = (PP ++ l ++ FF).length := by simp [Nat.add_assoc]
  rw [hZ]
  generalize PP ++ l ++ FF = Z
  exact SW.ret (show RetQ _ _ _ _ _ _ _ from RetQ.y [1] [.ow 1 (Z.map Enc.o)])
theorem growBytes_ok (n : Nat) (hn : n ≤ 1048576) : CallR Try.prog 165 [.nils 0, .int .i64 (n : Nat)] [] (.ow 1 []) := by
  refine CallR.of_body (n := 27) (rs := [.tmp 4]) hY.ok Try.func165 rfl (by decide) rfl rfl rfl rfl (fun F => ?_)
  have fx := And.intro Y3 (And.intro Y4 (And.intro Y5 (And.intro Y9 (And.intro Y20 (Y24)))))
  have hneg : decide ((n : Int) < 0) = false := by simp
  have hw : IntKind.i64.wrap (n : Int) = n := wrap64 _ (by omega) (by omega)
  have hn30 : (n : Int) ≤ 2 ^ 30 := by omega
  have hn0 : (0 : Int) ≤ n := Int.natCast_nonneg n
  have hsn : ∀ es, sliceM Y 24 (.nils es) none (some (.int .i64 0)) none = .pure { v := .nils es } := fun es => by simp [sliceM, Y24, loF, hiF]
  have hsr := fun (e j n : Nat) (f : List T) (H : Heap) (q1 : H.at e j = some (.arr 1 f false)) => show (sliceM Y 24 (.ref e j 0 n) none (some (.int .i64 0)) none).run H = some { v := .ref e j 0 0 } by simp [sliceM, Y24, Y5, loF, hiF, RM.run, q1]
  cases hz : decide ((n : Int) > 0)
  · skip
    have fy := And.intro hneg (And.intro hw (And.intro hz (And.intro Int.sub_zero (Int.sub_self))))
    refine goR ?_ ?_ ?_ ?_ ?_ ?_ ?_ ?_ ?_ ?_ ?_ ?_ ?_ ?_ ?_ ?_
    any_goals (first | exact True.intro | skip)
    all_goals (repeat (refine Wh.mk fun hcc => ?_))
    all_goals exact SW.ret (show RetQ _ _ _ _ _ _ _ from RetQ.y [1] [.ow 1 []])
  · skip
    have fy := And.intro hneg (And.intro hw (And.intro hz (And.intro hn30 (And.intro hn0 (And.intro hsn (And.intro hsr (And.intro Int.sub_zero (Int.sub_self))))))))
    refine goR ?_ ?_ ?_ ?_ ?_ ?_ ?_ ?_ ?_ ?_ ?_ ?_ ?_ ?_ ?_ ?_
    any_goals (first | exact True.intro | skip)
    all_goals (repeat (refine Wh.mk fun hcc => ?_))
    refine SW.norm (Norm.trunc 1 0 0 rfl) ?_
    simp only [Heap.put, List.take_zero, List.getElem?_cons_succ, List.getElem?_cons_zero, List.set_cons_succ, List.set_cons_zero]
    exact SW.ret (show RetQ _ _ _ _ _ _ _ from RetQ.y [1] [.ow 1 []])
def lenS (ls : List (List UInt8)) : Nat := (ls.map List.length).sum
theorem lenS_take : ∀ (ls : List (List UInt8)) (i : Nat) (h : i < ls.length), lenS (ls.take (i + 1)) = lenS (ls.take i) + ls[i].length
  | [], i, h => absurd h (Nat.not_lt_zero _)
  | x :: ls, 0, h => by simp [lenS]
  | x :: ls, i + 1, h => by
    have := lenS_take ls i (by simpa using h)
    simp only [lenS, List.take_succ_cons, List.map_cons, List.sum_cons, List.getElem_cons_succ] at this ⊢; omega
theorem lenS_le : ∀ (ls : List (List UInt8)) (i : Nat), lenS (ls.take i) ≤ lenS ls
  | [], i => by simp [lenS]
  | x :: ls, 0 => by simp [lenS]
  | x :: ls, i + 1 => by
    have := lenS_le ls i
    simp only [lenS, List.take_succ_cons, List.map_cons, List.sum_cons] at this ⊢; omega
theorem flat_take : ∀ (ls : List (List UInt8)) (i : Nat) (h : i < ls.length), (ls.take (i + 1)).flatten = (ls.take i).flatten ++ ls[i]
  | [], i, h => absurd h (Nat.not_lt_zero _)
  | x :: ls, 0, h => by simp
  | x :: ls, i + 1, h => by
    have := flat_take ls i (by simpa using h)
    simp only [List.take_succ_cons, List.flatten_cons, List.getElem_cons_succ, this, List.append_assoc]
theorem flat_len (ls : List (List UInt8)) (i : Nat) : (ls.take i).flatten.length = lenS (ls.take i) := by unfold lenS; simp [List.length_flatten]
theorem concat_ok (ls : List (List UInt8)) (hn : ls.length ≤ 1048576) (hs : lenS ls ≤ 1048576) : CallR Try.prog 134 [.sl .b (ls.map Enc.b)] [] (.ow 1 (ls.flatten.map Enc.o)) := by
  refine CallR.of_body (n := 36) (rs := [.tmp 2]) hY.ok Try.func134 rfl (by decide) rfl rfl rfl rfl (fun F => ?_)
  have fx := And.intro Y3 (And.intro Y4 (And.intro Y5 (And.intro Y9 (And.intro Y20 (And.intro Y24 (Y157))))))
  have fy := Nat.add_zero
  refine goN ?_ ?_ ?_ ?_ ?_ ?_ ?_ ?_ ?_ ?_ ?_ ?_ ?_ ?_ ?_ ?_
  any_goals (first | exact True.intro | skip)
  skip
  refine SW.loop (fun i : Nat => ⟨[.sl .b (ls.map Enc.b), .undef, .undef, .int .i64 (lenS (ls.take i) : Nat), .undef, .undef, .undef, .undef, .undef, .sl .b (ls.map Enc.b), .int .i64 (ls.length : Nat), .int .i64 (i : Nat), .undef, .undef, .undef, .undef, .undef, .undef, .undef, .undef, .undef, .undef, .undef, .undef, .undef, .undef, .undef, .undef, .undef, .undef, .undef, .undef, .undef, .undef, .undef, .undef], [[]]⟩)
    (fun N i => N = ls.length - i ∧ i ≤ ls.length) (n := ls.length) (x := 0) (Norm.to 0 rfl (by simp [weakL, lenS])) ⟨rfl, Nat.zero_le _⟩ ?_
  rintro N i ⟨hN, hi⟩
  have fy := Nat.add_zero
  refine goS ?_
  refine SW.cond rfl (fun hc => ?_) (fun hc => ?_)
  · have hlt : i < ls.length := by simp at hc; omega
    have hgl : (ls.map Enc.b)[i]? = some (T.sl .b (ls[i].map Enc.b)) := map_get Enc.b ls i hlt
    have h1 := lenS_take ls i hlt
    have h2 := lenS_le ls (i + 1)
    generalize ls[i] = x at *
    generalize lenS (List.take i ls) = m at *
    have hwi : IntKind.i64.wrap ((i : Int) + 1) = ((i + 1 : Nat) : Int) := by rw [wrap64 _ (by omega) (by omega)]; omega
    have hwm : IntKind.i64.wrap ((m : Int) + (x.length : Int)) = ((m + x.length : Nat) : Int) := by rw [wrap64 _ (by omega) (by omega)]; omega
    have hneg : decide (((m + x.length : Nat) : Int) < 0) = false := by simp; omega
    have fy := And.intro hgl (And.intro hwi (And.intro hwm (hneg)))
    refine goR ?_ ?_ ?_ ?_ ?_ ?_ ?_ ?_ ?_ ?_ ?_ ?_ ?_ ?_ ?_ ?_
    any_goals (first | exact True.intro | skip)
    all_goals (repeat (refine Wh.mk fun hcc => ?_))
    refine ⟨N - 1, i + 1, by omega, ⟨by omega, by omega⟩, ?_⟩
    rw [h1]
    exact Norm.to 0 rfl (by simp [weakL])
  · have hge : i = ls.length := by
      have : ¬ i < ls.length := by simp at hc; omega
      omega
    subst hge
    rw [List.take_length]
    have hG := growBytes_ok (lenS ls) hs
    have hC1 := cx [.nl] (hG)
    have fy := Nat.add_zero
    refine goN ?_ ?_ ?_ ?_ ?_ ?_ ?_ ?_ ?_ ?_ ?_ ?_ ?_ ?_ ?_ ?_
    any_goals (first | exact True.intro | skip)
    skip
    refine SW.loop (fun i : Nat => ⟨[.undef, .undef, .undef, .undef, .undef, .undef, .ref 1 0 0 (lenS (ls.take i)), .undef, .undef, .undef, .undef, .undef, .undef, .undef, .undef, .undef, .undef, .undef, .undef, .undef, .undef, .undef, .undef, .undef, .undef, .sl .b (ls.map Enc.b), .int .i64 (ls.length : Nat), .int .i64 (i : Nat), .undef, .undef, .undef, .undef, .undef, .undef, .undef, .undef], [[], [.arr 1 ((ls.take i).flatten.map Enc.o) false]]⟩)
      (fun N i => N = ls.length - i ∧ i ≤ ls.length) (n := ls.length) (x := 0) ?_ ⟨rfl, Nat.zero_le _⟩ ?_
    · exact Norm.re [0, 1] (by decide) rfl (by simp [-List.map_append, heapFits, rowFits, obFits, T.ren, renL]) (by simp [tmFits, T.ren, lenS])
    rintro N i ⟨hN, hi⟩
    have fy := Nat.add_zero
    refine goS ?_
    refine SW.cond rfl (fun hc => ?_) (fun hc => ?_)
    · have hlt : i < ls.length := by simp at hc; omega
      have hgl : (ls.map Enc.b)[i]? = some (T.sl .b (ls[i].map Enc.b)) := map_get Enc.b ls i hlt
      have h1 := lenS_take ls i hlt
      have h2 := lenS_le ls (i + 1)
      have h3 := flat_take ls i hlt
      have h4 := flat_len ls i
      generalize ls[i] = x at *
      generalize lenS (List.take i ls) = m at *
      generalize (List.take i ls).flatten = acc at *
      subst h4
      have hwi : IntKind.i64.wrap ((i : Int) + 1) = ((i + 1 : Nat) : Int) := by rw [wrap64 _ (by omega) (by omega)]; omega
      have hap := fun (own_ e_ j_ : Nat) (H_ : Heap) (q1 : H_.at e_ j_ = some (.arr 1 ((acc).map Enc.o) false)) => append_runB (Y := Y) (own := own_) (t := 24) (u := 24) (e := e_) (j := j_) (off := 0) (n := (acc).length) (g := .b) (l := acc) (m := x) (H := H_) Y24 Y24 Y5 rfl (by decide) q1 (by rw [List.drop_zero]; exact List.take_of_length_le (by simp)) (by simp) (by omega) rfl rfl
      have fy := And.intro hgl (And.intro hwi (hap))
      refine goR ?_ ?_ ?_ ?_ ?_ ?_ ?_ ?_ ?_ ?_ ?_ ?_ ?_ ?_ ?_ ?_
      any_goals (first | exact True.intro | skip)
      all_goals (repeat (refine Wh.mk fun hcc => ?_))
      refine ⟨N - 1, i + 1, by omega, ⟨by omega, by omega⟩, ?_⟩
      rw [h1, h3]
      exact Norm.re [0, 2] (by decide) rfl (by first | (simp only [eq_self, heapFits, rowFits, obFits, List.getElem?_cons_zero, List.getElem?_cons_succ, renL_o, renL_b, true_and, and_true, and_self]; done) | simp [-List.map_append, heapFits, rowFits, obFits, T.ren, renL]) (by simp [tmFits, T.ren])
    · have hge : i = ls.length := by
        have : ¬ i < ls.length := by simp at hc; omega
        omega
      subst hge
      have h4 := flat_len ls ls.length
      rw [List.take_length] at h4 ⊢
      rw [← h4]
      generalize ls.flatten = Z
      have fy := Nat.add_zero
      refine goR ?_ ?_ ?_ ?_ ?_ ?_ ?_ ?_ ?_ ?_ ?_ ?_ ?_ ?_ ?_ ?_
      any_goals (first | exact True.intro | skip)
      all_goals (repeat (refine Wh.mk fun hcc => ?_))
      exact SW.ret (show RetQ _ _ _ _ _ _ _ from RetQ.y [1] [.ow 1 (Z.map Enc.o)])
theorem build3 {Y : TypeId → TyI} {own t el by' : Nat} {k : Ty} {a b c : T} (h1 : Y t = ⟨.sl el, 1, 24⟩) (h2 : Y el = ⟨k, 1, by'⟩) (h3 : k.isFn = false)
    (hs : setAll (plAr 1) (List.replicate 3 (zeroT Y 9 el)) [(0, a), (1, b), (2, c)] = some [a, b, c]) :
    buildSliceM Y own t 3 [(0, a), (1, b), (2, c)] = .pure { v := .ref own 0 0 3, news := [.arr 1 [a, b, c] false] } := by
  simp only [buildSliceM, h1, h2, h3]
  rw [if_pos ⟨by decide, by decide, trivial⟩, hs]
theorem iFrame_ok (l : List UInt8) (hl : l.length ≤ 1048576 - 10) : CallR Try.prog 70 [.sl .b (l.map Enc.b)] [] (.ow 1 ((frameL l).map Enc.o)) := by
  refine CallR.of_body (n := 11) (rs := [.tmp 2]) hY.ok Try.func70 rfl (by decide) rfl rfl rfl rfl (fun F => ?_)
  have fx := And.intro Y1 (And.intro Y2 (And.intro Y3 (And.intro Y5 (And.intro Y24 (Y157)))))
  have hP := putInt_ok [] (l.length : Int) (Nat.zero_le _)
  have hS := sumBytes_ok l (by omega)
  have hpl := putI_len l.length
  have hfl := four_len (crc l)
  unfold frameL
  simp only [List.nil_append] at hP
  generalize crc l = c at *
  generalize four c = FF at *
  generalize putI l.length = PP at *
  have hC0 := concat_ok [PP, l, FF] (by simp) (by unfold lenS; simp; omega)
  rw [show [PP, l, FF].flatten = PP ++ l ++ FF by simp] at hC0
  generalize PP ++ l ++ FF = Z at *
  have hC : CallR Try.prog 134 [.sl .b [.sl .b (PP.map Enc.b), .sl .b (l.map Enc.b), .sl .b (FF.map Enc.b)]] [] (.ow 1 (Z.map Enc.o)) := hC0
  have hb3 := fun own => build3 (Y := Y) (own := own) (t := 157) (a := .ref 1 0 0 PP.length) (b := .sl .b (l.map Enc.b)) (c := .ref 2 0 0 FF.length) Y157 Y24 rfl rfl
  have hC1 := cx [.own 1] (hP)
  have hC2 := cx [] (hS)
  have hC3 := cx [] (hC)
  have fy := hb3
  refine goR ?_ ?_ ?_ ?_ ?_ ?_ ?_ ?_ ?_ ?_ ?_ ?_ ?_ ?_ ?_ ?_
  any_goals (first | exact True.intro | skip)
  all_goals (repeat (refine Wh.mk fun hcc => ?_))
  exact SW.ret (show RetQ _ _ _ _ _ _ _ from RetQ.y [1] [.ow 1 (Z.map Enc.o)])
end Q6

namespace Q6
open Go Go.Vm Go.Proofs
set_option maxHeartbeats 4000000
set_option synthInstance.maxSize 2000
set_option synthInstance.maxHeartbeats 400000
set_option maxRecDepth 10000
set_option linter.unusedSimpArgs false
set_option linter.unusedVariables false

theorem markPage_ok (x : PageT) (k : Int) (hx : Enc.lim 1048576 x) (h0 : 0 ≤ k) (h1 : k ≤ 281474976710656) : CallR Try.prog 40 [.nd [.int .i64 x.1, .nd [.nd [.bool x.2.1.1.1, .nd [.int .i64 x.2.1.1.2.1.1, .io (.tup [.ow 1 (x.2.1.1.2.1.2.1.map Enc.o)]), .io (.tup [.ow 1 (x.2.1.1.2.1.2.2.1.map Enc.o)])]], .nd [.bool x.2.1.2.1.1, .nd [.int .i64 x.2.1.2.1.2.1.1, .io (.tup [.ow 1 (x.2.1.2.1.2.1.2.1.map Enc.o)]), .io (.tup [.ow 1 (x.2.1.2.1.2.1.2.2.1.map Enc.o)])]], .nd [.bool x.2.1.2.2.1.1, .nd [.int .i64 x.2.1.2.2.1.2.1.1, .io (.tup [.ow 1 (x.2.1.2.2.1.2.1.2.1.map Enc.o)]), .io (.tup [.ow 1 (x.2.1.2.2.1.2.1.2.2.1.map Enc.o)])]], .nd [.bool x.2.1.2.2.2.1.1, .nd [.int .i64 x.2.1.2.2.2.1.2.1.1, .io (.tup [.ow 1 (x.2.1.2.2.2.1.2.1.2.1.map Enc.o)]), .io (.tup [.ow 1 (x.2.1.2.2.2.1.2.1.2.2.1.map Enc.o)])]]]], .int .i64 k] [.tup [.ow 1 ((marksG id x.2.1.1.2.1.2.1.length (k)).map Enc.o)], .tup [.ow 1 ((marksG id x.2.1.1.2.1.2.2.1.length (k + x.2.1.1.2.1.2.1.length)).map Enc.o)], .tup [.ow 1 ((marksG id x.2.1.2.1.2.1.2.1.length (k + x.2.1.1.2.1.2.1.length + x.2.1.1.2.1.2.2.1.length)).map Enc.o)], .tup [.ow 1 ((marksG id x.2.1.2.1.2.1.2.2.1.length (k + x.2.1.1.2.1.2.1.length + x.2.1.1.2.1.2.2.1.length + x.2.1.2.1.2.1.2.1.length)).map Enc.o)], .tup [.ow 1 ((marksG id x.2.1.2.2.1.2.1.2.1.length (k + x.2.1.1.2.1.2.1.length + x.2.1.1.2.1.2.2.1.length + x.2.1.2.1.2.1.2.1.length + x.2.1.2.1.2.1.2.2.1.length)).map Enc.o)], .tup [.ow 1 ((marksG id x.2.1.2.2.1.2.1.2.2.1.length (k + x.2.1.1.2.1.2.1.length + x.2.1.1.2.1.2.2.1.length + x.2.1.2.1.2.1.2.1.length + x.2.1.2.1.2.1.2.2.1.length + x.2.1.2.2.1.2.1.2.1.length)).map Enc.o)], .tup [.ow 1 ((marksG id x.2.1.2.2.2.1.2.1.2.1.length (k + x.2.1.1.2.1.2.1.length + x.2.1.1.2.1.2.2.1.length + x.2.1.2.1.2.1.2.1.length + x.2.1.2.1.2.1.2.2.1.length + x.2.1.2.2.1.2.1.2.1.length + x.2.1.2.2.1.2.1.2.2.1.length)).map Enc.o)], .tup [.ow 1 ((marksG id x.2.1.2.2.2.1.2.1.2.2.1.length (k + x.2.1.1.2.1.2.1.length + x.2.1.1.2.1.2.2.1.length + x.2.1.2.1.2.1.2.1.length + x.2.1.2.1.2.1.2.2.1.length + x.2.1.2.2.1.2.1.2.1.length + x.2.1.2.2.1.2.1.2.2.1.length + x.2.1.2.2.2.1.2.1.2.1.length)).map Enc.o)]] (.int .i64 (k + x.2.1.1.2.1.2.1.length + x.2.1.1.2.1.2.2.1.length + x.2.1.2.1.2.1.2.1.length + x.2.1.2.1.2.1.2.2.1.length + x.2.1.2.2.1.2.1.2.1.length + x.2.1.2.2.1.2.1.2.2.1.length + x.2.1.2.2.2.1.2.1.2.1.length + x.2.1.2.2.2.1.2.1.2.2.1.length)) := by
  refine CallR.of_body (n := 10) (rs := [.tmp 4]) hY.ok Try.func40 rfl (by decide) rfl rfl rfl rfl (fun F => ?_)
  have fx := And.intro Y1 (And.intro Y3 (And.intro Y4 (And.intro Y34 (And.intro Y36 (And.intro Y38 (And.intro Y47 (Y49)))))))
  have hC1 := cx [.iov] (markSlotA4_ok x.2.1 k hx.2.1 h0 h1)
  have fy := Nat.add_zero
  refine goR ?_ ?_ ?_ ?_ ?_ ?_ ?_ ?_ ?_ ?_ ?_ ?_ ?_ ?_ ?_ ?_
  any_goals (first | exact True.intro | skip)
  all_goals (repeat (refine Wh.mk fun hcc => ?_))
  all_goals exact SW.ret (show RetQ _ _ _ _ _ _ _ from RetQ.y [0] [.int .i64 (k + x.2.1.1.2.1.2.1.length + x.2.1.1.2.1.2.2.1.length + x.2.1.2.1.2.1.2.1.length + x.2.1.2.1.2.1.2.2.1.length + x.2.1.2.2.1.2.1.2.1.length + x.2.1.2.2.1.2.1.2.2.1.length + x.2.1.2.2.2.1.2.1.2.1.length + x.2.1.2.2.2.1.2.1.2.2.1.length)])
theorem heldSlotA4_ok (p1 p2 p3 p4 : Bool) (u1 u2 u3 u4 : Int) (n1 n2 n3 n4 n5 n6 n7 n8 : Nat) (k : Int) (g1 : n1 ≤ 1048576) (g2 : n2 ≤ 1048576) (g3 : n3 ≤ 1048576) (g4 : n4 ≤ 1048576) (g5 : n5 ≤ 1048576) (g6 : n6 ≤ 1048576) (g7 : n7 ≤ 1048576) (g8 : n8 ≤ 1048576) (h0 : 0 ≤ k) (h1 : k ≤ 281474976710656) : CallR Try.prog 110 [.nd [.nd [.bool p1, .nd [.int .i64 u1, .sl .b ((marksG id n1 (k)).map Enc.b), .sl .b ((marksG id n2 (k + n1)).map Enc.b)]], .nd [.bool p2, .nd [.int .i64 u2, .sl .b ((marksG id n3 (k + n1 + n2)).map Enc.b), .sl .b ((marksG id n4 (k + n1 + n2 + n3)).map Enc.b)]], .nd [.bool p3, .nd [.int .i64 u3, .sl .b ((marksG id n5 (k + n1 + n2 + n3 + n4)).map Enc.b), .sl .b ((marksG id n6 (k + n1 + n2 + n3 + n4 + n5)).map Enc.b)]], .nd [.bool p4, .nd [.int .i64 u4, .sl .b ((marksG id n7 (k + n1 + n2 + n3 + n4 + n5 + n6)).map Enc.b), .sl .b ((marksG id n8 (k + n1 + n2 + n3 + n4 + n5 + n6 + n7)).map Enc.b)]]], .int .i64 k] [] (.int .i64 (k + n1 + n2 + n3 + n4 + n5 + n6 + n7 + n8)) := by
  refine CallR.of_body (n := 18) (rs := [.tmp 4]) hY.ok Try.func110 rfl (by decide) rfl rfl rfl rfl (fun F => ?_)
  have fx := And.intro Y3 (And.intro Y4 (And.intro Y34 (And.intro Y36 (And.intro Y38 (Y47)))))
  have hq2 : decide (k + (n1 : Int) + (n2 : Int) < 0) = false := by simp; omega
  have hq4 : decide (k + (n1 : Int) + (n2 : Int) + (n3 : Int) + (n4 : Int) < 0) = false := by simp; omega
  have hq6 : decide (k + (n1 : Int) + (n2 : Int) + (n3 : Int) + (n4 : Int) + (n5 : Int) + (n6 : Int) < 0) = false := by simp; omega
  have hq8 : decide (k + (n1 : Int) + (n2 : Int) + (n3 : Int) + (n4 : Int) + (n5 : Int) + (n6 : Int) + (n7 : Int) + (n8 : Int) < 0) = false := by simp; omega
  have hC1 := cx [] (heldSlot_ok p1 u1 n1 n2 (k) g1 g2 (by omega) (by omega))
  have hC2 := cx [] (heldSlot_ok p2 u2 n3 n4 (k + (n1 : Int) + (n2 : Int)) g3 g4 (by omega) (by omega))
  have hC3 := cx [] (heldSlot_ok p3 u3 n5 n6 (k + (n1 : Int) + (n2 : Int) + (n3 : Int) + (n4 : Int)) g5 g6 (by omega) (by omega))
  have hC4 := cx [] (heldSlot_ok p4 u4 n7 n8 (k + (n1 : Int) + (n2 : Int) + (n3 : Int) + (n4 : Int) + (n5 : Int) + (n6 : Int)) g7 g8 (by omega) (by omega))
  have fy := And.intro nc4 (And.intro nc8 (And.intro wa (And.intro tn (And.intro hq2 (And.intro hq4 (And.intro hq6 (hq8)))))))
  refine goV ?_ ?_ ?_ ?_ ?_ ?_ ?_ ?_ ?_ ?_ ?_ ?_ ?_ ?_ ?_ ?_
  any_goals (first | exact True.intro | skip)
  all_goals (repeat (refine Wh.mk fun hcc => ?_))
  all_goals simp [tupOf, fixEs]
theorem heldPage_ok (lsn : Int) (p1 p2 p3 p4 : Bool) (u1 u2 u3 u4 : Int) (n1 n2 n3 n4 n5 n6 n7 n8 : Nat) (k : Int) (g1 : n1 ≤ 1048576) (g2 : n2 ≤ 1048576) (g3 : n3 ≤ 1048576) (g4 : n4 ≤ 1048576) (g5 : n5 ≤ 1048576) (g6 : n6 ≤ 1048576) (g7 : n7 ≤ 1048576) (g8 : n8 ≤ 1048576) (h0 : 0 ≤ k) (h1 : k ≤ 281474976710656) : CallR Try.prog 41 [.nd [.int .i64 lsn, .nd [.nd [.bool p1, .nd [.int .i64 u1, .sl .b ((marksG id n1 (k)).map Enc.b), .sl .b ((marksG id n2 (k + n1)).map Enc.b)]], .nd [.bool p2, .nd [.int .i64 u2, .sl .b ((marksG id n3 (k + n1 + n2)).map Enc.b), .sl .b ((marksG id n4 (k + n1 + n2 + n3)).map Enc.b)]], .nd [.bool p3, .nd [.int .i64 u3, .sl .b ((marksG id n5 (k + n1 + n2 + n3 + n4)).map Enc.b), .sl .b ((marksG id n6 (k + n1 + n2 + n3 + n4 + n5)).map Enc.b)]], .nd [.bool p4, .nd [.int .i64 u4, .sl .b ((marksG id n7 (k + n1 + n2 + n3 + n4 + n5 + n6)).map Enc.b), .sl .b ((marksG id n8 (k + n1 + n2 + n3 + n4 + n5 + n6 + n7)).map Enc.b)]]]], .int .i64 k] [] (.int .i64 (k + n1 + n2 + n3 + n4 + n5 + n6 + n7 + n8)) := by
  refine CallR.of_body (n := 12) (rs := [.tmp 4]) hY.ok Try.func41 rfl (by decide) rfl rfl rfl rfl (fun F => ?_)
  have fx := And.intro Y1 (And.intro Y3 (And.intro Y4 (And.intro Y34 (And.intro Y36 (And.intro Y38 (And.intro Y47 (Y49)))))))
  have hq8 : decide (k + (n1 : Int) + (n2 : Int) + (n3 : Int) + (n4 : Int) + (n5 : Int) + (n6 : Int) + (n7 : Int) + (n8 : Int) < 0) = false := by simp; omega
  have hA := heldSlotA4_ok p1 p2 p3 p4 u1 u2 u3 u4 n1 n2 n3 n4 n5 n6 n7 n8 k g1 g2 g3 g4 g5 g6 g7 g8 h0 h1
  have hC1 := cx [] (hA)
  have fy := And.intro nc4 (And.intro nc8 (And.intro wa (And.intro tn (hq8))))
  refine goK ?_ ?_ ?_ ?_ ?_ ?_ ?_ ?_ ?_ ?_ ?_ ?_ ?_ ?_ ?_ ?_
  any_goals (first | exact True.intro | skip)
  all_goals (repeat (refine Wh.mk fun hcc => ?_))
  all_goals simp [tupOf, fixEs]
open Go.By
def putSls (x : PageT) : List UInt8 := putI x.1 ++ putSl x.2.1.1 ++ putSl x.2.1.2.1 ++ putSl x.2.1.2.2.1 ++ putSl x.2.1.2.2.2.1
def putPage (x : PageT) : List UInt8 := frameL (putSls x)
theorem pageB_slots {x : PageT} (h : pageB x = true) : slotB x.2.1.1 = true ∧ slotB x.2.1.2.1 = true ∧ slotB x.2.1.2.2.1 = true ∧ slotB x.2.1.2.2.2.1 = true := by
  unfold pageB at h; simp only [Bool.and_eq_true] at h; exact h.2
theorem putSls_len {x : PageT} (h : pageB x = true) : (putSls x).length ≤ 342 := by
  obtain ⟨h1, h2, h3, h4⟩ := pageB_slots h
  have := putSl_len h1; have := putSl_len h2; have := putSl_len h3; have := putSl_len h4; have := putI_len x.1
  unfold putSls; simp only [List.length_append]; omega
theorem sPutPage_y (x : PageT) (hx : Enc.lim 1048576 x) (ho : pageB x = true) : CallR Try.prog 107 [.nd [.int .i64 x.1, .nd [.nd [.bool x.2.1.1.1, .nd [.int .i64 x.2.1.1.2.1.1, .sl .b (x.2.1.1.2.1.2.1.map Enc.b), .sl .b (x.2.1.1.2.1.2.2.1.map Enc.b)]], .nd [.bool x.2.1.2.1.1, .nd [.int .i64 x.2.1.2.1.2.1.1, .sl .b (x.2.1.2.1.2.1.2.1.map Enc.b), .sl .b (x.2.1.2.1.2.1.2.2.1.map Enc.b)]], .nd [.bool x.2.1.2.2.1.1, .nd [.int .i64 x.2.1.2.2.1.2.1.1, .sl .b (x.2.1.2.2.1.2.1.2.1.map Enc.b), .sl .b (x.2.1.2.2.1.2.1.2.2.1.map Enc.b)]], .nd [.bool x.2.1.2.2.2.1.1, .nd [.int .i64 x.2.1.2.2.2.1.2.1.1, .sl .b (x.2.1.2.2.2.1.2.1.2.1.map Enc.b), .sl .b (x.2.1.2.2.2.1.2.1.2.2.1.map Enc.b)]]]]] [] (.ow 1 ((putPage x).map Enc.o)) := by
  refine CallR.of_body (n := 25) (rs := [.tmp 2]) hY.ok Try.func107 rfl (by decide) rfl rfl rfl rfl (fun F => ?_)
  have fx := And.intro Y1 (And.intro Y3 (And.intro Y4 (And.intro Y5 (And.intro Y24 (And.intro Y34 (And.intro Y36 (And.intro Y38 (And.intro Y47 (Y49)))))))))
  have hO := specPageOk_ok x hx
  rw [ho] at hO
  obtain ⟨h1, h2, h3, h4⟩ := pageB_slots ho
  have hl := putSls_len ho
  unfold putPage
  have hF := sFrame_ok (putSls x) (by omega)
  obtain ⟨lsn, ⟨a, b, c, d, ⟨⟩⟩, ⟨⟩⟩ := x
  unfold putSls at hl hF ⊢
  simp only at hO h1 h2 h3 h4 hl hF ⊢
  have hP := PutInt_ok [] lsn (Nat.zero_le _)
  rw [List.nil_append] at hP
  have hpl := putI_len lsn
  have l1 := putSl_len h1
  have l2 := putSl_len h2
  have l3 := putSl_len h3
  have hA := sPutSlot_ok (putI lsn) a hx.2.1.1 h1 (by omega)
  have hB := sPutSlot_ok (putI lsn ++ putSl a) b hx.2.1.2.1 h2 (by simp only [List.length_append]; omega)
  have hC := sPutSlot_ok (putI lsn ++ putSl a ++ putSl b) c hx.2.1.2.2.1 h3 (by simp only [List.length_append]; omega)
  have hD := sPutSlot_ok (putI lsn ++ putSl a ++ putSl b ++ putSl c) d hx.2.1.2.2.2.1 h4 (by simp only [List.length_append]; omega)
  clear hl hx ho h1 h2 h3 h4
  generalize putI lsn ++ putSl a ++ putSl b ++ putSl c ++ putSl d = z5 at *
  generalize putI lsn ++ putSl a ++ putSl b ++ putSl c = z4 at *
  generalize putI lsn ++ putSl a ++ putSl b = z3 at *
  generalize putI lsn ++ putSl a = z2 at *
  generalize putI lsn = z1 at *
  generalize frameL z5 = z6 at *
  have hC1 := cx [] (hO)
  have hC2 := cx [] (hP)
  have hC3 := cx [] (hA)
  have hC4 := cx [] (hB)
  have hC5 := cx [] (hC)
  have hC6 := cx [] (hD)
  have hC7 := cx [] (hF)
  have fy := And.intro nc4 (And.intro nc8 (And.intro wa (And.intro tn (bs0_24))))
  refine goU ?_ ?_ ?_ ?_ ?_ ?_ ?_ ?_ ?_ ?_ ?_ ?_ ?_ ?_ ?_ ?_
  any_goals (first | exact True.intro | skip)
  all_goals (repeat (refine Wh.mk fun hcc => ?_))
  all_goals exact SW.ret (show RetQ _ _ _ _ _ _ _ from RetQ.y [1] [.ow 1 (z6.map Enc.o)])
end Q6

namespace Q6
open Go Go.Vm Go.Proofs
set_option maxHeartbeats 4000000
set_option synthInstance.maxSize 2000
set_option synthInstance.maxHeartbeats 400000
set_option maxRecDepth 10000
set_option linter.unusedSimpArgs false
set_option linter.unusedVariables false

theorem implRecOk_ok (x : RecT) (hx : Enc.lim 1048576 x) : CallR Try.prog 24 [.nd [.int .i64 x.1, .int .i64 x.2.1, .int .i64 x.2.2.1, .int .i64 x.2.2.2.1, .int .i64 x.2.2.2.2.1, .nd [.bool x.2.2.2.2.2.1.1, .nd [.int .i64 x.2.2.2.2.2.1.2.1.1, .sl .b (x.2.2.2.2.2.1.2.1.2.1.map Enc.b), .sl .b (x.2.2.2.2.2.1.2.1.2.2.1.map Enc.b)]], .nd [.bool x.2.2.2.2.2.2.1.1, .nd [.int .i64 x.2.2.2.2.2.2.1.2.1.1, .sl .b (x.2.2.2.2.2.2.1.2.1.2.1.map Enc.b), .sl .b (x.2.2.2.2.2.2.1.2.1.2.2.1.map Enc.b)]], .int .i64 x.2.2.2.2.2.2.2.1, .sl .b (x.2.2.2.2.2.2.2.2.1.map Enc.b)]] [] (.bool (recB x)) := by
  refine CallR.of_body (n := 121) (rs := [.tmp 2]) hY.ok Try.func24 rfl (by decide) rfl rfl rfl rfl (fun F => ?_)
  have fx := And.intro Y1 (And.intro Y2 (And.intro Y3 (And.intro Y4 (And.intro Y5 (And.intro Y6 (And.intro Y7 (And.intro Y8 (And.intro Y34 (And.intro Y36 (And.intro Y38 (And.intro Y39 (And.intro Y41 (Y91)))))))))))))
  have hq1 : (x.2.1 == 0) = decide (x.2.1 = 0) := rfl
  have hq2 : (x.2.2.1 == 0) = decide (x.2.2.1 = 0) := rfl
  have hq3 : (x.2.2.2.2.1 == 0) = decide (x.2.2.2.2.1 = 0) := rfl
  have hq4 : (x.2.2.2.2.2.2.2.1 == 0) = decide (x.2.2.2.2.2.2.2.1 = 0) := rfl
  have hq5 : decide ((x.2.2.2.2.2.2.2.2.1.length : Int) > 0) = !decide (x.2.2.2.2.2.2.2.2.1.length = 0) := by
    by_cases h : x.2.2.2.2.2.2.2.2.1.length = 0
    · simp [h]
    · have : (x.2.2.2.2.2.2.2.2.1.length : Int) > 0 := by omega
      rw [decide_eq_true this]; simp [h]
  have hk6 : (x.2.2.2.1 == 6) = decide (x.2.2.2.1 = 6) := rfl
  have hk1 : (x.2.2.2.1 == 1) = decide (x.2.2.2.1 = 1) := rfl
  have hk2 : (x.2.2.2.1 == 2) = decide (x.2.2.2.1 = 2) := rfl
  have hk3 : (x.2.2.2.1 == 3) = decide (x.2.2.2.1 = 3) := rfl
  have hk4 : (x.2.2.2.1 == 4) = decide (x.2.2.2.1 = 4) := rfl
  have hk5 : (x.2.2.2.1 == 5) = decide (x.2.2.2.1 = 5) := rfl
  cases hL : rng x.1 1 1000000
  · have hI := inR_ok x.1 1 1000000
    rw [hL] at hI
    have hC1 := cx [] (hI)
    have fy := Nat.add_zero
    refine goK ?_ ?_ ?_ ?_ ?_ ?_ ?_ ?_ ?_ ?_ ?_ ?_ ?_ ?_ ?_ ?_
    any_goals (first | exact True.intro | skip)
    all_goals (repeat (refine Wh.mk fun hcc => ?_))
    all_goals (simp only [tupOf, fixEs, recB, hL]; rfl)
  · have hI := inR_ok x.1 1 1000000
    rw [hL] at hI
    have hb := hL
    unfold rng at hb
    simp only [Bool.and_eq_true, decide_eq_true_eq] at hb
    have hw : IntKind.i64.wrap (x.1 - 1) = x.1 - 1 := wrap64 _ (by omega) (by omega)
    have hA := noSlot_ok x.2.2.2.2.2.1
    have hB := noSlot_ok x.2.2.2.2.2.2.1
    have hA' : CallR Try.prog 80 [.nd [.bool x.2.2.2.2.2.1.1, .nd [.int .i64 x.2.2.2.2.2.1.2.1.1, .sl .b (x.2.2.2.2.2.1.2.1.2.1.map Enc.b), .sl .b (x.2.2.2.2.2.1.2.1.2.2.1.map Enc.b)]]] [] (.bool (noSlotB x.2.2.2.2.2.1)) := hA
    have hB' : CallR Try.prog 80 [.nd [.bool x.2.2.2.2.2.2.1.1, .nd [.int .i64 x.2.2.2.2.2.2.1.2.1.1, .sl .b (x.2.2.2.2.2.2.1.2.1.2.1.map Enc.b), .sl .b (x.2.2.2.2.2.2.1.2.1.2.2.1.map Enc.b)]]] [] (.bool (noSlotB x.2.2.2.2.2.2.1)) := hB
    have hV := livesOk_ok x.2.2.2.2.2.2.2.2.1 x.1 hx.2.2.2.2.2.2.2.2.1.1 (by omega) (by omega)
    have hT := isTx_ok x.2.1
    have hP := inR_ok x.2.2.1 0 (x.1 - 1)
    have hN := inR_ok x.2.2.2.2.2.2.2.1 0 (x.1 - 1)
    have hO : CallR Try.prog 83 [.int .i64 x.2.2.2.2.1] [] (.bool (rng x.2.2.2.2.1 1 31)) := oid_ok x.2.2.2.2.1
    have hSA := slotOk_ok x.2.2.2.2.2.1 hx.2.2.2.2.2.1
    have hSB := slotOk_ok x.2.2.2.2.2.2.1 hx.2.2.2.2.2.2.1
    have hG1 := fun u1 u2 u3 => inR_ok u1 u2 u3
    have hC1 := cx [] (hA')
    have hC2 := cx [] (hB')
    have hC3 := cx [] (hV)
    have hC4 := cx [] (hT)
    have hC5 := cx [] (hO)
    have hC6 := cx [] (hSA)
    have hC7 := cx [] (hSB)
    have fy := And.intro hL (And.intro hq1 (And.intro hq2 (And.intro hq3 (And.intro hq4 (And.intro hq5 (And.intro hk1 (And.intro hk2 (And.intro hk3 (And.intro hk4 (And.intro hk5 (And.intro hk6 (hw))))))))))))
    refine goK ?_ ?_ ?_ ?_ ?_ ?_ ?_ ?_ ?_ ?_ ?_ ?_ ?_ ?_ ?_ ?_
    any_goals (first | exact True.intro | skip)
    all_goals (repeat (refine Wh.mk fun hcc => ?_))
    all_goals (try simp only [tupOf, fixEs])
    all_goals (simp only [recB, hL, Bool.true_and])
    all_goals first | rfl | (simp_all; done) | grind
end Q6

namespace Q6
open Go Go.Vm Go.Proofs
set_option maxHeartbeats 4000000
set_option synthInstance.maxSize 2000
set_option synthInstance.maxHeartbeats 400000
set_option maxRecDepth 10000
set_option linter.unusedSimpArgs false
set_option linter.unusedVariables false

open Go.By

theorem slotI_le (l : List UInt8) (s : RS) (ha : s.1 ≤ l.length) : (slotI l s).2.1 ≤ l.length := by
  have h1 := manyR_le l l.length s ha
  have h2 := manyR_rng l l.length (Int.natCast_nonneg _) s
  unfold slotI
  simp only
  split
  · exact h1
  · split
    · exact h1
    · split
      · simp only; omega
      · exact h1
theorem slotS_le (l : List UInt8) (s : RS) (ha : s.1 ≤ l.length) : (slotS l s).2.1 ≤ l.length := by
  have h1 := oneR_le l s ha
  unfold slotS
  simp only
  split
  · exact h1
  · split
    · exact h1
    · rename_i h3
      simp only [Bool.or_eq_true, decide_eq_true_eq, not_or] at h3
      simp only; omega
def liveI (l : List UInt8) (s : RS) : LiveT × RS :=
  ((oneR l s).1, (oneR l (oneR l s).2).1, decide ((manyR l 1 (oneR l (oneR l s).2).2).1 = 1), ()) |> fun x => (x, (manyR l 1 (oneR l (oneR l s).2).2).2)
def livesI (l : List UInt8) : Nat → RS → List LiveT × RS
  | 0, s => ([], s)
  | n + 1, s => ((liveI l s).1 :: (livesI l n (liveI l s).2).1, (livesI l n (liveI l s).2).2)
theorem liveI_le (l : List UInt8) (s : RS) (ha : s.1 ≤ l.length) : (liveI l s).2.1 ≤ l.length := manyR_le l 1 _ (oneR_le l _ (oneR_le l s ha))
theorem livesI_le (l : List UInt8) : ∀ (n : Nat) (s : RS), s.1 ≤ l.length → (livesI l n s).2.1 ≤ l.length
  | 0, s, h => h
  | n + 1, s, h => livesI_le l n _ (liveI_le l s h)
theorem livesI_len (l : List UInt8) : ∀ (n : Nat) (s : RS), (livesI l n s).1.length = n
  | 0, s => rfl
  | n + 1, s => by simp [livesI, livesI_len l n]
def rec0 : RecT := (0, 0, 0, 0, 0, slot0', slot0', 0, [], ())
def recEnd (x : RecT) (b : Bool) : RecT × Bool := if b = true then (x, true) else (rec0, false)
def grecK (l : List UInt8) (x : List LiveT → RecT) (t : List LiveT × RS) : RecT × Bool := recEnd (x t.1) ((!t.2.2 && decide (t.2.1 = l.length)) && recB (x t.1))
def grecI (l : List UInt8) : RecT × Bool :=
  let a1 := oneR l (0, false); let a2 := oneR l a1.2; let a3 := oneR l a2.2; let a4 := oneR l a3.2; let a5 := oneR l a4.2; let a6 := oneR l a5.2
  let s1 := slotI l a6.2; let s2 := slotI l s1.2; let m := manyR l 20 s2.2; let t := livesI l m.1.toNat m.2
  grecK l (fun t => (a1.1, a2.1, a3.1, a4.1, a5.1, s1.1, s2.1, a6.1, t, ())) t
theorem gob_len5 (l : List UInt8) : (gobI l).1.2.1.length ≤ 5 ∧ (gobI l).1.2.2.1.length ≤ 5 := gob_len l
theorem slotI_lim (l : List UInt8) (s : RS) : (slotI l s).1.2.1.2.1.length ≤ 5 ∧ (slotI l s).1.2.1.2.2.1.length ≤ 5 := by
  unfold slotI slot0'
  simp only
  split
  · exact ⟨Nat.zero_le _, Nat.zero_le _⟩
  · split
    · exact ⟨Nat.zero_le _, Nat.zero_le _⟩
    · split
      · exact gob_len _
      · exact ⟨Nat.zero_le _, Nat.zero_le _⟩

theorem bs1_39' : True := trivial
theorem grecI_ok (l : List UInt8) (hl : l.length ≤ 1048576) : CallR Try.prog 25 [.sl .b (l.map Enc.b)] [] (.tup [.nd [.int .i64 (((grecI l).1).1), .int .i64 (((grecI l).1).2.1), .int .i64 (((grecI l).1).2.2.1), .int .i64 (((grecI l).1).2.2.2.1), .int .i64 (((grecI l).1).2.2.2.2.1), .nd [.bool ((((grecI l).1).2.2.2.2.2.1).1), .nd [.int .i64 (((((grecI l).1).2.2.2.2.2.1).2.1).1), .ow 1 ((((((grecI l).1).2.2.2.2.2.1).2.1).2.1).map Enc.o), .ow 1 ((((((grecI l).1).2.2.2.2.2.1).2.1).2.2.1).map Enc.o)]], .nd [.bool ((((grecI l).1).2.2.2.2.2.2.1).1), .nd [.int .i64 (((((grecI l).1).2.2.2.2.2.2.1).2.1).1), .ow 1 ((((((grecI l).1).2.2.2.2.2.2.1).2.1).2.1).map Enc.o), .ow 1 ((((((grecI l).1).2.2.2.2.2.2.1).2.1).2.2.1).map Enc.o)]], .int .i64 (((grecI l).1).2.2.2.2.2.2.2.1), .ow 3 ((((grecI l).1).2.2.2.2.2.2.2.2.1).map Enc.o)], .bool (grecI l).2]) := by
  refine CallR.of_body (n := 65) (rs := [.cell 2 41, .tmp 3]) hY.ok Try.func25 rfl (by decide) rfl rfl rfl rfl (fun F => ?_)
  have fx := And.intro Y1 (And.intro Y2 (And.intro Y3 (And.intro Y4 (And.intro Y5 (And.intro Y6 (And.intro Y7 (And.intro Y8 (And.intro Y24 (And.intro Y34 (And.intro Y36 (And.intro Y38 (And.intro Y39 (And.intro Y41 (And.intro Y91 (And.intro Y97 (Y99))))))))))))))))
  have h1 : CallR Try.prog 85 [.io (.nd [.sl (.r 0) (l.map Enc.b), .int .i64 0, .bool false])] [.nd [.sl (.r 0) (l.map Enc.b), .int .i64 ((oneR l (0, false)).2.1 : Nat), .bool (oneR l (0, false)).2.2]] (.int .i64 (oneR l (0, false)).1) := one_b l (0, false) hl (Nat.zero_le _)
  have e1 := oneR_le l (0, false) (Nat.zero_le _)
  unfold grecI
  simp only
  generalize oneR l (0, false) = a1 at *
  have h2 := one_b l a1.2 hl e1
  have e2 := oneR_le l a1.2 e1
  generalize oneR l a1.2 = a2 at *
  have h3 := one_b l a2.2 hl e2
  have e3 := oneR_le l a2.2 e2
  generalize oneR l a2.2 = a3 at *
  have h4 := one_b l a3.2 hl e3
  have e4 := oneR_le l a3.2 e3
  generalize oneR l a3.2 = a4 at *
  have h5 := one_b l a4.2 hl e4
  have e5 := oneR_le l a4.2 e4
  generalize oneR l a4.2 = a5 at *
  have h6 := one_b l a5.2 hl e5
  have e6 := oneR_le l a5.2 e5
  generalize oneR l a5.2 = a6 at *
  have h7 := implSlot_b l a6.2 hl e6
  have e7 := slotI_le l a6.2 e6
  have l7 := slotI_lim l a6.2
  generalize slotI l a6.2 = s1 at *
  have h8 := implSlot_b l s1.2 hl e7
  have e8 := slotI_le l s1.2 e7
  have l8 := slotI_lim l s1.2
  generalize slotI l s1.2 = s2 at *
  have h9 := many_b l s2.2 20 hl e8
  have e9 := manyR_le l 20 s2.2 e8
  have r9 := manyR_rng l 20 (by decide) s2.2
  generalize manyR l 20 s2.2 = m at *
  obtain ⟨mv, ms⟩ := m
  obtain ⟨N0, hN0⟩ : ∃ N0 : Nat, mv = (N0 : Int) := ⟨mv.toNat, by have := r9.1; simp only at this; omega⟩
  subst hN0
  simp only [Int.toNat_natCast] at h9 e9 r9 ⊢
  have hN20 : N0 ≤ 20 := by have := r9.2; omega
  generalize hT0 : livesI l N0 ms = T0
  have hC1 := cx [.io] (h1)
  have hC2 := cx [.io] (h2)
  have hC3 := cx [.io] (h3)
  have hC4 := cx [.io] (h4)
  have hC5 := cx [.io] (h5)
  have hC6 := cx [.io] (h6)
  have hC7 := cx [.io] (h7)
  have hC8 := cx [.io] (h8)
  have hC9 := cx [.io] (h9)
  have fy := Nat.add_zero
  refine goN ?_ ?_ ?_ ?_ ?_ ?_ ?_ ?_ ?_ ?_ ?_ ?_ ?_ ?_ ?_ ?_
  any_goals (first | exact True.intro | skip)
  skip
  refine SW.loop (fun x : Nat × List LiveT × RS => ⟨[.undef, .undef, .ptr 1 0 [] 0, .undef, .ptr 2 0 [] 0, .ptr 3 0 [] 0, .undef, .undef, .undef, .undef, .undef, .undef, .undef, .undef, .undef, .undef, .undef, .undef, .undef, .undef, .undef, .undef, .undef, .undef, .undef, .undef, .undef, .undef, .undef, .undef, .undef, .undef, .undef, .undef, .undef, .int .i64 (N0 : Nat), .int .i64 (x.1 : Nat), .undef, .undef, .undef, .undef, .undef, .undef, .undef, .undef, .undef, .undef, .undef, .undef, .undef, .undef, .undef, .undef, .undef, .undef, .undef, .undef, .undef, .undef, .undef, .undef, .undef, .undef, .undef, .undef], [[], [.var (.nd [.int .i64 0, .int .i64 0, .int .i64 0, .int .i64 0, .int .i64 0, .nd [.bool false, .nd [.int .i64 0, .nils 1, .nils 1]], .nd [.bool false, .nd [.int .i64 0, .nils 1, .nils 1]], .int .i64 0, .nils 3])], [.var (.nd [.sl .b (l.map Enc.b), .int .i64 (x.2.2.1 : Nat), .bool x.2.2.2])], [.var (.nd [.int .i64 a1.1, .int .i64 a2.1, .int .i64 a3.1, .int .i64 a4.1, .int .i64 a5.1, .nd [.bool s1.1.1, .nd [.int .i64 s1.1.2.1.1, .ref 4 0 0 s1.1.2.1.2.1.length, .ref 4 1 0 s1.1.2.1.2.2.1.length]], .nd [.bool s2.1.1, .nd [.int .i64 s2.1.2.1.1, .ref 5 0 0 s2.1.2.1.2.1.length, .ref 5 1 0 s2.1.2.1.2.2.1.length]], .int .i64 a6.1, .ref 6 0 0 x.2.1.length])], [.arr 1 (s1.1.2.1.2.1.map Enc.o) false, .arr 1 (s1.1.2.1.2.2.1.map Enc.o) false], [.arr 1 (s2.1.2.1.2.1.map Enc.o) false, .arr 1 (s2.1.2.1.2.2.1.map Enc.o) false], [.arr 3 (x.2.1.map Enc.o) false]]⟩)
    (fun N x => N = N0 - x.1 ∧ x.1 ≤ N0 ∧ x.2.1.length = x.1 ∧ x.2.1 ++ (livesI l (N0 - x.1) x.2.2).1 = T0.1 ∧ (livesI l (N0 - x.1) x.2.2).2 = T0.2 ∧ x.2.2.1 ≤ l.length) (n := N0) (x := (0, [], ms)) ?_ ⟨rfl, Nat.zero_le _, rfl, by simp [hT0], by simp [hT0], e9⟩ ?_
  · refine Norm.trans (Norm.forget (u := .nd [.int .i64 a1.1, .int .i64 a2.1, .int .i64 a3.1, .int .i64 a4.1, .int .i64 a5.1, .nd [.bool s1.1.1, .nd [.int .i64 s1.1.2.1.1, .ref 10 0 0 s1.1.2.1.2.1.length, .ref 10 1 0 s1.1.2.1.2.2.1.length]], .nd [.bool s2.1.1, .nd [.int .i64 s2.1.2.1.1, .ref 11 0 0 s2.1.2.1.2.1.length, .ref 11 1 0 s2.1.2.1.2.2.1.length]], .int .i64 a6.1, .ow 3 []]) 4 0 rfl (.inr ⟨_, rfl, ⟨_, _, rfl, rfl, ⟨_, _, rfl, rfl, ⟨_, _, rfl, rfl, ⟨_, _, rfl, rfl, ⟨_, _, rfl, rfl, ⟨_, _, rfl, .inl rfl, ⟨_, _, rfl, .inl rfl, ⟨_, _, rfl, rfl, ⟨_, _, rfl, .inr (.inr rfl), rfl⟩⟩⟩⟩⟩⟩⟩⟩⟩⟩)) ?_
    simp only [Heap.put, List.getElem?_cons_zero, List.getElem?_cons_succ, List.set_cons_succ, List.set_cons_zero]
    refine Norm.trans (Norm.expelVar 4 0 rfl) ?_
    simp only [Heap.put, List.getElem?_cons_zero, List.getElem?_cons_succ, List.set_cons_succ, List.set_cons_zero, thawA, thawAL, List.length_cons, List.length_nil, Nat.reduceAdd, List.nil_append, List.append_nil, List.cons_append, Nat.zero_add]
    exact Norm.re [0, 1, 2, 4, 10, 11, 13] (by decide) rfl (by first | (simp only [eq_self, heapFits, rowFits, obFits, List.getElem?_cons_zero, List.getElem?_cons_succ, renL_o, renL_b, true_and, and_true, and_self]; done) | simp [-List.map_append, heapFits, rowFits, obFits, T.ren, renL]) (by simp [tmFits, T.ren])
  rintro N ⟨i, acc, s⟩ ⟨hN, hi, hal, hac, hs1, hle⟩
  simp only at hN hi hal hac hs1 hle ⊢
  have fy := Nat.add_zero
  refine goS ?_
  refine SW.cond rfl (fun hc => ?_) (fun hc => ?_)
  · have hlt : i < N0 := by simp at hc; omega
    have hsp : N0 - i = (N0 - (i + 1)) + 1 := by omega
    rw [hsp, livesI] at hac hs1
    have hwi : IntKind.i64.wrap ((i : Int) + 1) = ((i + 1 : Nat) : Int) := by rw [wrap64 _ (by omega) (by omega)]; omega
    have g1 := one_b l s hl hle
    have q1 := oneR_le l s hle
    have hlv : liveI l s = (((oneR l s).1, (oneR l (oneR l s).2).1, decide ((manyR l 1 (oneR l (oneR l s).2).2).1 = 1), ()), (manyR l 1 (oneR l (oneR l s).2).2).2) := rfl
    rw [hlv] at hac hs1
    generalize oneR l s = b1 at *
    have g2 := one_b l b1.2 hl q1
    have q2 := oneR_le l b1.2 q1
    generalize oneR l b1.2 = b2 at *
    have g3 := many_b l b2.2 1 hl q2
    have q3 := manyR_le l 1 b2.2 q2
    generalize manyR l 1 b2.2 = b3 at *
    have he1 : (b3.1 == 1) = decide (b3.1 = 1) := rfl
    generalize hdd : decide (b3.1 = 1) = dd at *
    have hap := fun (own e j e2 j2 : Nat) (H : Heap) (q1 : H.at e j = some (.arr 3 ((acc).map Enc.o) false)) (q2 : H.at e2 j2 = some (.arr 3 [.nd [.int .i64 (((((b1.1, b2.1, dd, ()) : LiveT))).1), .int .i64 (((((b1.1, b2.1, dd, ()) : LiveT))).2.1), .bool (((((b1.1, b2.1, dd, ()) : LiveT))).2.2.1)]] false)) => append_runP (Y := Y) (own := own) (t := 39) (u := 39) (e := e) (j := j) (off := 0) (n := (acc).length) (e2 := e2) (j2 := j2) (f := (acc).map Enc.o) (l := acc) (x := ((b1.1, b2.1, dd, ()) : LiveT)) (H := H) Y39 Y39 Y91 rfl (by decide) q1 q2 (by rw [List.drop_zero]; exact take_map_len _ _) (by simp) (by omega) rfl rfl
    have hC1 := cx [.io] (g1)
    have hC2 := cx [.io] (g2)
    have hC3 := cx [.io] (g3)
    have fy := And.intro hwi (And.intro he1 (And.intro hap (bs1_39)))
    refine goN ?_ ?_ ?_ ?_ ?_ ?_ ?_ ?_ ?_ ?_ ?_ ?_ ?_ ?_ ?_ ?_
    any_goals (first | exact True.intro | skip)
    skip
    refine ⟨N - 1, (i + 1, acc ++ [(b1.1, b2.1, dd, ())], b3.2), by omega, ⟨by simp only; omega, by simp only; omega, by simp [hal], by simp only; rw [← hac]; simp, hs1, q3⟩, ?_⟩
    exact Norm.re [0, 1, 2, 3, 4, 5, 12] (by decide) rfl (by first | (simp only [eq_self, heapFits, rowFits, obFits, List.getElem?_cons_zero, List.getElem?_cons_succ, renL_o, renL_b, true_and, and_true, and_self]; done) | simp [-List.map_append, heapFits, rowFits, obFits, T.ren, renL]) (by simp [tmFits, T.ren])
  · have hge : i = N0 := by
      have : ¬ i < N0 := by simp at hc; omega
      omega
    subst hge
    rw [Nat.sub_self] at hac hs1
    simp only [livesI, List.append_nil] at hac hs1
    subst hs1
    have hD := done_ok l T0.2
    have hlim : Enc.lim 1048576 ((a1.1, a2.1, a3.1, a4.1, a5.1, s1.1, s2.1, a6.1, acc, ()) : RecT) := ⟨trivial, trivial, trivial, trivial, trivial, ⟨trivial, ⟨trivial, ⟨by simp only; omega, fun _ _ => trivial⟩, ⟨by simp only; omega, fun _ _ => trivial⟩, trivial⟩, trivial⟩, ⟨trivial, ⟨trivial, ⟨by simp only; omega, fun _ _ => trivial⟩, ⟨by simp only; omega, fun _ _ => trivial⟩, trivial⟩, trivial⟩, trivial, ⟨by simp only; omega, fun _ _ => ⟨trivial, trivial, trivial, trivial⟩⟩, trivial⟩
    have hR := implRecOk_ok (a1.1, a2.1, a3.1, a4.1, a5.1, s1.1, s2.1, a6.1, acc, ()) hlim
    unfold grecK
    rw [← hac]
    simp only at hR ⊢
    generalize recB (a1.1, a2.1, a3.1, a4.1, a5.1, s1.1, s2.1, a6.1, acc, ()) = rb at *
    generalize (!T0.2.2 && decide (T0.2.1 = l.length)) = d at *
    unfold recEnd rec0 slot0'
    cases d <;> cases rb
    · simp only [Bool.and_self, Bool.false_and, Bool.and_false, Bool.false_eq_true, if_false, if_true, List.map_nil]
      have hC1 := cx [] (hD)
      have hC2 := cx [] (hR)
      have fy := Nat.add_zero
      refine goR ?_ ?_ ?_ ?_ ?_ ?_ ?_ ?_ ?_ ?_ ?_ ?_ ?_ ?_ ?_ ?_
      any_goals (first | exact True.intro | skip)
      all_goals (repeat (refine Wh.mk fun hcc => ?_))
      all_goals exact SW.ret (show RetQ _ _ _ _ _ _ _ from RetQ.y [0, 0] [.nd [.int .i64 0, .int .i64 0, .int .i64 0, .int .i64 0, .int .i64 0, .nd [.bool false, .nd [.int .i64 0, .ow 1 [], .ow 1 []]], .nd [.bool false, .nd [.int .i64 0, .ow 1 [], .ow 1 []]], .int .i64 0, .ow 3 []], .bool false])
    · simp only [Bool.and_self, Bool.false_and, Bool.and_false, Bool.false_eq_true, if_false, if_true, List.map_nil]
      have hC1 := cx [] (hD)
      have hC2 := cx [] (hR)
      have fy := Nat.add_zero
      refine goR ?_ ?_ ?_ ?_ ?_ ?_ ?_ ?_ ?_ ?_ ?_ ?_ ?_ ?_ ?_ ?_
      any_goals (first | exact True.intro | skip)
      all_goals (repeat (refine Wh.mk fun hcc => ?_))
      all_goals exact SW.ret (show RetQ _ _ _ _ _ _ _ from RetQ.y [0, 0] [.nd [.int .i64 0, .int .i64 0, .int .i64 0, .int .i64 0, .int .i64 0, .nd [.bool false, .nd [.int .i64 0, .ow 1 [], .ow 1 []]], .nd [.bool false, .nd [.int .i64 0, .ow 1 [], .ow 1 []]], .int .i64 0, .ow 3 []], .bool false])
    · simp only [Bool.and_self, Bool.false_and, Bool.and_false, Bool.false_eq_true, if_false, if_true, List.map_nil]
      have hC1 := cx [] (hD)
      have hC2 := cx [] (hR)
      have fy := Nat.add_zero
      refine goR ?_ ?_ ?_ ?_ ?_ ?_ ?_ ?_ ?_ ?_ ?_ ?_ ?_ ?_ ?_ ?_
      any_goals (first | exact True.intro | skip)
      all_goals (repeat (refine Wh.mk fun hcc => ?_))
      all_goals exact SW.ret (show RetQ _ _ _ _ _ _ _ from RetQ.y [0, 0] [.nd [.int .i64 0, .int .i64 0, .int .i64 0, .int .i64 0, .int .i64 0, .nd [.bool false, .nd [.int .i64 0, .ow 1 [], .ow 1 []]], .nd [.bool false, .nd [.int .i64 0, .ow 1 [], .ow 1 []]], .int .i64 0, .ow 3 []], .bool false])
    · simp only [Bool.and_self, Bool.false_and, Bool.and_false, Bool.false_eq_true, if_false, if_true, List.map_nil]
      have hC1 := cx [] (hD)
      have hC2 := cx [] (hR)
      have fy := Nat.add_zero
      refine goR ?_ ?_ ?_ ?_ ?_ ?_ ?_ ?_ ?_ ?_ ?_ ?_ ?_ ?_ ?_ ?_
      any_goals (first | exact True.intro | skip)
      all_goals (repeat (refine Wh.mk fun hcc => ?_))
      all_goals exact SW.ret (show RetQ _ _ _ _ _ _ _ from RetQ.y [0, 0] [.nd [.int .i64 a1.1, .int .i64 a2.1, .int .i64 a3.1, .int .i64 a4.1, .int .i64 a5.1, .nd [.bool s1.1.1, .nd [.int .i64 s1.1.2.1.1, .ow 1 (s1.1.2.1.2.1.map Enc.o), .ow 1 (s1.1.2.1.2.2.1.map Enc.o)]], .nd [.bool s2.1.1, .nd [.int .i64 s2.1.2.1.1, .ow 1 (s2.1.2.1.2.1.map Enc.o), .ow 1 (s2.1.2.1.2.2.1.map Enc.o)]], .int .i64 a6.1, .ow 3 (acc.map Enc.o)], .bool true])
end Q6

namespace Q6
open Go Go.Vm Go.Proofs
set_option maxHeartbeats 4000000
set_option synthInstance.maxSize 2000
set_option synthInstance.maxHeartbeats 400000
set_option maxRecDepth 10000
set_option linter.unusedSimpArgs false
set_option linter.unusedVariables false

open Go.By

theorem bs6_34 (own : Nat) (a0 a1 a2 a3 a4 a5 : Int) : buildSliceM Y own 34 6 [(0, .int .i64 a0), (1, .int .i64 a1), (2, .int .i64 a2), (3, .int .i64 a3), (4, .int .i64 a4), (5, .int .i64 a5)] = .pure { v := .ref own 0 0 6, news := [.arr 1 ([a0, a1, a2, a3, a4, a5].map Enc.o) false] } := rfl
def flagN (b : Bool) : Int := if b = true then 1 else 0
def putLv (t : LiveT) : List UInt8 := putI t.1 ++ putI t.2.1 ++ putI (flagN t.2.2.1)
def recNs (x : RecT) : List Int := [x.1, x.2.1, x.2.2.1, x.2.2.2.1, x.2.2.2.2.1, x.2.2.2.2.2.2.2.1]
def putRec (x : RecT) : List UInt8 := (recNs x).flatMap putI ++ putSl x.2.2.2.2.2.1 ++ putSl x.2.2.2.2.2.2.1 ++ putI x.2.2.2.2.2.2.2.2.1.length ++ x.2.2.2.2.2.2.2.2.1.flatMap putLv
theorem recB_txs {x : RecT} (h : recB x = true) : x.2.2.2.2.2.2.2.2.1.length ≤ 20 := by
  unfold recB at h
  simp only [Bool.and_eq_true] at h
  obtain ⟨_, h⟩ := h
  split at h
  · unfold livesB at h
    simp only [Bool.and_eq_true, decide_eq_true_eq] at h
    exact h.2.2
  · simp only [Bool.and_eq_true, decide_eq_true_eq] at h
    omega
theorem recB_slots {x : RecT} (h : recB x = true) : slotB x.2.2.2.2.2.1 = true ∧ slotB x.2.2.2.2.2.2.1 = true := by
  have hn1 := @noSlot_slot x.2.2.2.2.2.1
  have hn2 := @noSlot_slot x.2.2.2.2.2.2.1
  unfold recB at h
  simp only [Bool.and_eq_true] at h
  obtain ⟨_, h⟩ := h
  split at h
  · simp only [Bool.and_eq_true] at h
    exact ⟨hn1 h.1.1.2.1.2, hn2 h.1.1.2.2⟩
  · simp only [Bool.and_eq_true] at h
    obtain ⟨_, h⟩ := h
    split at h
    · simp only [Bool.and_eq_true] at h; exact ⟨h.1.1.2, h.1.2⟩
    · split at h
      · simp only [Bool.and_eq_true] at h; exact ⟨hn1 h.1.1.2, h.1.2⟩
      · split at h
        · simp only [Bool.and_eq_true] at h; exact ⟨hn1 h.1.1.2, hn2 h.1.2⟩
        · cases h
theorem putLv_len (t : LiveT) : (putLv t).length ≤ 18 := by
  have h1 := putI_len t.1
  have h2 := putI_len t.2.1
  have h3 := putI_len (flagN t.2.2.1)
  unfold putLv; simp only [List.length_append]; omega
theorem putLvs_len : ∀ l : List LiveT, (l.flatMap putLv).length ≤ 18 * l.length
  | [] => by simp
  | x :: l => by have := putLvs_len l; have := putLv_len x; simp only [List.flatMap_cons, List.length_append, List.length_cons]; omega

theorem sPutRec_n (x : RecT) (hx : Enc.lim 1048576 x) (ho : recB x = false) : CallR Try.prog 59 [.nd [.int .i64 x.1, .int .i64 x.2.1, .int .i64 x.2.2.1, .int .i64 x.2.2.2.1, .int .i64 x.2.2.2.2.1, .nd [.bool x.2.2.2.2.2.1.1, .nd [.int .i64 x.2.2.2.2.2.1.2.1.1, .sl .b (x.2.2.2.2.2.1.2.1.2.1.map Enc.b), .sl .b (x.2.2.2.2.2.1.2.1.2.2.1.map Enc.b)]], .nd [.bool x.2.2.2.2.2.2.1.1, .nd [.int .i64 x.2.2.2.2.2.2.1.2.1.1, .sl .b (x.2.2.2.2.2.2.1.2.1.2.1.map Enc.b), .sl .b (x.2.2.2.2.2.2.1.2.1.2.2.1.map Enc.b)]], .int .i64 x.2.2.2.2.2.2.2.1, .sl .b (x.2.2.2.2.2.2.2.2.1.map Enc.b)]] [] (.ow 1 (([] : List UInt8).map Enc.o)) := by
  refine CallR.of_body (n := 78) (rs := [.tmp 2]) hY.ok Try.func59 rfl (by decide) rfl rfl rfl rfl (fun F => ?_)
  have fx := And.intro Y1 (And.intro Y2 (And.intro Y3 (And.intro Y4 (And.intro Y5 (And.intro Y6 (And.intro Y7 (And.intro Y8 (And.intro Y24 (And.intro Y34 (And.intro Y36 (And.intro Y38 (And.intro Y39 (And.intro Y41 (Y91))))))))))))))
  have hO := specRecOk_ok x hx
  rw [ho] at hO
  have hC1 := cx [] (hO)
  have fy := bs0_24
  have hD1 := dx 9 [4, 3, 4] [(5, 0), (8, 0), (8, 1)]
  have hD2 := dx 16 [8, 7, 2] [(9, 0), (11, 0), (13, 0)]
  refine goR ?_ ?_ ?_ ?_ ?_ ?_ ?_ ?_ ?_ ?_ ?_ ?_ ?_ ?_ ?_ ?_
  any_goals (first | exact True.intro | skip)
  all_goals (repeat (refine Wh.mk fun hcc => ?_))
  all_goals exact SW.ret (show RetQ _ _ _ _ _ _ _ from RetQ.y [1] [.ow 1 []])
theorem sPutRec_y (x : RecT) (hx : Enc.lim 1048576 x) (ho : recB x = true) : CallR Try.prog 59 [.nd [.int .i64 x.1, .int .i64 x.2.1, .int .i64 x.2.2.1, .int .i64 x.2.2.2.1, .int .i64 x.2.2.2.2.1, .nd [.bool x.2.2.2.2.2.1.1, .nd [.int .i64 x.2.2.2.2.2.1.2.1.1, .sl .b (x.2.2.2.2.2.1.2.1.2.1.map Enc.b), .sl .b (x.2.2.2.2.2.1.2.1.2.2.1.map Enc.b)]], .nd [.bool x.2.2.2.2.2.2.1.1, .nd [.int .i64 x.2.2.2.2.2.2.1.2.1.1, .sl .b (x.2.2.2.2.2.2.1.2.1.2.1.map Enc.b), .sl .b (x.2.2.2.2.2.2.1.2.1.2.2.1.map Enc.b)]], .int .i64 x.2.2.2.2.2.2.2.1, .sl .b (x.2.2.2.2.2.2.2.2.1.map Enc.b)]] [] (.ow 1 ((putRec x).map Enc.o)) := by
  refine CallR.of_body (n := 78) (rs := [.tmp 2]) hY.ok Try.func59 rfl (by decide) rfl rfl rfl rfl (fun F => ?_)
  have fx := And.intro Y1 (And.intro Y2 (And.intro Y3 (And.intro Y4 (And.intro Y5 (And.intro Y6 (And.intro Y7 (And.intro Y8 (And.intro Y24 (And.intro Y34 (And.intro Y36 (And.intro Y38 (And.intro Y39 (And.intro Y41 (Y91))))))))))))))
  have hO := specRecOk_ok x hx
  rw [ho] at hO
  have ht := recB_txs ho
  obtain ⟨hs1, hs2⟩ := recB_slots ho
  have hns : (recNs x).length = 6 := rfl
  have hp0 : ∀ l : List Int, (l.flatMap putI).length ≤ 6 * l.length := putF_len
  have hC1 := cx [] (hO)
  have fy := And.intro bs0_24 (bs6_34)
  have hD1 := dx 9 [4, 3, 4] [(5, 0), (8, 0), (8, 1)]
  have hD2 := dx 16 [8, 7, 2] [(9, 0), (11, 0), (13, 0)]
  refine goR ?_ ?_ ?_ ?_ ?_ ?_ ?_ ?_ ?_ ?_ ?_ ?_ ?_ ?_ ?_ ?_
  any_goals (first | exact True.intro | skip)
  all_goals (repeat (refine Wh.mk fun hcc => ?_))
  refine SW.loop (fun x_ : Nat × List UInt8 => ⟨[.undef, .ptr 1 0 [] 0, .undef, .ref 2 0 0 x_.2.length, .ref 3 0 0 6, .int .i64 (x_.1 : Nat), .undef, .undef, .undef, .undef, .undef, .undef, .undef, .undef, .undef, .undef, .undef, .undef, .undef, .undef, .undef, .undef, .undef, .undef, .undef, .undef, .undef, .undef, .undef, .undef, .undef, .undef, .undef, .undef, .undef, .undef, .undef, .undef, .undef, .undef, .undef, .undef, .undef, .undef, .undef, .undef, .undef, .undef, .undef, .undef, .undef, .undef, .undef, .undef, .undef, .undef, .undef, .undef, .undef, .undef, .undef, .undef, .undef, .undef, .undef, .undef, .undef, .undef, .undef, .undef, .undef, .undef, .undef, .undef, .undef, .undef, .undef, .undef], [[], [.var (.nd [.int .i64 x.1, .int .i64 x.2.1, .int .i64 x.2.2.1, .int .i64 x.2.2.2.1, .int .i64 x.2.2.2.2.1, .nd [.bool x.2.2.2.2.2.1.1, .nd [.int .i64 x.2.2.2.2.2.1.2.1.1, .sl .b (x.2.2.2.2.2.1.2.1.2.1.map Enc.b), .sl .b (x.2.2.2.2.2.1.2.1.2.2.1.map Enc.b)]], .nd [.bool x.2.2.2.2.2.2.1.1, .nd [.int .i64 x.2.2.2.2.2.2.1.2.1.1, .sl .b (x.2.2.2.2.2.2.1.2.1.2.1.map Enc.b), .sl .b (x.2.2.2.2.2.2.1.2.1.2.2.1.map Enc.b)]], .int .i64 x.2.2.2.2.2.2.2.1, .sl .b (x.2.2.2.2.2.2.2.2.1.map Enc.b)])], [.arr 1 (x_.2.map Enc.o) false], [.arr 1 ((recNs x).map Enc.o) false]]⟩)
    (fun N x_ => N = 6 - x_.1 ∧ x_.1 ≤ 6 ∧ x_.2 = ((recNs x).take x_.1).flatMap putI) (n := 6) (x := (0, [])) (Norm.re [0, 1, 3, 4] (by decide) rfl (by simp [-List.map_append, heapFits, rowFits, obFits, T.ren, renL, recNs]) (by simp [tmFits, T.ren])) ⟨rfl, by decide, rfl⟩ ?_
  rintro N ⟨i, acc⟩ ⟨hN, hi, hac⟩
  simp only at hN hi hac ⊢
  have hacl : acc.length ≤ 36 := by
    rw [hac]
    have h1 := hp0 ((recNs x).take i)
    have h2 : ((recNs x).take i).length ≤ 6 := by rw [List.length_take]; omega
    omega
  have fy := And.intro bs0_24 (bs6_34)
  refine goS ?_
  refine SW.cond rfl (fun hc => ?_) (fun hc => ?_)
  · have hlt : i < 6 := by simp at hc; omega
    have hlt' : i < (recNs x).length := hlt
    have hg : ((recNs x).map Enc.o)[i]? = some (.int .i64 ((recNs x)[i])) := map_get Enc.o (recNs x) i hlt'
    have hltI : (i : Int) < ((6 : Nat) : Int) := by omega
    have hwi : IntKind.i64.wrap ((i : Int) + 1) = ((i + 1 : Nat) : Int) := by rw [wrap64 _ (by omega) (by omega)]; omega
    have h1 := PutInt_ok acc (recNs x)[i] (by omega)
    have hz0 : (0 : Int) ≤ (i : Int) := by omega
    have hni : 0 + i < (recNs x).length := by omega
    have hC1 := cx [] (h1)
    have fy := And.intro hg (And.intro hwi (hltI))
    have hD1 := dx 9 [4, 3, 4] [(5, 0), (8, 0), (8, 1)]
    have hD2 := dx 16 [8, 7, 2] [(9, 0), (11, 0), (13, 0)]
    refine goN ?_ ?_ ?_ ?_ ?_ ?_ ?_ ?_ ?_ ?_ ?_ ?_ ?_ ?_ ?_ ?_
    any_goals (first | exact True.intro | skip)
    skip
    refine ⟨N - 1, (i + 1, acc ++ putI (recNs x)[i]), by omega, ⟨by simp only; omega, by simp only; omega, ?_⟩, ?_⟩
    · simp only; rw [hac, List.take_succ_eq_append_getElem hlt', List.flatMap_append]; simp only [List.flatMap_cons, List.flatMap_nil, List.append_nil]
    · exact Norm.re [0, 1, 4, 3] (by decide) rfl (by first | (simp only [eq_self, heapFits, rowFits, obFits, List.getElem?_cons_zero, List.getElem?_cons_succ, renL_o, renL_b, true_and, and_true, and_self]; done) | simp [-List.map_append, heapFits, rowFits, obFits, T.ren, renL]) (by simp [tmFits, T.ren])
  · have hge : i = 6 := by
      have : ¬ i < 6 := by simp at hc; omega
      omega
    subst hge
    have hacc : acc = (recNs x).flatMap putI := hac
    have hP1 := sPutSlot_ok acc x.2.2.2.2.2.1 hx.2.2.2.2.2.1 hs1 (by omega)
    have hl1 := putSl_len hs1
    have hl2 := putSl_len hs2
    have hP2 := sPutSlot_ok (acc ++ putSl x.2.2.2.2.2.1) x.2.2.2.2.2.2.1 hx.2.2.2.2.2.2.1 hs2 (by simp only [List.length_append]; omega)
    have hP3 := PutInt_ok (acc ++ putSl x.2.2.2.2.2.1 ++ putSl x.2.2.2.2.2.2.1) x.2.2.2.2.2.2.2.2.1.length (by simp only [List.length_append]; omega)
    have hl3 := putI_len x.2.2.2.2.2.2.2.2.1.length
    have hB : (acc ++ putSl x.2.2.2.2.2.1 ++ putSl x.2.2.2.2.2.2.1 ++ putI x.2.2.2.2.2.2.2.2.1.length).length ≤ 210 := by simp only [List.length_append]; omega
    have hres : putRec x = acc ++ putSl x.2.2.2.2.2.1 ++ putSl x.2.2.2.2.2.2.1 ++ putI x.2.2.2.2.2.2.2.2.1.length ++ x.2.2.2.2.2.2.2.2.1.flatMap putLv := by unfold putRec; rw [hacc]
    rw [hres]
    generalize acc ++ putSl x.2.2.2.2.2.1 ++ putSl x.2.2.2.2.2.2.1 ++ putI x.2.2.2.2.2.2.2.2.1.length = B at *
    generalize acc ++ putSl x.2.2.2.2.2.1 ++ putSl x.2.2.2.2.2.2.1 = B2 at *
    generalize acc ++ putSl x.2.2.2.2.2.1 = B1 at *
    have hC1 := cx [] (hP1)
    have hC2 := cx [] (hP2)
    have hC3 := cx [] (hP3)
    have fy := Nat.add_zero
    have hD1 := dx 9 [4, 3, 4] [(5, 0), (8, 0), (8, 1)]
    have hD2 := dx 16 [8, 7, 2] [(9, 0), (11, 0), (13, 0)]
    refine goN ?_ ?_ ?_ ?_ ?_ ?_ ?_ ?_ ?_ ?_ ?_ ?_ ?_ ?_ ?_ ?_
    any_goals (first | exact True.intro | skip)
    skip
    refine SW.loop (fun x_ : Nat × List UInt8 => ⟨[.undef, .ptr 1 0 [] 0, .undef, .ref 2 0 0 x_.2.length, .undef, .undef, .int .i64 (x_.1 : Nat), .undef, .undef, .undef, .undef, .undef, .undef, .undef, .undef, .undef, .undef, .undef, .undef, .undef, .undef, .undef, .undef, .undef, .undef, .undef, .undef, .undef, .undef, .undef, .undef, .undef, .undef, .undef, .undef, .undef, .undef, .undef, .undef, .undef, .undef, .undef, .undef, .undef, .undef, .undef, .undef, .undef, .undef, .undef, .undef, .undef, .undef, .undef, .undef, .undef, .undef, .undef, .undef, .undef, .undef, .undef, .undef, .undef, .undef, .undef, .undef, .undef, .undef, .undef, .undef, .undef, .undef, .undef, .undef, .undef, .undef, .undef], [[], [.var (.nd [.int .i64 x.1, .int .i64 x.2.1, .int .i64 x.2.2.1, .int .i64 x.2.2.2.1, .int .i64 x.2.2.2.2.1, .nd [.bool x.2.2.2.2.2.1.1, .nd [.int .i64 x.2.2.2.2.2.1.2.1.1, .sl .b (x.2.2.2.2.2.1.2.1.2.1.map Enc.b), .sl .b (x.2.2.2.2.2.1.2.1.2.2.1.map Enc.b)]], .nd [.bool x.2.2.2.2.2.2.1.1, .nd [.int .i64 x.2.2.2.2.2.2.1.2.1.1, .sl .b (x.2.2.2.2.2.2.1.2.1.2.1.map Enc.b), .sl .b (x.2.2.2.2.2.2.1.2.1.2.2.1.map Enc.b)]], .int .i64 x.2.2.2.2.2.2.2.1, .sl .b (x.2.2.2.2.2.2.2.2.1.map Enc.b)])], [.arr 1 (x_.2.map Enc.o) false]]⟩)
      (fun N x_ => N = x.2.2.2.2.2.2.2.2.1.length - x_.1 ∧ x_.1 ≤ x.2.2.2.2.2.2.2.2.1.length ∧ x_.2 = B ++ (x.2.2.2.2.2.2.2.2.1.take x_.1).flatMap putLv) (n := x.2.2.2.2.2.2.2.2.1.length) (x := (0, B)) (Norm.re [0, 1, 6] (by decide) rfl (by first | (simp only [eq_self, heapFits, rowFits, obFits, List.getElem?_cons_zero, List.getElem?_cons_succ, renL_o, renL_b, true_and, and_true, and_self]; done) | simp [-List.map_append, heapFits, rowFits, obFits, T.ren, renL]) (by simp [tmFits, T.ren])) ⟨rfl, Nat.zero_le _, by simp⟩ ?_
    skip
    rintro N ⟨i, ac2⟩ ⟨hN, hi, hac⟩
    simp only at hN hi hac ⊢
    have hacl : ac2.length ≤ 210 + 18 * 20 := by
      have h1 := putLvs_len (x.2.2.2.2.2.2.2.2.1.take i)
      have h2 : (x.2.2.2.2.2.2.2.2.1.take i).length ≤ 20 := by rw [List.length_take]; omega
      rw [hac]; simp only [List.length_append]; omega
    have fy := Nat.add_zero
    refine goS ?_
    refine SW.cond rfl (fun hc => ?_) (fun hc => ?_)
    · have hlt : i < x.2.2.2.2.2.2.2.2.1.length := by simp at hc; omega
      have hg : (x.2.2.2.2.2.2.2.2.1.map Enc.b)[i]? = some (.nd [.int .i64 x.2.2.2.2.2.2.2.2.1[i].1, .int .i64 x.2.2.2.2.2.2.2.2.1[i].2.1, .bool x.2.2.2.2.2.2.2.2.1[i].2.2.1]) := map_get Enc.b x.2.2.2.2.2.2.2.2.1 i hlt
      have hltI : (i : Int) < (x.2.2.2.2.2.2.2.2.1.length : Int) := by omega
      have hwi : IntKind.i64.wrap ((i : Int) + 1) = ((i + 1 : Nat) : Int) := by rw [wrap64 _ (by omega) (by omega)]; omega
      have h1 := PutInt_ok ac2 x.2.2.2.2.2.2.2.2.1[i].1 (by omega)
      have l1 := putI_len x.2.2.2.2.2.2.2.2.1[i].1
      have h2 := PutInt_ok (ac2 ++ putI x.2.2.2.2.2.2.2.2.1[i].1) x.2.2.2.2.2.2.2.2.1[i].2.1 (by simp only [List.length_append]; omega)
      have l2 := putI_len x.2.2.2.2.2.2.2.2.1[i].2.1
      have h3 := PutInt_ok (ac2 ++ putI x.2.2.2.2.2.2.2.2.1[i].1 ++ putI x.2.2.2.2.2.2.2.2.1[i].2.1) (flagN x.2.2.2.2.2.2.2.2.1[i].2.2.1) (by simp only [List.length_append]; omega)
      have hnx : ac2 ++ putI x.2.2.2.2.2.2.2.2.1[i].1 ++ putI x.2.2.2.2.2.2.2.2.1[i].2.1 ++ putI (flagN x.2.2.2.2.2.2.2.2.1[i].2.2.1) = B ++ (x.2.2.2.2.2.2.2.2.1.take (i + 1)).flatMap putLv := by
        rw [hac, List.take_succ_eq_append_getElem hlt, List.flatMap_append]; simp only [List.flatMap_cons, List.flatMap_nil, List.append_nil, putLv, List.append_assoc]
      generalize ac2 ++ putI x.2.2.2.2.2.2.2.2.1[i].1 ++ putI x.2.2.2.2.2.2.2.2.1[i].2.1 ++ putI (flagN x.2.2.2.2.2.2.2.2.1[i].2.2.1) = D3 at *
      generalize ac2 ++ putI x.2.2.2.2.2.2.2.2.1[i].1 ++ putI x.2.2.2.2.2.2.2.2.1[i].2.1 = D2 at *
      generalize ac2 ++ putI x.2.2.2.2.2.2.2.2.1[i].1 = D1 at *
      rcases hfl : x.2.2.2.2.2.2.2.2.1[i].2.2.1 with _ | _
      · rw [hfl] at hg h3
        simp only [flagN, Bool.false_eq_true, if_false, if_true] at h3
        have hC1 := cx [] (h1)
        have hC2 := cx [] (h2)
        have hC3 := cx [] (h3)
        have fy := And.intro hg (And.intro hwi (hltI))
        have hD1 := dx 9 [4, 3, 4] [(5, 0), (8, 0), (8, 1)]
        have hD2 := dx 16 [8, 7, 2] [(9, 0), (11, 0), (13, 0)]
        refine goR ?_ ?_ ?_ ?_ ?_ ?_ ?_ ?_ ?_ ?_ ?_ ?_ ?_ ?_ ?_ ?_
        any_goals (first | exact True.intro | skip)
        all_goals (repeat (refine Wh.mk fun hcc => ?_))
        refine ⟨N - 1, (i + 1, D3), by omega, ⟨by simp only; omega, by simp only; omega, hnx⟩, ?_⟩
        exact Norm.re [0, 1, 5] (by decide) rfl (by first | (simp only [eq_self, heapFits, rowFits, obFits, List.getElem?_cons_zero, List.getElem?_cons_succ, renL_o, renL_b, true_and, and_true, and_self]; done) | simp [-List.map_append, heapFits, rowFits, obFits, T.ren, renL]) (by simp [tmFits, T.ren])
      · rw [hfl] at hg h3
        simp only [flagN, Bool.false_eq_true, if_false, if_true] at h3
        have hC1 := cx [] (h1)
        have hC2 := cx [] (h2)
        have hC3 := cx [] (h3)
        have fy := And.intro hg (And.intro hwi (hltI))
        have hD1 := dx 9 [4, 3, 4] [(5, 0), (8, 0), (8, 1)]
        have hD2 := dx 16 [8, 7, 2] [(9, 0), (11, 0), (13, 0)]
        refine goR ?_ ?_ ?_ ?_ ?_ ?_ ?_ ?_ ?_ ?_ ?_ ?_ ?_ ?_ ?_ ?_
        any_goals (first | exact True.intro | skip)
        all_goals (repeat (refine Wh.mk fun hcc => ?_))
        refine ⟨N - 1, (i + 1, D3), by omega, ⟨by simp only; omega, by simp only; omega, hnx⟩, ?_⟩
        exact Norm.re [0, 1, 5] (by decide) rfl (by first | (simp only [eq_self, heapFits, rowFits, obFits, List.getElem?_cons_zero, List.getElem?_cons_succ, renL_o, renL_b, true_and, and_true, and_self]; done) | simp [-List.map_append, heapFits, rowFits, obFits, T.ren, renL]) (by simp [tmFits, T.ren])
    · have hge : i = x.2.2.2.2.2.2.2.2.1.length := by
        have : ¬ i < x.2.2.2.2.2.2.2.2.1.length := by simp at hc; omega
        omega
      subst hge
      rw [List.take_length] at hac
      rw [← hac]
      have fy := Nat.add_zero
      have hD1 := dx 9 [4, 3, 4] [(5, 0), (8, 0), (8, 1)]
      have hD2 := dx 16 [8, 7, 2] [(9, 0), (11, 0), (13, 0)]
      refine goR ?_ ?_ ?_ ?_ ?_ ?_ ?_ ?_ ?_ ?_ ?_ ?_ ?_ ?_ ?_ ?_
      any_goals (first | exact True.intro | skip)
      all_goals (repeat (refine Wh.mk fun hcc => ?_))
      all_goals exact SW.ret (show RetQ _ _ _ _ _ _ _ from RetQ.y [1] [.ow 1 (ac2.map Enc.o)])
end Q6

namespace Q6
open Go Go.Vm Go.Proofs
set_option maxHeartbeats 4000000
set_option synthInstance.maxSize 2000
set_option synthInstance.maxHeartbeats 400000
set_option maxRecDepth 10000
set_option linter.unusedSimpArgs false
set_option linter.unusedVariables false

open Go.By

def liveS (l : List UInt8) (s : RS) : LiveT × RS :=
  (((oneR l s).1, (oneR l (oneR l s).2).1, decide ((oneR l (oneR l (oneR l s).2).2).1 = 1), ()), (oneR l (oneR l (oneR l s).2).2).2)
def livesS (l : List UInt8) : Nat → RS → List LiveT × RS
  | 0, s => ([], s)
  | n + 1, s => if s.2 = true then ([], s) else ((liveS l s).1 :: (livesS l n (liveS l s).2).1, (livesS l n (liveS l s).2).2)
theorem liveS_le (l : List UInt8) (s : RS) (ha : s.1 ≤ l.length) : (liveS l s).2.1 ≤ l.length := oneR_le l _ (oneR_le l _ (oneR_le l s ha))
theorem livesS_bad (l : List UInt8) (n : Nat) (s : RS) (h : s.2 = true) : livesS l n s = ([], s) := by
  cases n with
  | zero => rfl
  | succ n => unfold livesS; rw [if_pos h]
def grecKS (l : List UInt8) (x : List LiveT → RecT) (t : List LiveT × RS) : RecT × Bool := recEnd (x t.1) (!t.2.2 && (recB (x t.1) && decide (putRec (x t.1) = l)))
def grecS (l : List UInt8) : RecT × Bool :=
  let a1 := oneR l (0, false); let a2 := oneR l a1.2; let a3 := oneR l a2.2; let a4 := oneR l a3.2; let a5 := oneR l a4.2; let a6 := oneR l a5.2
  let s1 := slotS l a6.2; let s2 := slotS l s1.2; let m := oneR l s2.2; let t := livesS l (min m.1.toNat 30) m.2
  grecKS l (fun t => (a1.1, a2.1, a3.1, a4.1, a5.1, s1.1, s2.1, a6.1, t, ())) t
theorem putRec_len {x : RecT} (h : recB x = true) : (putRec x).length ≤ 1048576 := by
  have ht := recB_txs h
  obtain ⟨hs1, hs2⟩ := recB_slots h
  have h1 := putSl_len hs1
  have h2 := putSl_len hs2
  have h3 := putF_len (recNs x)
  have h4 : (recNs x).length = 6 := rfl
  have h5 := putLvs_len x.2.2.2.2.2.2.2.2.1
  have h6 := putI_len x.2.2.2.2.2.2.2.2.1.length
  unfold putRec; simp only [List.length_append]; omega
theorem slotS_lim (l : List UInt8) (s : RS) : (slotS l s).1.2.1.2.1.length ≤ 5 ∧ (slotS l s).1.2.1.2.2.1.length ≤ 5 := by
  unfold slotS slot0'
  simp only
  split
  · exact ⟨Nat.zero_le _, Nat.zero_le _⟩
  · split
    · exact ⟨Nat.zero_le _, Nat.zero_le _⟩
    · simp only
      rw [← gob_eq]; exact gob_len _

theorem grecS_ok (l : List UInt8) (hl : l.length ≤ 1048576) : CallR Try.prog 42 [.sl .b (l.map Enc.b)] [] (.tup [.nd [.int .i64 (((grecS l).1).1), .int .i64 (((grecS l).1).2.1), .int .i64 (((grecS l).1).2.2.1), .int .i64 (((grecS l).1).2.2.2.1), .int .i64 (((grecS l).1).2.2.2.2.1), .nd [.bool ((((grecS l).1).2.2.2.2.2.1).1), .nd [.int .i64 (((((grecS l).1).2.2.2.2.2.1).2.1).1), .ow 1 ((((((grecS l).1).2.2.2.2.2.1).2.1).2.1).map Enc.o), .ow 1 ((((((grecS l).1).2.2.2.2.2.1).2.1).2.2.1).map Enc.o)]], .nd [.bool ((((grecS l).1).2.2.2.2.2.2.1).1), .nd [.int .i64 (((((grecS l).1).2.2.2.2.2.2.1).2.1).1), .ow 1 ((((((grecS l).1).2.2.2.2.2.2.1).2.1).2.1).map Enc.o), .ow 1 ((((((grecS l).1).2.2.2.2.2.2.1).2.1).2.2.1).map Enc.o)]], .int .i64 (((grecS l).1).2.2.2.2.2.2.2.1), .ow 3 ((((grecS l).1).2.2.2.2.2.2.2.2.1).map Enc.o)], .bool (grecS l).2]) := by
  refine CallR.of_body (n := 90) (rs := [.cell 2 41, .tmp 3]) hY.ok Try.func42 rfl (by decide) rfl rfl rfl rfl (fun F => ?_)
  have fx := And.intro Y1 (And.intro Y2 (And.intro Y3 (And.intro Y4 (And.intro Y5 (And.intro Y6 (And.intro Y7 (And.intro Y8 (And.intro Y24 (And.intro Y34 (And.intro Y36 (And.intro Y38 (And.intro Y39 (And.intro Y41 (And.intro Y91 (And.intro Y115 (Y117))))))))))))))))
  have h1 : CallR Try.prog 104 [.io (.nd [.sl (.r 0) (l.map Enc.b), .int .i64 0, .bool false])] [.nd [.sl (.r 0) (l.map Enc.b), .int .i64 ((oneR l (0, false)).2.1 : Nat), .bool (oneR l (0, false)).2.2]] (.int .i64 (oneR l (0, false)).1) := next_b l (0, false) hl (Nat.zero_le _)
  have e1 := oneR_le l (0, false) (Nat.zero_le _)
  unfold grecS
  simp only
  generalize oneR l (0, false) = a1 at *
  have h2 := next_b l a1.2 hl e1
  have e2 := oneR_le l a1.2 e1
  generalize oneR l a1.2 = a2 at *
  have h3 := next_b l a2.2 hl e2
  have e3 := oneR_le l a2.2 e2
  generalize oneR l a2.2 = a3 at *
  have h4 := next_b l a3.2 hl e3
  have e4 := oneR_le l a3.2 e3
  generalize oneR l a3.2 = a4 at *
  have h5 := next_b l a4.2 hl e4
  have e5 := oneR_le l a4.2 e4
  generalize oneR l a4.2 = a5 at *
  have h6 := next_b l a5.2 hl e5
  have e6 := oneR_le l a5.2 e5
  generalize oneR l a5.2 = a6 at *
  have h7 := specSlot_b l a6.2 hl e6
  have e7 := slotS_le l a6.2 e6
  have l7 := slotS_lim l a6.2
  generalize slotS l a6.2 = s1 at *
  have h8 := specSlot_b l s1.2 hl e7
  have e8 := slotS_le l s1.2 e7
  have l8 := slotS_lim l s1.2
  generalize slotS l s1.2 = s2 at *
  have h9 := next_b l s2.2 hl e8
  have e9 := oneR_le l s2.2 e8
  generalize oneR l s2.2 = m at *
  obtain ⟨mv, ms⟩ := m
  simp only at h9 e9 ⊢
  obtain ⟨N0, hN0⟩ : ∃ N0, min mv.toNat 30 = N0 := ⟨_, rfl⟩
  rw [hN0]
  generalize hT0 : livesS l N0 ms = T0
  have hC1 := cx [.io] (h1)
  have hC2 := cx [.io] (h2)
  have hC3 := cx [.io] (h3)
  have hC4 := cx [.io] (h4)
  have hC5 := cx [.io] (h5)
  have hC6 := cx [.io] (h6)
  have hC7 := cx [.io] (h7)
  have hC8 := cx [.io] (h8)
  have hC9 := cx [.io] (h9)
  have fy := Nat.add_zero
  refine goN ?_ ?_ ?_ ?_ ?_ ?_ ?_ ?_ ?_ ?_ ?_ ?_ ?_ ?_ ?_ ?_
  any_goals (first | exact True.intro | skip)
  skip
  refine SW.loop (fun x : Nat × List LiveT × RS => ⟨[.sl .b (l.map Enc.b), .undef, .ptr 1 0 [] 0, .undef, .ptr 2 0 [] 0, .ptr 3 0 [] 0, .int .i64 mv, .int .i64 (x.1 : Nat), .undef, .undef, .undef, .undef, .undef, .undef, .undef, .undef, .undef, .undef, .undef, .undef, .undef, .undef, .undef, .undef, .undef, .undef, .undef, .undef, .undef, .undef, .undef, .undef, .undef, .undef, .undef, .undef, .undef, .undef, .undef, .undef, .undef, .undef, .undef, .undef, .undef, .undef, .undef, .undef, .undef, .undef, .undef, .undef, .undef, .undef, .undef, .undef, .undef, .undef, .undef, .undef, .undef, .undef, .undef, .undef, .undef, .undef, .undef, .undef, .undef, .undef, .undef, .undef, .undef, .undef, .undef, .undef, .undef, .undef, .undef, .undef, .undef, .undef, .undef, .undef, .undef, .undef, .undef, .undef, .undef, .undef], [[], [.var (.nd [.int .i64 0, .int .i64 0, .int .i64 0, .int .i64 0, .int .i64 0, .nd [.bool false, .nd [.int .i64 0, .nils 1, .nils 1]], .nd [.bool false, .nd [.int .i64 0, .nils 1, .nils 1]], .int .i64 0, .nils 3])], [.var (.nd [.sl .b (l.map Enc.b), .int .i64 (x.2.2.1 : Nat), .bool x.2.2.2])], [.var (.nd [.int .i64 a1.1, .int .i64 a2.1, .int .i64 a3.1, .int .i64 a4.1, .int .i64 a5.1, .nd [.bool s1.1.1, .nd [.int .i64 s1.1.2.1.1, .ref 4 0 0 s1.1.2.1.2.1.length, .ref 4 1 0 s1.1.2.1.2.2.1.length]], .nd [.bool s2.1.1, .nd [.int .i64 s2.1.2.1.1, .ref 5 0 0 s2.1.2.1.2.1.length, .ref 5 1 0 s2.1.2.1.2.2.1.length]], .int .i64 a6.1, .ref 6 0 0 x.2.1.length])], [.arr 1 (s1.1.2.1.2.1.map Enc.o) false, .arr 1 (s1.1.2.1.2.2.1.map Enc.o) false], [.arr 1 (s2.1.2.1.2.1.map Enc.o) false, .arr 1 (s2.1.2.1.2.2.1.map Enc.o) false], [.arr 3 (x.2.1.map Enc.o) false]]⟩)
    (fun N x => N = N0 - x.1 ∧ x.1 ≤ N0 ∧ x.2.1.length = x.1 ∧ x.2.1 ++ (livesS l (N0 - x.1) x.2.2).1 = T0.1 ∧ (livesS l (N0 - x.1) x.2.2).2 = T0.2 ∧ x.2.2.1 ≤ l.length) (n := N0) (x := (0, [], ms)) ?_ ⟨rfl, Nat.zero_le _, rfl, by simp [hT0], by simp [hT0], e9⟩ ?_
  · refine Norm.trans (Norm.forget (u := .nd [.int .i64 a1.1, .int .i64 a2.1, .int .i64 a3.1, .int .i64 a4.1, .int .i64 a5.1, .nd [.bool s1.1.1, .nd [.int .i64 s1.1.2.1.1, .ref 10 0 0 s1.1.2.1.2.1.length, .ref 10 1 0 s1.1.2.1.2.2.1.length]], .nd [.bool s2.1.1, .nd [.int .i64 s2.1.2.1.1, .ref 11 0 0 s2.1.2.1.2.1.length, .ref 11 1 0 s2.1.2.1.2.2.1.length]], .int .i64 a6.1, .ow 3 []]) 3 0 rfl (.inr ⟨_, rfl, ⟨_, _, rfl, rfl, ⟨_, _, rfl, rfl, ⟨_, _, rfl, rfl, ⟨_, _, rfl, rfl, ⟨_, _, rfl, rfl, ⟨_, _, rfl, .inl rfl, ⟨_, _, rfl, .inl rfl, ⟨_, _, rfl, rfl, ⟨_, _, rfl, .inr (.inr rfl), rfl⟩⟩⟩⟩⟩⟩⟩⟩⟩⟩)) ?_
    simp only [Heap.put, List.getElem?_cons_zero, List.getElem?_cons_succ, List.set_cons_succ, List.set_cons_zero]
    refine Norm.trans (Norm.expelVar 3 0 rfl) ?_
    simp only [Heap.put, List.getElem?_cons_zero, List.getElem?_cons_succ, List.set_cons_succ, List.set_cons_zero, thawA, thawAL, List.length_cons, List.length_nil, Nat.reduceAdd, List.nil_append, List.append_nil, List.cons_append, Nat.zero_add]
    exact Norm.re [0, 1, 2, 3, 10, 11, 13] (by decide) rfl (by first | (simp only [eq_self, heapFits, rowFits, obFits, List.getElem?_cons_zero, List.getElem?_cons_succ, renL_o, renL_b, true_and, and_true, and_self]; done) | simp [-List.map_append, heapFits, rowFits, obFits, T.ren, renL]) (by simp [tmFits, T.ren])
  rintro N ⟨i, acc, s⟩ ⟨hN, hi, hal, hac, hs1, hle⟩
  simp only at hN hi hal hac hs1 hle ⊢
  obtain ⟨sa, sb⟩ := s
  simp only at hle hac hs1 ⊢
  have hN30 : N0 ≤ 30 := by omega
  have fy := Nat.add_zero
  refine goS ?_
  refine SW.cond rfl (fun hc => ?_) (fun hc => ?_)
  · simp only [Bool.and_eq_true, decide_eq_true_eq, Bool.not_eq_true'] at hc
    obtain ⟨⟨hc1, hc2⟩, hc3⟩ := hc
    subst hc3
    have hlt : i < N0 := by omega
    have hsp : N0 - i = (N0 - (i + 1)) + 1 := by omega
    rw [hsp, livesS, if_neg (by simp)] at hac hs1
    have hwi : IntKind.i64.wrap ((i : Int) + 1) = ((i + 1 : Nat) : Int) := by rw [wrap64 _ (by omega) (by omega)]; omega
    have g1 := next_b l (sa, false) hl hle
    have q1 := oneR_le l (sa, false) hle
    have hlv : liveS l (sa, false) = (((oneR l (sa, false)).1, (oneR l (oneR l (sa, false)).2).1, decide ((oneR l (oneR l (oneR l (sa, false)).2).2).1 = 1), ()), (oneR l (oneR l (oneR l (sa, false)).2).2).2) := rfl
    rw [hlv] at hac hs1
    generalize oneR l (sa, false) = b1 at *
    have g2 := next_b l b1.2 hl q1
    have q2 := oneR_le l b1.2 q1
    generalize oneR l b1.2 = b2 at *
    have g3 := next_b l b2.2 hl q2
    have q3 := oneR_le l b2.2 q2
    generalize oneR l b2.2 = b3 at *
    have he1 : (b3.1 == 1) = decide (b3.1 = 1) := rfl
    generalize hdd : decide (b3.1 = 1) = dd at *
    have hap := fun (own e j e2 j2 : Nat) (H : Heap) (q1 : H.at e j = some (.arr 3 ((acc).map Enc.o) false)) (q2 : H.at e2 j2 = some (.arr 3 [.nd [.int .i64 (((((b1.1, b2.1, dd, ()) : LiveT))).1), .int .i64 (((((b1.1, b2.1, dd, ()) : LiveT))).2.1), .bool (((((b1.1, b2.1, dd, ()) : LiveT))).2.2.1)]] false)) => append_runP (Y := Y) (own := own) (t := 39) (u := 39) (e := e) (j := j) (off := 0) (n := (acc).length) (e2 := e2) (j2 := j2) (f := (acc).map Enc.o) (l := acc) (x := ((b1.1, b2.1, dd, ()) : LiveT)) (H := H) Y39 Y39 Y91 rfl (by decide) q1 q2 (by rw [List.drop_zero]; exact take_map_len _ _) (by simp) (by omega) rfl rfl
    have hC1 := cx [.io] (g1)
    have hC2 := cx [.io] (g2)
    have hC3 := cx [.io] (g3)
    have fy := And.intro hwi (And.intro he1 (And.intro hap (bs1_39)))
    refine goN ?_ ?_ ?_ ?_ ?_ ?_ ?_ ?_ ?_ ?_ ?_ ?_ ?_ ?_ ?_ ?_
    any_goals (first | exact True.intro | skip)
    skip
    refine ⟨N - 1, (i + 1, acc ++ [(b1.1, b2.1, dd, ())], b3.2), by omega, ⟨by simp only; omega, by simp only; omega, by simp [hal], by simp only; rw [← hac]; simp, hs1, q3⟩, ?_⟩
    exact Norm.re [0, 1, 2, 3, 4, 5, 12] (by decide) rfl (by first | (simp only [eq_self, heapFits, rowFits, obFits, List.getElem?_cons_zero, List.getElem?_cons_succ, renL_o, renL_b, true_and, and_true, and_self]; done) | simp [-List.map_append, heapFits, rowFits, obFits, T.ren, renL]) (by simp [tmFits, T.ren])
  · have hend : livesS l (N0 - i) (sa, sb) = ([], (sa, sb)) := by
      cases sb with
      | true => exact livesS_bad l _ _ rfl
      | false =>
        have : N0 - i = 0 := by
          simp only [Bool.not_false, Bool.and_true, Bool.and_eq_false_iff, decide_eq_false_iff_not] at hc
          omega
        rw [this]; rfl
    rw [hend] at hac hs1
    simp only [List.append_nil] at hac hs1
    have hlim : Enc.lim 1048576 ((a1.1, a2.1, a3.1, a4.1, a5.1, s1.1, s2.1, a6.1, acc, ()) : RecT) := ⟨trivial, trivial, trivial, trivial, trivial, ⟨trivial, ⟨trivial, ⟨by simp only; omega, fun _ _ => trivial⟩, ⟨by simp only; omega, fun _ _ => trivial⟩, trivial⟩, trivial⟩, ⟨trivial, ⟨trivial, ⟨by simp only; omega, fun _ _ => trivial⟩, ⟨by simp only; omega, fun _ _ => trivial⟩, trivial⟩, trivial⟩, trivial, ⟨by simp only; omega, fun _ _ => ⟨trivial, trivial, trivial, trivial⟩⟩, trivial⟩
    have hR := specRecOk_ok (a1.1, a2.1, a3.1, a4.1, a5.1, s1.1, s2.1, a6.1, acc, ()) hlim
    have hPy := sPutRec_y (a1.1, a2.1, a3.1, a4.1, a5.1, s1.1, s2.1, a6.1, acc, ()) hlim
    have hpl : recB ((a1.1, a2.1, a3.1, a4.1, a5.1, s1.1, s2.1, a6.1, acc, ()) : RecT) = true → (putRec (a1.1, a2.1, a3.1, a4.1, a5.1, s1.1, s2.1, a6.1, acc, ())).length ≤ 1048576 := fun h => putRec_len h
    unfold grecKS
    rw [← hac, ← hs1]
    simp only at hR hPy ⊢
    generalize recB (a1.1, a2.1, a3.1, a4.1, a5.1, s1.1, s2.1, a6.1, acc, ()) = rb at *
    generalize putRec (a1.1, a2.1, a3.1, a4.1, a5.1, s1.1, s2.1, a6.1, acc, ()) = P at *
    unfold recEnd rec0 slot0'
    cases sb
    rotate_left
    · clear hPy
      simp only [Bool.and_self, Bool.false_and, Bool.and_false, Bool.true_and, Bool.not_true, Bool.not_false, Bool.false_eq_true, if_false, if_true, List.map_nil]
      have hC1 := cx [] (hR)
      have fy := Nat.add_zero
      refine goR ?_ ?_ ?_ ?_ ?_ ?_ ?_ ?_ ?_ ?_ ?_ ?_ ?_ ?_ ?_ ?_
      any_goals (first | exact True.intro | skip)
      all_goals (repeat (refine Wh.mk fun hcc => ?_))
      all_goals exact SW.ret (show RetQ _ _ _ _ _ _ _ from RetQ.y [0, 0] [.nd [.int .i64 0, .int .i64 0, .int .i64 0, .int .i64 0, .int .i64 0, .nd [.bool false, .nd [.int .i64 0, .ow 1 [], .ow 1 []]], .nd [.bool false, .nd [.int .i64 0, .ow 1 [], .ow 1 []]], .int .i64 0, .ow 3 []], .bool false])
    · cases rb
      · clear hPy
        simp only [Bool.and_self, Bool.false_and, Bool.and_false, Bool.true_and, Bool.not_true, Bool.not_false, Bool.false_eq_true, if_false, if_true, List.map_nil]
        have hC1 := cx [] (hR)
        have fy := Nat.add_zero
        refine goR ?_ ?_ ?_ ?_ ?_ ?_ ?_ ?_ ?_ ?_ ?_ ?_ ?_ ?_ ?_ ?_
        any_goals (first | exact True.intro | skip)
        all_goals (repeat (refine Wh.mk fun hcc => ?_))
        all_goals exact SW.ret (show RetQ _ _ _ _ _ _ _ from RetQ.y [0, 0] [.nd [.int .i64 0, .int .i64 0, .int .i64 0, .int .i64 0, .int .i64 0, .nd [.bool false, .nd [.int .i64 0, .ow 1 [], .ow 1 []]], .nd [.bool false, .nd [.int .i64 0, .ow 1 [], .ow 1 []]], .int .i64 0, .ow 3 []], .bool false])
      · have hP := hPy rfl
        have hpl2 := hpl rfl
        have hE := spec_l2Same_ok P l ⟨hpl2, fun _ _ => trivial⟩
        generalize decide (P = l) = e at *
        cases e
        · skip
          simp only [Bool.and_self, Bool.false_and, Bool.and_false, Bool.true_and, Bool.not_true, Bool.not_false, Bool.false_eq_true, if_false, if_true, List.map_nil]
          have hC1 := cx [] (hR)
          have hC2 := cx [] (hP)
          have hC3 := cx [] (hE)
          have fy := Nat.add_zero
          refine goR ?_ ?_ ?_ ?_ ?_ ?_ ?_ ?_ ?_ ?_ ?_ ?_ ?_ ?_ ?_ ?_
          any_goals (first | exact True.intro | skip)
          all_goals (repeat (refine Wh.mk fun hcc => ?_))
          all_goals exact SW.ret (show RetQ _ _ _ _ _ _ _ from RetQ.y [0, 0] [.nd [.int .i64 0, .int .i64 0, .int .i64 0, .int .i64 0, .int .i64 0, .nd [.bool false, .nd [.int .i64 0, .ow 1 [], .ow 1 []]], .nd [.bool false, .nd [.int .i64 0, .ow 1 [], .ow 1 []]], .int .i64 0, .ow 3 []], .bool false])
        · skip
          simp only [Bool.and_self, Bool.false_and, Bool.and_false, Bool.true_and, Bool.not_true, Bool.not_false, Bool.false_eq_true, if_false, if_true, List.map_nil]
          have hC1 := cx [] (hR)
          have hC2 := cx [] (hP)
          have hC3 := cx [] (hE)
          have fy := Nat.add_zero
          refine goR ?_ ?_ ?_ ?_ ?_ ?_ ?_ ?_ ?_ ?_ ?_ ?_ ?_ ?_ ?_ ?_
          any_goals (first | exact True.intro | skip)
          all_goals (repeat (refine Wh.mk fun hcc => ?_))
          all_goals exact SW.ret (show RetQ _ _ _ _ _ _ _ from RetQ.y [0, 0] [.nd [.int .i64 a1.1, .int .i64 a2.1, .int .i64 a3.1, .int .i64 a4.1, .int .i64 a5.1, .nd [.bool s1.1.1, .nd [.int .i64 s1.1.2.1.1, .ow 1 (s1.1.2.1.2.1.map Enc.o), .ow 1 (s1.1.2.1.2.2.1.map Enc.o)]], .nd [.bool s2.1.1, .nd [.int .i64 s2.1.2.1.1, .ow 1 (s2.1.2.1.2.1.map Enc.o), .ow 1 (s2.1.2.1.2.2.1.map Enc.o)]], .int .i64 a6.1, .ow 3 (acc.map Enc.o)], .bool true])
end Q6
