/- Shows what the parts of the program do that the claim reaches: a machine of values over the model, and the contracts of functions, for all arguments within the lengths that each theorem names. -/
import Derived.Test.YtalhmcbkmpggiaaPagesP1
import Derived.Test.YtalhmcbkmpggiaaPagesP2
import Derived.Test.YtalhmcbkmpggiaaVm5
set_option linter.all false

namespace Q6
open Go Go.Vm Go.Proofs
set_option maxHeartbeats 4000000
set_option synthInstance.maxSize 2000
set_option synthInstance.maxHeartbeats 400000
set_option maxRecDepth 10000
set_option linter.unusedSimpArgs false
set_option linter.unusedVariables false

open Go.By
theorem ints_ok (k : Nat) (l : List UInt8) (s : RS) (most : Int) (hl : l.length ≤ 1048576) (ha : s.1 ≤ l.length) (hm : 0 ≤ most ∧ most ≤ 1048576) : CallR Try.prog 171 [.io (.nd [.sl (gOf k) (l.map Enc.b), .int .i64 (s.1 : Nat), .bool s.2]), .int .i64 most] [.nd [.sl (gOf k) (l.map Enc.b), .int .i64 ((intsR l most s).2.1 : Nat), .bool (intsR l most s).2.2]] (.ow 1 ((intsR l most s).1.map Enc.o)) := by
  refine CallR.of_body (n := 18) (rs := [.tmp 4]) hY.ok Try.func171 rfl (by decide) rfl rfl rfl rfl (fun F => ?_)
  have fx := And.intro Y1 (And.intro Y3 (And.intro Y4 (And.intro Y34 (Y97))))
  have hM := many_ok (upk k) l s most hl ha
  have hMr := manyR_rng l most hm.1 s
  have hMl := manyR_le l most s ha
  have hR : intsR l most s = intsL l (manyR l most s).1.toNat (manyR l most s).2 := rfl
  rw [hR]
  clear hR
  obtain ⟨N0, hN0⟩ : ∃ N0 : Nat, (manyR l most s).1 = (N0 : Int) := ⟨_, (Int.toNat_of_nonneg hMr.1).symm⟩
  rw [hN0] at hM hMr ⊢
  rw [Int.toNat_natCast]
  generalize (manyR l most s).2 = s0 at *
  obtain ⟨T0, hT0⟩ : ∃ T0, intsL l N0 s0 = T0 := ⟨_, rfl⟩
  rw [hT0]
  have hC1 := cx [.io] (hM)
  have fy := Nat.add_zero
  refine goN ?_ ?_ ?_ ?_ ?_ ?_ ?_ ?_ ?_ ?_ ?_ ?_ ?_ ?_ ?_ ?_
  any_goals (first | exact True.intro | skip)
  skip
  refine SW.loop (fun x : Nat × List Int × RS => ⟨[.ptr 0 0 [] 0, .int .i64 most, .undef, .undef, .undef, .ref 1 0 0 x.2.1.length, .undef, .undef, .int .i64 (N0 : Nat), .int .i64 (x.1 : Nat), .undef, .undef, .undef, .undef, .undef, .undef, .undef, .undef], [[.var (.nd [.sl (gOf k) (l.map Enc.b), .int .i64 (x.2.2.1 : Nat), .bool x.2.2.2])], [.arr 1 (x.2.1.map Enc.o) false]]⟩)
    (fun N x => N = N0 - x.1 ∧ x.1 ≤ N0 ∧ x.2.1.length = x.1 ∧ x.2.1 ++ (intsL l (N0 - x.1) x.2.2).1 = T0.1 ∧ (intsL l (N0 - x.1) x.2.2).2 = T0.2 ∧ x.2.2.1 ≤ l.length) (n := N0) (x := (0, [], s0)) ?_ ⟨rfl, Nat.zero_le _, rfl, by simp [hT0], by simp [hT0], hMl⟩ ?_
  · refine Norm.trans (Norm.nil 5 rfl) ?_
    simp only [List.set_cons_succ, List.set_cons_zero, List.length_cons, List.length_nil, Nat.zero_add, Nat.reduceAdd, List.cons_append, List.nil_append]
    exact Norm.re [0, 2] (by decide) rfl (by simp [-List.map_append, heapFits, rowFits, obFits, T.ren, renL]) (by simp [tmFits, T.ren])
  rintro N ⟨i, acc, s1⟩ ⟨hN, hi, hal, hac, hs1, hle⟩
  simp only at hN hi hal hac hs1 hle ⊢
  have fy := Nat.add_zero
  refine goS ?_
  refine SW.cond rfl (fun hc => ?_) (fun hc => ?_)
  · have hlt : i < N0 := by simp at hc; omega
    have hO := one_ok (upk k) l s1 hl hle
    have hO2 := oneR_le l s1 hle
    have hsp : N0 - i = (N0 - (i + 1)) + 1 := by omega
    rw [hsp, intsL] at hac hs1
    have hwi : IntKind.i64.wrap ((i : Int) + 1) = ((i + 1 : Nat) : Int) := by rw [wrap64 _ (by omega) (by omega)]; omega
    have hap := append_runP (Y := Y) (H := [[.var (.nd [.sl (gOf k) (l.map Enc.b), .int .i64 ((oneR l s1).2.1 : Nat), .bool (oneR l s1).2.2])], [.arr 1 (acc.map Enc.o) false], [], [.arr 1 [Enc.o (oneR l s1).1] false], []]) (own := 4) (t := 34) (u := 34) (e := 1) (j := 0) (off := 0) (n := acc.length) (e2 := 3) (j2 := 0) (f := acc.map Enc.o) (l := acc) (x := (oneR l s1).1) Y34 Y34 Y3 rfl (by decide) rfl rfl (by simp) (by simp) (by omega) rfl rfl
    simp only [o_int] at hap
    generalize oneR l s1 = y at *
    have hC1 := cx [.io] (hO)
    have fy := And.intro hap (And.intro hwi (bs1_34))
    refine goN ?_ ?_ ?_ ?_ ?_ ?_ ?_ ?_ ?_ ?_ ?_ ?_ ?_ ?_ ?_ ?_
    any_goals (first | exact True.intro | skip)
    skip
    refine ⟨N - 1, (i + 1, acc ++ [y.1], y.2), by omega, ⟨by simp only; omega, by simp only; omega, by simp [hal], by simp only; rw [← hac]; simp, hs1, hO2⟩, ?_⟩
    exact Norm.re [0, 4] (by decide) rfl (by simp [-List.map_append, heapFits, rowFits, obFits, T.ren, renL]) (by simp [tmFits, T.ren])
  · have hge : i = N0 := by
      have : ¬ i < N0 := by simp at hc; omega
      omega
    subst hge
    rw [Nat.sub_self] at hac hs1
    simp only [intsL, List.append_nil] at hac hs1
    rw [← hac, ← hs1]
    have fy := Nat.add_zero
    refine goR ?_ ?_ ?_ ?_ ?_ ?_ ?_ ?_ ?_ ?_ ?_ ?_ ?_ ?_ ?_ ?_
    any_goals (first | exact True.intro | skip)
    all_goals (repeat (refine Wh.mk fun hcc => ?_))
    exact SW.ret (show RetQ _ _ _ _ _ _ _ from RetQ.y [1] [.ow 1 (acc.map Enc.o)])

def listL (l : List UInt8) : Nat → RS → List Int × RS
  | 0, s => ([], s)
  | n + 1, s => if s.2 = true then ([], s) else ((oneR l s).1 :: (listL l n (oneR l s).2).1, (listL l n (oneR l s).2).2)
def listR (l : List UInt8) (most : Int) (s : RS) : List Int × RS := if 0 ≤ (oneR l s).1 ∧ (oneR l s).1 ≤ most then listL l (oneR l s).1.toNat (oneR l s).2 else ([], (oneR l s).2.1, true)
theorem listL_le (l : List UInt8) : ∀ (n : Nat) (s : RS), s.1 ≤ l.length → (listL l n s).2.1 ≤ l.length ∧ (listL l n s).1.length ≤ n
  | 0, s, h => ⟨h, Nat.le_refl _⟩
  | n + 1, s, h => by
    unfold listL
    split
    · exact ⟨h, Nat.zero_le _⟩
    · have := listL_le l n _ (oneR_le l s h)
      exact ⟨this.1, by simp; exact this.2⟩
theorem listL_bad (l : List UInt8) (n : Nat) (s : RS) (h : s.2 = true) : listL l n s = ([], s) := by
  cases n with
  | zero => rfl
  | succ n => unfold listL; rw [if_pos h]
theorem listR_le (l : List UInt8) (most : Int) (s : RS) (ha : s.1 ≤ l.length) : (listR l most s).2.1 ≤ l.length := by
  unfold listR; split
  · exact (listL_le l _ _ (oneR_le l s ha)).1
  · exact oneR_le l s ha
theorem listR_len (l : List UInt8) (most : Int) (s : RS) (hm : 0 ≤ most) : ((listR l most s).1.length : Int) ≤ most := by
  unfold listR; split
  · rename_i h
    by_cases hs : s.1 ≤ l.length
    · have := (listL_le l (oneR l s).1.toNat (oneR l s).2 (oneR_le l s hs)).2
      omega
    · have : ∀ (n : Nat) (s : RS), (listL l n s).1.length ≤ n := by
        intro n
        induction n with
        | zero => intro s; exact Nat.le_refl _
        | succ n ih =>
          intro s
          unfold listL
          split
          · exact Nat.zero_le _
          · simp; exact ih _
      have := this (oneR l s).1.toNat (oneR l s).2
      omega
  · exact hm

theorem list_ok (k : Nat) (l : List UInt8) (s : RS) (most : Int) (hl : l.length ≤ 1048576) (ha : s.1 ≤ l.length) (hm : 0 ≤ most ∧ most ≤ 1048576) : CallR Try.prog 174 [.io (.nd [.sl (gOf k) (l.map Enc.b), .int .i64 (s.1 : Nat), .bool s.2]), .int .i64 most] [.nd [.sl (gOf k) (l.map Enc.b), .int .i64 ((listR l most s).2.1 : Nat), .bool (listR l most s).2.2]] (.ow 1 ((listR l most s).1.map Enc.o)) := by
  refine CallR.of_body (n := 36) (rs := [.tmp 4]) hY.ok Try.func174 rfl (by decide) rfl rfl rfl rfl (fun F => ?_)
  have fx := And.intro Y1 (And.intro Y2 (And.intro Y3 (And.intro Y4 (And.intro Y5 (And.intro Y24 (And.intro Y34 (And.intro Y115 (Y117))))))))
  have hO := next_ok (upk k) l s hl ha
  have hI := l1In_ok (oneR l s).1 0 most
  have hOl := oneR_le l s ha
  by_cases hr : 0 ≤ (oneR l s).1 ∧ (oneR l s).1 ≤ most
  · rw [show (decide ((oneR l s).1 ≥ 0) && decide ((oneR l s).1 ≤ most)) = true by simp [hr]] at hI
    have hR : listR l most s = listL l (oneR l s).1.toNat (oneR l s).2 := by unfold listR; rw [if_pos hr]
    rw [hR]
    clear hR
    obtain ⟨N0, hN0⟩ : ∃ N0 : Nat, (oneR l s).1 = (N0 : Int) := ⟨_, (Int.toNat_of_nonneg hr.1).symm⟩
    rw [hN0] at hO hI hr ⊢
    rw [Int.toNat_natCast]
    generalize (oneR l s).2 = s0 at *
    obtain ⟨T0, hT0⟩ : ∃ T0, listL l N0 s0 = T0 := ⟨_, rfl⟩
    rw [hT0]
    have hC1 := cx [.io] (hO)
    have hC2 := cx [] (hI)
    have fy := bs0_34
    refine goR ?_ ?_ ?_ ?_ ?_ ?_ ?_ ?_ ?_ ?_ ?_ ?_ ?_ ?_ ?_ ?_
    any_goals (first | exact True.intro | skip)
    all_goals (repeat (refine Wh.mk fun hcc => ?_))
    refine SW.loop (fun x : Nat × List Int × RS => ⟨[.ptr 0 0 [] 0, .int .i64 most, .undef, .undef, .undef, .int .i64 (N0 : Nat), .ref 1 0 0 x.2.1.length, .int .i64 (x.1 : Nat), .undef, .undef, .undef, .undef, .undef, .undef, .undef, .undef, .undef, .undef, .undef, .undef, .undef, .undef, .undef, .undef, .undef, .undef, .undef, .undef, .undef, .undef, .undef, .undef, .undef, .undef, .undef, .undef], [[.var (.nd [.sl (gOf k) (l.map Enc.b), .int .i64 (x.2.2.1 : Nat), .bool x.2.2.2])], [.arr 1 (x.2.1.map Enc.o) false]]⟩)
      (fun N x => N = N0 - x.1 ∧ x.1 ≤ N0 ∧ x.2.1.length = x.1 ∧ x.2.1 ++ (listL l (N0 - x.1) x.2.2).1 = T0.1 ∧ (listL l (N0 - x.1) x.2.2).2 = T0.2 ∧ x.2.2.1 ≤ l.length) (n := N0) (x := (0, [], s0)) ?_ ⟨rfl, Nat.zero_le _, rfl, by simp [hT0], by simp [hT0], hOl⟩ ?_
    · exact Norm.re [0, 3] (by decide) rfl (by simp [-List.map_append, heapFits, rowFits, obFits, T.ren, renL]) (by simp [tmFits, T.ren])
    rintro N ⟨i, acc, s1⟩ ⟨hN, hi, hal, hac, hs1, hle⟩
    simp only at hN hi hal hac hs1 hle ⊢
    obtain ⟨a1, b1⟩ := s1
    simp only at hle ⊢
    by_cases hgo : i < N0 ∧ b1 = false
    · obtain ⟨hlt, hbf⟩ := hgo
      subst hbf
      have hltd : decide ((i : Int) < (N0 : Int)) = true := by simp; omega
      have hO := next_ok (upk k) l (a1, false) hl hle
      have hO2 := oneR_le l (a1, false) hle
      have hsp : N0 - i = (N0 - (i + 1)) + 1 := by omega
      rw [hsp, listL, if_neg (by simp)] at hac hs1
      have hwi : IntKind.i64.wrap ((i : Int) + 1) = ((i + 1 : Nat) : Int) := by rw [wrap64 _ (by omega) (by omega)]; omega
      have hap := append_runP (Y := Y) (H := [[.var (.nd [.sl (gOf k) (l.map Enc.b), .int .i64 ((oneR l (a1, false)).2.1 : Nat), .bool (oneR l (a1, false)).2.2])], [.arr 1 (acc.map Enc.o) false], [], [.arr 1 [Enc.o (oneR l (a1, false)).1] false], []]) (own := 4) (t := 34) (u := 34) (e := 1) (j := 0) (off := 0) (n := acc.length) (e2 := 3) (j2 := 0) (f := acc.map Enc.o) (l := acc) (x := (oneR l (a1, false)).1) Y34 Y34 Y3 rfl (by decide) rfl rfl (by simp) (by simp) (by omega) rfl rfl
      simp only [o_int] at hap hO
      generalize oneR l (a1, false) = y at *
      have hC1 := cx [.io] (hO)
      have fy := And.intro hap (And.intro hwi (And.intro hltd (bs1_34)))
      refine goR ?_ ?_ ?_ ?_ ?_ ?_ ?_ ?_ ?_ ?_ ?_ ?_ ?_ ?_ ?_ ?_
      any_goals (first | exact True.intro | skip)
      all_goals (repeat (refine Wh.mk fun hcc => ?_))
      refine ⟨N - 1, (i + 1, acc ++ [y.1], y.2), by omega, ⟨by simp only; omega, by simp only; omega, by simp [hal], by simp only; rw [← hac]; simp, hs1, hO2⟩, ?_⟩
      exact Norm.re [0, 4] (by decide) rfl (by simp [-List.map_append, heapFits, rowFits, obFits, T.ren, renL]) (by simp [tmFits, T.ren])
    · have hend : (listL l (N0 - i) (a1, b1)) = ([], (a1, b1)) := by
        by_cases hb : b1 = true
        · exact listL_bad l _ _ hb
        · have : N0 - i = 0 := by
            have : ¬ i < N0 := fun h => hgo ⟨h, by simpa using hb⟩
            omega
          rw [this]; rfl
      rw [hend] at hac hs1
      simp only [List.append_nil] at hac hs1
      rw [← hac, ← hs1]
      by_cases hlt : i < N0
      · have hb : b1 = true := by cases b1 with | true => rfl | false => exact absurd ⟨hlt, rfl⟩ hgo
        subst hb
        have hltd : decide ((i : Int) < (N0 : Int)) = true := by simp; omega
        have fy := hltd
        refine goR ?_ ?_ ?_ ?_ ?_ ?_ ?_ ?_ ?_ ?_ ?_ ?_ ?_ ?_ ?_ ?_
        any_goals (first | exact True.intro | skip)
        all_goals (repeat (refine Wh.mk fun hcc => ?_))
        exact SW.ret (show RetQ _ _ _ _ _ _ _ from RetQ.y [1] [.ow 1 (acc.map Enc.o)])
      · have hltd : decide ((i : Int) < (N0 : Int)) = false := by simp; omega
        have fy := hltd
        refine goR ?_ ?_ ?_ ?_ ?_ ?_ ?_ ?_ ?_ ?_ ?_ ?_ ?_ ?_ ?_ ?_
        any_goals (first | exact True.intro | skip)
        all_goals (repeat (refine Wh.mk fun hcc => ?_))
        exact SW.ret (show RetQ _ _ _ _ _ _ _ from RetQ.y [1] [.ow 1 (acc.map Enc.o)])
  · have hR : listR l most s = ([], (oneR l s).2.1, true) := by unfold listR; rw [if_neg hr]
    rw [hR]
    rw [show (decide ((oneR l s).1 ≥ 0) && decide ((oneR l s).1 ≤ most)) = false by simp only [ge_iff_le, ← Bool.decide_and]; simpa using hr] at hI
    generalize oneR l s = y at *
    have hC1 := cx [.io] (hO)
    have hC2 := cx [] (hI)
    have fy := bs0_34
    refine goR ?_ ?_ ?_ ?_ ?_ ?_ ?_ ?_ ?_ ?_ ?_ ?_ ?_ ?_ ?_ ?_
    any_goals (first | exact True.intro | skip)
    all_goals (repeat (refine Wh.mk fun hcc => ?_))
    refine SW.loop (fun _ : Unit => ⟨[.ptr 0 0 [] 0, .int .i64 most, .undef, .undef, .undef, .int .i64 y.1, .ref 1 0 0 0, .int .i64 0, .undef, .undef, .undef, .undef, .undef, .undef, .undef, .undef, .undef, .undef, .undef, .undef, .undef, .undef, .undef, .undef, .undef, .undef, .undef, .undef, .undef, .undef, .undef, .undef, .undef, .undef, .undef, .undef], [[.var (.nd [.sl (gOf k) (l.map Enc.b), .int .i64 (y.2.1 : Nat), .bool true])], [.arr 1 [] false]]⟩) (fun N x => N = 0) (n := 0) (x := ()) ?_ rfl ?_
    · exact Norm.re [0, 3] (by decide) rfl (by simp [-List.map_append, heapFits, rowFits, obFits, T.ren, renL]) (by simp [tmFits, T.ren])
    rintro N x rfl
    by_cases hlt : 0 < y.1
    · have hltd : decide ((0 : Int) < y.1) = true := by simpa using hlt
      have fy := hltd
      refine goR ?_ ?_ ?_ ?_ ?_ ?_ ?_ ?_ ?_ ?_ ?_ ?_ ?_ ?_ ?_ ?_
      any_goals (first | exact True.intro | skip)
      all_goals (repeat (refine Wh.mk fun hcc => ?_))
      exact SW.ret (show RetQ _ _ _ _ _ _ _ from RetQ.y [1] [.ow 1 []])
    · have hltd : decide ((0 : Int) < y.1) = false := by simpa using hlt
      have fy := hltd
      refine goR ?_ ?_ ?_ ?_ ?_ ?_ ?_ ?_ ?_ ?_ ?_ ?_ ?_ ?_ ?_ ?_
      any_goals (first | exact True.intro | skip)
      all_goals (repeat (refine Wh.mk fun hcc => ?_))
      exact SW.ret (show RetQ _ _ _ _ _ _ _ from RetQ.y [1] [.ow 1 []])
theorem done_ok (l : List UInt8) (s : RS) : CallR Try.prog 88 [.fp (.nd [.sl .b (l.map Enc.b), .int .i64 (s.1 : Nat), .bool s.2])] [] (.bool (!s.2 && decide (s.1 = l.length))) := by
  refine CallR.of_body (n := 20) (rs := [.tmp 2]) hY.ok Try.func88 rfl (by decide) rfl rfl rfl rfl (fun F => ?_)
  have fx := And.intro Y1 (And.intro Y2 (And.intro Y3 (And.intro Y4 (And.intro Y5 (And.intro Y24 (And.intro Y97 (Y99)))))))
  have he : ((s.1 : Int) == (l.length : Int)) = decide (s.1 = l.length) := by by_cases h : s.1 = l.length <;> simp [h]; omega
  obtain ⟨a, b⟩ := s
  simp only at he ⊢
  cases b
  · skip
    have fy := he
    refine goK ?_ ?_ ?_ ?_ ?_ ?_ ?_ ?_ ?_ ?_ ?_ ?_ ?_ ?_ ?_ ?_
    any_goals (first | exact True.intro | skip)
    all_goals (repeat (refine Wh.mk fun hcc => ?_))
    all_goals (first | rfl | (simp [tupOf, fixEs]; done))
  · skip
    have fy := he
    refine goK ?_ ?_ ?_ ?_ ?_ ?_ ?_ ?_ ?_ ?_ ?_ ?_ ?_ ?_ ?_ ?_
    any_goals (first | exact True.intro | skip)
    all_goals (repeat (refine Wh.mk fun hcc => ?_))
    all_goals (first | rfl | (simp [tupOf, fixEs]; done))
theorem ints_b (l : List UInt8) (s : RS) (most : Int) (hl : l.length ≤ 1048576) (ha : s.1 ≤ l.length) (hm : 0 ≤ most ∧ most ≤ 1048576) : CallR Try.prog 171 [.io (.nd [.sl (.r 0) (l.map Enc.b), .int .i64 (s.1 : Nat), .bool s.2]), .int .i64 most] [.nd [.sl (.r 0) (l.map Enc.b), .int .i64 ((intsR l most s).2.1 : Nat), .bool (intsR l most s).2.2]] (.ow 1 ((intsR l most s).1.map Enc.o)) := ints_ok 1 l s most hl ha hm
theorem ints_s (l : List UInt8) (s : RS) (most : Int) (hl : l.length ≤ 1048576) (ha : s.1 ≤ l.length) (hm : 0 ≤ most ∧ most ≤ 1048576) : CallR Try.prog 171 [.io (.nd [.sl .s (l.map Enc.b), .int .i64 (s.1 : Nat), .bool s.2]), .int .i64 most] [.nd [.sl .s (l.map Enc.b), .int .i64 ((intsR l most s).2.1 : Nat), .bool (intsR l most s).2.2]] (.ow 1 ((intsR l most s).1.map Enc.o)) := ints_ok 0 l s most hl ha hm
theorem list_b (l : List UInt8) (s : RS) (most : Int) (hl : l.length ≤ 1048576) (ha : s.1 ≤ l.length) (hm : 0 ≤ most ∧ most ≤ 1048576) : CallR Try.prog 174 [.io (.nd [.sl (.r 0) (l.map Enc.b), .int .i64 (s.1 : Nat), .bool s.2]), .int .i64 most] [.nd [.sl (.r 0) (l.map Enc.b), .int .i64 ((listR l most s).2.1 : Nat), .bool (listR l most s).2.2]] (.ow 1 ((listR l most s).1.map Enc.o)) := list_ok 1 l s most hl ha hm
theorem list_s (l : List UInt8) (s : RS) (most : Int) (hl : l.length ≤ 1048576) (ha : s.1 ≤ l.length) (hm : 0 ≤ most ∧ most ≤ 1048576) : CallR Try.prog 174 [.io (.nd [.sl .s (l.map Enc.b), .int .i64 (s.1 : Nat), .bool s.2]), .int .i64 most] [.nd [.sl .s (l.map Enc.b), .int .i64 ((listR l most s).2.1 : Nat), .bool (listR l most s).2.2]] (.ow 1 ((listR l most s).1.map Enc.o)) := list_ok 0 l s most hl ha hm
end Q6

namespace Q6
open Go Go.Vm Go.Proofs
set_option maxHeartbeats 4000000
set_option synthInstance.maxSize 2000
set_option synthInstance.maxHeartbeats 400000
set_option maxRecDepth 10000
set_option linter.unusedSimpArgs false
set_option linter.unusedVariables false

open Go.By

theorem zig_wrap {c : Int} (h0 : -1000000000000 ≤ c) (h1 : c ≤ 1000000000000) (hc : ¬ c < 0) : IntKind.i64.wrap (2 * c) = (zig c : Int) := by
  rw [wrap64 _ (by omega) (by omega)]; unfold zig; rw [if_neg hc]; omega
theorem zig_wrapn {c : Int} (h0 : -1000000000000 ≤ c) (h1 : c ≤ 1000000000000) (hc : c < 0) : IntKind.i64.wrap (IntKind.i64.wrap (-2 * c) - 1) = (zig c : Int) := by
  rw [wrap64 (-2 * c) (by omega) (by omega), wrap64 _ (by omega) (by omega)]; unfold zig; rw [if_pos hc]; omega
theorem clampMM (n : Int) : (if (if (1000000000000 : Int) < n then 1000000000000 else n) > -1000000000000 then (if (1000000000000 : Int) < n then 1000000000000 else n) else -1000000000000) = clampI n := by
  unfold clampI M12; split <;> split <;> (try split) <;> omega
theorem put_cases (n c : Int) (hcn : clampI n = c) (h0 : -1000000000000 ≤ c) (h1 : c ≤ 1000000000000) : (decide (n > 1000000000000) = true ∧ c = 1000000000000 ∧ IntKind.i64.wrap (2 * c) = (zig c : Int)) ∨
    (decide (n > 1000000000000) = false ∧ decide (n < -1000000000000) = true ∧ c = -1000000000000 ∧ IntKind.i64.wrap (IntKind.i64.wrap (-2 * c) - 1) = (zig c : Int)) ∨
    (decide (n > 1000000000000) = false ∧ decide (n < -1000000000000) = false ∧ n = c ∧ decide (c < 0) = true ∧ IntKind.i64.wrap (IntKind.i64.wrap (-2 * c) - 1) = (zig c : Int)) ∨
    (decide (n > 1000000000000) = false ∧ decide (n < -1000000000000) = false ∧ n = c ∧ decide (c < 0) = false ∧ IntKind.i64.wrap (2 * c) = (zig c : Int)) := by
  have hz1 := @zig_wrap c h0 h1
  have hz2 := @zig_wrapn c h0 h1
  unfold clampI M12 at hcn
  split at hcn
  · subst hcn; rename_i h; exact .inl ⟨by simpa using h, rfl, hz1 (by decide)⟩
  · rename_i h
    split at hcn
    · rename_i h2; subst hcn; exact .inr (.inl ⟨by simpa using h, by simpa using h2, rfl, hz2 (by decide)⟩)
    · rename_i h2
      by_cases h3 : c < 0
      · exact .inr (.inr (.inl ⟨by simpa using h, by simpa using h2, hcn, by simpa using h3, hz2 h3⟩))
      · exact .inr (.inr (.inr ⟨by simpa using h, by simpa using h2, hcn, by simpa using h3, hz1 h3⟩))

theorem putInt_ok (l : List UInt8) (n : Int) (hl : l.length ≤ 268435456) : CallR Try.prog 68 [.ow 1 (l.map Enc.o), .int .i64 n] [] (.ow 1 ((l ++ putI n).map Enc.o)) := by
  refine CallR.of_body (n := 32) (rs := [.tmp 4]) hY.ok Try.func68 rfl (by decide) rfl rfl rfl rfl (fun F => ?_)
  have fx := And.intro Y1 (And.intro Y3 (And.intro Y4 (And.intro Y5 (And.intro Y24 (Y133)))))
  obtain ⟨hc0, hc1⟩ := clamp_le n
  unfold M12 at hc0 hc1
  have hz := zig_lt n
  have hpl : putI n = encN (zig (clampI n)) := rfl
  have hp6 := putI_len n
  rw [hpl] at hp6 ⊢
  have hcl := clampMM n
  generalize clampI n = c at *
  have hcs2 : (decide (c < 0) = true ∧ IntKind.i64.wrap (IntKind.i64.wrap (-2 * c) - 1) = (zig c : Int)) ∨ (decide (c < 0) = false ∧ IntKind.i64.wrap (2 * c) = (zig c : Int)) := by
    by_cases h : c < 0
    · exact .inl ⟨by simpa using h, zig_wrapn hc0 hc1 h⟩
    · exact .inr ⟨by simpa using h, zig_wrap hc0 hc1 h⟩
  generalize zig c = z at *
  rcases hcs2 with ⟨hd, hw⟩ | ⟨hd, hw⟩
  all_goals
    have fy := And.intro hcl (And.intro hd (hw))
    refine goR ?_ ?_ ?_ ?_ ?_ ?_ ?_ ?_ ?_ ?_ ?_ ?_ ?_ ?_ ?_ ?_
    any_goals (first | exact True.intro | skip)
    all_goals (repeat (refine Wh.mk fun hcc => ?_))
    all_goals
      refine SW.loop (fun x : Nat × List UInt8 => ⟨[.ref 1 0 0 x.2.length, .undef, .undef, .undef, .undef, .int .i64 (x.1 : Nat), .undef, .undef, .undef, .undef, .undef, .undef, .undef, .undef, .undef, .undef, .undef, .undef, .undef, .undef, .undef, .undef, .undef, .undef, .undef, .undef, .undef, .undef, .undef, .undef, .undef, .undef], [[.gone], [.arr 1 (x.2.map Enc.o) false]]⟩)
        (fun N x => N = x.1 ∧ x.2 ++ encN x.1 = l ++ encN z ∧ x.1 < 2 ^ 42) (n := z) (x := (z, l)) (by refine Norm.trans (Norm.mv 0 rfl) ?_; simp only [List.map_cons, List.map_nil, mvR, List.length_cons, List.length_nil, Heap.put, List.getElem?_cons_zero, List.set_cons_zero, and_self, if_true, Nat.zero_add, List.cons_append, List.nil_append]; exact Norm.to 0 rfl (by simp [weakL])) ⟨rfl, rfl, hz⟩ ?_
      rintro N ⟨m, acc⟩ ⟨hN, hacc, hm⟩
      simp only at hN hacc hm ⊢
      have hlen : acc.length + (encN m).length = l.length + (encN z).length := by have := congrArg List.length hacc; simpa using this
      have fy := Nat.add_zero
      refine goS ?_
      refine SW.cond rfl (fun hc => ?_) (fun hc => ?_)
      · have hgt : ¬ m ≤ 127 := by simp at hc; omega
        have e1 := i64_and127 m (by omega)
        have e2 := i64_or128 (m % 128) (by omega)
        have e3 := i64_shr7 m
        rw [encN_hi hgt] at hacc hlen
        simp only [List.length_cons] at hlen
        have hap := append_runP (Y := Y) (H := [[.gone], [.arr 1 (acc.map Enc.o) false], [.arr 1 [Enc.o (byt ((m % 128 + 128 : Nat) : Int))] false], []]) (own := 3) (t := 24) (u := 24) (e := 1) (j := 0) (off := 0) (n := acc.length) (e2 := 2) (j2 := 0) (f := acc.map Enc.o) (l := acc) (x := byt ((m % 128 + 128 : Nat) : Int)) Y24 Y24 Y5 rfl (by decide) rfl rfl (by simp) (by simp) (by omega) rfl rfl
        simp only [o_byte] at hap
        have fy := And.intro e1 (And.intro e2 (And.intro e3 (And.intro hap (bs1_24))))
        refine goN ?_ ?_ ?_ ?_ ?_ ?_ ?_ ?_ ?_ ?_ ?_ ?_ ?_ ?_ ?_ ?_
        any_goals (first | exact True.intro | skip)
        skip
        refine ⟨m / 128, (m / 128, acc ++ [byt ((m % 128 + 128 : Nat) : Int)]), by omega, ⟨rfl, by simp only; rw [← hacc]; simp, by simp only; omega⟩, ?_⟩
        exact Norm.re [0, 3] (by decide) rfl (by simp only [eq_self, heapFits, rowFits, obFits, List.getElem?_cons_zero, List.getElem?_cons_succ, renL_o, renL_b, true_and, and_true, and_self]) (by simp [tmFits, T.ren])
      · have hle : m ≤ 127 := by simp at hc; omega
        rw [encN_lo hle] at hacc hlen
        have hap := append_runP (Y := Y) (H := [[.gone], [.arr 1 (acc.map Enc.o) false], [.arr 1 [Enc.o (byt ((m : Nat) : Int))] false], []]) (own := 3) (t := 24) (u := 24) (e := 1) (j := 0) (off := 0) (n := acc.length) (e2 := 2) (j2 := 0) (f := acc.map Enc.o) (l := acc) (x := byt ((m : Nat) : Int)) Y24 Y24 Y5 rfl (by decide) rfl rfl (by simp) (by simp) (by omega) rfl rfl
        simp only [o_byte] at hap
        have fy := And.intro hap (bs1_24)
        refine goN ?_ ?_ ?_ ?_ ?_ ?_ ?_ ?_ ?_ ?_ ?_ ?_ ?_ ?_ ?_ ?_
        any_goals (first | exact True.intro | skip)
        skip
        rw [← hacc]
        exact SW.ret (show RetQ _ _ _ _ _ _ _ from RetQ.y [1] [.ow 1 ((acc ++ [byt ((m : Nat) : Int)]).map Enc.o)])
theorem PutInt_ok (l : List UInt8) (n : Int) (hl : l.length ≤ 268435456) : CallR Try.prog 63 [.sl .b (l.map Enc.b), .int .i64 n] [] (.ow 1 ((l ++ putI n).map Enc.o)) := by
  refine CallR.of_body (n := 37) (rs := [.tmp 4]) hY.ok Try.func63 rfl (by decide) rfl rfl rfl rfl (fun F => ?_)
  have fx := And.intro Y1 (And.intro Y3 (And.intro Y4 (And.intro Y5 (And.intro Y24 (Y133)))))
  obtain ⟨hc0, hc1⟩ := clamp_le n
  unfold M12 at hc0 hc1
  have hz := zig_lt n
  have hpl : putI n = encN (zig (clampI n)) := rfl
  have hp6 := putI_len n
  rw [hpl] at hp6 ⊢
  have hcl := clampMM n
  have hcs := put_cases n _ rfl hc0 hc1
  generalize clampI n = c at *
  have hap0 := append_runB (Y := Y) (H := [[], [.arr 1 [] false], []]) (own := 2) (t := 24) (u := 24) (e := 1) (j := 0) (off := 0) (n := 0) (f := []) (l := []) (g := .b) (m := l) Y24 Y24 Y5 rfl (by decide) rfl rfl (Nat.le_refl _) (by omega) rfl b_byte
  simp only [Nat.zero_add, List.nil_append] at hap0
  have hd3' : decide ((1000000000000 : Int) < 0) = false := by decide
  have hd4' : decide ((-1000000000000 : Int) < 0) = true := by decide
  have hd5' : decide ((1000000000000 : Int) < -1000000000000) = false := by decide
  generalize zig c = z at *
  have hcs : (decide (n > 1000000000000) = true ∧ decide (n < n) = false ∧ decide (n < n) = false ∧ c = 1000000000000 ∧ IntKind.i64.wrap (2 * c) = (z : Int)) ∨ (decide (n > 1000000000000) = false ∧ decide (n < -1000000000000) = true ∧ decide (n < n) = false ∧ c = -1000000000000 ∧ IntKind.i64.wrap (IntKind.i64.wrap (-2 * c) - 1) = (z : Int)) ∨ (decide (n > 1000000000000) = false ∧ decide (n < -1000000000000) = false ∧ decide (c < 0) = true ∧ n = c ∧ IntKind.i64.wrap (IntKind.i64.wrap (-2 * c) - 1) = (z : Int)) ∨ (decide (n > 1000000000000) = false ∧ decide (n < -1000000000000) = false ∧ decide (c < 0) = false ∧ n = c ∧ IntKind.i64.wrap (2 * c) = (z : Int)) := by
    have hnn : decide (n < n) = false := by simp
    rcases hcs with ⟨hd, hc, hw⟩ | ⟨hd, hd2, hc, hw⟩ | ⟨hd, hd2, hc, hd3, hw⟩ | ⟨hd, hd2, hc, hd3, hw⟩
    · exact .inl ⟨hd, hnn, hnn, hc, hw⟩
    · exact .inr (.inl ⟨hd, hd2, hnn, hc, hw⟩)
    · exact .inr (.inr (.inl ⟨hd, hd2, hd3, hc, hw⟩))
    · exact .inr (.inr (.inr ⟨hd, hd2, hd3, hc, hw⟩))
  rcases hcs with ⟨hd, hd2, hd3, hc, hw⟩ | ⟨hd, hd2, hd3, hc, hw⟩ | ⟨hd, hd2, hd3, hc, hw⟩ | ⟨hd, hd2, hd3, hc, hw⟩ <;> subst hc
  all_goals
    have fy := And.intro hap0 (And.intro hd (And.intro hd2 (And.intro hd3 (And.intro hd3' (And.intro hd4' (And.intro hd5' (And.intro hw (bs0_24))))))))
    refine goR ?_ ?_ ?_ ?_ ?_ ?_ ?_ ?_ ?_ ?_ ?_ ?_ ?_ ?_ ?_ ?_
    any_goals (first | exact True.intro | skip)
    all_goals (repeat (refine Wh.mk fun hcc => ?_))
    all_goals
      refine SW.loop (fun x : Nat × List UInt8 => ⟨[.sl .b (l.map Enc.b), .undef, .undef, .undef, .undef, .ref 1 0 0 x.2.length, .int .i64 (x.1 : Nat), .undef, .undef, .undef, .undef, .undef, .undef, .undef, .undef, .undef, .undef, .undef, .undef, .undef, .undef, .undef, .undef, .undef, .undef, .undef, .undef, .undef, .undef, .undef, .undef, .undef, .undef, .undef, .undef, .undef, .undef], [[], [.arr 1 (x.2.map Enc.o) false]]⟩)
        (fun N x => N = x.1 ∧ x.2 ++ encN x.1 = l ++ encN z ∧ x.1 < 2 ^ 42) (n := z) (x := (z, l)) (by refine Norm.re [0, 2] (by decide) rfl (by simp only [eq_self, heapFits, rowFits, obFits, List.getElem?_cons_zero, List.getElem?_cons_succ, renL_o, renL_b, true_and, and_true, and_self]) (by simp [tmFits, T.ren])) ⟨rfl, rfl, hz⟩ ?_
      rintro N ⟨m, acc⟩ ⟨hN, hacc, hm⟩
      simp only at hN hacc hm ⊢
      have hlen : acc.length + (encN m).length = l.length + (encN z).length := by have := congrArg List.length hacc; simpa using this
      have fy := Nat.add_zero
      refine goS ?_
      refine SW.cond rfl (fun hc => ?_) (fun hc => ?_)
      · have hgt : ¬ m ≤ 127 := by simp at hc; omega
        have e1 := i64_and127 m (by omega)
        have e2 := i64_or128 (m % 128) (by omega)
        have e3 := i64_shr7 m
        rw [encN_hi hgt] at hacc hlen
        simp only [List.length_cons] at hlen
        have hap := append_runP (Y := Y) (H := [[], [.arr 1 (acc.map Enc.o) false], [.arr 1 [Enc.o (byt ((m % 128 + 128 : Nat) : Int))] false], []]) (own := 3) (t := 24) (u := 24) (e := 1) (j := 0) (off := 0) (n := acc.length) (e2 := 2) (j2 := 0) (f := acc.map Enc.o) (l := acc) (x := byt ((m % 128 + 128 : Nat) : Int)) Y24 Y24 Y5 rfl (by decide) rfl rfl (by simp) (by simp) (by omega) rfl rfl
        simp only [o_byte] at hap
        have fy := And.intro e1 (And.intro e2 (And.intro e3 (And.intro hap (bs1_24))))
        refine goN ?_ ?_ ?_ ?_ ?_ ?_ ?_ ?_ ?_ ?_ ?_ ?_ ?_ ?_ ?_ ?_
        any_goals (first | exact True.intro | skip)
        skip
        refine ⟨m / 128, (m / 128, acc ++ [byt ((m % 128 + 128 : Nat) : Int)]), by omega, ⟨rfl, by simp only; rw [← hacc]; simp, by simp only; omega⟩, ?_⟩
        exact Norm.re [0, 3] (by decide) rfl (by simp only [eq_self, heapFits, rowFits, obFits, List.getElem?_cons_zero, List.getElem?_cons_succ, renL_o, renL_b, true_and, and_true, and_self]) (by simp [tmFits, T.ren])
      · have hle : m ≤ 127 := by simp at hc; omega
        rw [encN_lo hle] at hacc hlen
        have hap := append_runP (Y := Y) (H := [[], [.arr 1 (acc.map Enc.o) false], [.arr 1 [Enc.o (byt ((m : Nat) : Int))] false], []]) (own := 3) (t := 24) (u := 24) (e := 1) (j := 0) (off := 0) (n := acc.length) (e2 := 2) (j2 := 0) (f := acc.map Enc.o) (l := acc) (x := byt ((m : Nat) : Int)) Y24 Y24 Y5 rfl (by decide) rfl rfl (by simp) (by simp) (by omega) rfl rfl
        simp only [o_byte] at hap
        have fy := And.intro hap (bs1_24)
        refine goN ?_ ?_ ?_ ?_ ?_ ?_ ?_ ?_ ?_ ?_ ?_ ?_ ?_ ?_ ?_ ?_
        any_goals (first | exact True.intro | skip)
        skip
        rw [← hacc]
        exact SW.ret (show RetQ _ _ _ _ _ _ _ from RetQ.y [1] [.ow 1 ((acc ++ [byt ((m : Nat) : Int)]).map Enc.o)])
end Q6

namespace Q6
open Go Go.Vm Go.Proofs
set_option maxHeartbeats 4000000
set_option synthInstance.maxSize 2000
set_option synthInstance.maxHeartbeats 400000
set_option maxRecDepth 10000
set_option linter.unusedSimpArgs false
set_option linter.unusedVariables false

open Go.By
theorem spec_l2Same_ok (l m : List UInt8) (hl : Enc.lim 1048576 l) : CallR Try.prog 106 [.sl .b (l.map Enc.b), .sl .b (m.map Enc.b)] [] (.bool (decide (l = m))) := by
  refine CallR.of_body (n := 26) (rs := [.tmp 4]) hY.ok Try.func106 rfl (by decide) rfl rfl rfl rfl (fun F => ?_)
  have fx := And.intro Y3 (And.intro Y4 (And.intro Y5 (Y24)))
  have hl1 : l.length ≤ 1048576 := hl.1
  have fy := Nat.add_zero
  refine goS ?_
  refine SW.cond rfl (fun hc => ?_) (fun hc => ?_)
  · have hne : ¬ l = m := by intro e; subst e; simp at hc
    have fy := Nat.add_zero
    refine goK ?_ ?_ ?_ ?_ ?_ ?_ ?_ ?_ ?_ ?_ ?_ ?_ ?_ ?_ ?_ ?_
    any_goals (first | exact True.intro | skip)
    all_goals (repeat (refine Wh.mk fun hcc => ?_))
    simp [tupOf, fixEs, hne]
  have hlen : l.length = m.length := by have : (l.length : Int) = m.length := by simpa using hc
                                        omega
  refine SW.skip ?_
  simp only [thenS]
  have fy := Nat.add_zero
  refine goN ?_ ?_ ?_ ?_ ?_ ?_ ?_ ?_ ?_ ?_ ?_ ?_ ?_ ?_ ?_ ?_
  any_goals (first | exact True.intro | skip)
  skip
  refine SW.loop (fun i : Nat => ⟨[.sl .b (l.map Enc.b), .sl .b (m.map Enc.b), .undef, .undef, .undef, .int .i64 i, .undef, .undef, .undef, .undef, .undef, .undef, .undef, .undef, .undef, .undef, .undef, .undef, .undef, .undef, .undef, .undef, .undef, .undef, .undef, .undef], [[]]⟩)
    (fun n i => n = l.length - i ∧ i ≤ l.length ∧ ∀ j (h : j < l.length), j < i → l[j] = m[j]'(by omega)) (n := l.length) (x := 0) (Norm.to 0 rfl (by simp [weakL])) ⟨rfl, Nat.zero_le _, fun j _ h => absurd h (Nat.not_lt_zero _)⟩ ?_
  rintro n i ⟨hn, hi, hp⟩
  have fy := Nat.add_zero
  refine goS ?_
  refine SW.cond rfl (fun hc => ?_) (fun hc => ?_)
  · have hlt : i < l.length := by simpa using hc
    have hlt' : i < m.length := by omega
    have hgl : (l.map Enc.b)[i]? = some (.int .u8 (l[i].toNat : Int)) := map_get Enc.b l i hlt
    have hgm : (m.map Enc.b)[i]? = some (.int .u8 (m[i].toNat : Int)) := map_get Enc.b m i hlt'
    have fy := And.intro hgl (hgm)
    refine goK ?_ ?_ ?_ ?_ ?_ ?_ ?_ ?_ ?_ ?_ ?_ ?_ ?_ ?_ ?_ ?_
    any_goals (first | exact True.intro | skip)
    all_goals (repeat (refine Wh.mk fun hcc => ?_))
    · have hx := hcc
      have hne : ¬ l[i] = m[i] := by intro e; simp [e] at hx
      have hlm : ¬ l = m := by intro e; subst e; exact hne rfl
      simp [tupOf, fixEs, hlm]
    · have hx := hcc
      have hx' : l[i] = m[i] := by first | (simpa using hx; done) | (apply UInt8.toNat_inj.1; simp at hx; omega)
      refine ⟨n - 1, i + 1, by omega, ⟨by omega, by omega, fun j hj hji => ?_⟩, ?_⟩
      · by_cases he : j = i
        · subst he; exact hx'
        · exact hp j hj (by omega)
      · rw [wrap64 _ (by omega) (by omega)]
        first | exact Norm.to 0 rfl (by simp [weakL]) | exact Norm.to 1 rfl (by simp [weakL])
  · have hge : i = l.length := by
      have : ¬ i < l.length := by simpa using hc
      omega
    have hlm : l = m := List.ext_getElem hlen fun j h1 h2 => hp j h1 (by omega)
    have fy := Nat.add_zero
    refine goK ?_ ?_ ?_ ?_ ?_ ?_ ?_ ?_ ?_ ?_ ?_ ?_ ?_ ?_ ?_ ?_
    any_goals (first | exact True.intro | skip)
    all_goals (repeat (refine Wh.mk fun hcc => ?_))
    simp [tupOf, fixEs, hlm]

def putL (l : List Int) : List UInt8 := putI l.length ++ l.flatMap putI
theorem putF_len : ∀ l : List Int, (l.flatMap putI).length ≤ 6 * l.length
  | [] => by simp
  | x :: l => by have := putF_len l; have := putI_len x; simp only [List.flatMap_cons, List.length_append, List.length_cons]; omega
theorem objB_len {x : Int × List Int × List Int × Unit} (h : objB x = true) : x.2.1.length ≤ 5 ∧ x.2.2.1.length ≤ 5 := by
  unfold objB at h; simp only [Bool.and_eq_true, decide_eq_true_eq] at h; exact ⟨h.1.1.1.2, h.1.1.2⟩
def putObj (x : Int × List Int × List Int × Unit) : List UInt8 := putI x.1 ++ putL x.2.1 ++ putL x.2.2.1
theorem putL_len (l : List Int) : (putL l).length ≤ 6 + 6 * l.length := by
  unfold putL; have := putF_len l; have := putI_len l.length; simp only [List.length_append]; omega

theorem putList_ok (b : List UInt8) (l : List Int) (hb : b.length ≤ 1048576) (hl : l.length ≤ 1048576) : CallR Try.prog 128 [.sl .b (b.map Enc.b), .sl .b (l.map Enc.b)] [] (.ow 1 ((b ++ putL l).map Enc.o)) := by
  refine CallR.of_body (n := 23) (rs := [.tmp 4]) hY.ok Try.func128 rfl (by decide) rfl rfl rfl rfl (fun F => ?_)
  have fx := And.intro Y3 (And.intro Y4 (And.intro Y5 (And.intro Y24 (Y34))))
  have h0 := PutInt_ok b l.length (by omega)
  have hpl := putI_len l.length
  have hC1 := cx [] (h0)
  have fy := Nat.add_zero
  refine goN ?_ ?_ ?_ ?_ ?_ ?_ ?_ ?_ ?_ ?_ ?_ ?_ ?_ ?_ ?_ ?_
  any_goals (first | exact True.intro | skip)
  skip
  refine SW.loop (fun x : Nat × List UInt8 => ⟨[.ref 1 0 0 x.2.length, .sl .b (l.map Enc.b), .undef, .undef, .undef, .int .i64 (x.1 : Nat), .undef, .undef, .undef, .undef, .undef, .undef, .undef, .undef, .undef, .undef, .undef, .undef, .undef, .undef, .undef, .undef, .undef], [[], [.arr 1 (x.2.map Enc.o) false]]⟩)
    (fun N x => N = l.length - x.1 ∧ x.1 ≤ l.length ∧ x.2 = b ++ putI l.length ++ (l.take x.1).flatMap putI) (n := l.length) (x := (0, b ++ putI l.length)) (Norm.re [0, 1] (by decide) rfl (by simp [-List.map_append, heapFits, rowFits, obFits, T.ren, renL]) (by simp [tmFits, T.ren])) ⟨rfl, Nat.zero_le _, by simp⟩ ?_
  rintro N ⟨i, acc⟩ ⟨hN, hi, hac⟩
  simp only at hN hi hac ⊢
  have hacl : acc.length ≤ 8388608 := by
    have h1 := putF_len (l.take i)
    have h2 : (l.take i).length ≤ l.length := by rw [List.length_take]; omega
    rw [hac]; simp only [List.length_append]; omega
  have fy := Nat.add_zero
  refine goS ?_
  refine SW.cond rfl (fun hc => ?_) (fun hc => ?_)
  · have hlt : i < l.length := by simp at hc; omega
    have hg : (l.map Enc.b)[i]? = some (.int .i64 l[i]) := map_get Enc.b l i hlt
    have hwi : IntKind.i64.wrap ((i : Int) + 1) = ((i + 1 : Nat) : Int) := by rw [wrap64 _ (by omega) (by omega)]; omega
    have h1 := PutInt_ok acc l[i] (by omega)
    have hC1 := cx [] (h1)
    have fy := And.intro hg (hwi)
    refine goN ?_ ?_ ?_ ?_ ?_ ?_ ?_ ?_ ?_ ?_ ?_ ?_ ?_ ?_ ?_ ?_
    any_goals (first | exact True.intro | skip)
    skip
    refine ⟨N - 1, (i + 1, acc ++ putI l[i]), by omega, ⟨by simp only; omega, by simp only; omega, ?_⟩, ?_⟩
    · simp only; rw [hac, List.take_succ_eq_append_getElem hlt, List.flatMap_append, ← List.append_assoc]; simp only [List.flatMap_cons, List.flatMap_nil, List.append_nil]
    · exact Norm.re [0, 2] (by decide) rfl (by simp [-List.map_append, heapFits, rowFits, obFits, T.ren, renL]) (by simp [tmFits, T.ren])
  · have hge : i = l.length := by
      have : ¬ i < l.length := by simp at hc; omega
      omega
    subst hge
    have hfin : b ++ putL l = acc := by rw [hac, List.take_length]; unfold putL; simp
    rw [hfin]
    have fy := Nat.add_zero
    refine goR ?_ ?_ ?_ ?_ ?_ ?_ ?_ ?_ ?_ ?_ ?_ ?_ ?_ ?_ ?_ ?_
    any_goals (first | exact True.intro | skip)
    all_goals (repeat (refine Wh.mk fun hcc => ?_))
    exact SW.ret (show RetQ _ _ _ _ _ _ _ from RetQ.y [1] [.ow 1 (acc.map Enc.o)])
theorem sPutObj_y (x : (Int × (List Int) × (List Int) × Unit)) (hx : Enc.lim 1048576 x) (ho : objB x = true) : CallR Try.prog 62 [.nd [.int .i64 x.1, .sl .b (x.2.1.map Enc.b), .sl .b (x.2.2.1.map Enc.b)]] [] (.ow 1 ((putObj x).map Enc.o)) := by
  refine CallR.of_body (n := 17) (rs := [.tmp 2]) hY.ok Try.func62 rfl (by decide) rfl rfl rfl rfl (fun F => ?_)
  have fx := And.intro Y1 (And.intro Y2 (And.intro Y3 (And.intro Y4 (And.intro Y5 (And.intro Y24 (And.intro Y34 (Y36)))))))
  have hO := specObjOk_ok x hx
  rw [ho] at hO
  have h1 := PutInt_ok [] x.1 (by simp)
  rw [List.nil_append] at h1
  have hp1 := putI_len x.1
  have h2 := putList_ok (putI x.1) x.2.1 (by omega) hx.2.1.1
  have hp2 := putL_len x.2.1
  have hb5 : x.2.1.length ≤ 5 ∧ x.2.2.1.length ≤ 5 := objB_len ho
  have h3 := putList_ok (putI x.1 ++ putL x.2.1) x.2.2.1 (by simp only [List.length_append]; omega) hx.2.2.1.1
  have hpo : putObj x = putI x.1 ++ putL x.2.1 ++ putL x.2.2.1 := rfl
  rw [hpo]
  generalize putI x.1 ++ putL x.2.1 = P2 at *
  generalize P2 ++ putL x.2.2.1 = P3 at *
  generalize putI x.1 = P1 at *
  have hC1 := cx [] (hO)
  have hC2 := cx [] (h1)
  have hC3 := cx [] (h2)
  have hC4 := cx [] (h3)
  have fy := bs0_24
  have hD1 := dx 3 [1, 3, 3, 3] [(2, 0), (5, 0), (5, 1), (8, 0), (8, 1), (8, 2)]
  refine goR ?_ ?_ ?_ ?_ ?_ ?_ ?_ ?_ ?_ ?_ ?_ ?_ ?_ ?_ ?_ ?_
  any_goals (first | exact True.intro | skip)
  all_goals (repeat (refine Wh.mk fun hcc => ?_))
  exact SW.ret (show RetQ _ _ _ _ _ _ _ from RetQ.y [1] [.ow 1 (P3.map Enc.o)])
theorem sPutObj_n (x : (Int × (List Int) × (List Int) × Unit)) (hx : Enc.lim 1048576 x) (ho : objB x = false) : CallR Try.prog 62 [.nd [.int .i64 x.1, .sl .b (x.2.1.map Enc.b), .sl .b (x.2.2.1.map Enc.b)]] [] (.ow 1 (([] : List UInt8).map Enc.o)) := by
  refine CallR.of_body (n := 17) (rs := [.tmp 2]) hY.ok Try.func62 rfl (by decide) rfl rfl rfl rfl (fun F => ?_)
  have fx := And.intro Y1 (And.intro Y2 (And.intro Y3 (And.intro Y4 (And.intro Y5 (And.intro Y24 (And.intro Y34 (Y36)))))))
  have hO := specObjOk_ok x hx
  rw [ho] at hO
  have hC1 := cx [] (hO)
  have fy := bs0_24
  have hD1 := dx 3 [1, 3, 3, 3] [(2, 0), (5, 0), (5, 1), (8, 0), (8, 1), (8, 2)]
  refine goR ?_ ?_ ?_ ?_ ?_ ?_ ?_ ?_ ?_ ?_ ?_ ?_ ?_ ?_ ?_ ?_
  any_goals (first | exact True.intro | skip)
  all_goals (repeat (refine Wh.mk fun hcc => ?_))
  exact SW.ret (show RetQ _ _ _ _ _ _ _ from RetQ.y [1] [.ow 1 []])
end Q6

namespace Q6
open Go Go.Vm Go.Proofs
set_option maxHeartbeats 4000000
set_option synthInstance.maxSize 2000
set_option synthInstance.maxHeartbeats 400000
set_option maxRecDepth 10000
set_option linter.unusedSimpArgs false
set_option linter.unusedVariables false

open Go.By

def obj0 : ObjT := (0, [], [], ())
def gobI (l : List UInt8) : ObjT × Bool :=
  let a := oneR l (0, false); let b := intsR l 5 a.2; let c := intsR l 5 b.2
  if ((!c.2.2 && decide (c.2.1 = l.length)) && objB (a.1, b.1, c.1, ())) = true then ((a.1, b.1, c.1, ()), true) else (obj0, false)
def gobS (l : List UInt8) : ObjT × Bool :=
  let a := oneR l (0, false); let b := listR l 5 a.2; let c := listR l 5 b.2
  if ((!c.2.2 && objB (a.1, b.1, c.1, ())) && decide (putObj (a.1, b.1, c.1, ()) = l)) = true then ((a.1, b.1, c.1, ()), true) else (obj0, false)
theorem intsR_len (l : List UInt8) (most : Int) (hm : 0 ≤ most) (s : RS) : ((intsR l most s).1.length : Int) ≤ most := by
  unfold intsR; rw [intsL_len]; have := manyR_rng l most hm s; omega
theorem intsR_le (l : List UInt8) (most : Int) (s : RS) (ha : s.1 ≤ l.length) : (intsR l most s).2.1 ≤ l.length := intsL_le l _ _ (manyR_le l most s ha)

theorem gobI_ok (l : List UInt8) (hl : l.length ≤ 1048576) : CallR Try.prog 143 [.sl .b (l.map Enc.b)] [] (.tup [.nd [.int .i64 (((gobI l).1).1), .ow 1 ((((gobI l).1).2.1).map Enc.o), .ow 1 ((((gobI l).1).2.2.1).map Enc.o)], .bool (gobI l).2]) := by
  refine CallR.of_body (n := 28) (rs := [.cell 2 36, .tmp 3]) hY.ok Try.func143 rfl (by decide) rfl rfl rfl rfl (fun F => ?_)
  have fx := And.intro Y1 (And.intro Y2 (And.intro Y3 (And.intro Y4 (And.intro Y5 (And.intro Y24 (And.intro Y34 (And.intro Y36 (And.intro Y97 (Y99)))))))))
  have h1 : CallR Try.prog 85 [.io (.nd [.sl (.r 0) (l.map Enc.b), .int .i64 0, .bool false])] [.nd [.sl (.r 0) (l.map Enc.b), .int .i64 ((oneR l (0, false)).2.1 : Nat), .bool (oneR l (0, false)).2.2]] (.int .i64 (oneR l (0, false)).1) := one_b l (0, false) hl (Nat.zero_le _)
  have e1 := oneR_le l (0, false) (Nat.zero_le _)
  unfold gobI
  simp only
  generalize oneR l (0, false) = y1 at *
  have h2 := ints_b l y1.2 5 hl e1 (by decide)
  have e2 := intsR_le l 5 y1.2 e1
  have n2 := intsR_len l 5 (by decide) y1.2
  generalize intsR l 5 y1.2 = y2 at *
  have h3 := ints_b l y2.2 5 hl e2 (by decide)
  have e3 := intsR_le l 5 y2.2 e2
  have n3 := intsR_len l 5 (by decide) y2.2
  generalize intsR l 5 y2.2 = y3 at *
  have hx : Enc.lim 1048576 ((y1.1, y2.1, y3.1, ()) : ObjT) := ⟨trivial, ⟨by simp only; omega, fun _ _ => trivial⟩, ⟨by simp only; omega, fun _ _ => trivial⟩, trivial⟩
  have h4 := done_ok l y3.2
  have h5 := implObjOk_ok (y1.1, y2.1, y3.1, ()) hx
  simp only at h5
  generalize (!y3.2.2 && decide (y3.2.1 = l.length)) = d at *
  generalize objB (y1.1, y2.1, y3.1, ()) = b at *
  cases d <;> cases b
  · skip
    have hC1 := cx [.io] (h1)
    have hC2 := cx [.io] (h2)
    have hC3 := cx [.io] (h3)
    have hC4 := cx [] (h4)
    have hC5 := cx [] (h5)
    have fy := Nat.add_zero
    refine goR ?_ ?_ ?_ ?_ ?_ ?_ ?_ ?_ ?_ ?_ ?_ ?_ ?_ ?_ ?_ ?_
    any_goals (first | exact True.intro | skip)
    all_goals (repeat (refine Wh.mk fun hcc => ?_))
    exact SW.ret (show RetQ _ _ _ _ _ _ _ from RetQ.y [0, 0] [.nd [.int .i64 0, .ow 1 (([] : List Int).map Enc.o), .ow 1 (([] : List Int).map Enc.o)], .bool false])
  · skip
    have hC1 := cx [.io] (h1)
    have hC2 := cx [.io] (h2)
    have hC3 := cx [.io] (h3)
    have hC4 := cx [] (h4)
    have hC5 := cx [] (h5)
    have fy := Nat.add_zero
    refine goR ?_ ?_ ?_ ?_ ?_ ?_ ?_ ?_ ?_ ?_ ?_ ?_ ?_ ?_ ?_ ?_
    any_goals (first | exact True.intro | skip)
    all_goals (repeat (refine Wh.mk fun hcc => ?_))
    exact SW.ret (show RetQ _ _ _ _ _ _ _ from RetQ.y [0, 0] [.nd [.int .i64 0, .ow 1 (([] : List Int).map Enc.o), .ow 1 (([] : List Int).map Enc.o)], .bool false])
  · skip
    have hC1 := cx [.io] (h1)
    have hC2 := cx [.io] (h2)
    have hC3 := cx [.io] (h3)
    have hC4 := cx [] (h4)
    have hC5 := cx [] (h5)
    have fy := Nat.add_zero
    refine goR ?_ ?_ ?_ ?_ ?_ ?_ ?_ ?_ ?_ ?_ ?_ ?_ ?_ ?_ ?_ ?_
    any_goals (first | exact True.intro | skip)
    all_goals (repeat (refine Wh.mk fun hcc => ?_))
    exact SW.ret (show RetQ _ _ _ _ _ _ _ from RetQ.y [0, 0] [.nd [.int .i64 0, .ow 1 (([] : List Int).map Enc.o), .ow 1 (([] : List Int).map Enc.o)], .bool false])
  · skip
    have hC1 := cx [.io] (h1)
    have hC2 := cx [.io] (h2)
    have hC3 := cx [.io] (h3)
    have hC4 := cx [] (h4)
    have hC5 := cx [] (h5)
    have fy := Nat.add_zero
    refine goR ?_ ?_ ?_ ?_ ?_ ?_ ?_ ?_ ?_ ?_ ?_ ?_ ?_ ?_ ?_ ?_
    any_goals (first | exact True.intro | skip)
    all_goals (repeat (refine Wh.mk fun hcc => ?_))
    exact SW.ret (show RetQ _ _ _ _ _ _ _ from RetQ.y [0, 0] [.nd [.int .i64 y1.1, .ow 1 (y2.1.map Enc.o), .ow 1 (y3.1.map Enc.o)], .bool true])
theorem gobS_ok (l : List UInt8) (hl : l.length ≤ 1048576) : CallR Try.prog 155 [.sl .b (l.map Enc.b)] [] (.tup [.nd [.int .i64 (((gobS l).1).1), .ow 1 ((((gobS l).1).2.1).map Enc.o), .ow 1 ((((gobS l).1).2.2.1).map Enc.o)], .bool (gobS l).2]) := by
  refine CallR.of_body (n := 37) (rs := [.cell 2 36, .tmp 3]) hY.ok Try.func155 rfl (by decide) rfl rfl rfl rfl (fun F => ?_)
  have fx := And.intro Y1 (And.intro Y2 (And.intro Y3 (And.intro Y4 (And.intro Y5 (And.intro Y24 (And.intro Y34 (And.intro Y36 (And.intro Y115 (Y117)))))))))
  have h1 : CallR Try.prog 104 [.io (.nd [.sl (.r 0) (l.map Enc.b), .int .i64 0, .bool false])] [.nd [.sl (.r 0) (l.map Enc.b), .int .i64 ((oneR l (0, false)).2.1 : Nat), .bool (oneR l (0, false)).2.2]] (.int .i64 (oneR l (0, false)).1) := next_b l (0, false) hl (Nat.zero_le _)
  have e1 := oneR_le l (0, false) (Nat.zero_le _)
  unfold gobS
  simp only
  generalize oneR l (0, false) = y1 at *
  have h2 := list_b l y1.2 5 hl e1 (by decide)
  have e2 := listR_le l 5 y1.2 e1
  have n2 := listR_len l 5 y1.2 (by decide)
  generalize listR l 5 y1.2 = y2 at *
  have h3 := list_b l y2.2 5 hl e2 (by decide)
  have e3 := listR_le l 5 y2.2 e2
  have n3 := listR_len l 5 y2.2 (by decide)
  generalize listR l 5 y2.2 = y3 at *
  have hx : Enc.lim 1048576 ((y1.1, y2.1, y3.1, ()) : ObjT) := ⟨trivial, ⟨by simp only; omega, fun _ _ => trivial⟩, ⟨by simp only; omega, fun _ _ => trivial⟩, trivial⟩
  have h5 := specObjOk_ok (y1.1, y2.1, y3.1, ()) hx
  simp only at h5
  obtain ⟨z3, a3, b3⟩ := y3
  simp only at h3 h5 e3 n3 ⊢
  cases hb : objB (y1.1, y2.1, z3, ()) with
  | false =>
    rw [hb] at h5
    rw [show ((!b3 && false) && decide (putObj (y1.1, y2.1, z3, ()) = l)) = false by simp]
    simp only [Bool.false_eq_true, if_false]
    cases b3
    · skip
      have hC1 := cx [.io] (h1)
      have hC2 := cx [.io] (h2)
      have hC3 := cx [.io] (h3)
      have hC4 := cx [] (h5)
      have fy := Nat.add_zero
      refine goR ?_ ?_ ?_ ?_ ?_ ?_ ?_ ?_ ?_ ?_ ?_ ?_ ?_ ?_ ?_ ?_
      any_goals (first | exact True.intro | skip)
      all_goals (repeat (refine Wh.mk fun hcc => ?_))
      exact SW.ret (show RetQ _ _ _ _ _ _ _ from RetQ.y [0, 0] [.nd [.int .i64 0, .ow 1 (([] : List Int).map Enc.o), .ow 1 (([] : List Int).map Enc.o)], .bool false])
    · skip
      have hC1 := cx [.io] (h1)
      have hC2 := cx [.io] (h2)
      have hC3 := cx [.io] (h3)
      have hC4 := cx [] (h5)
      have fy := Nat.add_zero
      refine goR ?_ ?_ ?_ ?_ ?_ ?_ ?_ ?_ ?_ ?_ ?_ ?_ ?_ ?_ ?_ ?_
      any_goals (first | exact True.intro | skip)
      all_goals (repeat (refine Wh.mk fun hcc => ?_))
      exact SW.ret (show RetQ _ _ _ _ _ _ _ from RetQ.y [0, 0] [.nd [.int .i64 0, .ow 1 (([] : List Int).map Enc.o), .ow 1 (([] : List Int).map Enc.o)], .bool false])
  | true =>
    rw [hb] at h5
    have h6 := sPutObj_y (y1.1, y2.1, z3, ()) (by exact hx) hb
    have hpl : (putObj (y1.1, y2.1, z3, ())).length ≤ 1048576 := by
      have h7 := putL_len y2.1
      have h8 := putL_len z3
      have h9 := putI_len y1.1
      unfold putObj; simp only [List.length_append]; omega
    simp only at h6
    generalize putObj (y1.1, y2.1, z3, ()) = p at *
    have h7 := spec_l2Same_ok p l ⟨hpl, fun _ _ => trivial⟩
    generalize decide (p = l) = e at *
    cases b3 <;> cases e
    · skip
      have hC1 := cx [.io] (h1)
      have hC2 := cx [.io] (h2)
      have hC3 := cx [.io] (h3)
      have hC4 := cx [] (h5)
      have hC5 := cx [] (h6)
      have hC6 := cx [] (h7)
      have fy := Nat.add_zero
      refine goR ?_ ?_ ?_ ?_ ?_ ?_ ?_ ?_ ?_ ?_ ?_ ?_ ?_ ?_ ?_ ?_
      any_goals (first | exact True.intro | skip)
      all_goals (repeat (refine Wh.mk fun hcc => ?_))
      exact SW.ret (show RetQ _ _ _ _ _ _ _ from RetQ.y [0, 0] [.nd [.int .i64 0, .ow 1 (([] : List Int).map Enc.o), .ow 1 (([] : List Int).map Enc.o)], .bool false])
    · skip
      have hC1 := cx [.io] (h1)
      have hC2 := cx [.io] (h2)
      have hC3 := cx [.io] (h3)
      have hC4 := cx [] (h5)
      have hC5 := cx [] (h6)
      have hC6 := cx [] (h7)
      have fy := Nat.add_zero
      refine goR ?_ ?_ ?_ ?_ ?_ ?_ ?_ ?_ ?_ ?_ ?_ ?_ ?_ ?_ ?_ ?_
      any_goals (first | exact True.intro | skip)
      all_goals (repeat (refine Wh.mk fun hcc => ?_))
      exact SW.ret (show RetQ _ _ _ _ _ _ _ from RetQ.y [0, 0] [.nd [.int .i64 y1.1, .ow 1 (y2.1.map Enc.o), .ow 1 (z3.map Enc.o)], .bool true])
    · skip
      have hC1 := cx [.io] (h1)
      have hC2 := cx [.io] (h2)
      have hC3 := cx [.io] (h3)
      have hC4 := cx [] (h5)
      have hC5 := cx [] (h6)
      have hC6 := cx [] (h7)
      have fy := Nat.add_zero
      refine goR ?_ ?_ ?_ ?_ ?_ ?_ ?_ ?_ ?_ ?_ ?_ ?_ ?_ ?_ ?_ ?_
      any_goals (first | exact True.intro | skip)
      all_goals (repeat (refine Wh.mk fun hcc => ?_))
      exact SW.ret (show RetQ _ _ _ _ _ _ _ from RetQ.y [0, 0] [.nd [.int .i64 0, .ow 1 (([] : List Int).map Enc.o), .ow 1 (([] : List Int).map Enc.o)], .bool false])
    · skip
      have hC1 := cx [.io] (h1)
      have hC2 := cx [.io] (h2)
      have hC3 := cx [.io] (h3)
      have hC4 := cx [] (h5)
      have hC5 := cx [] (h6)
      have hC6 := cx [] (h7)
      have fy := Nat.add_zero
      refine goR ?_ ?_ ?_ ?_ ?_ ?_ ?_ ?_ ?_ ?_ ?_ ?_ ?_ ?_ ?_ ?_
      any_goals (first | exact True.intro | skip)
      all_goals (repeat (refine Wh.mk fun hcc => ?_))
      exact SW.ret (show RetQ _ _ _ _ _ _ _ from RetQ.y [0, 0] [.nd [.int .i64 0, .ow 1 (([] : List Int).map Enc.o), .ow 1 (([] : List Int).map Enc.o)], .bool false])
end Q6

namespace Q6
open Go Go.Vm Go.By
set_option linter.unusedSimpArgs false

/-! ### reading: the plain law -/
theorem oneR_good {l : List UInt8} {s : RS} (ha : s.1 ≤ l.length) (h : (oneR l s).2.2 = false) :
    s.2 = false ∧ okN (oneR l s).1 = true ∧ l.drop s.1 = putI (oneR l s).1 ++ l.drop (oneR l s).2.1 := by
  unfold oneR at h ⊢
  split at h
  · cases h
  · rename_i hc
    rw [if_neg hc]
    simp only [Bool.or_eq_true, Bool.not_eq_true', not_or, Bool.not_eq_true, Bool.not_eq_false] at hc
    obtain ⟨h1, h2⟩ := hc
    refine ⟨h1, ?_⟩
    rw [getR_pI l s.1 ha] at h2 ⊢
    cases hp : pI (l.drop s.1) with
    | none => rw [hp] at h2; cases h2
    | some x =>
      obtain ⟨n, r⟩ := x
      obtain ⟨e1, e2⟩ := pI_inv hp
      simp only
      refine ⟨e2, ?_⟩
      have hr : r.length ≤ l.length := by
        have := congrArg List.length e1
        rw [List.length_drop, List.length_append] at this; omega
      have : l.drop (l.length - r.length) = r := by
        have h3 : l = l.take s.1 ++ putI n ++ r := by rw [List.append_assoc, ← e1, List.take_append_drop]
        obtain ⟨p, hp⟩ : ∃ p, l = p ++ r := ⟨_, h3⟩
        rw [hp]; simp
      rw [this]; exact e1
theorem intsL_bad (l : List UInt8) : ∀ (n : Nat) (s : RS), s.2 = true → (intsL l n s).2.2 = true
  | 0, s, h => h
  | n + 1, s, h => by simp only [intsL]; rw [oneR_bad l s h]; exact intsL_bad l n _ rfl
theorem intsL_good {l : List UInt8} : ∀ (n : Nat) {s : RS}, s.1 ≤ l.length → (intsL l n s).2.2 = false →
    s.2 = false ∧ listL l n s = intsL l n s ∧ (∀ x ∈ (intsL l n s).1, okN x = true) ∧ l.drop s.1 = (intsL l n s).1.flatMap putI ++ l.drop (intsL l n s).2.1
  | 0, s, ha, h => ⟨h, rfl, by simp [intsL], by simp [intsL]⟩
  | n + 1, s, ha, h => by
    simp only [intsL] at h
    obtain ⟨h1, h2, h3, h4⟩ := intsL_good n (oneR_le l s ha) h
    obtain ⟨g1, g2, g3⟩ := oneR_good ha h1
    refine ⟨g1, ?_, ?_, ?_⟩
    · simp only [listL, intsL, h2, g1, Bool.false_eq_true, if_false]
    · intro x hx
      simp only [intsL, List.mem_cons] at hx
      rcases hx with rfl | hx
      · exact g2
      · exact h3 x hx
    · simp only [intsL, List.flatMap_cons, List.append_assoc]
      rw [← h4]; exact g3
theorem listL_good {l : List UInt8} : ∀ (n : Nat) {s : RS}, (listL l n s).2.2 = false → intsL l n s = listL l n s
  | 0, s, h => rfl
  | n + 1, s, h => by
    unfold listL at h ⊢
    split at h
    · rename_i hb; simp only at h; rw [hb] at h; cases h
    · rename_i hb
      rw [if_neg hb]
      simp only at h
      simp only [intsL, listL_good n h]
theorem intsR_bad (l : List UInt8) (most : Int) (hm : 0 ≤ most) (s : RS) (h : s.2 = true) : (intsR l most s).2.2 = true := by
  have : manyR l most s = (0, s.1, true) := by unfold manyR; rw [oneR_bad l s h]; simp [hm]
  unfold intsR; rw [this]; exact intsL_bad l _ _ rfl
theorem listR_bad (l : List UInt8) (most : Int) (hm : 0 ≤ most) (s : RS) (h : s.2 = true) : (listR l most s).2.2 = true := by
  unfold listR; rw [oneR_bad l s h]; simp [hm, listL]
theorem listR_good {l : List UInt8} {most : Int} (hm : 0 ≤ most) {s : RS} (ha : s.1 ≤ l.length) (h : (listR l most s).2.2 = false) : intsR l most s = listR l most s := by
  unfold listR at h ⊢
  split at h
  · rename_i hr
    rw [if_pos hr]
    unfold intsR manyR
    rw [if_pos hr]
    exact listL_good _ h
  · cases h
theorem intsR_good {l : List UInt8} {most : Int} (hm : 0 ≤ most) {s : RS} (ha : s.1 ≤ l.length) (h : (intsR l most s).2.2 = false) :
    s.2 = false ∧ listR l most s = intsR l most s ∧ l.drop s.1 = putL (intsR l most s).1 ++ l.drop (intsR l most s).2.1 := by
  unfold intsR at h ⊢
  obtain ⟨h1, h2, h3, h4⟩ := intsL_good _ (manyR_le l most s ha) h
  by_cases hr : 0 ≤ (oneR l s).1 ∧ (oneR l s).1 ≤ most
  · have hM : manyR l most s = oneR l s := by unfold manyR; rw [if_pos hr]
    rw [hM] at h1 h2 h4 ⊢
    obtain ⟨g1, g2, g3⟩ := oneR_good ha h1
    refine ⟨g1, ?_, ?_⟩
    · unfold listR; rw [if_pos hr]; exact h2
    · rw [g3, h4]
      unfold putL
      rw [intsL_len, Int.toNat_of_nonneg hr.1, List.append_assoc]
  · have hM : manyR l most s = (0, (oneR l s).2.1, true) := by unfold manyR; rw [if_neg hr]
    rw [hM] at h1; cases h1

theorem gob_eq (l : List UInt8) : gobI l = gobS l := by
  unfold gobI gobS
  simp only
  have e1 := oneR_le l (0, false) (Nat.zero_le _)
  have hg1 := @oneR_good l (0, false) (Nat.zero_le _)
  generalize oneR l (0, false) = y1 at *
  have e2 := intsR_le l 5 y1.2 e1
  have f2 := listR_le l 5 y1.2 e1
  have e3 := intsR_le l 5 (intsR l 5 y1.2).2 e2
  by_cases hc : (intsR l 5 (intsR l 5 y1.2).2).2.2 = false
  · obtain ⟨a1, a2, a3⟩ := intsR_good (by decide) e2 hc
    obtain ⟨b1, b2, b3⟩ := intsR_good (by decide) e1 a1
    obtain ⟨c1, c2, c3⟩ := hg1 b1
    rw [b2, a2]
    have hl : l = putObj (y1.1, (intsR l 5 y1.2).1, (intsR l 5 (intsR l 5 y1.2).2).1, ()) ++ l.drop (intsR l 5 (intsR l 5 y1.2).2).2.1 := by
      unfold putObj
      simp only [List.append_assoc]
      rw [← a3, ← b3, ← c3, List.drop_zero]
    have hp : decide (putObj (y1.1, (intsR l 5 y1.2).1, (intsR l 5 (intsR l 5 y1.2).2).1, ()) = l) = decide ((intsR l 5 (intsR l 5 y1.2).2).2.1 = l.length) := by
      generalize putObj _ = p at hl ⊢
      generalize (intsR l 5 (intsR l 5 y1.2).2).2.1 = a at *
      have hlen := congrArg List.length hl
      rw [List.length_append, List.length_drop] at hlen
      by_cases h : a = l.length
      · subst h
        rw [List.drop_length, List.append_nil] at hl
        simp [hl]
      · have : ¬ p = l := by
          intro e; rw [e] at hlen; omega
        simp [h, this]
    rw [hp, hc]
    simp only [Bool.not_false, Bool.true_and]
    rw [Bool.and_comm]
  · have hbad : (intsR l 5 (intsR l 5 y1.2).2).2.2 = true := by simpa using hc
    rw [hbad]
    simp only [Bool.not_true, Bool.false_and, Bool.false_eq_true, if_false]
    have : (listR l 5 (listR l 5 y1.2).2).2.2 = true := by
      cases hs : (listR l 5 (listR l 5 y1.2).2).2.2 with
      | true => rfl
      | false =>
        exfalso
        have h1 := listR_good (by decide) f2 hs
        have h2 : (listR l 5 y1.2).2.2 = false := by
          cases h3 : (listR l 5 y1.2).2.2 with
          | false => rfl
          | true => rw [listR_bad l 5 (by decide) _ h3] at hs; cases hs
        have h3 := listR_good (by decide) e1 h2
        rw [← h3] at h1 hs
        rw [← h1, hbad] at hs; cases hs
    rw [this]
    simp
theorem gob_len (l : List UInt8) : (gobI l).1.2.1.length ≤ 5 ∧ (gobI l).1.2.2.1.length ≤ 5 := by
  unfold gobI
  simp only
  split
  · rename_i h
    simp only [Bool.and_eq_true] at h
    exact objB_len h.2
  · simp [obj0]
end Q6

namespace Q6
open Go Go.Vm Go.Proofs
set_option maxHeartbeats 4000000
set_option synthInstance.maxSize 2000
set_option synthInstance.maxHeartbeats 400000
set_option maxRecDepth 10000
set_option linter.unusedSimpArgs false
set_option linter.unusedVariables false

open Go.By

theorem slice_sub {α : Type} [Enc α] {t e by' : Nat} {k : Ty} (g : Tag) (l : List α) (a b : Nat) (h1 : Y t = ⟨.sl e, 1, 24⟩) (h2 : Y e = ⟨k, Enc.es α, by'⟩) (hab : a ≤ b) (hb : b ≤ l.length) :
    sliceM Y t (.sl g (l.map Enc.b)) (some (.int .i64 (a : Nat))) (some (.int .i64 (b : Nat))) none = .pure { v := .sl g (((l.drop a).take (b - a)).map Enc.b) } := by
  have hs := takeB l 1
  simp only [sliceM, h1, h2, loF, hiF]
  rw [if_pos ⟨Int.natCast_nonneg a, by omega, by rw [List.length_map]; omega, hs⟩]
  simp [List.map_take, List.map_drop]
def slot0' : SlotT := (false, (0, [], [], ()), ())
def slotI (l : List UInt8) (s : RS) : SlotT × RS :=
  let a := manyR l l.length s
  if (a.2.2 || decide (a.1 = 0)) = true then (slot0', a.2) else if a.1 > (l.length : Int) - (a.2.1 : Nat) then (slot0', a.2.1, true)
  else let g := gobI ((l.drop a.2.1).take a.1.toNat)
    if g.2 = true then ((true, g.1, ()), a.2.1 + a.1.toNat, false) else (slot0', a.2.1, true)
def slotS (l : List UInt8) (s : RS) : SlotT × RS :=
  let a := oneR l s
  if (a.2.2 || decide (a.1 = 0)) = true then (slot0', a.2) else if (decide (a.1 < 0) || decide (a.1 > (l.length : Int) - (a.2.1 : Nat))) = true then (slot0', a.2.1, true)
  else let g := gobS ((l.drop a.2.1).take a.1.toNat)
    ((true, g.1, ()), a.2.1 + a.1.toNat, !g.2)

theorem implSlot_ok (k : Nat) (l : List UInt8) (s : RS) (hl : l.length ≤ 1048576) (ha : s.1 ≤ l.length) : CallR Try.prog 86 [.io (.nd [.sl (gOf k) (l.map Enc.b), .int .i64 (s.1 : Nat), .bool s.2])] [.nd [.sl (gOf k) (l.map Enc.b), .int .i64 ((slotI l s).2.1 : Nat), .bool (slotI l s).2.2]] (.nd [.bool (slotI l s).1.1, .nd [.int .i64 (slotI l s).1.2.1.1, .ow 1 ((slotI l s).1.2.1.2.1.map Enc.o), .ow 1 ((slotI l s).1.2.1.2.2.1.map Enc.o)]]) := by
  refine CallR.of_body (n := 73) (rs := [.cell 2 38]) hY.ok Try.func86 rfl (by decide) rfl rfl rfl rfl (fun F => ?_)
  have fx := And.intro Y1 (And.intro Y2 (And.intro Y3 (And.intro Y4 (And.intro Y5 (And.intro Y24 (And.intro Y34 (And.intro Y36 (And.intro Y38 (And.intro Y97 (Y99))))))))))
  have hM := many_ok (upk k) l s l.length hl ha
  have hMl := manyR_le l l.length s ha
  have hMr := manyR_rng l l.length (Int.natCast_nonneg _) s
  have hF : slotI l s = slotI l s := rfl
  conv at hF => rhs; unfold slotI
  simp only at hF
  generalize manyR l l.length s = a at *
  obtain ⟨n, at', bad⟩ := a
  simp only at hM hMl hF hMr
  have hn0 : (n == 0) = decide (n = 0) := rfl
  have hwl : IntKind.i64.wrap ((l.length : Int) - (at' : Nat)) = (l.length : Int) - (at' : Nat) := wrap64 _ (by omega) (by omega)
  by_cases h1 : (bad || decide (n = 0)) = true
  · rw [if_pos h1] at hF
    rw [hF]
    have hC1 := cx [.io] (hM)
    have fy := And.intro hn0 (And.intro h1 (hwl))
    refine goR ?_ ?_ ?_ ?_ ?_ ?_ ?_ ?_ ?_ ?_ ?_ ?_ ?_ ?_ ?_ ?_
    any_goals (first | exact True.intro | skip)
    all_goals (repeat (refine Wh.mk fun hcc => ?_))
    all_goals exact SW.ret (show RetQ _ _ _ _ _ _ _ from RetQ.y [0] [.nd [.bool false, .nd [.int .i64 0, .ow 1 (([] : List Int).map Enc.o), .ow 1 (([] : List Int).map Enc.o)]]])
  · rw [if_neg h1] at hF
    have h1f : (bad || decide (n = 0)) = false := by simpa using h1
    by_cases h2 : n > (l.length : Int) - (at' : Nat)
    · rw [if_pos h2] at hF
      rw [hF]
      have h2d : decide (n > (l.length : Int) - (at' : Nat)) = true := decide_eq_true h2
      have hC1 := cx [.io] (hM)
      have fy := And.intro hn0 (And.intro h1f (And.intro h2d (hwl)))
      refine goR ?_ ?_ ?_ ?_ ?_ ?_ ?_ ?_ ?_ ?_ ?_ ?_ ?_ ?_ ?_ ?_
      any_goals (first | exact True.intro | skip)
      all_goals (repeat (refine Wh.mk fun hcc => ?_))
      all_goals exact SW.ret (show RetQ _ _ _ _ _ _ _ from RetQ.y [0] [.nd [.bool false, .nd [.int .i64 0, .ow 1 (([] : List Int).map Enc.o), .ow 1 (([] : List Int).map Enc.o)]]])
    · rw [if_neg h2] at hF
      have h2d : decide (n > (l.length : Int) - (at' : Nat)) = false := decide_eq_false h2
      obtain ⟨N, hN⟩ : ∃ N : Nat, n = (N : Int) := ⟨n.toNat, by omega⟩
      subst hN
      rw [Int.toNat_natCast] at hF
      have hbf : bad = false := by cases bad <;> simp at h1 ⊢
      subst hbf
      have hNz : decide ((N : Int) = 0) = false := by simpa using h1f
      have hsl := slice_sub (gOf k) l at' (at' + N) Y24 Y5 (by omega) (by omega)
      rw [Nat.add_sub_cancel_left] at hsl
      have hwa : IntKind.i64.wrap ((at' : Int) + (N : Int)) = ((at' + N : Nat) : Int) := by rw [wrap64 _ (by omega) (by omega)]; omega
      have hG := gobI_ok ((l.drop at').take N) (by rw [List.length_take, List.length_drop]; omega)
      generalize gobI ((l.drop at').take N) = g at *
      obtain ⟨⟨g1, g2, g3, ⟨⟩⟩, gok⟩ := g
      simp only at hG hF
      cases gok
      · simp only [Bool.false_eq_true, if_false, if_true, Bool.not_false, Bool.not_true] at hF
        rw [hF]
        have hC1 := cx [.io] (hM)
        have hC2 := cx [] (hG)
        have fy := And.intro hn0 (And.intro hNz (And.intro h2d (And.intro hwl (And.intro hsl (hwa)))))
        refine goR ?_ ?_ ?_ ?_ ?_ ?_ ?_ ?_ ?_ ?_ ?_ ?_ ?_ ?_ ?_ ?_
        any_goals (first | exact True.intro | skip)
        all_goals (repeat (refine Wh.mk fun hcc => ?_))
        all_goals exact SW.ret (show RetQ _ _ _ _ _ _ _ from RetQ.y [0] [.nd [.bool false, .nd [.int .i64 0, .ow 1 (([] : List Int).map Enc.o), .ow 1 (([] : List Int).map Enc.o)]]])
      · simp only [Bool.false_eq_true, if_false, if_true, Bool.not_false, Bool.not_true] at hF
        rw [hF]
        have hC1 := cx [.io] (hM)
        have hC2 := cx [] (hG)
        have fy := And.intro hn0 (And.intro hNz (And.intro h2d (And.intro hwl (And.intro hsl (hwa)))))
        refine goR ?_ ?_ ?_ ?_ ?_ ?_ ?_ ?_ ?_ ?_ ?_ ?_ ?_ ?_ ?_ ?_
        any_goals (first | exact True.intro | skip)
        all_goals (repeat (refine Wh.mk fun hcc => ?_))
        all_goals exact SW.ret (show RetQ _ _ _ _ _ _ _ from RetQ.y [0] [.nd [.bool true, .nd [.int .i64 g1, .ow 1 (g2.map Enc.o), .ow 1 (g3.map Enc.o)]]])
theorem specSlot_ok (k : Nat) (l : List UInt8) (s : RS) (hl : l.length ≤ 1048576) (ha : s.1 ≤ l.length) : CallR Try.prog 105 [.io (.nd [.sl (gOf k) (l.map Enc.b), .int .i64 (s.1 : Nat), .bool s.2])] [.nd [.sl (gOf k) (l.map Enc.b), .int .i64 ((slotS l s).2.1 : Nat), .bool (slotS l s).2.2]] (.nd [.bool (slotS l s).1.1, .nd [.int .i64 (slotS l s).1.2.1.1, .ow 1 ((slotS l s).1.2.1.2.1.map Enc.o), .ow 1 ((slotS l s).1.2.1.2.2.1.map Enc.o)]]) := by
  refine CallR.of_body (n := 72) (rs := [.cell 2 38]) hY.ok Try.func105 rfl (by decide) rfl rfl rfl rfl (fun F => ?_)
  have fx := And.intro Y1 (And.intro Y2 (And.intro Y3 (And.intro Y4 (And.intro Y5 (And.intro Y24 (And.intro Y34 (And.intro Y36 (And.intro Y38 (And.intro Y115 (Y117))))))))))
  have hM := next_ok (upk k) l s hl ha
  have hMl := oneR_le l s ha
  have hF : slotS l s = slotS l s := rfl
  conv at hF => rhs; unfold slotS
  simp only at hF
  generalize oneR l s = a at *
  obtain ⟨n, at', bad⟩ := a
  simp only at hM hMl hF
  have hn0 : (n == 0) = decide (n = 0) := rfl
  have hwl : IntKind.i64.wrap ((l.length : Int) - (at' : Nat)) = (l.length : Int) - (at' : Nat) := wrap64 _ (by omega) (by omega)
  by_cases h1 : (bad || decide (n = 0)) = true
  · rw [if_pos h1] at hF
    rw [hF]
    have hC1 := cx [.io] (hM)
    have fy := And.intro hn0 (And.intro h1 (hwl))
    refine goR ?_ ?_ ?_ ?_ ?_ ?_ ?_ ?_ ?_ ?_ ?_ ?_ ?_ ?_ ?_ ?_
    any_goals (first | exact True.intro | skip)
    all_goals (repeat (refine Wh.mk fun hcc => ?_))
    all_goals exact SW.ret (show RetQ _ _ _ _ _ _ _ from RetQ.y [0] [.nd [.bool false, .nd [.int .i64 0, .ow 1 (([] : List Int).map Enc.o), .ow 1 (([] : List Int).map Enc.o)]]])
  · rw [if_neg h1] at hF
    have h1f : (bad || decide (n = 0)) = false := by simpa using h1
    by_cases h2 : (decide (n < 0) || decide (n > (l.length : Int) - (at' : Nat))) = true
    · rw [if_pos h2] at hF
      rw [hF]
      have h2d := h2
      have hC1 := cx [.io] (hM)
      have fy := And.intro hn0 (And.intro h1f (And.intro h2d (hwl)))
      refine goR ?_ ?_ ?_ ?_ ?_ ?_ ?_ ?_ ?_ ?_ ?_ ?_ ?_ ?_ ?_ ?_
      any_goals (first | exact True.intro | skip)
      all_goals (repeat (refine Wh.mk fun hcc => ?_))
      all_goals exact SW.ret (show RetQ _ _ _ _ _ _ _ from RetQ.y [0] [.nd [.bool false, .nd [.int .i64 0, .ow 1 (([] : List Int).map Enc.o), .ow 1 (([] : List Int).map Enc.o)]]])
    · rw [if_neg h2] at hF
      have h2d : (decide (n < 0) || decide (n > (l.length : Int) - (at' : Nat))) = false := by simpa using h2
      have h2' : ¬ n < 0 ∧ ¬ n > (l.length : Int) - (at' : Nat) := by simpa using h2
      obtain ⟨N, hN⟩ : ∃ N : Nat, n = (N : Int) := ⟨n.toNat, by omega⟩
      subst hN
      rw [Int.toNat_natCast] at hF
      have hbf : bad = false := by cases bad <;> simp at h1 ⊢
      subst hbf
      have hNz : decide ((N : Int) = 0) = false := by simpa using h1f
      have hsl := slice_sub (gOf k) l at' (at' + N) Y24 Y5 (by omega) (by omega)
      rw [Nat.add_sub_cancel_left] at hsl
      have hwa : IntKind.i64.wrap ((at' : Int) + (N : Int)) = ((at' + N : Nat) : Int) := by rw [wrap64 _ (by omega) (by omega)]; omega
      have hG := gobS_ok ((l.drop at').take N) (by rw [List.length_take, List.length_drop]; omega)
      generalize gobS ((l.drop at').take N) = g at *
      obtain ⟨⟨g1, g2, g3, ⟨⟩⟩, gok⟩ := g
      simp only at hG hF
      cases gok
      · simp only [Bool.false_eq_true, if_false, if_true, Bool.not_false, Bool.not_true] at hF
        rw [hF]
        have hC1 := cx [.io] (hM)
        have hC2 := cx [] (hG)
        have fy := And.intro hn0 (And.intro hNz (And.intro h2d (And.intro hwl (And.intro hsl (hwa)))))
        refine goR ?_ ?_ ?_ ?_ ?_ ?_ ?_ ?_ ?_ ?_ ?_ ?_ ?_ ?_ ?_ ?_
        any_goals (first | exact True.intro | skip)
        all_goals (repeat (refine Wh.mk fun hcc => ?_))
        all_goals exact SW.ret (show RetQ _ _ _ _ _ _ _ from RetQ.y [0] [.nd [.bool true, .nd [.int .i64 g1, .ow 1 (g2.map Enc.o), .ow 1 (g3.map Enc.o)]]])
      · simp only [Bool.false_eq_true, if_false, if_true, Bool.not_false, Bool.not_true] at hF
        rw [hF]
        have hC1 := cx [.io] (hM)
        have hC2 := cx [] (hG)
        have fy := And.intro hn0 (And.intro hNz (And.intro h2d (And.intro hwl (And.intro hsl (hwa)))))
        refine goR ?_ ?_ ?_ ?_ ?_ ?_ ?_ ?_ ?_ ?_ ?_ ?_ ?_ ?_ ?_ ?_
        any_goals (first | exact True.intro | skip)
        all_goals (repeat (refine Wh.mk fun hcc => ?_))
        all_goals exact SW.ret (show RetQ _ _ _ _ _ _ _ from RetQ.y [0] [.nd [.bool true, .nd [.int .i64 g1, .ow 1 (g2.map Enc.o), .ow 1 (g3.map Enc.o)]]])
theorem implSlot_b (l : List UInt8) (s : RS) (hl : l.length ≤ 1048576) (ha : s.1 ≤ l.length) : CallR Try.prog 86 [.io (.nd [.sl (.r 0) (l.map Enc.b), .int .i64 (s.1 : Nat), .bool s.2])] [.nd [.sl (.r 0) (l.map Enc.b), .int .i64 ((slotI l s).2.1 : Nat), .bool (slotI l s).2.2]] (.nd [.bool (slotI l s).1.1, .nd [.int .i64 (slotI l s).1.2.1.1, .ow 1 ((slotI l s).1.2.1.2.1.map Enc.o), .ow 1 ((slotI l s).1.2.1.2.2.1.map Enc.o)]]) := implSlot_ok 1 l s hl ha
theorem implSlot_s (l : List UInt8) (s : RS) (hl : l.length ≤ 1048576) (ha : s.1 ≤ l.length) : CallR Try.prog 86 [.io (.nd [.sl .s (l.map Enc.b), .int .i64 (s.1 : Nat), .bool s.2])] [.nd [.sl .s (l.map Enc.b), .int .i64 ((slotI l s).2.1 : Nat), .bool (slotI l s).2.2]] (.nd [.bool (slotI l s).1.1, .nd [.int .i64 (slotI l s).1.2.1.1, .ow 1 ((slotI l s).1.2.1.2.1.map Enc.o), .ow 1 ((slotI l s).1.2.1.2.2.1.map Enc.o)]]) := implSlot_ok 0 l s hl ha
theorem specSlot_b (l : List UInt8) (s : RS) (hl : l.length ≤ 1048576) (ha : s.1 ≤ l.length) : CallR Try.prog 105 [.io (.nd [.sl (.r 0) (l.map Enc.b), .int .i64 (s.1 : Nat), .bool s.2])] [.nd [.sl (.r 0) (l.map Enc.b), .int .i64 ((slotS l s).2.1 : Nat), .bool (slotS l s).2.2]] (.nd [.bool (slotS l s).1.1, .nd [.int .i64 (slotS l s).1.2.1.1, .ow 1 ((slotS l s).1.2.1.2.1.map Enc.o), .ow 1 ((slotS l s).1.2.1.2.2.1.map Enc.o)]]) := specSlot_ok 1 l s hl ha
theorem specSlot_s (l : List UInt8) (s : RS) (hl : l.length ≤ 1048576) (ha : s.1 ≤ l.length) : CallR Try.prog 105 [.io (.nd [.sl .s (l.map Enc.b), .int .i64 (s.1 : Nat), .bool s.2])] [.nd [.sl .s (l.map Enc.b), .int .i64 ((slotS l s).2.1 : Nat), .bool (slotS l s).2.2]] (.nd [.bool (slotS l s).1.1, .nd [.int .i64 (slotS l s).1.2.1.1, .ow 1 ((slotS l s).1.2.1.2.1.map Enc.o), .ow 1 ((slotS l s).1.2.1.2.2.1.map Enc.o)]]) := specSlot_ok 0 l s hl ha
end Q6

namespace Q6
open Go Go.Vm Go.Proofs
set_option maxHeartbeats 4000000
set_option synthInstance.maxSize 2000
set_option synthInstance.maxHeartbeats 400000
set_option maxRecDepth 10000
set_option linter.unusedSimpArgs false
set_option linter.unusedVariables false

open Go.By

/-! ### a frame -/
def bodyOf (l : List UInt8) (e n : Nat) : List UInt8 := (l.drop e).take n
def unfK (l : List UInt8) (a : Nat) (n : Int) (e : Nat) : List UInt8 × Nat × Int :=
  if (l.length : Int) - (e : Nat) < n + 4 then ([], a, 1)
  else if decide (four (crc (bodyOf l e n.toNat)) = (l.drop (e + n.toNat)).take 4) = true then (bodyOf l e n.toNat, e + n.toNat + 4, 0) else ([], a, 2)
def unfI (l : List UInt8) (a : Nat) : List UInt8 × Nat × Int :=
  if (grpR l a).2.2.2 = true then ([], a, 1)
  else if (!(getR l a).2.2 || decide ((getR l a).1 < 0)) = true then ([], a, 3)
  else unfK l a (getR l a).1 (getR l a).2.1
def unfS (l : List UInt8) (a : Nat) : List UInt8 × Nat × Int :=
  if (!(getR l a).2.2 && endsB l a) = true then ([], a, 1)
  else if (!(getR l a).2.2 || decide ((getR l a).1 < 0)) = true then ([], a, 3)
  else unfK l a (getR l a).1 (getR l a).2.1
theorem getR_okN (l : List UInt8) (a : Nat) : -1000000000000 ≤ (getR l a).1 ∧ (getR l a).1 ≤ 1000000000000 := by
  have : okN (getR l a).1 = true := by
    unfold getR
    split
    · split
      · assumption
      · rfl
    · rfl
  unfold okN M12 at this
  simp only [Bool.and_eq_true, decide_eq_true_eq] at this
  omega
theorem unfK_le (l : List UInt8) (a : Nat) (n : Int) (e : Nat) (ha : a ≤ l.length) (hn : 0 ≤ n) : (unfK l a n e).1.length ≤ l.length ∧ (unfK l a n e).2.1 ≤ l.length := by
  unfold unfK bodyOf
  split
  · exact ⟨Nat.zero_le _, ha⟩
  · split
    · simp only [List.length_take, List.length_drop]; omega
    · exact ⟨Nat.zero_le _, ha⟩
theorem unfI_le (l : List UInt8) (a : Nat) (ha : a ≤ l.length) : (unfI l a).1.length ≤ l.length ∧ (unfI l a).2.1 ≤ l.length := by
  unfold unfI
  split
  · exact ⟨Nat.zero_le _, ha⟩
  · split
    · exact ⟨Nat.zero_le _, ha⟩
    · rename_i h; exact unfK_le l a _ _ ha (by simp at h; omega)
theorem unfS_le (l : List UInt8) (a : Nat) (ha : a ≤ l.length) : (unfS l a).1.length ≤ l.length ∧ (unfS l a).2.1 ≤ l.length := by
  unfold unfS
  split
  · exact ⟨Nat.zero_le _, ha⟩
  · split
    · exact ⟨Nat.zero_le _, ha⟩
    · rename_i h; exact unfK_le l a _ _ ha (by simp at h; omega)
theorem grp_endsF : ∀ (l : List UInt8) (k n : Nat) (g : Bool), (grp l k n g).2.2.2 = true → (grp l k n g).2.2.1 = false
  | [], _, _, _, _ => rfl
  | v :: l, k, n, g, h => by
    unfold grp at h ⊢
    simp only at h ⊢
    split at h
    · rename_i hv; rw [if_pos hv]; exact grp_endsF l _ _ _ h
    · cases h

theorem unframeI_ok (l : List UInt8) (a : Nat) (hl : l.length ≤ 1048576) (ha : a ≤ l.length) : CallR Try.prog 97 [.sl .b (l.map Enc.b), .int .i64 (a : Nat)] [] (.tup [.ow 1 ((unfI l a).1.map Enc.o), .int .i64 ((unfI l a).2.1 : Nat), .int .i64 (unfI l a).2.2]) := by
  refine CallR.of_body (n := 78) (rs := [.tmp 4, .tmp 5, .tmp 6]) hY.ok Try.func97 rfl (by decide) rfl rfl rfl rfl (fun F => ?_)
  have fx := And.intro Y1 (And.intro Y2 (And.intro Y3 (And.intro Y4 (And.intro Y5 (Y24)))))
  have hIn := in_ok (a : Int) 0 (l.length : Int)
  rw [show (decide ((a : Int) ≥ 0) && decide ((a : Int) ≤ (l.length : Int))) = true by simp; omega] at hIn
  have hG := groups_ok l a hl ha
  have hN := GetInt_ok l a hl ha
  have hR := getR_okN l a
  have hle := getR_le l a ha
  unfold unfI
  generalize grpR l a = g at *
  generalize getR l a = r at *
  obtain ⟨g1, g2, g3, ge⟩ := g
  obtain ⟨n, e, ok⟩ := r
  simp only at hG hN hR hle ⊢
  cases ge
  rotate_left
  · skip
    have hC1 := cx [] (hIn)
    have hC2 := cx [] (hG)
    have fy := Nat.add_zero
    have hD1 := dx 12 [5, 6] [(9, 0)]
    refine goR ?_ ?_ ?_ ?_ ?_ ?_ ?_ ?_ ?_ ?_ ?_ ?_ ?_ ?_ ?_ ?_
    any_goals (first | exact True.intro | skip)
    all_goals (repeat (refine Wh.mk fun hcc => ?_))
    all_goals exact SW.ret (show RetQ _ _ _ _ _ _ _ from RetQ.y [0, 0, 0] [.ow 1 (([] : List UInt8).map Enc.o), .int .i64 (a : Nat), .int .i64 1])
  · simp only [Bool.false_eq_true, if_false]
    cases ok
    · simp only [Bool.not_false, Bool.true_or, if_true]
      have hC1 := cx [] (hIn)
      have hC2 := cx [] (hG)
      have hC3 := cx [] (hN)
      have fy := Nat.add_zero
      have hD1 := dx 12 [5, 6] [(9, 0)]
      refine goR ?_ ?_ ?_ ?_ ?_ ?_ ?_ ?_ ?_ ?_ ?_ ?_ ?_ ?_ ?_ ?_
      any_goals (first | exact True.intro | skip)
      all_goals (repeat (refine Wh.mk fun hcc => ?_))
      all_goals exact SW.ret (show RetQ _ _ _ _ _ _ _ from RetQ.y [0, 0, 0] [.ow 1 (([] : List UInt8).map Enc.o), .int .i64 (a : Nat), .int .i64 3])
    · simp only [Bool.not_true, Bool.false_or]
      by_cases h0 : n < 0
      · rw [if_pos (decide_eq_true h0)]
        have h0d : decide (n < 0) = true := decide_eq_true h0
        have hC1 := cx [] (hIn)
        have hC2 := cx [] (hG)
        have hC3 := cx [] (hN)
        have fy := h0d
        have hD1 := dx 12 [5, 6] [(9, 0)]
        refine goR ?_ ?_ ?_ ?_ ?_ ?_ ?_ ?_ ?_ ?_ ?_ ?_ ?_ ?_ ?_ ?_
        any_goals (first | exact True.intro | skip)
        all_goals (repeat (refine Wh.mk fun hcc => ?_))
        all_goals exact SW.ret (show RetQ _ _ _ _ _ _ _ from RetQ.y [0, 0, 0] [.ow 1 (([] : List UInt8).map Enc.o), .int .i64 (a : Nat), .int .i64 3])
      · rw [if_neg (by simpa using h0)]
        have h0d : decide (n < 0) = false := decide_eq_false h0
        unfold unfK
        have hwl : IntKind.i64.wrap ((l.length : Int) - (e : Nat)) = (l.length : Int) - (e : Nat) := wrap64 _ (by omega) (by omega)
        have hwn : IntKind.i64.wrap (n + 4) = n + 4 := wrap64 _ (by omega) (by omega)
        have hwm : IntKind.i64.wrap ((l.length : Int) - (e : Nat) - 4) = (l.length : Int) - (e : Nat) - 4 := wrap64 _ (by omega) (by omega)
        by_cases h1 : (l.length : Int) - (e : Nat) < n + 4
        · rw [if_pos h1]
          have h1d : decide ((l.length : Int) - (e : Nat) < n + 4) = true := decide_eq_true h1
          have hC1 := cx [] (hIn)
          have hC2 := cx [] (hG)
          have hC3 := cx [] (hN)
          have fy := And.intro h0d (And.intro hwl (And.intro hwn (h1d)))
          have hD1 := dx 12 [5, 6] [(9, 0)]
          refine goR ?_ ?_ ?_ ?_ ?_ ?_ ?_ ?_ ?_ ?_ ?_ ?_ ?_ ?_ ?_ ?_
          any_goals (first | exact True.intro | skip)
          all_goals (repeat (refine Wh.mk fun hcc => ?_))
          all_goals exact SW.ret (show RetQ _ _ _ _ _ _ _ from RetQ.y [0, 0, 0] [.ow 1 (([] : List UInt8).map Enc.o), .int .i64 (a : Nat), .int .i64 1])
        · rw [if_neg h1]
          have h1d : decide ((l.length : Int) - (e : Nat) < n + 4) = false := decide_eq_false h1
          obtain ⟨N, hN⟩ : ∃ N : Nat, n = (N : Int) := ⟨n.toNat, by omega⟩
          subst hN
          rw [Int.toNat_natCast]
          have hsl := slice_sub .b l e (e + N) Y24 Y5 (by omega) (by omega)
          rw [Nat.add_sub_cancel_left] at hsl
          have hsl2 := slice_sub .b l (e + N) (e + N + 4) Y24 Y5 (by omega) (by omega)
          rw [Nat.add_sub_cancel_left] at hsl2
          have hwa : IntKind.i64.wrap ((e : Int) + (N : Int)) = ((e + N : Nat) : Int) := by rw [wrap64 _ (by omega) (by omega)]; omega
          have hwb : IntKind.i64.wrap (((e + N : Nat) : Int) + 4) = ((e + N + 4 : Nat) : Int) := by rw [wrap64 _ (by omega) (by omega)]; omega
          have hbl : (bodyOf l e N).length ≤ 1048576 := by unfold bodyOf; rw [List.length_take, List.length_drop]; omega
          rw [show (l.drop e).take N = bodyOf l e N from rfl] at hsl
          have hS := sumBytes_ok (bodyOf l e N) hbl
          have hE := equalBytes_ok (four (crc (bodyOf l e N))) ((l.drop (e + N)).take 4) (by rw [four_len]; decide)
          have hC := cloneBytes_ok (bodyOf l e N) hbl
          generalize hF : four (crc (bodyOf l e N)) = FF at *
          have hFl : FF.length = 4 := by rw [← hF]; rfl
          generalize (l.drop (e + N)).take 4 = ZZ at *
          generalize decide (FF = ZZ) = d at *
          cases d
          · simp only [if_true, Bool.false_eq_true, if_false]
            have hC1 := cx [] (hIn)
            have hC2 := cx [] (hG)
            have hC3 := cx [] (hN)
            have hC4 := cx [] (hS)
            have hC5 := cx [] (hE)
            have fy := And.intro h0d (And.intro hwl (And.intro hwn (And.intro h1d (And.intro hwa (And.intro hwb (And.intro hsl (hsl2)))))))
            have hD1 := dx 12 [5, 6] [(9, 0)]
            refine goR ?_ ?_ ?_ ?_ ?_ ?_ ?_ ?_ ?_ ?_ ?_ ?_ ?_ ?_ ?_ ?_
            any_goals (first | exact True.intro | skip)
            all_goals (repeat (refine Wh.mk fun hcc => ?_))
            all_goals exact SW.ret (show RetQ _ _ _ _ _ _ _ from RetQ.y [0, 0, 0] [.ow 1 (([] : List UInt8).map Enc.o), .int .i64 (a : Nat), .int .i64 2])
          · simp only [if_true, Bool.false_eq_true, if_false]
            have hC1 := cx [] (hIn)
            have hC2 := cx [] (hG)
            have hC3 := cx [] (hN)
            have hC4 := cx [] (hS)
            have hC5 := cx [] (hE)
            have hC6 := cx [] (hC)
            have fy := And.intro h0d (And.intro hwl (And.intro hwn (And.intro h1d (And.intro hwa (And.intro hwb (And.intro hsl (hsl2)))))))
            have hD1 := dx 12 [5, 6] [(9, 0)]
            refine goR ?_ ?_ ?_ ?_ ?_ ?_ ?_ ?_ ?_ ?_ ?_ ?_ ?_ ?_ ?_ ?_
            any_goals (first | exact True.intro | skip)
            all_goals (repeat (refine Wh.mk fun hcc => ?_))
            all_goals exact SW.ret (show RetQ _ _ _ _ _ _ _ from RetQ.y [0, 0, 0] [.ow 1 ((bodyOf l e N).map Enc.o), .int .i64 (e + N + 4 : Nat), .int .i64 0])
theorem unframeS_ok (l : List UInt8) (a : Nat) (hl : l.length ≤ 1048576) (ha : a ≤ l.length) : CallR Try.prog 103 [.sl .b (l.map Enc.b), .int .i64 (a : Nat)] [] (.tup [.ow 1 ((unfS l a).1.map Enc.o), .int .i64 ((unfS l a).2.1 : Nat), .int .i64 (unfS l a).2.2]) := by
  refine CallR.of_body (n := 91) (rs := [.tmp 4, .tmp 5, .tmp 6]) hY.ok Try.func103 rfl (by decide) rfl rfl rfl rfl (fun F => ?_)
  have fx := And.intro Y1 (And.intro Y2 (And.intro Y3 (And.intro Y4 (And.intro Y5 (Y24)))))
  have hIn := l1In_ok (a : Int) 0 (l.length : Int)
  rw [show (decide ((a : Int) ≥ 0) && decide ((a : Int) ≤ (l.length : Int))) = true by simp; omega] at hIn
  have hG := ends_ok l a hl ha
  have hN := sGetInt_ok l a hl ha
  have hR := getR_okN l a
  have hle := getR_le l a ha
  unfold unfS
  generalize endsB l a = ge at *
  generalize getR l a = r at *
  obtain ⟨n, e, ok⟩ := r
  simp only at hG hN hR hle ⊢
  cases ok
  · cases ge
    · simp only [Bool.not_false, Bool.and_false, Bool.false_eq_true, if_false, Bool.true_or, if_true]
      have hC1 := cx [] (hIn)
      have hC2 := cx [] (hN)
      have hC3 := cx [] (hG)
      have fy := bs0_24
      refine goR ?_ ?_ ?_ ?_ ?_ ?_ ?_ ?_ ?_ ?_ ?_ ?_ ?_ ?_ ?_ ?_
      any_goals (first | exact True.intro | skip)
      all_goals (repeat (refine Wh.mk fun hcc => ?_))
      all_goals exact SW.ret (show RetQ _ _ _ _ _ _ _ from RetQ.y [0, 0, 0] [.ow 1 (([] : List UInt8).map Enc.o), .int .i64 (a : Nat), .int .i64 3])
    · simp only [Bool.not_false, Bool.and_self, if_true]
      have hC1 := cx [] (hIn)
      have hC2 := cx [] (hN)
      have hC3 := cx [] (hG)
      have fy := bs0_24
      refine goR ?_ ?_ ?_ ?_ ?_ ?_ ?_ ?_ ?_ ?_ ?_ ?_ ?_ ?_ ?_ ?_
      any_goals (first | exact True.intro | skip)
      all_goals (repeat (refine Wh.mk fun hcc => ?_))
      all_goals exact SW.ret (show RetQ _ _ _ _ _ _ _ from RetQ.y [0, 0, 0] [.ow 1 (([] : List UInt8).map Enc.o), .int .i64 (a : Nat), .int .i64 1])
  · simp only [Bool.not_true, Bool.false_and, Bool.false_eq_true, if_false, Bool.false_or]
    by_cases h0 : n < 0
    · rw [if_pos (decide_eq_true h0)]
      have h0d : decide (n < 0) = true := decide_eq_true h0
      have hC1 := cx [] (hIn)
      have hC2 := cx [] (hN)
      have fy := And.intro h0d (bs0_24)
      refine goR ?_ ?_ ?_ ?_ ?_ ?_ ?_ ?_ ?_ ?_ ?_ ?_ ?_ ?_ ?_ ?_
      any_goals (first | exact True.intro | skip)
      all_goals (repeat (refine Wh.mk fun hcc => ?_))
      all_goals exact SW.ret (show RetQ _ _ _ _ _ _ _ from RetQ.y [0, 0, 0] [.ow 1 (([] : List UInt8).map Enc.o), .int .i64 (a : Nat), .int .i64 3])
    · rw [if_neg (by simpa using h0)]
      have h0d : decide (n < 0) = false := decide_eq_false h0
      unfold unfK
      have hwl : IntKind.i64.wrap ((l.length : Int) - (e : Nat)) = (l.length : Int) - (e : Nat) := wrap64 _ (by omega) (by omega)
      have hwn : IntKind.i64.wrap (n + 4) = n + 4 := wrap64 _ (by omega) (by omega)
      have hwm : IntKind.i64.wrap ((l.length : Int) - (e : Nat) - 4) = (l.length : Int) - (e : Nat) - 4 := wrap64 _ (by omega) (by omega)
      by_cases h1 : (l.length : Int) - (e : Nat) < n + 4
      · rw [if_pos h1]
        have h1d : decide (n > (l.length : Int) - (e : Nat) - 4) = true := decide_eq_true (by omega)
        have hC1 := cx [] (hIn)
        have hC2 := cx [] (hN)
        have fy := And.intro h0d (And.intro hwl (And.intro hwm (And.intro h1d (bs0_24))))
        refine goR ?_ ?_ ?_ ?_ ?_ ?_ ?_ ?_ ?_ ?_ ?_ ?_ ?_ ?_ ?_ ?_
        any_goals (first | exact True.intro | skip)
        all_goals (repeat (refine Wh.mk fun hcc => ?_))
        all_goals exact SW.ret (show RetQ _ _ _ _ _ _ _ from RetQ.y [0, 0, 0] [.ow 1 (([] : List UInt8).map Enc.o), .int .i64 (a : Nat), .int .i64 1])
      · rw [if_neg h1]
        have h1d : decide (n > (l.length : Int) - (e : Nat) - 4) = false := decide_eq_false (by omega)
        obtain ⟨N, hN⟩ : ∃ N : Nat, n = (N : Int) := ⟨n.toNat, by omega⟩
        subst hN
        rw [Int.toNat_natCast]
        have hsl := slice_sub .b l e (e + N) Y24 Y5 (by omega) (by omega)
        rw [Nat.add_sub_cancel_left] at hsl
        have hsl2 := slice_sub .b l (e + N) (e + N + 4) Y24 Y5 (by omega) (by omega)
        rw [Nat.add_sub_cancel_left] at hsl2
        have hwa : IntKind.i64.wrap ((e : Int) + (N : Int)) = ((e + N : Nat) : Int) := by rw [wrap64 _ (by omega) (by omega)]; omega
        have hwb : IntKind.i64.wrap (((e + N : Nat) : Int) + 4) = ((e + N + 4 : Nat) : Int) := by rw [wrap64 _ (by omega) (by omega)]; omega
        have hbl : (bodyOf l e N).length ≤ 1048576 := by unfold bodyOf; rw [List.length_take, List.length_drop]; omega
        rw [show (l.drop e).take N = bodyOf l e N from rfl] at hsl
        have hS := specCrc_ok (bodyOf l e N) hbl
        have hF4 := l1Four_ok (crc (bodyOf l e N))
        generalize hF : four (crc (bodyOf l e N)) = FF at *
        have hFl : FF.length = 4 := by rw [← hF]; rfl
        have hbo : (bodyOf l e N).map (Enc.b : UInt8 → T) = (bodyOf l e N).map Enc.o := rfl
        have hap := fun (own e' j : Nat) (H : Heap) (q1 : H.at e' j = some (.arr 1 [] false)) => append_runB (Y := Y) (own := own) (t := 24) (u := 24) (e := e') (j := j) (off := 0) (n := 0) (g := .b) (l := []) (m := bodyOf l e N) (H := H) Y24 Y24 Y5 rfl (by decide) q1 rfl (by simp) (by omega) rfl rfl
        simp only [List.nil_append, Nat.zero_add] at hap
        generalize hBd : bodyOf l e N = Bd at *
        have hC1 := cx [] (hIn)
        have hC2 := cx [] (hN)
        have hC3 := cx [] (hS)
        have hC4 := cx [] (hF4)
        have fy := And.intro h0d (And.intro hwl (And.intro hwm (And.intro h1d (And.intro hwa (And.intro hwb (And.intro hsl (And.intro bs0_24 (hap))))))))
        refine goR ?_ ?_ ?_ ?_ ?_ ?_ ?_ ?_ ?_ ?_ ?_ ?_ ?_ ?_ ?_ ?_
        any_goals (first | exact True.intro | skip)
        all_goals (repeat (refine Wh.mk fun hcc => ?_))
        refine SW.loop (fun k : Nat => ⟨[.sl .b (l.map Enc.b), .int .i64 (a : Nat), .undef, .undef, .undef, .undef, .undef, .int .i64 (N : Nat), .int .i64 (e : Nat), .undef, .ref 1 0 0 Bd.length, .ref 2 0 0 FF.length, .int .i64 (k : Nat), .undef, .undef, .undef, .undef, .undef, .undef, .undef, .undef, .undef, .undef, .undef, .undef, .undef, .undef, .undef, .undef, .undef, .undef, .undef, .undef, .undef, .undef, .undef, .undef, .undef, .undef, .undef, .undef, .undef, .undef, .undef, .undef, .undef, .undef, .undef, .undef, .undef, .undef, .undef, .undef, .undef, .undef, .undef, .undef, .undef, .undef, .undef, .undef, .undef, .undef, .undef, .undef, .undef, .undef, .undef, .undef, .undef, .undef, .undef, .undef, .undef, .undef, .undef, .undef, .undef, .undef, .undef, .undef, .undef, .undef, .undef, .undef, .undef, .undef, .undef, .undef, .undef, .undef], [[], [.arr 1 (Bd.map Enc.o) false], [.arr 1 (FF.map Enc.o) false]]⟩)
          (fun M k => M = 4 - k ∧ k ≤ 4 ∧ decide (FF = (l.drop (e + N)).take 4) = decide (FF.drop k = (l.drop (e + N + k)).take (4 - k))) (n := 4) (x := 0) ?_ ⟨rfl, by decide, rfl⟩ ?_
        · exact Norm.re [0, 4, 6] (by decide) rfl (by first | (simp only [eq_self, heapFits, rowFits, obFits, List.getElem?_cons_zero, List.getElem?_cons_succ, renL_o, renL_b, true_and, and_true, and_self]; done) | simp [-List.map_append, heapFits, rowFits, obFits, T.ren, renL]) (by simp [tmFits, T.ren])
        rintro M k ⟨hM, hk, hD⟩
        have fy := Nat.add_zero
        refine goS ?_
        refine SW.cond rfl (fun hc => ?_) (fun hc => ?_)
        · have hlt : k < 4 := by simp at hc; omega
          have hwk : IntKind.i64.wrap ((k : Int) + 1) = ((k + 1 : Nat) : Int) := by rw [wrap64 _ (by omega) (by omega)]; omega
          have hwc : IntKind.i64.wrap (((e + N : Nat) : Int) + (k : Int)) = ((e + N + k : Nat) : Int) := by rw [wrap64 _ (by omega) (by omega)]; omega
          have hin : e + N + k < l.length := by omega
          have hkF : (k : Int) < (FF.length : Int) := by omega
          have hgl : (l.map Enc.b)[e + N + k]? = some (T.int .u8 (l[e + N + k].toNat : Int)) := map_get Enc.b l _ hin
          have hgf : (FF.map Enc.o)[k]? = some (T.int .u8 ((FF[k]'(by omega)).toNat : Int)) := map_get Enc.o FF k (by omega)
          rw [List.drop_eq_getElem_cons (show k < FF.length by omega), List.drop_eq_getElem_cons hin, show 4 - k = (4 - (k + 1)) + 1 by omega, List.take_succ_cons] at hD
          generalize hx : l[e + N + k] = x at *
          generalize hy : FF[k]'(by omega) = y at *
          have fy := And.intro hgl (And.intro hgf (And.intro hkF (And.intro hwk (And.intro hwa (And.intro hwc (bs0_24))))))
          refine goR ?_ ?_ ?_ ?_ ?_ ?_ ?_ ?_ ?_ ?_ ?_ ?_ ?_ ?_ ?_ ?_
          any_goals (first | exact True.intro | skip)
          all_goals (repeat (refine Wh.mk fun hcc => ?_))
          · have hne : ¬ y = x := by
              intro h; subst h; simp at hcc
            have hDf : decide (FF = List.take 4 (List.drop (e + N) l)) = false := by rw [hD]; simp [hne]
            simp only [hDf, Bool.false_eq_true, if_false]
            exact SW.ret (show RetQ _ _ _ _ _ _ _ from RetQ.y [0, 0, 0] [.ow 1 (([] : List UInt8).map Enc.o), .int .i64 (a : Nat), .int .i64 2])
          · have he : y = x := by apply UInt8.toNat_inj.1; simp at hcc; omega
            refine ⟨M - 1, k + 1, by omega, ⟨by omega, by omega, ?_⟩, Norm.to 0 rfl (by simp [weakL])⟩
            rw [hD, he]; simp [Nat.add_assoc]
        · have hk4 : k = 4 := by
            have : ¬ k < 4 := by simp at hc; omega
            omega
          subst hk4
          rw [show FF.drop 4 = [] from List.drop_eq_nil_of_le (by omega)] at hD
          simp only [Nat.sub_self, List.take_zero, decide_true] at hD
          rw [hD]
          simp only [if_true]
          have fy := And.intro hwa (hwb)
          refine goR ?_ ?_ ?_ ?_ ?_ ?_ ?_ ?_ ?_ ?_ ?_ ?_ ?_ ?_ ?_ ?_
          any_goals (first | exact True.intro | skip)
          all_goals (repeat (refine Wh.mk fun hcc => ?_))
          all_goals exact SW.ret (show RetQ _ _ _ _ _ _ _ from RetQ.y [0, 0, 0] [.ow 1 (Bd.map Enc.o), .int .i64 (e + N + 4 : Nat), .int .i64 0])
end Q6

namespace Q6
open Go Go.Vm Go.Proofs
set_option maxHeartbeats 4000000
set_option synthInstance.maxSize 2000
set_option synthInstance.maxHeartbeats 400000
set_option maxRecDepth 10000
set_option linter.unusedSimpArgs false
set_option linter.unusedVariables false

open Go.By

def frameL (l : List UInt8) : List UInt8 := putI l.length ++ l ++ four (crc l)
theorem frameL_len (l : List UInt8) : (frameL l).length ≤ l.length + 10 := by
  have := putI_len l.length
  unfold frameL; simp only [List.length_append, four_len]; omega

theorem sFrame_ok (l : List UInt8) (hl : l.length ≤ 1048576) : CallR Try.prog 64 [.sl .b (l.map Enc.b)] [] (.ow 1 ((frameL l).map Enc.o)) := by
  refine CallR.of_body (n := 15) (rs := [.tmp 2]) hY.ok Try.func64 rfl (by decide) rfl rfl rfl rfl (fun F => ?_)
  have fx := And.intro Y3 (And.intro Y5 (Y24))
  have hP := PutInt_ok [] (l.length : Int) (Nat.zero_le _)
  have hS := specCrc_ok l hl
  have hF4 := l1Four_ok (crc l)
  have hpl := putI_len l.length
  have hfl := four_len (crc l)
  unfold frameL
  simp only [List.nil_append] at hP
  generalize crc l = c at *
  generalize four c = FF at *
  generalize putI l.length = PP at *
  have hap1 := fun (own_ e_ j_ : Nat) (H_ : Heap) (q1 : H_.at e_ j_ = some (.arr 1 ((PP).map Enc.o) false)) => append_runB (Y := Y) (own := own_) (t := 24) (u := 24) (e := e_) (j := j_) (off := 0) (n := (PP).length) (g := .b) (l := PP) (m := l) (H := H_) Y24 Y24 Y5 rfl (by decide) q1 (by rw [List.drop_zero]; exact List.take_of_length_le (by simp)) (by simp) (by omega) rfl rfl
  have hap2 := fun (own_ e_ j_ e2_ j2_ : Nat) (H_ : Heap) (q1 : H_.at e_ j_ = some (.arr 1 ((PP ++ l).map Enc.o) false)) (q2 : H_.at e2_ j2_ = some (.arr 1 ((FF).map Enc.o) false)) => append_runR (Y := Y) (own := own_) (t := 24) (u := 24) (e := e_) (j := j_) (off := 0) (n := PP.length + l.length) (e2 := e2_) (j2 := j2_) (l := PP ++ l) (m := FF) (H := H_) Y24 Y24 Y5 rfl (by decide) q1 q2 (by rw [List.drop_zero]; exact List.take_of_length_le (by simp)) (by simp) (by omega) rfl rfl
  have hC1 := cx [] (hP)
  have hC2 := cx [] (hS)
  have hC3 := cx [] (hF4)
  have fy := And.intro bs0_24 (And.intro hap1 (hap2))
  refine goR ?_ ?_ ?_ ?_ ?_ ?_ ?_ ?_ ?_ ?_ ?_ ?_ ?_ ?_ ?_ ?_
  any_goals (first | exact True.intro | skip)
  all_goals (repeat (refine Wh.mk fun hcc => ?_))
  have hZ : PP.length + l.length + FF.length = (PP ++ l ++ FF).length := by simp [Nat.add_assoc]
  rw [hZ]
  generalize PP ++ l ++ FF = Z
  exact SW.ret (show RetQ _ _ _ _ _ _ _ from RetQ.y [1] [.ow 1 (Z.map Enc.o)])
theorem growBytes_ok (n : Nat) (hn : n ≤ 1048576) : CallR Try.prog 165 [.nils 0, .int .i64 (n : Nat)] [] (.ow 1 []) := by
  refine CallR.of_body (n := 27) (rs := [.tmp 4]) hY.ok Try.func165 rfl (by decide) rfl rfl rfl rfl (fun F => ?_)
  have fx := And.intro Y3 (And.intro Y4 (And.intro Y5 (And.intro Y9 (And.intro Y20 (Y24)))))
  have hneg : decide ((n : Int) < 0) = false := by simp
  have hw : IntKind.i64.wrap (n : Int) = n := wrap64 _ (by omega) (by omega)
  have hn30 : (n : Int) ≤ 2 ^ 30 := by omega
  have hn0 : (0 : Int) ≤ n := Int.natCast_nonneg n
  have hsn : ∀ es, sliceM Y 24 (.nils es) none (some (.int .i64 0)) none = .pure { v := .nils es } := fun es => by simp [sliceM, Y24, loF, hiF]
  have hsr := fun (e j n : Nat) (f : List T) (H : Heap) (q1 : H.at e j = some (.arr 1 f false)) => show (sliceM Y 24 (.ref e j 0 n) none (some (.int .i64 0)) none).run H = some { v := .ref e j 0 0 } by simp [sliceM, Y24, Y5, loF, hiF, RM.run, q1]
  cases hz : decide ((n : Int) > 0)
  · skip
    have fy := And.intro hneg (And.intro hw (And.intro hz (And.intro Int.sub_zero (Int.sub_self))))
    refine goR ?_ ?_ ?_ ?_ ?_ ?_ ?_ ?_ ?_ ?_ ?_ ?_ ?_ ?_ ?_ ?_
    any_goals (first | exact True.intro | skip)
    all_goals (repeat (refine Wh.mk fun hcc => ?_))
    all_goals exact SW.ret (show RetQ _ _ _ _ _ _ _ from RetQ.y [1] [.ow 1 []])
  · skip
    have fy := And.intro hneg (And.intro hw (And.intro hz (And.intro hn30 (And.intro hn0 (And.intro hsn (And.intro hsr (And.intro Int.sub_zero (Int.sub_self))))))))
    refine goR ?_ ?_ ?_ ?_ ?_ ?_ ?_ ?_ ?_ ?_ ?_ ?_ ?_ ?_ ?_ ?_
    any_goals (first | exact True.intro | skip)
    all_goals (repeat (refine Wh.mk fun hcc => ?_))
    refine SW.norm (Norm.trunc 1 0 0 rfl) ?_
    simp only [Heap.put, List.take_zero, List.getElem?_cons_succ, List.getElem?_cons_zero, List.set_cons_succ, List.set_cons_zero]
    exact SW.ret (show RetQ _ _ _ _ _ _ _ from RetQ.y [1] [.ow 1 []])
def lenS (ls : List (List UInt8)) : Nat := (ls.map List.length).sum
theorem lenS_take : ∀ (ls : List (List UInt8)) (i : Nat) (h : i < ls.length), lenS (ls.take (i + 1)) = lenS (ls.take i) + ls[i].length
  | [], i, h => absurd h (Nat.not_lt_zero _)
  | x :: ls, 0, h => by simp [lenS]
  | x :: ls, i + 1, h => by
    have := lenS_take ls i (by simpa using h)
    simp only [lenS, List.take_succ_cons, List.map_cons, List.sum_cons, List.getElem_cons_succ] at this ⊢; omega
theorem lenS_le : ∀ (ls : List (List UInt8)) (i : Nat), lenS (ls.take i) ≤ lenS ls
  | [], i => by simp [lenS]
  | x :: ls, 0 => by simp [lenS]
  | x :: ls, i + 1 => by
    have := lenS_le ls i
    simp only [lenS, List.take_succ_cons, List.map_cons, List.sum_cons] at this ⊢; omega
theorem flat_take : ∀ (ls : List (List UInt8)) (i : Nat) (h : i < ls.length), (ls.take (i + 1)).flatten = (ls.take i).flatten ++ ls[i]
  | [], i, h => absurd h (Nat.not_lt_zero _)
  | x :: ls, 0, h => by simp
  | x :: ls, i + 1, h => by
    have := flat_take ls i (by simpa using h)
    simp only [List.take_succ_cons, List.flatten_cons, List.getElem_cons_succ, this, List.append_assoc]
theorem flat_len (ls : List (List UInt8)) (i : Nat) : (ls.take i).flatten.length = lenS (ls.take i) := by unfold lenS; simp [List.length_flatten]
theorem concat_ok (ls : List (List UInt8)) (hn : ls.length ≤ 1048576) (hs : lenS ls ≤ 1048576) : CallR Try.prog 134 [.sl .b (ls.map Enc.b)] [] (.ow 1 (ls.flatten.map Enc.o)) := by
  refine CallR.of_body (n := 36) (rs := [.tmp 2]) hY.ok Try.func134 rfl (by decide) rfl rfl rfl rfl (fun F => ?_)
  have fx := And.intro Y3 (And.intro Y4 (And.intro Y5 (And.intro Y9 (And.intro Y20 (And.intro Y24 (Y157))))))
  have fy := Nat.add_zero
  refine goN ?_ ?_ ?_ ?_ ?_ ?_ ?_ ?_ ?_ ?_ ?_ ?_ ?_ ?_ ?_ ?_
  any_goals (first | exact True.intro | skip)
  skip
  refine SW.loop (fun i : Nat => ⟨[.sl .b (ls.map Enc.b), .undef, .undef, .int .i64 (lenS (ls.take i) : Nat), .undef, .undef, .undef, .undef, .undef, .sl .b (ls.map Enc.b), .int .i64 (ls.length : Nat), .int .i64 (i : Nat), .undef, .undef, .undef, .undef, .undef, .undef, .undef, .undef, .undef, .undef, .undef, .undef, .undef, .undef, .undef, .undef, .undef, .undef, .undef, .undef, .undef, .undef, .undef, .undef], [[]]⟩)
    (fun N i => N = ls.length - i ∧ i ≤ ls.length) (n := ls.length) (x := 0) (Norm.to 0 rfl (by simp [weakL, lenS])) ⟨rfl, Nat.zero_le _⟩ ?_
  rintro N i ⟨hN, hi⟩
  have fy := Nat.add_zero
  refine goS ?_
  refine SW.cond rfl (fun hc => ?_) (fun hc => ?_)
  · have hlt : i < ls.length := by simp at hc; omega
    have hgl : (ls.map Enc.b)[i]? = some (T.sl .b (ls[i].map Enc.b)) := map_get Enc.b ls i hlt
    have h1 := lenS_take ls i hlt
    have h2 := lenS_le ls (i + 1)
    generalize ls[i] = x at *
    generalize lenS (List.take i ls) = m at *
    have hwi : IntKind.i64.wrap ((i : Int) + 1) = ((i + 1 : Nat) : Int) := by rw [wrap64 _ (by omega) (by omega)]; omega
    have hwm : IntKind.i64.wrap ((m : Int) + (x.length : Int)) = ((m + x.length : Nat) : Int) := by rw [wrap64 _ (by omega) (by omega)]; omega
    have hneg : decide (((m + x.length : Nat) : Int) < 0) = false := by simp; omega
    have fy := And.intro hgl (And.intro hwi (And.intro hwm (hneg)))
    refine goR ?_ ?_ ?_ ?_ ?_ ?_ ?_ ?_ ?_ ?_ ?_ ?_ ?_ ?_ ?_ ?_
    any_goals (first | exact True.intro | skip)
    all_goals (repeat (refine Wh.mk fun hcc => ?_))
    refine ⟨N - 1, i + 1, by omega, ⟨by omega, by omega⟩, ?_⟩
    rw [h1]
    exact Norm.to 0 rfl (by simp [weakL])
  · have hge : i = ls.length := by
      have : ¬ i < ls.length := by simp at hc; omega
      omega
    subst hge
    rw [List.take_length]
    have hG := growBytes_ok (lenS ls) hs
    have hC1 := cx [.nl] (hG)
    have fy := Nat.add_zero
    refine goN ?_ ?_ ?_ ?_ ?_ ?_ ?_ ?_ ?_ ?_ ?_ ?_ ?_ ?_ ?_ ?_
    any_goals (first | exact True.intro | skip)
    skip
    refine SW.loop (fun i : Nat => ⟨[.undef, .undef, .undef, .undef, .undef, .undef, .ref 1 0 0 (lenS (ls.take i)), .undef, .undef, .undef, .undef, .undef, .undef, .undef, .undef, .undef, .undef, .undef, .undef, .undef, .undef, .undef, .undef, .undef, .undef, .sl .b (ls.map Enc.b), .int .i64 (ls.length : Nat), .int .i64 (i : Nat), .undef, .undef, .undef, .undef, .undef, .undef, .undef, .undef], [[], [.arr 1 ((ls.take i).flatten.map Enc.o) false]]⟩)
      (fun N i => N = ls.length - i ∧ i ≤ ls.length) (n := ls.length) (x := 0) ?_ ⟨rfl, Nat.zero_le _⟩ ?_
    · exact Norm.re [0, 1] (by decide) rfl (by simp [-List.map_append, heapFits, rowFits, obFits, T.ren, renL]) (by simp [tmFits, T.ren, lenS])
    rintro N i ⟨hN, hi⟩
    have fy := Nat.add_zero
    refine goS ?_
    refine SW.cond rfl (fun hc => ?_) (fun hc => ?_)
    · have hlt : i < ls.length := by simp at hc; omega
      have hgl : (ls.map Enc.b)[i]? = some (T.sl .b (ls[i].map Enc.b)) := map_get Enc.b ls i hlt
      have h1 := lenS_take ls i hlt
      have h2 := lenS_le ls (i + 1)
      have h3 := flat_take ls i hlt
      have h4 := flat_len ls i
      generalize ls[i] = x at *
      generalize lenS (List.take i ls) = m at *
      generalize (List.take i ls).flatten = acc at *
      subst h4
      have hwi : IntKind.i64.wrap ((i : Int) + 1) = ((i + 1 : Nat) : Int) := by rw [wrap64 _ (by omega) (by omega)]; omega
      have hap := fun (own_ e_ j_ : Nat) (H_ : Heap) (q1 : H_.at e_ j_ = some (.arr 1 ((acc).map Enc.o) false)) => append_runB (Y := Y) (own := own_) (t := 24) (u := 24) (e := e_) (j := j_) (off := 0) (n := (acc).length) (g := .b) (l := acc) (m := x) (H := H_) Y24 Y24 Y5 rfl (by decide) q1 (by rw [List.drop_zero]; exact List.take_of_length_le (by simp)) (by simp) (by omega) rfl rfl
      have fy := And.intro hgl (And.intro hwi (hap))
      refine goR ?_ ?_ ?_ ?_ ?_ ?_ ?_ ?_ ?_ ?_ ?_ ?_ ?_ ?_ ?_ ?_
      any_goals (first | exact True.intro | skip)
      all_goals (repeat (refine Wh.mk fun hcc => ?_))
      refine ⟨N - 1, i + 1, by omega, ⟨by omega, by omega⟩, ?_⟩
      rw [h1, h3]
      exact Norm.re [0, 2] (by decide) rfl (by first | (simp only [eq_self, heapFits, rowFits, obFits, List.getElem?_cons_zero, List.getElem?_cons_succ, renL_o, renL_b, true_and, and_true, and_self]; done) | simp [-List.map_append, heapFits, rowFits, obFits, T.ren, renL]) (by simp [tmFits, T.ren])
    · have hge : i = ls.length := by
        have : ¬ i < ls.length := by simp at hc; omega
        omega
      subst hge
      have h4 := flat_len ls ls.length
      rw [List.take_length] at h4 ⊢
      rw [← h4]
      generalize ls.flatten = Z
      have fy := Nat.add_zero
      refine goR ?_ ?_ ?_ ?_ ?_ ?_ ?_ ?_ ?_ ?_ ?_ ?_ ?_ ?_ ?_ ?_
      any_goals (first | exact True.intro | skip)
      all_goals (repeat (refine Wh.mk fun hcc => ?_))
      exact SW.ret (show RetQ _ _ _ _ _ _ _ from RetQ.y [1] [.ow 1 (Z.map Enc.o)])
theorem build3 {Y : TypeId → TyI} {own t el by' : Nat} {k : Ty} {a b c : T} (h1 : Y t = ⟨.sl el, 1, 24⟩) (h2 : Y el = ⟨k, 1, by'⟩) (h3 : k.isFn = false)
    (hs : setAll (plAr 1) (List.replicate 3 (zeroT Y 9 el)) [(0, a), (1, b), (2, c)] = some [a, b, c]) :
    buildSliceM Y own t 3 [(0, a), (1, b), (2, c)] = .pure { v := .ref own 0 0 3, news := [.arr 1 [a, b, c] false] } := by
  simp only [buildSliceM, h1, h2, h3]
  rw [if_pos ⟨by decide, by decide, trivial⟩, hs]
theorem iFrame_ok (l : List UInt8) (hl : l.length ≤ 1048576 - 10) : CallR Try.prog 70 [.sl .b (l.map Enc.b)] [] (.ow 1 ((frameL l).map Enc.o)) := by
  refine CallR.of_body (n := 11) (rs := [.tmp 2]) hY.ok Try.func70 rfl (by decide) rfl rfl rfl rfl (fun F => ?_)
  have fx := And.intro Y1 (And.intro Y2 (And.intro Y3 (And.intro Y5 (And.intro Y24 (Y157)))))
  have hP := putInt_ok [] (l.length : Int) (Nat.zero_le _)
  have hS := sumBytes_ok l (by omega)
  have hpl := putI_len l.length
  have hfl := four_len (crc l)
  unfold frameL
  simp only [List.nil_append] at hP
  generalize crc l = c at *
  generalize four c = FF at *
  generalize putI l.length = PP at *
  have hC0 := concat_ok [PP, l, FF] (by simp) (by unfold lenS; simp; omega)
  rw [show [PP, l, FF].flatten = PP ++ l ++ FF by simp] at hC0
  generalize PP ++ l ++ FF = Z at *
  have hC : CallR Try.prog 134 [.sl .b [.sl .b (PP.map Enc.b), .sl .b (l.map Enc.b), .sl .b (FF.map Enc.b)]] [] (.ow 1 (Z.map Enc.o)) := hC0
  have hb3 := fun own => build3 (Y := Y) (own := own) (t := 157) (a := .ref 1 0 0 PP.length) (b := .sl .b (l.map Enc.b)) (c := .ref 2 0 0 FF.length) Y157 Y24 rfl rfl
  have hC1 := cx [.own 1] (hP)
  have hC2 := cx [] (hS)
  have hC3 := cx [] (hC)
  have fy := hb3
  refine goR ?_ ?_ ?_ ?_ ?_ ?_ ?_ ?_ ?_ ?_ ?_ ?_ ?_ ?_ ?_ ?_
  any_goals (first | exact True.intro | skip)
  all_goals (repeat (refine Wh.mk fun hcc => ?_))
  exact SW.ret (show RetQ _ _ _ _ _ _ _ from RetQ.y [1] [.ow 1 (Z.map Enc.o)])
end Q6

namespace Q6
open Go Go.Vm Go.Proofs
set_option maxHeartbeats 4000000
set_option synthInstance.maxSize 2000
set_option synthInstance.maxHeartbeats 400000
set_option maxRecDepth 10000
set_option linter.unusedSimpArgs false
set_option linter.unusedVariables false

open Go.By

/-! ### draws: a cursor, and what comes of it -/
def xr (a b : Int) : Int := IntKind.i64.wrap ((BitVec.ofInt IntKind.i64.bits a ^^^ BitVec.ofInt IntKind.i64.bits b).toNat : Int)
def an (a b : Int) : Int := IntKind.i64.wrap ((BitVec.ofInt IntKind.i64.bits a &&& BitVec.ofInt IntKind.i64.bits b).toNat : Int)
def sr (a k : Int) : Int := a.fdiv (2 ^ (min k.toNat IntKind.i64.bits))
theorem xr_eq (a b : Int) : IntKind.i64.wrap ((BitVec.ofInt IntKind.i64.bits a ^^^ BitVec.ofInt IntKind.i64.bits b).toNat : Int) = xr a b := rfl
theorem an_eq (a b : Int) : IntKind.i64.wrap ((BitVec.ofInt IntKind.i64.bits a &&& BitVec.ofInt IntKind.i64.bits b).toNat : Int) = an a b := rfl
theorem sr_eq (a k : Int) : a.fdiv (2 ^ (min k.toNat IntKind.i64.bits)) = sr a k := rfl
theorem an_rng (a : Int) (b : Nat) (hb : b < 2 ^ 62) : 0 ≤ an a b ∧ an a b ≤ b := by
  unfold an
  have h : (BitVec.ofInt IntKind.i64.bits a &&& BitVec.ofInt IntKind.i64.bits (b : Int)).toNat ≤ b := by
    rw [BitVec.toNat_and]
    refine Nat.le_trans Nat.and_le_right ?_
    rw [show IntKind.i64.bits = 64 from rfl, BitVec.ofInt_natCast, BitVec.toNat_ofNat]
    exact Nat.mod_le _ _
  rw [wrap64 _ (by omega) (by omega)]
  omega
theorem an_255 (a : Int) : 0 ≤ an a 255 ∧ an a 255 ≤ 255 := an_rng a 255 (by decide)
def hs1 (h : Int) : Int := IntKind.i64.wrap (IntKind.i64.wrap (h * 6364136223846793005) + 1442695040888963407)
def hx1 (h : Int) : Int := an (xr (sr (hs1 h) 33) (sr (hs1 h) 47)) 255

abbrev CS := Nat × Int
theorem byte_ok (l : List UInt8) (s : CS) (hl : l.length ≤ 1048576) (hi : s.1 ≤ l.length) : ∃ (s' : CS) (x : Int), s'.1 ≤ l.length ∧ (0 ≤ x ∧ x ≤ 255) ∧ CallR Try.prog 172 [.io (.nd [.sl .s (l.map Enc.b), .int .i64 (s.1 : Nat), .int .i64 s.2])] [.nd [.sl .s (l.map Enc.b), .int .i64 (s'.1 : Nat), .int .i64 s'.2]] (.int .i64 x) := by
  obtain ⟨i, h⟩ := s
  simp only at hi ⊢
  by_cases hlt : i < l.length
  · refine ⟨(i + 1, hs1 h), an (IntKind.i64.wrap (hx1 h + (l[i].toNat : Int))) 255, hlt, an_255 _, ?_⟩
    have hg : (l.map Enc.b)[i]? = some (T.int .u8 (l[i].toNat : Int)) := map_get Enc.b l i hlt
    have hbi := byte_i64 l[i]
    generalize l[i] = v at *
    have hd : decide ((i : Int) < (l.length : Int)) = true := by simp; omega
    have hwi : IntKind.i64.wrap ((i : Int) + 1) = ((i + 1 : Nat) : Int) := by rw [wrap64 _ (by omega) (by omega)]; omega
    refine CallR.of_body (n := 58) (rs := [.tmp 2]) hY.ok Try.func172 rfl (by decide) rfl rfl rfl rfl (fun F => ?_)
    have fx := And.intro Y1 (And.intro Y2 (And.intro Y3 (And.intro Y4 (And.intro Y5 (And.intro Y24 (And.intro Y87 (And.intro Y133 (Y139))))))))
    have e1 : IntKind.i64.wrap (IntKind.i64.wrap (h * 6364136223846793005) + 1442695040888963407) = hs1 h := rfl
    have e2 : an (xr (sr (hs1 h) 33) (sr (hs1 h) 47)) 255 = hx1 h := rfl
    have fy := And.intro xr_eq (And.intro an_eq (And.intro sr_eq (And.intro e1 (And.intro e2 (And.intro hd (And.intro hg (And.intro hbi (hwi))))))))
    refine goR ?_ ?_ ?_ ?_ ?_ ?_ ?_ ?_ ?_ ?_ ?_ ?_ ?_ ?_ ?_ ?_
    any_goals (first | exact True.intro | skip)
    all_goals (repeat (refine Wh.mk fun hcc => ?_))
    all_goals exact SW.ret (show RetQ _ _ _ _ _ _ _ from RetQ.y [0] [.int .i64 (an (IntKind.i64.wrap (hx1 h + (v.toNat : Int))) 255)])
  · have hge : i = l.length := by omega
    subst hge
    refine ⟨(l.length, hs1 h), hx1 h, Nat.le_refl _, an_255 _, ?_⟩
    have hd : decide ((l.length : Int) < (l.length : Int)) = false := by simp
    refine CallR.of_body (n := 58) (rs := [.tmp 2]) hY.ok Try.func172 rfl (by decide) rfl rfl rfl rfl (fun F => ?_)
    have fx := And.intro Y1 (And.intro Y2 (And.intro Y3 (And.intro Y4 (And.intro Y5 (And.intro Y24 (And.intro Y87 (And.intro Y133 (Y139))))))))
    have e1 : IntKind.i64.wrap (IntKind.i64.wrap (h * 6364136223846793005) + 1442695040888963407) = hs1 h := rfl
    have e2 : an (xr (sr (hs1 h) 33) (sr (hs1 h) 47)) 255 = hx1 h := rfl
    have fy := And.intro xr_eq (And.intro an_eq (And.intro sr_eq (And.intro e1 (And.intro e2 (hd)))))
    refine goR ?_ ?_ ?_ ?_ ?_ ?_ ?_ ?_ ?_ ?_ ?_ ?_ ?_ ?_ ?_ ?_
    any_goals (first | exact True.intro | skip)
    all_goals (repeat (refine Wh.mk fun hcc => ?_))
    all_goals exact SW.ret (show RetQ _ _ _ _ _ _ _ from RetQ.y [0] [.int .i64 (hx1 h)])
theorem below_ok (l : List UInt8) (s : CS) (hl : l.length ≤ 1048576) (hi : s.1 ≤ l.length) (n : Int) : ∃ (s' : CS) (x : Int), s'.1 ≤ l.length ∧ (0 ≤ x ∧ (0 < n → x < n)) ∧ CallR Try.prog 145 [.io (.nd [.sl .s (l.map Enc.b), .int .i64 (s.1 : Nat), .int .i64 s.2]), .int .i64 n] [.nd [.sl .s (l.map Enc.b), .int .i64 (s'.1 : Nat), .int .i64 s'.2]] (.int .i64 x) := by
  by_cases h0 : n ≤ 0
  · refine ⟨s, 0, hi, ⟨Int.le_refl _, fun h => by omega⟩, ?_⟩
    have hd0 : decide (n ≤ 0) = true := decide_eq_true h0
    refine CallR.of_body (n := 31) (rs := [.tmp 4]) hY.ok Try.func145 rfl (by decide) rfl rfl rfl rfl (fun F => ?_)
    have fx := And.intro Y3 (And.intro Y4 (Y87))
    have fy := hd0
    refine goR ?_ ?_ ?_ ?_ ?_ ?_ ?_ ?_ ?_ ?_ ?_ ?_ ?_ ?_ ?_ ?_
    any_goals (first | exact True.intro | skip)
    all_goals (repeat (refine Wh.mk fun hcc => ?_))
    all_goals exact SW.ret (show RetQ _ _ _ _ _ _ _ from RetQ.y [0] [.int .i64 0])
  have hd0 : decide (n ≤ 0) = false := decide_eq_false h0
  have hn0 : ¬ n = 0 := by omega
  obtain ⟨s1, x1, e1, p1, c1⟩ := byte_ok l s hl hi
  by_cases h1 : n ≤ 256
  · refine ⟨s1, x1.tmod n, e1, ⟨Int.tmod_nonneg _ p1.1, fun h => Int.tmod_lt_of_pos _ h⟩, ?_⟩
    have hd1 : decide (n ≤ 256) = true := decide_eq_true h1
    refine CallR.of_body (n := 31) (rs := [.tmp 4]) hY.ok Try.func145 rfl (by decide) rfl rfl rfl rfl (fun F => ?_)
    have fx := And.intro Y3 (And.intro Y4 (Y87))
    have hC1 := cx [.io] (c1)
    have fy := And.intro hd0 (And.intro hd1 (hn0))
    refine goR ?_ ?_ ?_ ?_ ?_ ?_ ?_ ?_ ?_ ?_ ?_ ?_ ?_ ?_ ?_ ?_
    any_goals (first | exact True.intro | skip)
    all_goals (repeat (refine Wh.mk fun hcc => ?_))
    all_goals exact SW.ret (show RetQ _ _ _ _ _ _ _ from RetQ.y [0] [.int .i64 (x1.tmod n)])
  have hd1 : decide (n ≤ 256) = false := decide_eq_false h1
  obtain ⟨s2, x2, e2, p2, c2⟩ := byte_ok l s1 hl e1
  obtain ⟨s3, x3, e3, p3, c3⟩ := byte_ok l s2 hl e2
  have w1 : IntKind.i64.wrap (x1 * 65536) = x1 * 65536 := wrap64 _ (by omega) (by omega)
  have w2 : IntKind.i64.wrap (x2 * 256) = x2 * 256 := wrap64 _ (by omega) (by omega)
  have w3 : IntKind.i64.wrap (x1 * 65536 + x2 * 256) = x1 * 65536 + x2 * 256 := wrap64 _ (by omega) (by omega)
  have w4 : IntKind.i64.wrap (x1 * 65536 + x2 * 256 + x3) = x1 * 65536 + x2 * 256 + x3 := wrap64 _ (by omega) (by omega)
  refine ⟨s3, (x1 * 65536 + x2 * 256 + x3).tmod n, e3, ⟨Int.tmod_nonneg _ (by omega), fun h => Int.tmod_lt_of_pos _ h⟩, ?_⟩
  refine CallR.of_body (n := 31) (rs := [.tmp 4]) hY.ok Try.func145 rfl (by decide) rfl rfl rfl rfl (fun F => ?_)
  have fx := And.intro Y3 (And.intro Y4 (Y87))
  have hC1 := cx [.io] (c1)
  have hC2 := cx [.io] (c2)
  have hC3 := cx [.io] (c3)
  have fy := And.intro hd0 (And.intro hd1 (And.intro hn0 (And.intro w1 (And.intro w2 (And.intro w3 (w4))))))
  refine goR ?_ ?_ ?_ ?_ ?_ ?_ ?_ ?_ ?_ ?_ ?_ ?_ ?_ ?_ ?_ ?_
  any_goals (first | exact True.intro | skip)
  all_goals (repeat (refine Wh.mk fun hcc => ?_))
  all_goals exact SW.ret (show RetQ _ _ _ _ _ _ _ from RetQ.y [0] [.int .i64 ((x1 * 65536 + x2 * 256 + x3).tmod n)])
theorem once_ok (l : List UInt8) (s : CS) (hl : l.length ≤ 1048576) (hi : s.1 ≤ l.length) (n : Int) : ∃ (s' : CS) (x : Bool), s'.1 ≤ l.length ∧ CallR Try.prog 91 [.io (.nd [.sl .s (l.map Enc.b), .int .i64 (s.1 : Nat), .int .i64 s.2]), .int .i64 n] [.nd [.sl .s (l.map Enc.b), .int .i64 (s'.1 : Nat), .int .i64 s'.2]] (.bool x) := by
  obtain ⟨s1, x1, e1, p1, c1⟩ := below_ok l s hl hi n
  refine ⟨s1, (x1 == 0), e1, ?_⟩
  refine CallR.of_body (n := 9) (rs := [.tmp 4]) hY.ok Try.func91 rfl (by decide) rfl rfl rfl rfl (fun F => ?_)
  have fx := And.intro Y3 (And.intro Y4 (Y87))
  have hC1 := cx [.io] (c1)
  have fy := Nat.add_zero
  refine goR ?_ ?_ ?_ ?_ ?_ ?_ ?_ ?_ ?_ ?_ ?_ ?_ ?_ ?_ ?_ ?_
  any_goals (first | exact True.intro | skip)
  all_goals (repeat (refine Wh.mk fun hcc => ?_))
  all_goals exact SW.ret (show RetQ _ _ _ _ _ _ _ from RetQ.y [0] [.bool (x1 == 0)])
theorem int_ok (l : List UInt8) (s : CS) (hl : l.length ≤ 1048576) (hi : s.1 ≤ l.length) (ns : List Int) (h0 : 0 < ns.length) (h1 : ns.length ≤ 1048576) : ∃ (s' : CS) (x : Int), s'.1 ≤ l.length ∧ x ∈ ns ∧ CallR Try.prog 92 [.io (.nd [.sl .s (l.map Enc.b), .int .i64 (s.1 : Nat), .int .i64 s.2]), .sl .b (ns.map Enc.b)] [.nd [.sl .s (l.map Enc.b), .int .i64 (s'.1 : Nat), .int .i64 s'.2]] (.int .i64 x) := by
  obtain ⟨s1, x1, e1, p1, c1⟩ := below_ok l s hl hi (ns.length : Int)
  obtain ⟨k, rfl⟩ : ∃ k : Nat, x1 = (k : Int) := ⟨x1.toNat, by omega⟩
  have hk : k < ns.length := by have := p1.2 (by omega); omega
  refine ⟨s1, ns[k], e1, List.getElem_mem hk, ?_⟩
  have hg : (ns.map Enc.b)[k]? = some (T.int .i64 ns[k]) := map_get Enc.b ns k hk
  refine CallR.of_body (n := 12) (rs := [.tmp 4]) hY.ok Try.func92 rfl (by decide) rfl rfl rfl rfl (fun F => ?_)
  have fx := And.intro Y3 (And.intro Y34 (Y87))
  have hC1 := cx [.io] (c1)
  have fy := hg
  refine goR ?_ ?_ ?_ ?_ ?_ ?_ ?_ ?_ ?_ ?_ ?_ ?_ ?_ ?_ ?_ ?_
  any_goals (first | exact True.intro | skip)
  all_goals (repeat (refine Wh.mk fun hcc => ?_))
  all_goals exact SW.ret (show RetQ _ _ _ _ _ _ _ from RetQ.y [0] [.int .i64 ns[k]])
theorem new_ok (l : List UInt8) (hl : l.length ≤ 1048576) : ∃ h : Int, CallR Try.prog 73 [.sl .s (l.map Enc.b)] [] (.fp (.io (.nd [.sl .s (l.map Enc.b), .int .i64 0, .int .i64 h]))) := by
  let st : List UInt8 → Int := fun m => m.foldl (fun h v => an (IntKind.i64.wrap (IntKind.i64.wrap (IntKind.i64.wrap (h * 137) + (v.toNat : Int)) + 11)) 1073741823) (IntKind.i64.wrap (278278 + (l.length : Int)))
  refine ⟨st (l.take 4000), ?_⟩
  refine CallR.of_body (n := 32) (rs := [.tmp 2]) hY.ok Try.func73 rfl (by decide) rfl rfl rfl rfl (fun F => ?_)
  have fx := And.intro Y2 (And.intro Y3 (And.intro Y4 (And.intro Y5 (And.intro Y24 (And.intro Y87 (Y139))))))
  have fy := Nat.add_zero
  refine goN ?_ ?_ ?_ ?_ ?_ ?_ ?_ ?_ ?_ ?_ ?_ ?_ ?_ ?_ ?_ ?_
  any_goals (first | exact True.intro | skip)
  skip
  refine SW.loop (fun i : Nat => ⟨[.sl .s (l.map Enc.b), .undef, .undef, .int .i64 (st (l.take i)), .int .i64 (i : Nat), .undef, .undef, .undef, .undef, .undef, .undef, .undef, .undef, .undef, .undef, .undef, .undef, .undef, .undef, .undef, .undef, .undef, .undef, .undef, .undef, .undef, .undef, .undef, .undef, .undef, .undef, .undef], [[]]⟩)
    (fun N i => N = l.length - i ∧ i ≤ l.length ∧ i ≤ 4000) (n := l.length) (x := 0) (Norm.to 0 rfl (by simp [weakL, st])) ⟨rfl, Nat.zero_le _, by decide⟩ ?_
  rintro N i ⟨hn, hi, hi4⟩
  have fy := Nat.add_zero
  refine goS ?_
  by_cases hgo : i < l.length ∧ i < 4000
  · obtain ⟨hlt, h4⟩ := hgo
    have hd1 : decide ((i : Int) < (l.length : Int)) = true := by simp; omega
    have hd2 : decide ((i : Int) < 4000) = true := by simp; omega
    have hg : (l.map Enc.b)[i]? = some (T.int .u8 (l[i].toNat : Int)) := map_get Enc.b l i hlt
    have hbi := byte_i64 l[i]
    have hst : st (l.take (i + 1)) = an (IntKind.i64.wrap (IntKind.i64.wrap (IntKind.i64.wrap (st (l.take i) * 137) + (l[i].toNat : Int)) + 11)) 1073741823 := by
      show List.foldl _ _ _ = _
      rw [List.take_add_one, List.getElem?_eq_getElem hlt, List.foldl_append]; rfl
    generalize l[i] = v at *
    have hwi : IntKind.i64.wrap ((i : Int) + 1) = ((i + 1 : Nat) : Int) := by rw [wrap64 _ (by omega) (by omega)]; omega
    generalize st (List.take i l) = c at *
    have fy := And.intro hd1 (And.intro hd2 (And.intro hg (And.intro hbi (And.intro hwi (an_eq)))))
    refine goR ?_ ?_ ?_ ?_ ?_ ?_ ?_ ?_ ?_ ?_ ?_ ?_ ?_ ?_ ?_ ?_
    any_goals (first | exact True.intro | skip)
    all_goals (repeat (refine Wh.mk fun hcc => ?_))
    all_goals first | (exfalso; simp at hcc; done) | (exfalso; simp at hcc; omega) | skip
    refine ⟨N - 1, i + 1, by omega, ⟨by omega, by omega, by omega⟩, ?_⟩
    rw [hst]
    exact Norm.to 0 rfl (by simp [weakL])
  · have hd : (decide ((i : Int) < (l.length : Int)) && decide ((i : Int) < 4000)) = false := by simp; omega
    have hfin : st (l.take 4000) = st (l.take i) := by
      by_cases h4 : i = 4000
      · rw [h4]
      · have : i = l.length := by omega
        rw [this, List.take_length, List.take_of_length_le (by omega)]
    rw [hfin]
    generalize st (List.take i l) = c at *
    cases hd1 : decide ((i : Int) < (l.length : Int))
    · skip
      have fy := hd1
      refine goR ?_ ?_ ?_ ?_ ?_ ?_ ?_ ?_ ?_ ?_ ?_ ?_ ?_ ?_ ?_ ?_
      any_goals (first | exact True.intro | skip)
      all_goals (repeat (refine Wh.mk fun hcc => ?_))
      all_goals first | (exfalso; simp at hcc; done) | (exfalso; simp at hcc; omega) | exact SW.ret (show RetQ _ _ _ _ _ _ _ from RetQ.y [4294967295] [.fp (.io (.nd [.sl .s (l.map Enc.b), .int .i64 0, .int .i64 c]))])
    · have hd2 : decide ((i : Int) < 4000) = false := by rw [hd1] at hd; simpa using hd
      have fy := And.intro hd1 (hd2)
      refine goR ?_ ?_ ?_ ?_ ?_ ?_ ?_ ?_ ?_ ?_ ?_ ?_ ?_ ?_ ?_ ?_
      any_goals (first | exact True.intro | skip)
      all_goals (repeat (refine Wh.mk fun hcc => ?_))
      all_goals first | (exfalso; simp [hd2] at hcc; done) | (exfalso; simp at hcc; done) | (exfalso; simp at hcc; omega) | exact SW.ret (show RetQ _ _ _ _ _ _ _ from RetQ.y [4294967295] [.fp (.io (.nd [.sl .s (l.map Enc.b), .int .i64 0, .int .i64 c]))])
end Q6
