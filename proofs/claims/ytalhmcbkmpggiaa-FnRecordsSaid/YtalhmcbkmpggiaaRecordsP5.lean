/- Shows what the parts of the program do that the claim reaches: a machine of values over the model, and the contracts of functions, for all arguments within the lengths that each theorem names. -/
import Derived.Test.YtalhmcbkmpggiaaRecordsP1
import Derived.Test.YtalhmcbkmpggiaaRecordsP4
import Derived.Test.YtalhmcbkmpggiaaVm5
import Derived.Test.YtalhmcbkmpggiaaRecordsP3
import Derived.Test.YtalhmcbkmpggiaaRecordsP2
set_option linter.all false

namespace Q6
open Go Go.Vm Go.Proofs
set_option maxHeartbeats 4000000
set_option synthInstance.maxSize 2000
set_option synthInstance.maxHeartbeats 400000
set_option maxRecDepth 10000
set_option linter.unusedSimpArgs false
set_option linter.unusedVariables false

open Go.By

def recL (x : RecT) (n : Nat) : Prop := slotB x.2.2.2.2.2.1 = true ∧ slotB x.2.2.2.2.2.2.1 = true ∧ x.2.2.2.2.2.2.2.2.1.length ≤ n
theorem recF_ok (l : List UInt8) (s : CS) (hl : l.length ≤ 1048576) (hi : s.1 ≤ l.length) : (recF l s).1.1 ≤ l.length ∧ recL (recF l s).2 4 := by
  have hz : slotB slot0' = true := by unfold slot0' slotB noObjB; rfl
  have ea := (belowF_ok l s 40 hl hi).1
  have eb := (belowF_ok l (belowF l s 40).1 4 hl ea).1
  have ec := (belowF_ok l _ 6 hl eb).1
  have ep := (intF_ok l _ [0, 1, 4, 5 + (belowF l s 40).2 - 1] hl ec (by simp) (by simp)).1
  have eo := (belowF_ok l _ 31 hl ep).1
  have h1 := slotF_ok l _ hl eo
  unfold recF
  dsimp only
  split
  · have h2 := slotF_ok l _ hl h1.1
    exact ⟨h2.1, h1.2, h2.2, Nat.zero_le _⟩
  · split
    · exact ⟨(intF_ok l _ _ hl h1.1 (by simp) (by simp)).1, hz, h1.2, Nat.zero_le _⟩
    · split
      · have ht := lvF_ok l hl 4 1 _ [] ep
        exact ⟨ht.1, hz, hz, by simpa using ht.2⟩
      · exact ⟨ep, hz, hz, Nat.zero_le _⟩
theorem bendF_ok (l : List UInt8) (s : CS) (x : RecT) (n : Nat) (hl : l.length ≤ 1048576) (hi : s.1 ≤ l.length) (h : recL x n) : (bendF l s x).1.1 ≤ l.length ∧ recL (bendF l s x).2 (n + 1) := by
  have e1 := (belowF_ok l s 8 hl hi).1
  have ei : ∀ ns : List Int, 0 < ns.length → ns.length ≤ 1048576 → (intF l (belowF l s 8).1 ns).1.1 ≤ l.length := fun ns a b => (intF_ok l _ ns hl e1 a b).1
  obtain ⟨h1, h2, h3⟩ := h
  have hn := Nat.le_succ_of_le h3
  unfold bendF
  dsimp only
  split
  · exact ⟨ei _ (by simp) (by simp), h1, h2, hn⟩
  split
  · exact ⟨ei _ (by simp) (by simp), h1, h2, hn⟩
  split
  · exact ⟨ei _ (by simp) (by simp), h1, h2, hn⟩
  split
  · exact ⟨ei _ (by simp) (by simp), h1, h2, hn⟩
  split
  · exact ⟨ei _ (by simp) (by simp), h1, h2, hn⟩
  split
  · exact ⟨ei _ (by simp) (by simp), h1, h2, hn⟩
  split
  · refine ⟨(intF_ok l _ _ hl (ei _ (by simp) (by simp)) (by simp) (by simp)).1, h1, h2, ?_⟩
    simp only [List.length_append, List.length_cons, List.length_nil]
    omega
  · exact ⟨e1, h1, h2, hn⟩
theorem recAnyF_ok (l : List UInt8) (s : CS) (hl : l.length ≤ 1048576) (hi : s.1 ≤ l.length) : (recAnyF l s).1.1 ≤ l.length ∧ recL (recAnyF l s).2 5 := by
  obtain ⟨er, hr⟩ := recF_ok l s hl hi
  have eo := (onceF_ok l (recF l s).1 5 hl er).1
  unfold recAnyF
  dsimp only
  split
  · exact bendF_ok l _ _ 4 hl eo hr
  · exact ⟨eo, hr.1, hr.2.1, Nat.le_succ_of_le hr.2.2⟩

noncomputable def newF (l : List UInt8) : Int := by
  classical exact if h : ∃ h : Int, CallR Try.prog 73 [.sl .s (l.map Enc.b)] [] (.fp (.io (.nd [.sl .s (l.map Enc.b), .int .i64 0, .int .i64 h]))) then h.choose else 0
theorem newF_ok (l : List UInt8) (hl : l.length ≤ 1048576) : CallR Try.prog 73 [.sl .s (l.map Enc.b)] [] (.fp (.io (.nd [.sl .s (l.map Enc.b), .int .i64 0, .int .i64 (newF l)]))) := by
  unfold newF
  rw [dif_pos (new_ok l hl)]
  exact (new_ok l hl).choose_spec
noncomputable def drawPutF (l : List UInt8) : RecT := (recAnyF l (0, newF l)).2
theorem recAnyW_ok (l : List UInt8) (s : CS) (hl : l.length ≤ 1048576) (hi : s.1 ≤ l.length) : CallR Try.prog 74 [.io (.nd [.sl .s (l.map Enc.b), .int .i64 (s.1 : Nat), .int .i64 s.2])] [.nd [.sl .s (l.map Enc.b), .int .i64 (((recAnyF l s).1).1 : Nat), .int .i64 ((recAnyF l s).1).2]] (.nd [.int .i64 (((recAnyF l s).2).1), .int .i64 (((recAnyF l s).2).2.1), .int .i64 (((recAnyF l s).2).2.2.1), .int .i64 (((recAnyF l s).2).2.2.2.1), .int .i64 (((recAnyF l s).2).2.2.2.2.1), .nd [.bool ((((recAnyF l s).2).2.2.2.2.2.1).1), .nd [.int .i64 (((((recAnyF l s).2).2.2.2.2.2.1).2.1).1), .ow 1 ((((((recAnyF l s).2).2.2.2.2.2.1).2.1).2.1).map Enc.o), .ow 1 ((((((recAnyF l s).2).2.2.2.2.2.1).2.1).2.2.1).map Enc.o)]], .nd [.bool ((((recAnyF l s).2).2.2.2.2.2.2.1).1), .nd [.int .i64 (((((recAnyF l s).2).2.2.2.2.2.2.1).2.1).1), .ow 1 ((((((recAnyF l s).2).2.2.2.2.2.2.1).2.1).2.1).map Enc.o), .ow 1 ((((((recAnyF l s).2).2.2.2.2.2.2.1).2.1).2.2.1).map Enc.o)]], .int .i64 (((recAnyF l s).2).2.2.2.2.2.2.2.1), .ow 3 ((((recAnyF l s).2).2.2.2.2.2.2.2.2.1).map Enc.o)]) := by
  refine CallR.of_body (n := 12) (rs := [.cell 2 41]) hY.ok Try.func74 rfl (by decide) rfl rfl rfl rfl (fun F => ?_)
  have fx := And.intro Y3 (And.intro Y4 (And.intro Y34 (And.intro Y36 (And.intro Y38 (And.intro Y39 (And.intro Y41 (And.intro Y87 (Y91))))))))
  obtain ⟨er, hr⟩ := recF_ok l s hl hi
  have c1 := recW_ok l s hl hi
  obtain ⟨eo, c2⟩ := onceF_ok l (recF l s).1 5 hl er
  have c3 := bendW_ok l (onceF l (recF l s).1 5).1 (recF l s).2 hl eo (by have := hr.2.2; omega)
  unfold recAnyF
  dsimp only
  generalize bendF l (onceF l (recF l s).1 5).1 (recF l s).2 = bd at *
  generalize onceF l (recF l s).1 5 = o at *
  generalize recF l s = r at *
  obtain ⟨r0, ⟨r1, r2, r3, r4, r5, ⟨rp, ⟨ru, rA, rB, ⟨⟩⟩, ⟨⟩⟩, ⟨rq, ⟨rv, rC, rD, ⟨⟩⟩, ⟨⟩⟩, r8, rE, ⟨⟩⟩⟩ := r
  obtain ⟨b0, ⟨b1, b2, b3, b4, b5, ⟨bp, ⟨bu, bA, bB, ⟨⟩⟩, ⟨⟩⟩, ⟨bq, ⟨bv, bC, bD, ⟨⟩⟩, ⟨⟩⟩, b8, bE, ⟨⟩⟩⟩ := bd
  obtain ⟨so, bo⟩ := o
  clear er hr eo
  simp only at c1 c2 c3 ⊢
  cases bo
  · simp only [Bool.false_eq_true, if_false]
    have hC1 := cx [.io] (c1)
    have hC2 := cx [.io] (c2)
    have fy := Nat.add_zero
    refine goR ?_ ?_ ?_ ?_ ?_ ?_ ?_ ?_ ?_ ?_ ?_ ?_ ?_ ?_ ?_ ?_
    any_goals (first | exact True.intro | skip)
    all_goals (repeat (refine Wh.mk fun hcc => ?_))
    all_goals exact SW.ret (show RetQ _ _ _ _ _ _ _ from RetQ.y [0] [.nd [.int .i64 r1, .int .i64 r2, .int .i64 r3, .int .i64 r4, .int .i64 r5, .nd [.bool rp, .nd [.int .i64 ru, .ow 1 (rA.map Enc.o), .ow 1 (rB.map Enc.o)]], .nd [.bool rq, .nd [.int .i64 rv, .ow 1 (rC.map Enc.o), .ow 1 (rD.map Enc.o)]], .int .i64 r8, .ow 3 (rE.map Enc.o)]])
  · simp only [if_true]
    have hC1 := cx [.io] (c1)
    have hC2 := cx [.io] (c2)
    have hC3 := cx [.io, .own 0] (c3)
    have fy := Nat.add_zero
    refine goR ?_ ?_ ?_ ?_ ?_ ?_ ?_ ?_ ?_ ?_ ?_ ?_ ?_ ?_ ?_ ?_
    any_goals (first | exact True.intro | skip)
    all_goals (repeat (refine Wh.mk fun hcc => ?_))
    all_goals exact SW.ret (show RetQ _ _ _ _ _ _ _ from RetQ.y [0] [.nd [.int .i64 b1, .int .i64 b2, .int .i64 b3, .int .i64 b4, .int .i64 b5, .nd [.bool bp, .nd [.int .i64 bu, .ow 1 (bA.map Enc.o), .ow 1 (bB.map Enc.o)]], .nd [.bool bq, .nd [.int .i64 bv, .ow 1 (bC.map Enc.o), .ow 1 (bD.map Enc.o)]], .int .i64 b8, .ow 3 (bE.map Enc.o)]])
theorem drawPutW_ok (l : List UInt8) (hl : l.length ≤ 1048576) : CallR Try.prog 21 [.sl .s (l.map Enc.b)] [] (.nd [.int .i64 ((drawPutF l).1), .int .i64 ((drawPutF l).2.1), .int .i64 ((drawPutF l).2.2.1), .int .i64 ((drawPutF l).2.2.2.1), .int .i64 ((drawPutF l).2.2.2.2.1), .nd [.bool (((drawPutF l).2.2.2.2.2.1).1), .nd [.int .i64 ((((drawPutF l).2.2.2.2.2.1).2.1).1), .ow 1 (((((drawPutF l).2.2.2.2.2.1).2.1).2.1).map Enc.o), .ow 1 (((((drawPutF l).2.2.2.2.2.1).2.1).2.2.1).map Enc.o)]], .nd [.bool (((drawPutF l).2.2.2.2.2.2.1).1), .nd [.int .i64 ((((drawPutF l).2.2.2.2.2.2.1).2.1).1), .ow 1 (((((drawPutF l).2.2.2.2.2.2.1).2.1).2.1).map Enc.o), .ow 1 (((((drawPutF l).2.2.2.2.2.2.1).2.1).2.2.1).map Enc.o)]], .int .i64 ((drawPutF l).2.2.2.2.2.2.2.1), .ow 3 (((drawPutF l).2.2.2.2.2.2.2.2.1).map Enc.o)]) := by
  refine CallR.of_body (n := 8) (rs := [.cell 2 41]) hY.ok Try.func21 rfl (by decide) rfl rfl rfl rfl (fun F => ?_)
  have fx := And.intro Y3 (And.intro Y4 (And.intro Y5 (And.intro Y24 (And.intro Y34 (And.intro Y36 (And.intro Y38 (And.intro Y39 (And.intro Y41 (And.intro Y87 (Y91))))))))))
  have c1 := newF_ok l hl
  have c2 := recAnyW_ok l (0, newF l) hl (Nat.zero_le _)
  unfold drawPutF
  generalize newF l = h at *
  generalize recAnyF l (0, h) = r at *
  obtain ⟨⟨n0, h0⟩, ⟨r1, r2, r3, r4, r5, ⟨rp, ⟨ru, rA, rB, ⟨⟩⟩, ⟨⟩⟩, ⟨rq, ⟨rv, rC, rD, ⟨⟩⟩, ⟨⟩⟩, r8, rE, ⟨⟩⟩⟩ := r
  simp only [Int.natCast_zero] at c1 c2 ⊢
  have hC1 := cx [.own 1] (c1)
  have hC2 := cx [.io] (c2)
  have fy := Nat.add_zero
  refine goR ?_ ?_ ?_ ?_ ?_ ?_ ?_ ?_ ?_ ?_ ?_ ?_ ?_ ?_ ?_ ?_
  any_goals (first | exact True.intro | skip)
  all_goals (repeat (refine Wh.mk fun hcc => ?_))
  all_goals exact SW.ret (show RetQ _ _ _ _ _ _ _ from RetQ.y [0] [.nd [.int .i64 r1, .int .i64 r2, .int .i64 r3, .int .i64 r4, .int .i64 r5, .nd [.bool rp, .nd [.int .i64 ru, .ow 1 (rA.map Enc.o), .ow 1 (rB.map Enc.o)]], .nd [.bool rq, .nd [.int .i64 rv, .ow 1 (rC.map Enc.o), .ow 1 (rD.map Enc.o)]], .int .i64 r8, .ow 3 (rE.map Enc.o)]])
end Q6

namespace Q6
open Go Go.Vm Go.Proofs
set_option maxHeartbeats 4000000
set_option synthInstance.maxSize 2000
set_option synthInstance.maxHeartbeats 400000
set_option maxRecDepth 10000
set_option linter.unusedSimpArgs false
set_option linter.unusedVariables false

open Go.By
theorem laws_sameBytes_ok (l m : List UInt8) (hl : Enc.lim 1048576 l) : CallR Try.prog 26 [.sl .b (l.map Enc.b), .sl .b (m.map Enc.b)] [] (.bool (decide (l = m))) := by
  refine CallR.of_body (n := 26) (rs := [.tmp 4]) hY.ok Try.func26 rfl (by decide) rfl rfl rfl rfl (fun F => ?_)
  have fx := And.intro Y3 (And.intro Y4 (And.intro Y5 (Y24)))
  have hl1 : l.length ≤ 1048576 := hl.1
  have fy := Nat.add_zero
  refine goS ?_
  refine SW.cond rfl (fun hc => ?_) (fun hc => ?_)
  · have hne : ¬ l = m := by intro e; subst e; simp at hc
    have fy := Nat.add_zero
    refine goK ?_ ?_ ?_ ?_ ?_ ?_ ?_ ?_ ?_ ?_ ?_ ?_ ?_ ?_ ?_ ?_
    any_goals (first | exact True.intro | skip)
    all_goals (repeat (refine Wh.mk fun hcc => ?_))
    simp [tupOf, fixEs, hne]
  have hlen : l.length = m.length := by have : (l.length : Int) = m.length := by simpa using hc
                                        omega
  refine SW.skip ?_
  simp only [thenS]
  have fy := Nat.add_zero
  refine goN ?_ ?_ ?_ ?_ ?_ ?_ ?_ ?_ ?_ ?_ ?_ ?_ ?_ ?_ ?_ ?_
  any_goals (first | exact True.intro | skip)
  skip
  refine SW.loop (fun i : Nat => ⟨[.sl .b (l.map Enc.b), .sl .b (m.map Enc.b), .undef, .undef, .undef, .int .i64 i, .undef, .undef, .undef, .undef, .undef, .undef, .undef, .undef, .undef, .undef, .undef, .undef, .undef, .undef, .undef, .undef, .undef, .undef, .undef, .undef], [[]]⟩)
    (fun n i => n = l.length - i ∧ i ≤ l.length ∧ ∀ j (h : j < l.length), j < i → l[j] = m[j]'(by omega)) (n := l.length) (x := 0) (Norm.to 0 rfl (by simp [weakL])) ⟨rfl, Nat.zero_le _, fun j _ h => absurd h (Nat.not_lt_zero _)⟩ ?_
  rintro n i ⟨hn, hi, hp⟩
  have fy := Nat.add_zero
  refine goS ?_
  refine SW.cond rfl (fun hc => ?_) (fun hc => ?_)
  · have hlt : i < l.length := by simpa using hc
    have hlt' : i < m.length := by omega
    have hgl : (l.map Enc.b)[i]? = some (.int .u8 (l[i].toNat : Int)) := map_get Enc.b l i hlt
    have hgm : (m.map Enc.b)[i]? = some (.int .u8 (m[i].toNat : Int)) := map_get Enc.b m i hlt'
    have fy := And.intro hgl (hgm)
    refine goK ?_ ?_ ?_ ?_ ?_ ?_ ?_ ?_ ?_ ?_ ?_ ?_ ?_ ?_ ?_ ?_
    any_goals (first | exact True.intro | skip)
    all_goals (repeat (refine Wh.mk fun hcc => ?_))
    · have hx := hcc
      have hne : ¬ l[i] = m[i] := by intro e; simp [e] at hx
      have hlm : ¬ l = m := by intro e; subst e; exact hne rfl
      simp [tupOf, fixEs, hlm]
    · have hx := hcc
      have hx' : l[i] = m[i] := by first | (simpa using hx; done) | (apply UInt8.toNat_inj.1; simp at hx; omega)
      refine ⟨n - 1, i + 1, by omega, ⟨by omega, by omega, fun j hj hji => ?_⟩, ?_⟩
      · by_cases he : j = i
        · subst he; exact hx'
        · exact hp j hj (by omega)
      · rw [wrap64 _ (by omega) (by omega)]
        first | exact Norm.to 0 rfl (by simp [weakL]) | exact Norm.to 1 rfl (by simp [weakL])
  · have hge : i = l.length := by
      have : ¬ i < l.length := by simpa using hc
      omega
    have hlm : l = m := List.ext_getElem hlen fun j h1 h2 => hp j h1 (by omega)
    have fy := Nat.add_zero
    refine goK ?_ ?_ ?_ ?_ ?_ ?_ ?_ ?_ ?_ ?_ ?_ ?_ ?_ ?_ ?_ ?_
    any_goals (first | exact True.intro | skip)
    all_goals (repeat (refine Wh.mk fun hcc => ?_))
    simp [tupOf, fixEs, hlm]
theorem big_ok (l : List UInt8) : CallR Try.prog 20 [.sl .s (l.map Enc.b)] [] (.bool (decide ((1048576 : Int) < (l.length : Int)))) := by
  refine CallR.of_body (n := 6) (rs := [.tmp 2]) hY.ok Try.func20 rfl (by decide) rfl rfl rfl rfl (fun F => ?_)
  have fx := And.intro Y3 (And.intro Y4 (And.intro Y5 (Y24)))
  have fy := Nat.add_zero
  refine goK ?_ ?_ ?_ ?_ ?_ ?_ ?_ ?_ ?_ ?_ ?_ ?_ ?_ ?_ ?_ ?_
  any_goals (first | exact True.intro | skip)
  all_goals (repeat (refine Wh.mk fun hcc => ?_))
  all_goals rfl
end Q6

namespace Q6
open Go Go.Vm Go.Proofs
set_option maxHeartbeats 4000000
set_option synthInstance.maxSize 2000
set_option synthInstance.maxHeartbeats 400000
set_option maxRecDepth 10000
set_option linter.unusedSimpArgs false
set_option linter.unusedVariables false

open Go.By
theorem iPutRec_n (x : RecT) (hx : Enc.lim 1048576 x) (ho : recB x = false) : CallR Try.prog 22 [.nd [.int .i64 x.1, .int .i64 x.2.1, .int .i64 x.2.2.1, .int .i64 x.2.2.2.1, .int .i64 x.2.2.2.2.1, .nd [.bool x.2.2.2.2.2.1.1, .nd [.int .i64 x.2.2.2.2.2.1.2.1.1, .sl .b (x.2.2.2.2.2.1.2.1.2.1.map Enc.b), .sl .b (x.2.2.2.2.2.1.2.1.2.2.1.map Enc.b)]], .nd [.bool x.2.2.2.2.2.2.1.1, .nd [.int .i64 x.2.2.2.2.2.2.1.2.1.1, .sl .b (x.2.2.2.2.2.2.1.2.1.2.1.map Enc.b), .sl .b (x.2.2.2.2.2.2.1.2.1.2.2.1.map Enc.b)]], .int .i64 x.2.2.2.2.2.2.2.1, .sl .b (x.2.2.2.2.2.2.2.2.1.map Enc.b)]] [] (.ow 1 (([] : List UInt8).map Enc.o)) := by
  refine CallR.of_body (n := 65) (rs := [.tmp 2]) hY.ok Try.func22 rfl (by decide) rfl rfl rfl rfl (fun F => ?_)
  have fx := And.intro Y1 (And.intro Y2 (And.intro Y3 (And.intro Y4 (And.intro Y5 (And.intro Y6 (And.intro Y7 (And.intro Y8 (And.intro Y24 (And.intro Y34 (And.intro Y36 (And.intro Y38 (And.intro Y39 (And.intro Y41 (Y91))))))))))))))
  have hO := implRecOk_ok x hx
  rw [ho] at hO
  have hC1 := cx [] (hO)
  have fy := bs0_24
  have hD1 := dx 9 [4, 3] [(5, 0)]
  have hD2 := dx 14 [4, 3, 3, 1] [(5, 0), (8, 0), (8, 1)]
  refine goR ?_ ?_ ?_ ?_ ?_ ?_ ?_ ?_ ?_ ?_ ?_ ?_ ?_ ?_ ?_ ?_
  any_goals (first | exact True.intro | skip)
  all_goals (repeat (refine Wh.mk fun hcc => ?_))
  all_goals exact SW.ret (show RetQ _ _ _ _ _ _ _ from RetQ.y [1] [.ow 1 []])
theorem iPutRec_y (x : RecT) (hx : Enc.lim 1048576 x) (ho : recB x = true) : CallR Try.prog 22 [.nd [.int .i64 x.1, .int .i64 x.2.1, .int .i64 x.2.2.1, .int .i64 x.2.2.2.1, .int .i64 x.2.2.2.2.1, .nd [.bool x.2.2.2.2.2.1.1, .nd [.int .i64 x.2.2.2.2.2.1.2.1.1, .sl .b (x.2.2.2.2.2.1.2.1.2.1.map Enc.b), .sl .b (x.2.2.2.2.2.1.2.1.2.2.1.map Enc.b)]], .nd [.bool x.2.2.2.2.2.2.1.1, .nd [.int .i64 x.2.2.2.2.2.2.1.2.1.1, .sl .b (x.2.2.2.2.2.2.1.2.1.2.1.map Enc.b), .sl .b (x.2.2.2.2.2.2.1.2.1.2.2.1.map Enc.b)]], .int .i64 x.2.2.2.2.2.2.2.1, .sl .b (x.2.2.2.2.2.2.2.2.1.map Enc.b)]] [] (.ow 1 ((putRec x).map Enc.o)) := by
  refine CallR.of_body (n := 65) (rs := [.tmp 2]) hY.ok Try.func22 rfl (by decide) rfl rfl rfl rfl (fun F => ?_)
  have fx := And.intro Y1 (And.intro Y2 (And.intro Y3 (And.intro Y4 (And.intro Y5 (And.intro Y6 (And.intro Y7 (And.intro Y8 (And.intro Y24 (And.intro Y34 (And.intro Y36 (And.intro Y38 (And.intro Y39 (And.intro Y41 (Y91))))))))))))))
  have hO := implRecOk_ok x hx
  rw [ho] at hO
  have ht := recB_txs ho
  obtain ⟨hs1, hs2⟩ := recB_slots ho
  have hns : (recNs x).length = 6 := rfl
  have hp0 : ∀ l : List Int, (l.flatMap putI).length ≤ 6 * l.length := putF_len
  have hC1 := cx [] (hO)
  have fy := And.intro bs0_24 (bs6_34)
  have hD1 := dx 9 [4, 3] [(5, 0)]
  have hD2 := dx 14 [4, 3, 3, 1] [(5, 0), (8, 0), (8, 1)]
  refine goR ?_ ?_ ?_ ?_ ?_ ?_ ?_ ?_ ?_ ?_ ?_ ?_ ?_ ?_ ?_ ?_
  any_goals (first | exact True.intro | skip)
  all_goals (repeat (refine Wh.mk fun hcc => ?_))
  refine SW.loop (fun x_ : Nat × List UInt8 => ⟨[.undef, .ptr 1 0 [] 0, .undef, .ref 3 0 0 x_.2.length, .undef, .undef, .undef, .undef, .undef, .undef, .undef, .undef, .undef, .undef, .undef, .undef, .undef, .undef, .undef, .undef, .undef, .undef, .undef, .ref 2 0 0 6, .int .i64 6, .int .i64 (x_.1 : Nat), .undef, .undef, .undef, .undef, .undef, .undef, .undef, .undef, .undef, .undef, .undef, .undef, .undef, .undef, .undef, .undef, .undef, .undef, .undef, .undef, .undef, .undef, .undef, .undef, .undef, .undef, .undef, .undef, .undef, .undef, .undef, .undef, .undef, .undef, .undef, .undef, .undef, .undef, .undef], [[], [.var (.nd [.int .i64 x.1, .int .i64 x.2.1, .int .i64 x.2.2.1, .int .i64 x.2.2.2.1, .int .i64 x.2.2.2.2.1, .nd [.bool x.2.2.2.2.2.1.1, .nd [.int .i64 x.2.2.2.2.2.1.2.1.1, .sl .b (x.2.2.2.2.2.1.2.1.2.1.map Enc.b), .sl .b (x.2.2.2.2.2.1.2.1.2.2.1.map Enc.b)]], .nd [.bool x.2.2.2.2.2.2.1.1, .nd [.int .i64 x.2.2.2.2.2.2.1.2.1.1, .sl .b (x.2.2.2.2.2.2.1.2.1.2.1.map Enc.b), .sl .b (x.2.2.2.2.2.2.1.2.1.2.2.1.map Enc.b)]], .int .i64 x.2.2.2.2.2.2.2.1, .sl .b (x.2.2.2.2.2.2.2.2.1.map Enc.b)])], [.arr 1 ((recNs x).map Enc.o) false], [.arr 1 (x_.2.map Enc.o) false]]⟩)
    (fun N x_ => N = 6 - x_.1 ∧ x_.1 ≤ 6 ∧ x_.2 = ((recNs x).take x_.1).flatMap putI) (n := 6) (x := (0, [])) (Norm.trans (Norm.nil 3 rfl) <| Norm.re [0, 1, 3, 4] (by decide) rfl (by simp [-List.map_append, heapFits, rowFits, obFits, T.ren, renL, recNs]) (by simp [tmFits, T.ren])) ⟨rfl, by decide, rfl⟩ ?_
  rintro N ⟨i, acc⟩ ⟨hN, hi, hac⟩
  simp only at hN hi hac ⊢
  have hacl : acc.length ≤ 36 := by
    rw [hac]
    have h1 := hp0 ((recNs x).take i)
    have h2 : ((recNs x).take i).length ≤ 6 := by rw [List.length_take]; omega
    omega
  have fy := And.intro bs0_24 (bs6_34)
  refine goS ?_
  refine SW.cond rfl (fun hc => ?_) (fun hc => ?_)
  · have hlt : i < 6 := by simp at hc; omega
    have hlt' : i < (recNs x).length := hlt
    have hg : ((recNs x).map Enc.o)[i]? = some (.int .i64 ((recNs x)[i])) := map_get Enc.o (recNs x) i hlt'
    have hltI : (i : Int) < ((6 : Nat) : Int) := by omega
    have hwi : IntKind.i64.wrap ((i : Int) + 1) = ((i + 1 : Nat) : Int) := by rw [wrap64 _ (by omega) (by omega)]; omega
    have h1 := putInt_ok acc (recNs x)[i] (by omega)
    have hz0 : (0 : Int) ≤ (i : Int) := by omega
    have hni : 0 + i < (recNs x).length := by omega
    have hC1 := cx [.own 1] (h1)
    have fy := And.intro hg (And.intro hwi (hltI))
    have hD1 := dx 9 [4, 3] [(5, 0)]
    have hD2 := dx 14 [4, 3, 3, 1] [(5, 0), (8, 0), (8, 1)]
    refine goN ?_ ?_ ?_ ?_ ?_ ?_ ?_ ?_ ?_ ?_ ?_ ?_ ?_ ?_ ?_ ?_
    any_goals (first | exact True.intro | skip)
    skip
    refine ⟨N - 1, (i + 1, acc ++ putI (recNs x)[i]), by omega, ⟨by simp only; omega, by simp only; omega, ?_⟩, ?_⟩
    · simp only; rw [hac, List.take_succ_eq_append_getElem hlt', List.flatMap_append]; simp only [List.flatMap_cons, List.flatMap_nil, List.append_nil]
    · exact Norm.re [0, 1, 2, 4] (by decide) rfl (by first | (simp only [eq_self, heapFits, rowFits, obFits, List.getElem?_cons_zero, List.getElem?_cons_succ, renL_o, renL_b, true_and, and_true, and_self]; done) | simp [-List.map_append, heapFits, rowFits, obFits, T.ren, renL]) (by simp [tmFits, T.ren])
  · have hge : i = 6 := by
      have : ¬ i < 6 := by simp at hc; omega
      omega
    subst hge
    have hacc : acc = (recNs x).flatMap putI := hac
    have hP1 := iPutSlot_ok acc x.2.2.2.2.2.1 hx.2.2.2.2.2.1 hs1 (by omega)
    have hl1 := putSl_len hs1
    have hl2 := putSl_len hs2
    have hP2 := iPutSlot_ok (acc ++ putSl x.2.2.2.2.2.1) x.2.2.2.2.2.2.1 hx.2.2.2.2.2.2.1 hs2 (by simp only [List.length_append]; omega)
    have hP3 := putInt_ok (acc ++ putSl x.2.2.2.2.2.1 ++ putSl x.2.2.2.2.2.2.1) x.2.2.2.2.2.2.2.2.1.length (by simp only [List.length_append]; omega)
    have hl3 := putI_len x.2.2.2.2.2.2.2.2.1.length
    have hB : (acc ++ putSl x.2.2.2.2.2.1 ++ putSl x.2.2.2.2.2.2.1 ++ putI x.2.2.2.2.2.2.2.2.1.length).length ≤ 210 := by simp only [List.length_append]; omega
    have hres : putRec x = acc ++ putSl x.2.2.2.2.2.1 ++ putSl x.2.2.2.2.2.2.1 ++ putI x.2.2.2.2.2.2.2.2.1.length ++ x.2.2.2.2.2.2.2.2.1.flatMap putLv := by unfold putRec; rw [hacc]
    rw [hres]
    generalize acc ++ putSl x.2.2.2.2.2.1 ++ putSl x.2.2.2.2.2.2.1 ++ putI x.2.2.2.2.2.2.2.2.1.length = B at *
    generalize acc ++ putSl x.2.2.2.2.2.1 ++ putSl x.2.2.2.2.2.2.1 = B2 at *
    generalize acc ++ putSl x.2.2.2.2.2.1 = B1 at *
    have hC1 := cx [.own 1] (hP1)
    have hC2 := cx [.own 1] (hP2)
    have hC3 := cx [.own 1] (hP3)
    have fy := Nat.add_zero
    have hD1 := dx 9 [4, 3] [(5, 0)]
    have hD2 := dx 14 [4, 3, 3, 1] [(5, 0), (8, 0), (8, 1)]
    refine goN ?_ ?_ ?_ ?_ ?_ ?_ ?_ ?_ ?_ ?_ ?_ ?_ ?_ ?_ ?_ ?_
    any_goals (first | exact True.intro | skip)
    skip
    refine SW.loop (fun x_ : Nat × List UInt8 => ⟨[.undef, .ptr 1 0 [] 0, .undef, .ref 2 0 0 x_.2.length, .undef, .undef, .undef, .undef, .undef, .undef, .undef, .undef, .undef, .undef, .undef, .undef, .undef, .undef, .undef, .undef, .undef, .undef, .undef, .undef, .undef, .undef, .undef, .undef, .undef, .undef, .undef, .undef, .undef, .undef, .undef, .undef, .undef, .undef, .undef, .undef, .undef, .undef, .undef, .undef, .undef, .undef, .sl .b (x.2.2.2.2.2.2.2.2.1.map Enc.b), .int .i64 (x.2.2.2.2.2.2.2.2.1.length : Nat), .int .i64 (x_.1 : Nat), .undef, .undef, .undef, .undef, .undef, .undef, .undef, .undef, .undef, .undef, .undef, .undef, .undef, .undef, .undef, .undef], [[], [.var (.nd [.int .i64 x.1, .int .i64 x.2.1, .int .i64 x.2.2.1, .int .i64 x.2.2.2.1, .int .i64 x.2.2.2.2.1, .nd [.bool x.2.2.2.2.2.1.1, .nd [.int .i64 x.2.2.2.2.2.1.2.1.1, .sl .b (x.2.2.2.2.2.1.2.1.2.1.map Enc.b), .sl .b (x.2.2.2.2.2.1.2.1.2.2.1.map Enc.b)]], .nd [.bool x.2.2.2.2.2.2.1.1, .nd [.int .i64 x.2.2.2.2.2.2.1.2.1.1, .sl .b (x.2.2.2.2.2.2.1.2.1.2.1.map Enc.b), .sl .b (x.2.2.2.2.2.2.1.2.1.2.2.1.map Enc.b)]], .int .i64 x.2.2.2.2.2.2.2.1, .sl .b (x.2.2.2.2.2.2.2.2.1.map Enc.b)])], [.arr 1 (x_.2.map Enc.o) false]]⟩)
      (fun N x_ => N = x.2.2.2.2.2.2.2.2.1.length - x_.1 ∧ x_.1 ≤ x.2.2.2.2.2.2.2.2.1.length ∧ x_.2 = B ++ (x.2.2.2.2.2.2.2.2.1.take x_.1).flatMap putLv) (n := x.2.2.2.2.2.2.2.2.1.length) (x := (0, B)) (Norm.re [0, 1, 6] (by decide) rfl (by first | (simp only [eq_self, heapFits, rowFits, obFits, List.getElem?_cons_zero, List.getElem?_cons_succ, renL_o, renL_b, true_and, and_true, and_self]; done) | simp [-List.map_append, heapFits, rowFits, obFits, T.ren, renL]) (by simp [tmFits, T.ren])) ⟨rfl, Nat.zero_le _, by simp⟩ ?_
    skip
    rintro N ⟨i, ac2⟩ ⟨hN, hi, hac⟩
    simp only at hN hi hac ⊢
    have hacl : ac2.length ≤ 210 + 18 * 20 := by
      have h1 := putLvs_len (x.2.2.2.2.2.2.2.2.1.take i)
      have h2 : (x.2.2.2.2.2.2.2.2.1.take i).length ≤ 20 := by rw [List.length_take]; omega
      rw [hac]; simp only [List.length_append]; omega
    have fy := Nat.add_zero
    refine goS ?_
    refine SW.cond rfl (fun hc => ?_) (fun hc => ?_)
    · have hlt : i < x.2.2.2.2.2.2.2.2.1.length := by simp at hc; omega
      have hg : (x.2.2.2.2.2.2.2.2.1.map Enc.b)[i]? = some (.nd [.int .i64 x.2.2.2.2.2.2.2.2.1[i].1, .int .i64 x.2.2.2.2.2.2.2.2.1[i].2.1, .bool x.2.2.2.2.2.2.2.2.1[i].2.2.1]) := map_get Enc.b x.2.2.2.2.2.2.2.2.1 i hlt
      have hltI : (i : Int) < (x.2.2.2.2.2.2.2.2.1.length : Int) := by omega
      have hwi : IntKind.i64.wrap ((i : Int) + 1) = ((i + 1 : Nat) : Int) := by rw [wrap64 _ (by omega) (by omega)]; omega
      have h1 := putInt_ok ac2 x.2.2.2.2.2.2.2.2.1[i].1 (by omega)
      have l1 := putI_len x.2.2.2.2.2.2.2.2.1[i].1
      have h2 := putInt_ok (ac2 ++ putI x.2.2.2.2.2.2.2.2.1[i].1) x.2.2.2.2.2.2.2.2.1[i].2.1 (by simp only [List.length_append]; omega)
      have l2 := putI_len x.2.2.2.2.2.2.2.2.1[i].2.1
      have h3 := putInt_ok (ac2 ++ putI x.2.2.2.2.2.2.2.2.1[i].1 ++ putI x.2.2.2.2.2.2.2.2.1[i].2.1) (flagN x.2.2.2.2.2.2.2.2.1[i].2.2.1) (by simp only [List.length_append]; omega)
      have hnx : ac2 ++ putI x.2.2.2.2.2.2.2.2.1[i].1 ++ putI x.2.2.2.2.2.2.2.2.1[i].2.1 ++ putI (flagN x.2.2.2.2.2.2.2.2.1[i].2.2.1) = B ++ (x.2.2.2.2.2.2.2.2.1.take (i + 1)).flatMap putLv := by
        rw [hac, List.take_succ_eq_append_getElem hlt, List.flatMap_append]; simp only [List.flatMap_cons, List.flatMap_nil, List.append_nil, putLv, List.append_assoc]
      generalize ac2 ++ putI x.2.2.2.2.2.2.2.2.1[i].1 ++ putI x.2.2.2.2.2.2.2.2.1[i].2.1 ++ putI (flagN x.2.2.2.2.2.2.2.2.1[i].2.2.1) = D3 at *
      generalize ac2 ++ putI x.2.2.2.2.2.2.2.2.1[i].1 ++ putI x.2.2.2.2.2.2.2.2.1[i].2.1 = D2 at *
      generalize ac2 ++ putI x.2.2.2.2.2.2.2.2.1[i].1 = D1 at *
      rcases hfl : x.2.2.2.2.2.2.2.2.1[i].2.2.1 with _ | _
      · rw [hfl] at hg h3
        have hf := flag_ok false
        simp only [flagI, flagN, Bool.false_eq_true, if_false, if_true] at h3 hf
        have hC1 := cx [.own 1] (h1)
        have hC2 := cx [.own 1] (h2)
        have hC3 := cx [.own 1] (h3)
        have hC4 := cx [] (hf)
        have fy := And.intro hg (And.intro hwi (hltI))
        have hD1 := dx 9 [4, 3] [(5, 0)]
        have hD2 := dx 14 [4, 3, 3, 1] [(5, 0), (8, 0), (8, 1)]
        refine goR ?_ ?_ ?_ ?_ ?_ ?_ ?_ ?_ ?_ ?_ ?_ ?_ ?_ ?_ ?_ ?_
        any_goals (first | exact True.intro | skip)
        all_goals (repeat (refine Wh.mk fun hcc => ?_))
        refine ⟨N - 1, (i + 1, D3), by omega, ⟨by simp only; omega, by simp only; omega, hnx⟩, ?_⟩
        exact Norm.re [0, 1, 7] (by decide) rfl (by first | (simp only [eq_self, heapFits, rowFits, obFits, List.getElem?_cons_zero, List.getElem?_cons_succ, renL_o, renL_b, true_and, and_true, and_self]; done) | simp [-List.map_append, heapFits, rowFits, obFits, T.ren, renL]) (by simp [tmFits, T.ren])
      · rw [hfl] at hg h3
        have hf := flag_ok true
        simp only [flagI, flagN, Bool.false_eq_true, if_false, if_true] at h3 hf
        have hC1 := cx [.own 1] (h1)
        have hC2 := cx [.own 1] (h2)
        have hC3 := cx [.own 1] (h3)
        have hC4 := cx [] (hf)
        have fy := And.intro hg (And.intro hwi (hltI))
        have hD1 := dx 9 [4, 3] [(5, 0)]
        have hD2 := dx 14 [4, 3, 3, 1] [(5, 0), (8, 0), (8, 1)]
        refine goR ?_ ?_ ?_ ?_ ?_ ?_ ?_ ?_ ?_ ?_ ?_ ?_ ?_ ?_ ?_ ?_
        any_goals (first | exact True.intro | skip)
        all_goals (repeat (refine Wh.mk fun hcc => ?_))
        refine ⟨N - 1, (i + 1, D3), by omega, ⟨by simp only; omega, by simp only; omega, hnx⟩, ?_⟩
        exact Norm.re [0, 1, 7] (by decide) rfl (by first | (simp only [eq_self, heapFits, rowFits, obFits, List.getElem?_cons_zero, List.getElem?_cons_succ, renL_o, renL_b, true_and, and_true, and_self]; done) | simp [-List.map_append, heapFits, rowFits, obFits, T.ren, renL]) (by simp [tmFits, T.ren])
    · have hge : i = x.2.2.2.2.2.2.2.2.1.length := by
        have : ¬ i < x.2.2.2.2.2.2.2.2.1.length := by simp at hc; omega
        omega
      subst hge
      rw [List.take_length] at hac
      rw [← hac]
      have fy := Nat.add_zero
      have hD1 := dx 9 [4, 3] [(5, 0)]
      have hD2 := dx 14 [4, 3, 3, 1] [(5, 0), (8, 0), (8, 1)]
      refine goR ?_ ?_ ?_ ?_ ?_ ?_ ?_ ?_ ?_ ?_ ?_ ?_ ?_ ?_ ?_ ?_
      any_goals (first | exact True.intro | skip)
      all_goals (repeat (refine Wh.mk fun hcc => ?_))
      all_goals exact SW.ret (show RetQ _ _ _ _ _ _ _ from RetQ.y [1] [.ow 1 (ac2.map Enc.o)])
end Q6

namespace Q6
open Go Go.Vm Go.Proofs
set_option maxHeartbeats 4000000
set_option synthInstance.maxSize 2000
set_option synthInstance.maxHeartbeats 400000
set_option maxRecDepth 10000
set_option linter.unusedSimpArgs false
set_option linter.unusedVariables false

open Go.By

theorem slotI_le (l : List UInt8) (s : RS) (ha : s.1 ≤ l.length) : (slotI l s).2.1 ≤ l.length := by
  have h1 := manyR_le l l.length s ha
  have h2 := manyR_rng l l.length (Int.natCast_nonneg _) s
  unfold slotI
  simp only
  split
  · exact h1
  · split
    · exact h1
    · split
      · simp only; omega
      · exact h1
theorem slotS_le (l : List UInt8) (s : RS) (ha : s.1 ≤ l.length) : (slotS l s).2.1 ≤ l.length := by
  have h1 := oneR_le l s ha
  unfold slotS
  simp only
  split
  · exact h1
  · split
    · exact h1
    · rename_i h3
      simp only [Bool.or_eq_true, decide_eq_true_eq, not_or] at h3
      simp only; omega
def liveI (l : List UInt8) (s : RS) : LiveT × RS :=
  ((oneR l s).1, (oneR l (oneR l s).2).1, decide ((manyR l 1 (oneR l (oneR l s).2).2).1 = 1), ()) |> fun x => (x, (manyR l 1 (oneR l (oneR l s).2).2).2)
def livesI (l : List UInt8) : Nat → RS → List LiveT × RS
  | 0, s => ([], s)
  | n + 1, s => ((liveI l s).1 :: (livesI l n (liveI l s).2).1, (livesI l n (liveI l s).2).2)
theorem liveI_le (l : List UInt8) (s : RS) (ha : s.1 ≤ l.length) : (liveI l s).2.1 ≤ l.length := manyR_le l 1 _ (oneR_le l _ (oneR_le l s ha))
theorem livesI_le (l : List UInt8) : ∀ (n : Nat) (s : RS), s.1 ≤ l.length → (livesI l n s).2.1 ≤ l.length
  | 0, s, h => h
  | n + 1, s, h => livesI_le l n _ (liveI_le l s h)
theorem livesI_len (l : List UInt8) : ∀ (n : Nat) (s : RS), (livesI l n s).1.length = n
  | 0, s => rfl
  | n + 1, s => by simp [livesI, livesI_len l n]
def rec0 : RecT := (0, 0, 0, 0, 0, slot0', slot0', 0, [], ())
def recEnd (x : RecT) (b : Bool) : RecT × Bool := if b = true then (x, true) else (rec0, false)
def grecK (l : List UInt8) (x : List LiveT → RecT) (t : List LiveT × RS) : RecT × Bool := recEnd (x t.1) ((!t.2.2 && decide (t.2.1 = l.length)) && recB (x t.1))
def grecI (l : List UInt8) : RecT × Bool :=
  let a1 := oneR l (0, false); let a2 := oneR l a1.2; let a3 := oneR l a2.2; let a4 := oneR l a3.2; let a5 := oneR l a4.2; let a6 := oneR l a5.2
  let s1 := slotI l a6.2; let s2 := slotI l s1.2; let m := manyR l 20 s2.2; let t := livesI l m.1.toNat m.2
  grecK l (fun t => (a1.1, a2.1, a3.1, a4.1, a5.1, s1.1, s2.1, a6.1, t, ())) t
theorem gob_len5 (l : List UInt8) : (gobI l).1.2.1.length ≤ 5 ∧ (gobI l).1.2.2.1.length ≤ 5 := gob_len l
theorem slotI_lim (l : List UInt8) (s : RS) : (slotI l s).1.2.1.2.1.length ≤ 5 ∧ (slotI l s).1.2.1.2.2.1.length ≤ 5 := by
  unfold slotI slot0'
  simp only
  split
  · exact ⟨Nat.zero_le _, Nat.zero_le _⟩
  · split
    · exact ⟨Nat.zero_le _, Nat.zero_le _⟩
    · split
      · exact gob_len _
      · exact ⟨Nat.zero_le _, Nat.zero_le _⟩

theorem bs1_39' : True := trivial
theorem grecI_ok (l : List UInt8) (hl : l.length ≤ 1048576) : CallR Try.prog 25 [.sl .b (l.map Enc.b)] [] (.tup [.nd [.int .i64 (((grecI l).1).1), .int .i64 (((grecI l).1).2.1), .int .i64 (((grecI l).1).2.2.1), .int .i64 (((grecI l).1).2.2.2.1), .int .i64 (((grecI l).1).2.2.2.2.1), .nd [.bool ((((grecI l).1).2.2.2.2.2.1).1), .nd [.int .i64 (((((grecI l).1).2.2.2.2.2.1).2.1).1), .ow 1 ((((((grecI l).1).2.2.2.2.2.1).2.1).2.1).map Enc.o), .ow 1 ((((((grecI l).1).2.2.2.2.2.1).2.1).2.2.1).map Enc.o)]], .nd [.bool ((((grecI l).1).2.2.2.2.2.2.1).1), .nd [.int .i64 (((((grecI l).1).2.2.2.2.2.2.1).2.1).1), .ow 1 ((((((grecI l).1).2.2.2.2.2.2.1).2.1).2.1).map Enc.o), .ow 1 ((((((grecI l).1).2.2.2.2.2.2.1).2.1).2.2.1).map Enc.o)]], .int .i64 (((grecI l).1).2.2.2.2.2.2.2.1), .ow 3 ((((grecI l).1).2.2.2.2.2.2.2.2.1).map Enc.o)], .bool (grecI l).2]) := by
  refine CallR.of_body (n := 65) (rs := [.cell 2 41, .tmp 3]) hY.ok Try.func25 rfl (by decide) rfl rfl rfl rfl (fun F => ?_)
  have fx := And.intro Y1 (And.intro Y2 (And.intro Y3 (And.intro Y4 (And.intro Y5 (And.intro Y6 (And.intro Y7 (And.intro Y8 (And.intro Y24 (And.intro Y34 (And.intro Y36 (And.intro Y38 (And.intro Y39 (And.intro Y41 (And.intro Y91 (And.intro Y97 (Y99))))))))))))))))
  have h1 : CallR Try.prog 85 [.io (.nd [.sl (.r 0) (l.map Enc.b), .int .i64 0, .bool false])] [.nd [.sl (.r 0) (l.map Enc.b), .int .i64 ((oneR l (0, false)).2.1 : Nat), .bool (oneR l (0, false)).2.2]] (.int .i64 (oneR l (0, false)).1) := one_b l (0, false) hl (Nat.zero_le _)
  have e1 := oneR_le l (0, false) (Nat.zero_le _)
  unfold grecI
  simp only
  generalize oneR l (0, false) = a1 at *
  have h2 := one_b l a1.2 hl e1
  have e2 := oneR_le l a1.2 e1
  generalize oneR l a1.2 = a2 at *
  have h3 := one_b l a2.2 hl e2
  have e3 := oneR_le l a2.2 e2
  generalize oneR l a2.2 = a3 at *
  have h4 := one_b l a3.2 hl e3
  have e4 := oneR_le l a3.2 e3
  generalize oneR l a3.2 = a4 at *
  have h5 := one_b l a4.2 hl e4
  have e5 := oneR_le l a4.2 e4
  generalize oneR l a4.2 = a5 at *
  have h6 := one_b l a5.2 hl e5
  have e6 := oneR_le l a5.2 e5
  generalize oneR l a5.2 = a6 at *
  have h7 := implSlot_b l a6.2 hl e6
  have e7 := slotI_le l a6.2 e6
  have l7 := slotI_lim l a6.2
  generalize slotI l a6.2 = s1 at *
  have h8 := implSlot_b l s1.2 hl e7
  have e8 := slotI_le l s1.2 e7
  have l8 := slotI_lim l s1.2
  generalize slotI l s1.2 = s2 at *
  have h9 := many_b l s2.2 20 hl e8
  have e9 := manyR_le l 20 s2.2 e8
  have r9 := manyR_rng l 20 (by decide) s2.2
  generalize manyR l 20 s2.2 = m at *
  obtain ⟨mv, ms⟩ := m
  obtain ⟨N0, hN0⟩ : ∃ N0 : Nat, mv = (N0 : Int) := ⟨mv.toNat, by have := r9.1; simp only at this; omega⟩
  subst hN0
  simp only [Int.toNat_natCast] at h9 e9 r9 ⊢
  have hN20 : N0 ≤ 20 := by have := r9.2; omega
  generalize hT0 : livesI l N0 ms = T0
  have hC1 := cx [.io] (h1)
  have hC2 := cx [.io] (h2)
  have hC3 := cx [.io] (h3)
  have hC4 := cx [.io] (h4)
  have hC5 := cx [.io] (h5)
  have hC6 := cx [.io] (h6)
  have hC7 := cx [.io] (h7)
  have hC8 := cx [.io] (h8)
  have hC9 := cx [.io] (h9)
  have fy := Nat.add_zero
  refine goN ?_ ?_ ?_ ?_ ?_ ?_ ?_ ?_ ?_ ?_ ?_ ?_ ?_ ?_ ?_ ?_
  any_goals (first | exact True.intro | skip)
  skip
  refine SW.loop (fun x : Nat × List LiveT × RS => ⟨[.undef, .undef, .ptr 1 0 [] 0, .undef, .ptr 2 0 [] 0, .ptr 3 0 [] 0, .undef, .undef, .undef, .undef, .undef, .undef, .undef, .undef, .undef, .undef, .undef, .undef, .undef, .undef, .undef, .undef, .undef, .undef, .undef, .undef, .undef, .undef, .undef, .undef, .undef, .undef, .undef, .undef, .undef, .int .i64 (N0 : Nat), .int .i64 (x.1 : Nat), .undef, .undef, .undef, .undef, .undef, .undef, .undef, .undef, .undef, .undef, .undef, .undef, .undef, .undef, .undef, .undef, .undef, .undef, .undef, .undef, .undef, .undef, .undef, .undef, .undef, .undef, .undef, .undef], [[], [.var (.nd [.int .i64 0, .int .i64 0, .int .i64 0, .int .i64 0, .int .i64 0, .nd [.bool false, .nd [.int .i64 0, .nils 1, .nils 1]], .nd [.bool false, .nd [.int .i64 0, .nils 1, .nils 1]], .int .i64 0, .nils 3])], [.var (.nd [.sl .b (l.map Enc.b), .int .i64 (x.2.2.1 : Nat), .bool x.2.2.2])], [.var (.nd [.int .i64 a1.1, .int .i64 a2.1, .int .i64 a3.1, .int .i64 a4.1, .int .i64 a5.1, .nd [.bool s1.1.1, .nd [.int .i64 s1.1.2.1.1, .ref 4 0 0 s1.1.2.1.2.1.length, .ref 4 1 0 s1.1.2.1.2.2.1.length]], .nd [.bool s2.1.1, .nd [.int .i64 s2.1.2.1.1, .ref 5 0 0 s2.1.2.1.2.1.length, .ref 5 1 0 s2.1.2.1.2.2.1.length]], .int .i64 a6.1, .ref 6 0 0 x.2.1.length])], [.arr 1 (s1.1.2.1.2.1.map Enc.o) false, .arr 1 (s1.1.2.1.2.2.1.map Enc.o) false], [.arr 1 (s2.1.2.1.2.1.map Enc.o) false, .arr 1 (s2.1.2.1.2.2.1.map Enc.o) false], [.arr 3 (x.2.1.map Enc.o) false]]⟩)
    (fun N x => N = N0 - x.1 ∧ x.1 ≤ N0 ∧ x.2.1.length = x.1 ∧ x.2.1 ++ (livesI l (N0 - x.1) x.2.2).1 = T0.1 ∧ (livesI l (N0 - x.1) x.2.2).2 = T0.2 ∧ x.2.2.1 ≤ l.length) (n := N0) (x := (0, [], ms)) ?_ ⟨rfl, Nat.zero_le _, rfl, by simp [hT0], by simp [hT0], e9⟩ ?_
  · refine Norm.trans (Norm.forget (u := .nd [.int .i64 a1.1, .int .i64 a2.1, .int .i64 a3.1, .int .i64 a4.1, .int .i64 a5.1, .nd [.bool s1.1.1, .nd [.int .i64 s1.1.2.1.1, .ref 10 0 0 s1.1.2.1.2.1.length, .ref 10 1 0 s1.1.2.1.2.2.1.length]], .nd [.bool s2.1.1, .nd [.int .i64 s2.1.2.1.1, .ref 11 0 0 s2.1.2.1.2.1.length, .ref 11 1 0 s2.1.2.1.2.2.1.length]], .int .i64 a6.1, .ow 3 []]) 4 0 rfl (.inr ⟨_, rfl, ⟨_, _, rfl, rfl, ⟨_, _, rfl, rfl, ⟨_, _, rfl, rfl, ⟨_, _, rfl, rfl, ⟨_, _, rfl, rfl, ⟨_, _, rfl, .inl rfl, ⟨_, _, rfl, .inl rfl, ⟨_, _, rfl, rfl, ⟨_, _, rfl, .inr (.inr rfl), rfl⟩⟩⟩⟩⟩⟩⟩⟩⟩⟩)) ?_
    simp only [Heap.put, List.getElem?_cons_zero, List.getElem?_cons_succ, List.set_cons_succ, List.set_cons_zero]
    refine Norm.trans (Norm.expelVar 4 0 rfl) ?_
    simp only [Heap.put, List.getElem?_cons_zero, List.getElem?_cons_succ, List.set_cons_succ, List.set_cons_zero, thawA, thawAL, List.length_cons, List.length_nil, Nat.reduceAdd, List.nil_append, List.append_nil, List.cons_append, Nat.zero_add]
    exact Norm.re [0, 1, 2, 4, 10, 11, 13] (by decide) rfl (by first | (simp only [eq_self, heapFits, rowFits, obFits, List.getElem?_cons_zero, List.getElem?_cons_succ, renL_o, renL_b, true_and, and_true, and_self]; done) | simp [-List.map_append, heapFits, rowFits, obFits, T.ren, renL]) (by simp [tmFits, T.ren])
  rintro N ⟨i, acc, s⟩ ⟨hN, hi, hal, hac, hs1, hle⟩
  simp only at hN hi hal hac hs1 hle ⊢
  have fy := Nat.add_zero
  refine goS ?_
  refine SW.cond rfl (fun hc => ?_) (fun hc => ?_)
  · have hlt : i < N0 := by simp at hc; omega
    have hsp : N0 - i = (N0 - (i + 1)) + 1 := by omega
    rw [hsp, livesI] at hac hs1
    have hwi : IntKind.i64.wrap ((i : Int) + 1) = ((i + 1 : Nat) : Int) := by rw [wrap64 _ (by omega) (by omega)]; omega
    have g1 := one_b l s hl hle
    have q1 := oneR_le l s hle
    have hlv : liveI l s = (((oneR l s).1, (oneR l (oneR l s).2).1, decide ((manyR l 1 (oneR l (oneR l s).2).2).1 = 1), ()), (manyR l 1 (oneR l (oneR l s).2).2).2) := rfl
    rw [hlv] at hac hs1
    generalize oneR l s = b1 at *
    have g2 := one_b l b1.2 hl q1
    have q2 := oneR_le l b1.2 q1
    generalize oneR l b1.2 = b2 at *
    have g3 := many_b l b2.2 1 hl q2
    have q3 := manyR_le l 1 b2.2 q2
    generalize manyR l 1 b2.2 = b3 at *
    have he1 : (b3.1 == 1) = decide (b3.1 = 1) := rfl
    generalize hdd : decide (b3.1 = 1) = dd at *
    have hap := fun (own e j e2 j2 : Nat) (H : Heap) (q1 : H.at e j = some (.arr 3 ((acc).map Enc.o) false)) (q2 : H.at e2 j2 = some (.arr 3 [.nd [.int .i64 (((((b1.1, b2.1, dd, ()) : LiveT))).1), .int .i64 (((((b1.1, b2.1, dd, ()) : LiveT))).2.1), .bool (((((b1.1, b2.1, dd, ()) : LiveT))).2.2.1)]] false)) => append_runP (Y := Y) (own := own) (t := 39) (u := 39) (e := e) (j := j) (off := 0) (n := (acc).length) (e2 := e2) (j2 := j2) (f := (acc).map Enc.o) (l := acc) (x := ((b1.1, b2.1, dd, ()) : LiveT)) (H := H) Y39 Y39 Y91 rfl (by decide) q1 q2 (by rw [List.drop_zero]; exact take_map_len _ _) (by simp) (by omega) rfl rfl
    have hC1 := cx [.io] (g1)
    have hC2 := cx [.io] (g2)
    have hC3 := cx [.io] (g3)
    have fy := And.intro hwi (And.intro he1 (And.intro hap (bs1_39)))
    refine goN ?_ ?_ ?_ ?_ ?_ ?_ ?_ ?_ ?_ ?_ ?_ ?_ ?_ ?_ ?_ ?_
    any_goals (first | exact True.intro | skip)
    skip
    refine ⟨N - 1, (i + 1, acc ++ [(b1.1, b2.1, dd, ())], b3.2), by omega, ⟨by simp only; omega, by simp only; omega, by simp [hal], by simp only; rw [← hac]; simp, hs1, q3⟩, ?_⟩
    exact Norm.re [0, 1, 2, 3, 4, 5, 12] (by decide) rfl (by first | (simp only [eq_self, heapFits, rowFits, obFits, List.getElem?_cons_zero, List.getElem?_cons_succ, renL_o, renL_b, true_and, and_true, and_self]; done) | simp [-List.map_append, heapFits, rowFits, obFits, T.ren, renL]) (by simp [tmFits, T.ren])
  · have hge : i = N0 := by
      have : ¬ i < N0 := by simp at hc; omega
      omega
    subst hge
    rw [Nat.sub_self] at hac hs1
    simp only [livesI, List.append_nil] at hac hs1
    subst hs1
    have hD := done_ok l T0.2
    have hlim : Enc.lim 1048576 ((a1.1, a2.1, a3.1, a4.1, a5.1, s1.1, s2.1, a6.1, acc, ()) : RecT) := ⟨trivial, trivial, trivial, trivial, trivial, ⟨trivial, ⟨trivial, ⟨by simp only; omega, fun _ _ => trivial⟩, ⟨by simp only; omega, fun _ _ => trivial⟩, trivial⟩, trivial⟩, ⟨trivial, ⟨trivial, ⟨by simp only; omega, fun _ _ => trivial⟩, ⟨by simp only; omega, fun _ _ => trivial⟩, trivial⟩, trivial⟩, trivial, ⟨by simp only; omega, fun _ _ => ⟨trivial, trivial, trivial, trivial⟩⟩, trivial⟩
    have hR := implRecOk_ok (a1.1, a2.1, a3.1, a4.1, a5.1, s1.1, s2.1, a6.1, acc, ()) hlim
    unfold grecK
    rw [← hac]
    simp only at hR ⊢
    generalize recB (a1.1, a2.1, a3.1, a4.1, a5.1, s1.1, s2.1, a6.1, acc, ()) = rb at *
    generalize (!T0.2.2 && decide (T0.2.1 = l.length)) = d at *
    unfold recEnd rec0 slot0'
    cases d <;> cases rb
    · simp only [Bool.and_self, Bool.false_and, Bool.and_false, Bool.false_eq_true, if_false, if_true, List.map_nil]
      have hC1 := cx [] (hD)
      have hC2 := cx [] (hR)
      have fy := Nat.add_zero
      refine goR ?_ ?_ ?_ ?_ ?_ ?_ ?_ ?_ ?_ ?_ ?_ ?_ ?_ ?_ ?_ ?_
      any_goals (first | exact True.intro | skip)
      all_goals (repeat (refine Wh.mk fun hcc => ?_))
      all_goals exact SW.ret (show RetQ _ _ _ _ _ _ _ from RetQ.y [0, 0] [.nd [.int .i64 0, .int .i64 0, .int .i64 0, .int .i64 0, .int .i64 0, .nd [.bool false, .nd [.int .i64 0, .ow 1 [], .ow 1 []]], .nd [.bool false, .nd [.int .i64 0, .ow 1 [], .ow 1 []]], .int .i64 0, .ow 3 []], .bool false])
    · simp only [Bool.and_self, Bool.false_and, Bool.and_false, Bool.false_eq_true, if_false, if_true, List.map_nil]
      have hC1 := cx [] (hD)
      have hC2 := cx [] (hR)
      have fy := Nat.add_zero
      refine goR ?_ ?_ ?_ ?_ ?_ ?_ ?_ ?_ ?_ ?_ ?_ ?_ ?_ ?_ ?_ ?_
      any_goals (first | exact True.intro | skip)
      all_goals (repeat (refine Wh.mk fun hcc => ?_))
      all_goals exact SW.ret (show RetQ _ _ _ _ _ _ _ from RetQ.y [0, 0] [.nd [.int .i64 0, .int .i64 0, .int .i64 0, .int .i64 0, .int .i64 0, .nd [.bool false, .nd [.int .i64 0, .ow 1 [], .ow 1 []]], .nd [.bool false, .nd [.int .i64 0, .ow 1 [], .ow 1 []]], .int .i64 0, .ow 3 []], .bool false])
    · simp only [Bool.and_self, Bool.false_and, Bool.and_false, Bool.false_eq_true, if_false, if_true, List.map_nil]
      have hC1 := cx [] (hD)
      have hC2 := cx [] (hR)
      have fy := Nat.add_zero
      refine goR ?_ ?_ ?_ ?_ ?_ ?_ ?_ ?_ ?_ ?_ ?_ ?_ ?_ ?_ ?_ ?_
      any_goals (first | exact True.intro | skip)
      all_goals (repeat (refine Wh.mk fun hcc => ?_))
      all_goals exact SW.ret (show RetQ _ _ _ _ _ _ _ from RetQ.y [0, 0] [.nd [.int .i64 0, .int .i64 0, .int .i64 0, .int .i64 0, .int .i64 0, .nd [.bool false, .nd [.int .i64 0, .ow 1 [], .ow 1 []]], .nd [.bool false, .nd [.int .i64 0, .ow 1 [], .ow 1 []]], .int .i64 0, .ow 3 []], .bool false])
    · simp only [Bool.and_self, Bool.false_and, Bool.and_false, Bool.false_eq_true, if_false, if_true, List.map_nil]
      have hC1 := cx [] (hD)
      have hC2 := cx [] (hR)
      have fy := Nat.add_zero
      refine goR ?_ ?_ ?_ ?_ ?_ ?_ ?_ ?_ ?_ ?_ ?_ ?_ ?_ ?_ ?_ ?_
      any_goals (first | exact True.intro | skip)
      all_goals (repeat (refine Wh.mk fun hcc => ?_))
      all_goals exact SW.ret (show RetQ _ _ _ _ _ _ _ from RetQ.y [0, 0] [.nd [.int .i64 a1.1, .int .i64 a2.1, .int .i64 a3.1, .int .i64 a4.1, .int .i64 a5.1, .nd [.bool s1.1.1, .nd [.int .i64 s1.1.2.1.1, .ow 1 (s1.1.2.1.2.1.map Enc.o), .ow 1 (s1.1.2.1.2.2.1.map Enc.o)]], .nd [.bool s2.1.1, .nd [.int .i64 s2.1.2.1.1, .ow 1 (s2.1.2.1.2.1.map Enc.o), .ow 1 (s2.1.2.1.2.2.1.map Enc.o)]], .int .i64 a6.1, .ow 3 (acc.map Enc.o)], .bool true])
end Q6

namespace Q6
open Go Go.Vm Go.Proofs
set_option maxHeartbeats 4000000
set_option synthInstance.maxSize 2000
set_option synthInstance.maxHeartbeats 400000
set_option maxRecDepth 10000
set_option linter.unusedSimpArgs false
set_option linter.unusedVariables false

open Go.By

def liveS (l : List UInt8) (s : RS) : LiveT × RS :=
  (((oneR l s).1, (oneR l (oneR l s).2).1, decide ((oneR l (oneR l (oneR l s).2).2).1 = 1), ()), (oneR l (oneR l (oneR l s).2).2).2)
def livesS (l : List UInt8) : Nat → RS → List LiveT × RS
  | 0, s => ([], s)
  | n + 1, s => if s.2 = true then ([], s) else ((liveS l s).1 :: (livesS l n (liveS l s).2).1, (livesS l n (liveS l s).2).2)
theorem liveS_le (l : List UInt8) (s : RS) (ha : s.1 ≤ l.length) : (liveS l s).2.1 ≤ l.length := oneR_le l _ (oneR_le l _ (oneR_le l s ha))
theorem livesS_bad (l : List UInt8) (n : Nat) (s : RS) (h : s.2 = true) : livesS l n s = ([], s) := by
  cases n with
  | zero => rfl
  | succ n => unfold livesS; rw [if_pos h]
def grecKS (l : List UInt8) (x : List LiveT → RecT) (t : List LiveT × RS) : RecT × Bool := recEnd (x t.1) (!t.2.2 && (recB (x t.1) && decide (putRec (x t.1) = l)))
def grecS (l : List UInt8) : RecT × Bool :=
  let a1 := oneR l (0, false); let a2 := oneR l a1.2; let a3 := oneR l a2.2; let a4 := oneR l a3.2; let a5 := oneR l a4.2; let a6 := oneR l a5.2
  let s1 := slotS l a6.2; let s2 := slotS l s1.2; let m := oneR l s2.2; let t := livesS l (min m.1.toNat 30) m.2
  grecKS l (fun t => (a1.1, a2.1, a3.1, a4.1, a5.1, s1.1, s2.1, a6.1, t, ())) t
theorem putRec_len {x : RecT} (h : recB x = true) : (putRec x).length ≤ 1048576 := by
  have ht := recB_txs h
  obtain ⟨hs1, hs2⟩ := recB_slots h
  have h1 := putSl_len hs1
  have h2 := putSl_len hs2
  have h3 := putF_len (recNs x)
  have h4 : (recNs x).length = 6 := rfl
  have h5 := putLvs_len x.2.2.2.2.2.2.2.2.1
  have h6 := putI_len x.2.2.2.2.2.2.2.2.1.length
  unfold putRec; simp only [List.length_append]; omega
theorem slotS_lim (l : List UInt8) (s : RS) : (slotS l s).1.2.1.2.1.length ≤ 5 ∧ (slotS l s).1.2.1.2.2.1.length ≤ 5 := by
  unfold slotS slot0'
  simp only
  split
  · exact ⟨Nat.zero_le _, Nat.zero_le _⟩
  · split
    · exact ⟨Nat.zero_le _, Nat.zero_le _⟩
    · simp only
      rw [← gob_eq]; exact gob_len _

theorem grecS_ok (l : List UInt8) (hl : l.length ≤ 1048576) : CallR Try.prog 42 [.sl .b (l.map Enc.b)] [] (.tup [.nd [.int .i64 (((grecS l).1).1), .int .i64 (((grecS l).1).2.1), .int .i64 (((grecS l).1).2.2.1), .int .i64 (((grecS l).1).2.2.2.1), .int .i64 (((grecS l).1).2.2.2.2.1), .nd [.bool ((((grecS l).1).2.2.2.2.2.1).1), .nd [.int .i64 (((((grecS l).1).2.2.2.2.2.1).2.1).1), .ow 1 ((((((grecS l).1).2.2.2.2.2.1).2.1).2.1).map Enc.o), .ow 1 ((((((grecS l).1).2.2.2.2.2.1).2.1).2.2.1).map Enc.o)]], .nd [.bool ((((grecS l).1).2.2.2.2.2.2.1).1), .nd [.int .i64 (((((grecS l).1).2.2.2.2.2.2.1).2.1).1), .ow 1 ((((((grecS l).1).2.2.2.2.2.2.1).2.1).2.1).map Enc.o), .ow 1 ((((((grecS l).1).2.2.2.2.2.2.1).2.1).2.2.1).map Enc.o)]], .int .i64 (((grecS l).1).2.2.2.2.2.2.2.1), .ow 3 ((((grecS l).1).2.2.2.2.2.2.2.2.1).map Enc.o)], .bool (grecS l).2]) := by
  refine CallR.of_body (n := 90) (rs := [.cell 2 41, .tmp 3]) hY.ok Try.func42 rfl (by decide) rfl rfl rfl rfl (fun F => ?_)
  have fx := And.intro Y1 (And.intro Y2 (And.intro Y3 (And.intro Y4 (And.intro Y5 (And.intro Y6 (And.intro Y7 (And.intro Y8 (And.intro Y24 (And.intro Y34 (And.intro Y36 (And.intro Y38 (And.intro Y39 (And.intro Y41 (And.intro Y91 (And.intro Y115 (Y117))))))))))))))))
  have h1 : CallR Try.prog 104 [.io (.nd [.sl (.r 0) (l.map Enc.b), .int .i64 0, .bool false])] [.nd [.sl (.r 0) (l.map Enc.b), .int .i64 ((oneR l (0, false)).2.1 : Nat), .bool (oneR l (0, false)).2.2]] (.int .i64 (oneR l (0, false)).1) := next_b l (0, false) hl (Nat.zero_le _)
  have e1 := oneR_le l (0, false) (Nat.zero_le _)
  unfold grecS
  simp only
  generalize oneR l (0, false) = a1 at *
  have h2 := next_b l a1.2 hl e1
  have e2 := oneR_le l a1.2 e1
  generalize oneR l a1.2 = a2 at *
  have h3 := next_b l a2.2 hl e2
  have e3 := oneR_le l a2.2 e2
  generalize oneR l a2.2 = a3 at *
  have h4 := next_b l a3.2 hl e3
  have e4 := oneR_le l a3.2 e3
  generalize oneR l a3.2 = a4 at *
  have h5 := next_b l a4.2 hl e4
  have e5 := oneR_le l a4.2 e4
  generalize oneR l a4.2 = a5 at *
  have h6 := next_b l a5.2 hl e5
  have e6 := oneR_le l a5.2 e5
  generalize oneR l a5.2 = a6 at *
  have h7 := specSlot_b l a6.2 hl e6
  have e7 := slotS_le l a6.2 e6
  have l7 := slotS_lim l a6.2
  generalize slotS l a6.2 = s1 at *
  have h8 := specSlot_b l s1.2 hl e7
  have e8 := slotS_le l s1.2 e7
  have l8 := slotS_lim l s1.2
  generalize slotS l s1.2 = s2 at *
  have h9 := next_b l s2.2 hl e8
  have e9 := oneR_le l s2.2 e8
  generalize oneR l s2.2 = m at *
  obtain ⟨mv, ms⟩ := m
  simp only at h9 e9 ⊢
  obtain ⟨N0, hN0⟩ : ∃ N0, min mv.toNat 30 = N0 := ⟨_, rfl⟩
  rw [hN0]
  generalize hT0 : livesS l N0 ms = T0
  have hC1 := cx [.io] (h1)
  have hC2 := cx [.io] (h2)
  have hC3 := cx [.io] (h3)
  have hC4 := cx [.io] (h4)
  have hC5 := cx [.io] (h5)
  have hC6 := cx [.io] (h6)
  have hC7 := cx [.io] (h7)
  have hC8 := cx [.io] (h8)
  have hC9 := cx [.io] (h9)
  have fy := Nat.add_zero
  refine goN ?_ ?_ ?_ ?_ ?_ ?_ ?_ ?_ ?_ ?_ ?_ ?_ ?_ ?_ ?_ ?_
  any_goals (first | exact True.intro | skip)
  skip
  refine SW.loop (fun x : Nat × List LiveT × RS => ⟨[.sl .b (l.map Enc.b), .undef, .ptr 1 0 [] 0, .undef, .ptr 2 0 [] 0, .ptr 3 0 [] 0, .int .i64 mv, .int .i64 (x.1 : Nat), .undef, .undef, .undef, .undef, .undef, .undef, .undef, .undef, .undef, .undef, .undef, .undef, .undef, .undef, .undef, .undef, .undef, .undef, .undef, .undef, .undef, .undef, .undef, .undef, .undef, .undef, .undef, .undef, .undef, .undef, .undef, .undef, .undef, .undef, .undef, .undef, .undef, .undef, .undef, .undef, .undef, .undef, .undef, .undef, .undef, .undef, .undef, .undef, .undef, .undef, .undef, .undef, .undef, .undef, .undef, .undef, .undef, .undef, .undef, .undef, .undef, .undef, .undef, .undef, .undef, .undef, .undef, .undef, .undef, .undef, .undef, .undef, .undef, .undef, .undef, .undef, .undef, .undef, .undef, .undef, .undef, .undef], [[], [.var (.nd [.int .i64 0, .int .i64 0, .int .i64 0, .int .i64 0, .int .i64 0, .nd [.bool false, .nd [.int .i64 0, .nils 1, .nils 1]], .nd [.bool false, .nd [.int .i64 0, .nils 1, .nils 1]], .int .i64 0, .nils 3])], [.var (.nd [.sl .b (l.map Enc.b), .int .i64 (x.2.2.1 : Nat), .bool x.2.2.2])], [.var (.nd [.int .i64 a1.1, .int .i64 a2.1, .int .i64 a3.1, .int .i64 a4.1, .int .i64 a5.1, .nd [.bool s1.1.1, .nd [.int .i64 s1.1.2.1.1, .ref 4 0 0 s1.1.2.1.2.1.length, .ref 4 1 0 s1.1.2.1.2.2.1.length]], .nd [.bool s2.1.1, .nd [.int .i64 s2.1.2.1.1, .ref 5 0 0 s2.1.2.1.2.1.length, .ref 5 1 0 s2.1.2.1.2.2.1.length]], .int .i64 a6.1, .ref 6 0 0 x.2.1.length])], [.arr 1 (s1.1.2.1.2.1.map Enc.o) false, .arr 1 (s1.1.2.1.2.2.1.map Enc.o) false], [.arr 1 (s2.1.2.1.2.1.map Enc.o) false, .arr 1 (s2.1.2.1.2.2.1.map Enc.o) false], [.arr 3 (x.2.1.map Enc.o) false]]⟩)
    (fun N x => N = N0 - x.1 ∧ x.1 ≤ N0 ∧ x.2.1.length = x.1 ∧ x.2.1 ++ (livesS l (N0 - x.1) x.2.2).1 = T0.1 ∧ (livesS l (N0 - x.1) x.2.2).2 = T0.2 ∧ x.2.2.1 ≤ l.length) (n := N0) (x := (0, [], ms)) ?_ ⟨rfl, Nat.zero_le _, rfl, by simp [hT0], by simp [hT0], e9⟩ ?_
  · refine Norm.trans (Norm.forget (u := .nd [.int .i64 a1.1, .int .i64 a2.1, .int .i64 a3.1, .int .i64 a4.1, .int .i64 a5.1, .nd [.bool s1.1.1, .nd [.int .i64 s1.1.2.1.1, .ref 10 0 0 s1.1.2.1.2.1.length, .ref 10 1 0 s1.1.2.1.2.2.1.length]], .nd [.bool s2.1.1, .nd [.int .i64 s2.1.2.1.1, .ref 11 0 0 s2.1.2.1.2.1.length, .ref 11 1 0 s2.1.2.1.2.2.1.length]], .int .i64 a6.1, .ow 3 []]) 3 0 rfl (.inr ⟨_, rfl, ⟨_, _, rfl, rfl, ⟨_, _, rfl, rfl, ⟨_, _, rfl, rfl, ⟨_, _, rfl, rfl, ⟨_, _, rfl, rfl, ⟨_, _, rfl, .inl rfl, ⟨_, _, rfl, .inl rfl, ⟨_, _, rfl, rfl, ⟨_, _, rfl, .inr (.inr rfl), rfl⟩⟩⟩⟩⟩⟩⟩⟩⟩⟩)) ?_
    simp only [Heap.put, List.getElem?_cons_zero, List.getElem?_cons_succ, List.set_cons_succ, List.set_cons_zero]
    refine Norm.trans (Norm.expelVar 3 0 rfl) ?_
    simp only [Heap.put, List.getElem?_cons_zero, List.getElem?_cons_succ, List.set_cons_succ, List.set_cons_zero, thawA, thawAL, List.length_cons, List.length_nil, Nat.reduceAdd, List.nil_append, List.append_nil, List.cons_append, Nat.zero_add]
    exact Norm.re [0, 1, 2, 3, 10, 11, 13] (by decide) rfl (by first | (simp only [eq_self, heapFits, rowFits, obFits, List.getElem?_cons_zero, List.getElem?_cons_succ, renL_o, renL_b, true_and, and_true, and_self]; done) | simp [-List.map_append, heapFits, rowFits, obFits, T.ren, renL]) (by simp [tmFits, T.ren])
  rintro N ⟨i, acc, s⟩ ⟨hN, hi, hal, hac, hs1, hle⟩
  simp only at hN hi hal hac hs1 hle ⊢
  obtain ⟨sa, sb⟩ := s
  simp only at hle hac hs1 ⊢
  have hN30 : N0 ≤ 30 := by omega
  have fy := Nat.add_zero
  refine goS ?_
  refine SW.cond rfl (fun hc => ?_) (fun hc => ?_)
  · simp only [Bool.and_eq_true, decide_eq_true_eq, Bool.not_eq_true'] at hc
    obtain ⟨⟨hc1, hc2⟩, hc3⟩ := hc
    subst hc3
    have hlt : i < N0 := by omega
    have hsp : N0 - i = (N0 - (i + 1)) + 1 := by omega
    rw [hsp, livesS, if_neg (by simp)] at hac hs1
    have hwi : IntKind.i64.wrap ((i : Int) + 1) = ((i + 1 : Nat) : Int) := by rw [wrap64 _ (by omega) (by omega)]; omega
    have g1 := next_b l (sa, false) hl hle
    have q1 := oneR_le l (sa, false) hle
    have hlv : liveS l (sa, false) = (((oneR l (sa, false)).1, (oneR l (oneR l (sa, false)).2).1, decide ((oneR l (oneR l (oneR l (sa, false)).2).2).1 = 1), ()), (oneR l (oneR l (oneR l (sa, false)).2).2).2) := rfl
    rw [hlv] at hac hs1
    generalize oneR l (sa, false) = b1 at *
    have g2 := next_b l b1.2 hl q1
    have q2 := oneR_le l b1.2 q1
    generalize oneR l b1.2 = b2 at *
    have g3 := next_b l b2.2 hl q2
    have q3 := oneR_le l b2.2 q2
    generalize oneR l b2.2 = b3 at *
    have he1 : (b3.1 == 1) = decide (b3.1 = 1) := rfl
    generalize hdd : decide (b3.1 = 1) = dd at *
    have hap := fun (own e j e2 j2 : Nat) (H : Heap) (q1 : H.at e j = some (.arr 3 ((acc).map Enc.o) false)) (q2 : H.at e2 j2 = some (.arr 3 [.nd [.int .i64 (((((b1.1, b2.1, dd, ()) : LiveT))).1), .int .i64 (((((b1.1, b2.1, dd, ()) : LiveT))).2.1), .bool (((((b1.1, b2.1, dd, ()) : LiveT))).2.2.1)]] false)) => append_runP (Y := Y) (own := own) (t := 39) (u := 39) (e := e) (j := j) (off := 0) (n := (acc).length) (e2 := e2) (j2 := j2) (f := (acc).map Enc.o) (l := acc) (x := ((b1.1, b2.1, dd, ()) : LiveT)) (H := H) Y39 Y39 Y91 rfl (by decide) q1 q2 (by rw [List.drop_zero]; exact take_map_len _ _) (by simp) (by omega) rfl rfl
    have hC1 := cx [.io] (g1)
    have hC2 := cx [.io] (g2)
    have hC3 := cx [.io] (g3)
    have fy := And.intro hwi (And.intro he1 (And.intro hap (bs1_39)))
    refine goN ?_ ?_ ?_ ?_ ?_ ?_ ?_ ?_ ?_ ?_ ?_ ?_ ?_ ?_ ?_ ?_
    any_goals (first | exact True.intro | skip)
    skip
    refine ⟨N - 1, (i + 1, acc ++ [(b1.1, b2.1, dd, ())], b3.2), by omega, ⟨by simp only; omega, by simp only; omega, by simp [hal], by simp only; rw [← hac]; simp, hs1, q3⟩, ?_⟩
    exact Norm.re [0, 1, 2, 3, 4, 5, 12] (by decide) rfl (by first | (simp only [eq_self, heapFits, rowFits, obFits, List.getElem?_cons_zero, List.getElem?_cons_succ, renL_o, renL_b, true_and, and_true, and_self]; done) | simp [-List.map_append, heapFits, rowFits, obFits, T.ren, renL]) (by simp [tmFits, T.ren])
  · have hend : livesS l (N0 - i) (sa, sb) = ([], (sa, sb)) := by
      cases sb with
      | true => exact livesS_bad l _ _ rfl
      | false =>
        have : N0 - i = 0 := by
          simp only [Bool.not_false, Bool.and_true, Bool.and_eq_false_iff, decide_eq_false_iff_not] at hc
          omega
        rw [this]; rfl
    rw [hend] at hac hs1
    simp only [List.append_nil] at hac hs1
    have hlim : Enc.lim 1048576 ((a1.1, a2.1, a3.1, a4.1, a5.1, s1.1, s2.1, a6.1, acc, ()) : RecT) := ⟨trivial, trivial, trivial, trivial, trivial, ⟨trivial, ⟨trivial, ⟨by simp only; omega, fun _ _ => trivial⟩, ⟨by simp only; omega, fun _ _ => trivial⟩, trivial⟩, trivial⟩, ⟨trivial, ⟨trivial, ⟨by simp only; omega, fun _ _ => trivial⟩, ⟨by simp only; omega, fun _ _ => trivial⟩, trivial⟩, trivial⟩, trivial, ⟨by simp only; omega, fun _ _ => ⟨trivial, trivial, trivial, trivial⟩⟩, trivial⟩
    have hR := specRecOk_ok (a1.1, a2.1, a3.1, a4.1, a5.1, s1.1, s2.1, a6.1, acc, ()) hlim
    have hPy := sPutRec_y (a1.1, a2.1, a3.1, a4.1, a5.1, s1.1, s2.1, a6.1, acc, ()) hlim
    have hpl : recB ((a1.1, a2.1, a3.1, a4.1, a5.1, s1.1, s2.1, a6.1, acc, ()) : RecT) = true → (putRec (a1.1, a2.1, a3.1, a4.1, a5.1, s1.1, s2.1, a6.1, acc, ())).length ≤ 1048576 := fun h => putRec_len h
    unfold grecKS
    rw [← hac, ← hs1]
    simp only at hR hPy ⊢
    generalize recB (a1.1, a2.1, a3.1, a4.1, a5.1, s1.1, s2.1, a6.1, acc, ()) = rb at *
    generalize putRec (a1.1, a2.1, a3.1, a4.1, a5.1, s1.1, s2.1, a6.1, acc, ()) = P at *
    unfold recEnd rec0 slot0'
    cases sb
    rotate_left
    · clear hPy
      simp only [Bool.and_self, Bool.false_and, Bool.and_false, Bool.true_and, Bool.not_true, Bool.not_false, Bool.false_eq_true, if_false, if_true, List.map_nil]
      have hC1 := cx [] (hR)
      have fy := Nat.add_zero
      refine goR ?_ ?_ ?_ ?_ ?_ ?_ ?_ ?_ ?_ ?_ ?_ ?_ ?_ ?_ ?_ ?_
      any_goals (first | exact True.intro | skip)
      all_goals (repeat (refine Wh.mk fun hcc => ?_))
      all_goals exact SW.ret (show RetQ _ _ _ _ _ _ _ from RetQ.y [0, 0] [.nd [.int .i64 0, .int .i64 0, .int .i64 0, .int .i64 0, .int .i64 0, .nd [.bool false, .nd [.int .i64 0, .ow 1 [], .ow 1 []]], .nd [.bool false, .nd [.int .i64 0, .ow 1 [], .ow 1 []]], .int .i64 0, .ow 3 []], .bool false])
    · cases rb
      · clear hPy
        simp only [Bool.and_self, Bool.false_and, Bool.and_false, Bool.true_and, Bool.not_true, Bool.not_false, Bool.false_eq_true, if_false, if_true, List.map_nil]
        have hC1 := cx [] (hR)
        have fy := Nat.add_zero
        refine goR ?_ ?_ ?_ ?_ ?_ ?_ ?_ ?_ ?_ ?_ ?_ ?_ ?_ ?_ ?_ ?_
        any_goals (first | exact True.intro | skip)
        all_goals (repeat (refine Wh.mk fun hcc => ?_))
        all_goals exact SW.ret (show RetQ _ _ _ _ _ _ _ from RetQ.y [0, 0] [.nd [.int .i64 0, .int .i64 0, .int .i64 0, .int .i64 0, .int .i64 0, .nd [.bool false, .nd [.int .i64 0, .ow 1 [], .ow 1 []]], .nd [.bool false, .nd [.int .i64 0, .ow 1 [], .ow 1 []]], .int .i64 0, .ow 3 []], .bool false])
      · have hP := hPy rfl
        have hpl2 := hpl rfl
        have hE := spec_l2Same_ok P l ⟨hpl2, fun _ _ => trivial⟩
        generalize decide (P = l) = e at *
        cases e
        · skip
          simp only [Bool.and_self, Bool.false_and, Bool.and_false, Bool.true_and, Bool.not_true, Bool.not_false, Bool.false_eq_true, if_false, if_true, List.map_nil]
          have hC1 := cx [] (hR)
          have hC2 := cx [] (hP)
          have hC3 := cx [] (hE)
          have fy := Nat.add_zero
          refine goR ?_ ?_ ?_ ?_ ?_ ?_ ?_ ?_ ?_ ?_ ?_ ?_ ?_ ?_ ?_ ?_
          any_goals (first | exact True.intro | skip)
          all_goals (repeat (refine Wh.mk fun hcc => ?_))
          all_goals exact SW.ret (show RetQ _ _ _ _ _ _ _ from RetQ.y [0, 0] [.nd [.int .i64 0, .int .i64 0, .int .i64 0, .int .i64 0, .int .i64 0, .nd [.bool false, .nd [.int .i64 0, .ow 1 [], .ow 1 []]], .nd [.bool false, .nd [.int .i64 0, .ow 1 [], .ow 1 []]], .int .i64 0, .ow 3 []], .bool false])
        · skip
          simp only [Bool.and_self, Bool.false_and, Bool.and_false, Bool.true_and, Bool.not_true, Bool.not_false, Bool.false_eq_true, if_false, if_true, List.map_nil]
          have hC1 := cx [] (hR)
          have hC2 := cx [] (hP)
          have hC3 := cx [] (hE)
          have fy := Nat.add_zero
          refine goR ?_ ?_ ?_ ?_ ?_ ?_ ?_ ?_ ?_ ?_ ?_ ?_ ?_ ?_ ?_ ?_
          any_goals (first | exact True.intro | skip)
          all_goals (repeat (refine Wh.mk fun hcc => ?_))
          all_goals exact SW.ret (show RetQ _ _ _ _ _ _ _ from RetQ.y [0, 0] [.nd [.int .i64 a1.1, .int .i64 a2.1, .int .i64 a3.1, .int .i64 a4.1, .int .i64 a5.1, .nd [.bool s1.1.1, .nd [.int .i64 s1.1.2.1.1, .ow 1 (s1.1.2.1.2.1.map Enc.o), .ow 1 (s1.1.2.1.2.2.1.map Enc.o)]], .nd [.bool s2.1.1, .nd [.int .i64 s2.1.2.1.1, .ow 1 (s2.1.2.1.2.1.map Enc.o), .ow 1 (s2.1.2.1.2.2.1.map Enc.o)]], .int .i64 a6.1, .ow 3 (acc.map Enc.o)], .bool true])
end Q6

namespace Q6
open Go Go.Vm Go.By
set_option linter.unusedSimpArgs false

/-! ### records: the plain law of reading -/
theorem gobI_true {l : List UInt8} (h : (gobI l).2 = true) : putObj (gobI l).1 = l ∧ objB (gobI l).1 = true := by
  rw [gob_eq] at h ⊢
  unfold gobS at h ⊢
  simp only at h ⊢
  split at h
  · rename_i hc
    rw [if_pos hc]
    simp only [Bool.and_eq_true, decide_eq_true_eq] at hc
    exact ⟨hc.2, hc.1.2⟩
  · cases h
theorem manyR_good {l : List UInt8} {most : Int} {s : RS} (h : (manyR l most s).2.2 = false) : manyR l most s = oneR l s ∧ 0 ≤ (oneR l s).1 ∧ (oneR l s).1 ≤ most := by
  unfold manyR at h ⊢
  split at h
  · rename_i hr; rw [if_pos hr]; exact ⟨rfl, hr⟩
  · cases h
theorem manyR_one {l : List UInt8} {most : Int} {s : RS} (h : 0 ≤ (oneR l s).1 ∧ (oneR l s).1 ≤ most) : manyR l most s = oneR l s := by unfold manyR; rw [if_pos h]
theorem slotI_good {l : List UInt8} {s : RS} (ha : s.1 ≤ l.length) (h : (slotI l s).2.2 = false) :
    s.2 = false ∧ slotS l s = slotI l s ∧ l.drop s.1 = putSl (slotI l s).1 ++ l.drop (slotI l s).2.1 := by
  have hg := @oneR_good l s ha
  have hle := oneR_le l s ha
  have hS : slotS l s = slotS l s := rfl
  conv at hS => rhs; unfold slotS
  simp only at hS
  unfold slotI at h ⊢
  simp only at h ⊢
  split at h
  · rename_i h1
    have hb : (manyR l l.length s).2.2 = false := h
    obtain ⟨e, h2, h3⟩ := manyR_good hb
    rw [if_pos h1]
    rw [e] at h1 hb ⊢
    obtain ⟨g1, g2, g3⟩ := hg hb
    have h0 : (oneR l s).1 = 0 := by rw [hb] at h1; simpa using h1
    refine ⟨g1, ?_, ?_⟩
    · rw [hS, if_pos h1]
    · rw [g3, h0]; rfl
  · rename_i h1
    split at h
    · cases h
    · rename_i h2
      split at h
      · rename_i h3
        have hb : (manyR l l.length s).2.2 = false := by
          cases hx : (manyR l l.length s).2.2 with
          | false => rfl
          | true => rw [hx] at h1; simp at h1
        obtain ⟨e, h4, h5⟩ := manyR_good hb
        rw [if_neg h1, if_neg h2, if_pos h3]
        rw [e] at h1 h2 h3 hb ⊢
        obtain ⟨g1, g2, g3⟩ := hg hb
        generalize oneR l s = a at *
        obtain ⟨n, at', bad⟩ := a
        simp only at *
        obtain ⟨N, rfl⟩ : ∃ N : Nat, n = (N : Int) := ⟨n.toNat, by omega⟩
        rw [Int.toNat_natCast] at h3 ⊢
        obtain ⟨k1, k2⟩ := gobI_true h3
        have hlen : ((l.drop at').take N).length = N := by rw [List.length_take, List.length_drop]; omega
        refine ⟨g1, ?_, ?_⟩
        · rw [hS, if_neg h1, if_neg (by simp only [Bool.or_eq_true, decide_eq_true_eq, not_or]; omega), Int.toNat_natCast, ← gob_eq, h3]; rfl
        · rw [g3]
          unfold putSl
          simp only [if_true]
          rw [k1, hlen, List.append_assoc]
          congr 1
          conv => lhs; rw [← List.take_append_drop N (l.drop at')]
          rw [List.drop_drop]
      · cases h
theorem slotI_bad {l : List UInt8} {s : RS} (h : s.2 = true) : (slotI l s).2.2 = true := by
  have hm : manyR l l.length s = (0, s.1, true) := by unfold manyR; rw [oneR_bad l s h]; simp
  unfold slotI; simp only; rw [hm]; simp
theorem slotS_bad {l : List UInt8} {s : RS} (h : s.2 = true) : (slotS l s).2.2 = true := by
  unfold slotS; simp only; rw [oneR_bad l s h]; simp
theorem slotS_good {l : List UInt8} {s : RS} (ha : s.1 ≤ l.length) (h : (slotS l s).2.2 = false) : slotI l s = slotS l s := by
  have hle := oneR_le l s ha
  have hI : slotI l s = slotI l s := rfl
  conv at hI => rhs; unfold slotI
  simp only at hI
  unfold slotS at h ⊢
  simp only at h ⊢
  split at h
  · rename_i h1
    have hb : (oneR l s).2.2 = false := h
    have h0 : (oneR l s).1 = 0 := by rw [hb] at h1; simpa using h1
    have e : manyR l l.length s = oneR l s := manyR_one ⟨by omega, by omega⟩
    rw [hI, e, if_pos h1, if_pos h1]
  · rename_i h1
    split at h
    · cases h
    · rename_i h2
      simp only [Bool.or_eq_true, decide_eq_true_eq, not_or] at h2
      have hgb : (gobS ((l.drop (oneR l s).2.1).take (oneR l s).1.toNat)).2 = true := by simpa using h
      have e : manyR l l.length s = oneR l s := manyR_one ⟨by omega, by omega⟩
      have h2' : ¬ (decide ((oneR l s).1 < 0) || decide ((oneR l s).1 > (l.length : Int) - ((oneR l s).2.1 : Nat))) = true := by
        simp only [Bool.or_eq_true, decide_eq_true_eq, not_or]; exact h2
      rw [hI, e, if_neg h1, if_neg h2.2, gob_eq, if_pos hgb, if_neg h1, if_neg h2', hgb]
      rfl
theorem flagN_of {c : Int} (h0 : 0 ≤ c) (h1 : c ≤ 1) : flagN (decide (c = 1)) = c := by
  unfold flagN
  by_cases h : c = 1
  · simp [h]
  · have : c = 0 := by omega
    simp [this]
theorem liveI_good {l : List UInt8} {s : RS} (ha : s.1 ≤ l.length) (h : (liveI l s).2.2 = false) :
    s.2 = false ∧ liveS l s = liveI l s ∧ l.drop s.1 = putLv (liveI l s).1 ++ l.drop (liveI l s).2.1 := by
  have hL : liveI l s = (((oneR l s).1, (oneR l (oneR l s).2).1, decide ((manyR l 1 (oneR l (oneR l s).2).2).1 = 1), ()), (manyR l 1 (oneR l (oneR l s).2).2).2) := rfl
  have hS : liveS l s = (((oneR l s).1, (oneR l (oneR l s).2).1, decide ((oneR l (oneR l (oneR l s).2).2).1 = 1), ()), (oneR l (oneR l (oneR l s).2).2).2) := rfl
  have e1 := oneR_le l s ha
  have e2 := oneR_le l (oneR l s).2 e1
  have g1 := @oneR_good l s ha
  have g2 := @oneR_good l (oneR l s).2 e1
  have g3 := @oneR_good l (oneR l (oneR l s).2).2 e2
  rw [hL] at h ⊢
  simp only at h
  obtain ⟨m1, m2, m3⟩ := manyR_good h
  rw [m1] at h ⊢
  obtain ⟨c1, c2, c3⟩ := g3 h
  obtain ⟨b1, b2, b3⟩ := g2 c1
  obtain ⟨a1, a2, a3⟩ := g1 b1
  refine ⟨a1, hS, ?_⟩
  rw [a3, b3, c3]
  unfold putLv
  simp only
  rw [flagN_of m2 m3]
  simp only [List.append_assoc]
theorem livesI_good {l : List UInt8} : ∀ (n : Nat) {s : RS}, s.1 ≤ l.length → (livesI l n s).2.2 = false →
    s.2 = false ∧ livesS l n s = livesI l n s ∧ l.drop s.1 = (livesI l n s).1.flatMap putLv ++ l.drop (livesI l n s).2.1
  | 0, s, ha, h => ⟨h, rfl, rfl⟩
  | n + 1, s, ha, h => by
    simp only [livesI] at h ⊢
    obtain ⟨h1, h2, h3⟩ := livesI_good n (liveI_le l s ha) h
    obtain ⟨g1, g2, g3⟩ := liveI_good ha h1
    refine ⟨g1, ?_, ?_⟩
    · unfold livesS; rw [if_neg (by rw [g1]; simp), g2, h2]
    · rw [g3, h3]; simp only [List.flatMap_cons, List.append_assoc]
theorem livesS_start {l : List UInt8} : ∀ (n : Nat) {s : RS}, (livesS l n s).2.2 = false → s.2 = false
  | 0, s, h => h
  | n + 1, s, h => by
    cases hs : s.2 with
    | false => rfl
    | true => rw [livesS_bad l _ s hs] at h; rw [hs] at h; exact h
theorem put_inj {a b : Int} {x y : List UInt8} (ha : okN a = true) (hb : okN b = true) (h : putI a ++ x = putI b ++ y) : a = b ∧ x = y := by
  have h1 := pI_put a ha x
  rw [h, pI_put b hb y] at h1
  simp only [Option.some.injEq, Prod.mk.injEq] at h1
  exact ⟨h1.1.symm, h1.2.symm⟩
theorem okN_small {n : Int} (h0 : 0 ≤ n) (h1 : n ≤ 1000) : okN n = true := okN_iff.2 ⟨by unfold M12; omega, by unfold M12; omega⟩
theorem flagN_rng (b : Bool) : 0 ≤ flagN b ∧ flagN b ≤ 1 := by cases b <;> simp [flagN]
theorem livesS_good {l : List UInt8} : ∀ (n : Nat) {s : RS} {r : List UInt8}, s.1 ≤ l.length → (livesS l n s).2.2 = false → l.drop s.1 = (livesS l n s).1.flatMap putLv ++ r → livesI l n s = livesS l n s
  | 0, s, r, ha, h, hd => rfl
  | n + 1, s, r, ha, h, hd => by
    have hs := livesS_start _ h
    have hn : ¬ s.2 = true := by rw [hs]; simp
    have hS : liveS l s = (((oneR l s).1, (oneR l (oneR l s).2).1, decide ((oneR l (oneR l (oneR l s).2).2).1 = 1), ()), (oneR l (oneR l (oneR l s).2).2).2) := rfl
    have hL : liveI l s = (((oneR l s).1, (oneR l (oneR l s).2).1, decide ((manyR l 1 (oneR l (oneR l s).2).2).1 = 1), ()), (manyR l 1 (oneR l (oneR l s).2).2).2) := rfl
    have e1 := oneR_le l s ha
    have e2 := oneR_le l (oneR l s).2 e1
    have e3 := oneR_le l (oneR l (oneR l s).2).2 e2
    have g1 := @oneR_good l s ha
    have g2 := @oneR_good l (oneR l s).2 e1
    have g3 := @oneR_good l (oneR l (oneR l s).2).2 e2
    unfold livesS at h hd ⊢
    rw [if_neg hn] at h hd ⊢
    simp only at h hd ⊢
    have hb := livesS_start n h
    rw [hS] at hb
    obtain ⟨c1, c2, c3⟩ := g3 hb
    obtain ⟨b1, b2, b3⟩ := g2 c1
    obtain ⟨a1, a2, a3⟩ := g1 b1
    rw [List.flatMap_cons, List.append_assoc] at hd
    have hq : (liveS l s).1 = ((oneR l s).1, (oneR l (oneR l s).2).1, decide ((oneR l (oneR l (oneR l s).2).2).1 = 1), ()) := rfl
    rw [hq] at hd
    have hput : ∀ (a b : Int) (c : Bool), putLv (a, b, c, ()) = putI a ++ putI b ++ putI (flagN c) := fun _ _ _ => rfl
    rw [hput] at hd
    simp only [List.append_assoc] at hd
    rw [a3] at hd
    have d1 := (put_inj a2 a2 hd).2
    rw [b3] at d1
    have d2 := (put_inj b2 b2 d1).2
    rw [c3] at d2
    have hf := flagN_rng (decide ((oneR l (oneR l (oneR l s).2).2).1 = 1))
    obtain ⟨d3, d4⟩ := put_inj c2 (okN_small hf.1 (by omega)) d2
    have hm : manyR l 1 (oneR l (oneR l s).2).2 = oneR l (oneR l (oneR l s).2).2 := manyR_one ⟨by rw [d3]; exact hf.1, by rw [d3]; exact hf.2⟩
    have hLS : liveI l s = liveS l s := by rw [hL, hS, hm]
    have ih := livesS_good n (s := (liveS l s).2) e3 h d4
    simp only [livesI]
    rw [hLS, ih]

theorem okN_txs {x : RecT} (h : recB x = true) : okN (x.2.2.2.2.2.2.2.2.1.length : Int) = true := okN_small (Int.natCast_nonneg _) (by have := recB_txs h; omega)
theorem grec_eq (l : List UInt8) : grecI l = grecS l := by
  unfold grecI grecS
  simp only
  have g1 := @oneR_good l (0, false) (Nat.zero_le _)
  have e1 := oneR_le l (0, false) (Nat.zero_le _)
  generalize oneR l (0, false) = a1 at *
  have g2 := @oneR_good l a1.2 e1
  have e2 := oneR_le l a1.2 e1
  generalize oneR l a1.2 = a2 at *
  have g3 := @oneR_good l a2.2 e2
  have e3 := oneR_le l a2.2 e2
  generalize oneR l a2.2 = a3 at *
  have g4 := @oneR_good l a3.2 e3
  have e4 := oneR_le l a3.2 e3
  generalize oneR l a3.2 = a4 at *
  have g5 := @oneR_good l a4.2 e4
  have e5 := oneR_le l a4.2 e4
  generalize oneR l a4.2 = a5 at *
  have g6 := @oneR_good l a5.2 e5
  have e6 := oneR_le l a5.2 e5
  generalize oneR l a5.2 = a6 at *
  have hsix : a6.2.2 = false → l = putI a1.1 ++ (putI a2.1 ++ (putI a3.1 ++ (putI a4.1 ++ (putI a5.1 ++ (putI a6.1 ++ l.drop a6.2.1))))) := fun h => by
    obtain ⟨h6, _, d6⟩ := g6 h
    obtain ⟨h5, _, d5⟩ := g5 h6
    obtain ⟨h4, _, d4⟩ := g4 h5
    obtain ⟨h3, _, d3⟩ := g3 h4
    obtain ⟨h2, _, d2⟩ := g2 h3
    obtain ⟨_, _, d1⟩ := g1 h2
    rw [← d6, ← d5, ← d4, ← d3, ← d2, ← d1, List.drop_zero]
  have f7 := slotI_le l a6.2 e6
  have f8 := slotI_le l (slotI l a6.2).2 f7
  have f9 := manyR_le l 20 (slotI l (slotI l a6.2).2).2 f8
  cases hT : (livesI l (manyR l 20 (slotI l (slotI l a6.2).2).2).1.toNat (manyR l 20 (slotI l (slotI l a6.2).2).2).2).2.2 with
  | false =>
    obtain ⟨t1, t2, t3⟩ := livesI_good _ f9 hT
    have f10 := livesI_le l (manyR l 20 (slotI l (slotI l a6.2).2).2).1.toNat (manyR l 20 (slotI l (slotI l a6.2).2).2).2 f9
    obtain ⟨m1, m2, m3⟩ := manyR_good t1
    rw [m1] at t1 t2 t3 hT f10 ⊢
    obtain ⟨k1, k2, k3⟩ := oneR_good f8 t1
    obtain ⟨s1, s2, s3⟩ := slotI_good f7 k1
    obtain ⟨u1, u2, u3⟩ := slotI_good e6 s1
    have hl := hsix u1
    rw [u2, s2, show min (oneR l (slotI l (slotI l a6.2).2).2).1.toNat 30 = (oneR l (slotI l (slotI l a6.2).2).2).1.toNat by omega, t2]
    have hlen := livesI_len l (oneR l (slotI l (slotI l a6.2).2).2).1.toNat (oneR l (slotI l (slotI l a6.2).2).2).2
    rw [u3, s3, k3, t3] at hl
    clear t2 t3 m1 k3 s2 s3 u2 u3
    generalize livesI l (oneR l (slotI l (slotI l a6.2).2).2).1.toNat (oneR l (slotI l (slotI l a6.2).2).2).2 = T at *
    have hN : (oneR l (slotI l (slotI l a6.2).2).2).1 = (T.1.length : Int) := by rw [hlen]; omega
    rw [hN] at hl
    clear hN hlen k2 m2 m3
    unfold grecK grecKS
    rw [hT]
    have hp : decide (putRec (a1.1, a2.1, a3.1, a4.1, a5.1, (slotI l a6.2).1, (slotI l (slotI l a6.2).2).1, a6.1, T.1, ()) = l) = decide (T.2.1 = l.length) := by
      have hl2 : l = putRec (a1.1, a2.1, a3.1, a4.1, a5.1, (slotI l a6.2).1, (slotI l (slotI l a6.2).2).1, a6.1, T.1, ()) ++ l.drop T.2.1 := by
        refine hl.trans ?_
        unfold putRec recNs
        simp only [List.flatMap_cons, List.flatMap_nil, List.append_nil, List.append_assoc]
      generalize putRec _ = p at hl2 ⊢
      generalize T.2.1 = a at *
      have hlen := congrArg List.length hl2
      rw [List.length_append, List.length_drop] at hlen
      by_cases h : a = l.length
      · subst h
        rw [List.drop_length, List.append_nil] at hl2
        simp [hl2]
      · have : ¬ p = l := by
          intro e; rw [e] at hlen; omega
        simp [h, this]
    rw [hp]
    simp only [Bool.not_false, Bool.true_and]
    rw [Bool.and_comm]
  | true =>
    have f7' := slotS_le l a6.2 e6
    have f8' := slotS_le l (slotS l a6.2).2 f7'
    have f9' := oneR_le l (slotS l (slotS l a6.2).2).2 f8'
    unfold grecK grecKS
    rw [hT]
    simp only [Bool.not_true, Bool.false_and]
    have key : (!(livesS l (min (oneR l (slotS l (slotS l a6.2).2).2).1.toNat 30) (oneR l (slotS l (slotS l a6.2).2).2).2).2.2 &&
        (recB (a1.1, a2.1, a3.1, a4.1, a5.1, (slotS l a6.2).1, (slotS l (slotS l a6.2).2).1, a6.1, (livesS l (min (oneR l (slotS l (slotS l a6.2).2).2).1.toNat 30) (oneR l (slotS l (slotS l a6.2).2).2).2).1, ()) &&
        decide (putRec (a1.1, a2.1, a3.1, a4.1, a5.1, (slotS l a6.2).1, (slotS l (slotS l a6.2).2).1, a6.1, (livesS l (min (oneR l (slotS l (slotS l a6.2).2).2).1.toNat 30) (oneR l (slotS l (slotS l a6.2).2).2).2).1, ()) = l))) = false := by
      cases hx : (!(livesS l (min (oneR l (slotS l (slotS l a6.2).2).2).1.toNat 30) (oneR l (slotS l (slotS l a6.2).2).2).2).2.2 &&
        (recB (a1.1, a2.1, a3.1, a4.1, a5.1, (slotS l a6.2).1, (slotS l (slotS l a6.2).2).1, a6.1, (livesS l (min (oneR l (slotS l (slotS l a6.2).2).2).1.toNat 30) (oneR l (slotS l (slotS l a6.2).2).2).2).1, ()) &&
        decide (putRec (a1.1, a2.1, a3.1, a4.1, a5.1, (slotS l a6.2).1, (slotS l (slotS l a6.2).2).1, a6.1, (livesS l (min (oneR l (slotS l (slotS l a6.2).2).2).1.toNat 30) (oneR l (slotS l (slotS l a6.2).2).2).2).1, ()) = l))) with
      | false => rfl
      | true =>
        exfalso
        simp only [Bool.and_eq_true, Bool.not_eq_true', decide_eq_true_eq] at hx
        obtain ⟨q1, q2, q3⟩ := hx
        have p1 := livesS_start _ q1
        obtain ⟨k1, k2, k3⟩ := oneR_good f8' p1
        have w2 := slotS_good f7' k1
        obtain ⟨z1, _, z3⟩ := slotI_good f7' (by rw [w2]; exact k1)
        have w1 := slotS_good e6 z1
        obtain ⟨y1, _, y3⟩ := slotI_good e6 (by rw [w1]; exact z1)
        have hl := hsix y1
        rw [w1] at y3
        rw [w2] at z3
        rw [y3, z3, k3] at hl
        have q4 := q3.trans hl
        unfold putRec recNs at q4
        simp only [List.flatMap_cons, List.flatMap_nil, List.append_nil, List.append_assoc, List.append_cancel_left_eq] at q4
        obtain ⟨d1, d2⟩ := put_inj (okN_txs q2) k2 q4
        have h20 := recB_txs q2
        simp only at d1 h20
        have hm20 : manyR l 20 (slotS l (slotS l a6.2).2).2 = oneR l (slotS l (slotS l a6.2).2).2 := manyR_one ⟨by omega, by omega⟩
        rw [w1, w2, hm20] at hT
        have hmin : min (oneR l (slotS l (slotS l a6.2).2).2).1.toNat 30 = (oneR l (slotS l (slotS l a6.2).2).2).1.toNat := by omega
        rw [hmin] at q1 d2
        rw [livesS_good _ (r := []) f9' q1 (by rw [← d2, List.append_nil])] at hT
        rw [q1] at hT; cases hT
    rw [key]
    rfl
end Q6

namespace Q6
open Go Go.Vm Go.By
set_option linter.unusedSimpArgs false

/-! ### what was put is read again: the plain law -/
def At (l : List UInt8) (a : Nat) (r : List UInt8) : Prop := a ≤ l.length ∧ l.drop a = r
theorem At.next {l : List UInt8} {a : Nat} {x r : List UInt8} (h : At l a (x ++ r)) : At l (a + x.length) r := by
  obtain ⟨h1, h2⟩ := h
  have hl := congrArg List.length h2
  rw [List.length_drop, List.length_append] at hl
  refine ⟨by omega, ?_⟩
  rw [← List.drop_drop, h2]; simp
theorem At.zero (l : List UInt8) : At l 0 l := ⟨Nat.zero_le _, rfl⟩
theorem one_put {l : List UInt8} {a : Nat} {n : Int} {r : List UInt8} (h : At l a (putI n ++ r)) (hn : okN n = true) : oneR l (a, false) = (n, a + (putI n).length, false) := by
  obtain ⟨h1, h2⟩ := h
  have hl := congrArg List.length h2
  rw [List.length_drop, List.length_append] at hl
  have hg : getR l a = (n, l.length - r.length, true) := by rw [getR_pI l a h1, h2, pI_put n hn r]
  unfold oneR
  simp only [hg, Bool.not_true, Bool.or_false, Bool.false_eq_true, if_false]
  congr 2
  omega
theorem many_put {l : List UInt8} {a : Nat} {n most : Int} {r : List UInt8} (h : At l a (putI n ++ r)) (hn : okN n = true) (h0 : 0 ≤ n) (h1 : n ≤ most) : manyR l most (a, false) = (n, a + (putI n).length, false) := by
  have := one_put h hn
  unfold manyR; rw [this]; simp [h0, h1]
theorem ints_put {l : List UInt8} : ∀ (xs : List Int) {a : Nat} {r : List UInt8}, At l a (xs.flatMap putI ++ r) → (∀ x ∈ xs, okN x = true) →
    intsL l xs.length (a, false) = (xs, a + (xs.flatMap putI).length, false)
  | [], a, r, _, _ => by simp [intsL]
  | x :: xs, a, r, h, hx => by
    rw [List.flatMap_cons, List.append_assoc] at h
    have h1 := one_put h (hx x (by simp))
    have ih := ints_put xs h.next (fun y hy => hx y (by simp [hy]))
    simp only [List.length_cons, intsL, h1, ih, List.flatMap_cons, List.length_append]
    congr 2
    omega
theorem intsR_put {l : List UInt8} {xs : List Int} {a : Nat} {r : List UInt8} (h : At l a (putL xs ++ r)) (hx : ∀ x ∈ xs, okN x = true) (h5 : xs.length ≤ 5) :
    intsR l 5 (a, false) = (xs, a + (putL xs).length, false) := by
  unfold putL at h ⊢
  rw [List.append_assoc] at h
  have hn : okN (xs.length : Int) = true := okN_small (Int.natCast_nonneg _) (by omega)
  have h1 := many_put h hn (Int.natCast_nonneg _) (show (xs.length : Int) ≤ 5 by omega)
  unfold intsR
  rw [h1]
  simp only [Int.toNat_natCast]
  rw [ints_put xs h.next hx, List.length_append]
  congr 2
  omega
theorem objB_okN {o : ObjT} (h : objB o = true) : okN o.1 = true ∧ (∀ x ∈ o.2.1, okN x = true) ∧ (∀ x ∈ o.2.2.1, okN x = true) := by
  unfold objB at h
  simp only [Bool.and_eq_true, decide_eq_true_eq, List.all_eq_true] at h
  obtain ⟨⟨⟨⟨⟨h1, h2⟩, _⟩, _⟩, h5⟩, h6⟩ := h
  refine ⟨okN_small (by omega) (by omega), fun x hx => ?_, fun x hx => ?_⟩
  · have := h5 x hx
    unfold intB at this
    simp only [Bool.and_eq_true, decide_eq_true_eq] at this
    exact okN_iff.2 ⟨by unfold M12; omega, by unfold M12; omega⟩
  · have := h6 x hx
    unfold refB at this
    simp only [Bool.and_eq_true, decide_eq_true_eq] at this
    exact okN_small (by omega) (by omega)
theorem gob_put {o : ObjT} (h : objB o = true) : gobI (putObj o) = (o, true) := by
  obtain ⟨h1, h2, h3⟩ := objB_okN h
  obtain ⟨l1, l2⟩ := objB_len h
  have hA : At (putObj o) 0 (putI o.1 ++ (putL o.2.1 ++ (putL o.2.2.1 ++ []))) := by
    refine ⟨Nat.zero_le _, ?_⟩
    unfold putObj; simp
  have e1 := one_put hA h1
  have e2 := intsR_put hA.next h2 l1
  have e3 := intsR_put hA.next.next h3 l2
  have hlen : 0 + (putI o.1).length + (putL o.2.1).length + (putL o.2.2.1).length = (putObj o).length := by
    unfold putObj; simp only [List.length_append]; omega
  unfold gobI
  simp only [e1, e2, e3, hlen]
  obtain ⟨a, b, c, ⟨⟩⟩ := o
  simp [h]
theorem putI_pos (n : Int) : 0 < (putI n).length := by
  unfold putI
  by_cases h : zig (clampI n) ≤ 127
  · rw [encN_lo h]; simp
  · rw [encN_hi h]; simp
theorem noObj_eq {o : ObjT} (h : noObjB o = true) : o = (0, [], [], ()) := by
  obtain ⟨a, b, c, ⟨⟩⟩ := o
  unfold noObjB at h
  simp only [Bool.and_eq_true, decide_eq_true_eq, List.length_eq_zero_iff] at h
  obtain ⟨⟨rfl, rfl⟩, rfl⟩ := h
  rfl
theorem slot_put {l : List UInt8} {a : Nat} {s : SlotT} {r : List UInt8} (h : At l a (putSl s ++ r)) (hs : slotB s = true) :
    slotI l (a, false) = (s, a + (putSl s).length, false) := by
  obtain ⟨has, o, ⟨⟩⟩ := s
  cases has with
  | false =>
    have ho : o = (0, [], [], ()) := noObj_eq hs
    subst ho
    have hp : putSl (false, (0, [], [], ()), ()) = putI 0 := rfl
    rw [hp] at h ⊢
    have e := many_put h (okN_small (Int.le_refl _) (by decide)) (Int.le_refl _) (Int.natCast_nonneg l.length)
    unfold slotI
    simp [e, slot0']
  | true =>
    have ho : objB o = true := hs
    have hp : putSl (true, o, ()) = putI (putObj o).length ++ putObj o := rfl
    rw [hp] at h ⊢
    rw [List.append_assoc] at h
    have hol := putObj_len ho
    have hpos : 0 < (putObj o).length := by
      unfold putObj; simp only [List.length_append]; have := putI_pos o.1; omega
    have hn := h.next
    have hnn := hn.next
    have e := many_put (most := (l.length : Int)) h (okN_small (Int.natCast_nonneg _) (by omega)) (Int.natCast_nonneg _) (by have := hnn.1; omega)
    have hsub : (l.drop (a + (putI (putObj o).length).length)).take (putObj o).length = putObj o := by rw [hn.2]; simp
    unfold slotI
    simp only [e]
    rw [if_neg (by simp only [Bool.false_or, decide_eq_true_eq]; omega), if_neg (by have := hnn.1; omega), Int.toNat_natCast, hsub, gob_put ho]
    simp only [if_true, List.length_append]
    congr 2
    omega
theorem slotS_put {l : List UInt8} {a : Nat} {s : SlotT} {r : List UInt8} (h : At l a (putSl s ++ r)) (hs : slotB s = true) :
    slotS l (a, false) = (s, a + (putSl s).length, false) := by
  have e := slot_put h hs
  have := (slotI_good (l := l) (s := (a, false)) h.1 (by rw [e])).2.1
  rw [this, e]
/-! records -/
theorem live_put {l : List UInt8} {a : Nat} {t : LiveT} {r : List UInt8} (h : At l a (putLv t ++ r)) (h1 : okN t.1 = true) (h2 : okN t.2.1 = true) :
    liveI l (a, false) = (t, a + (putLv t).length, false) := by
  obtain ⟨x, y, b, ⟨⟩⟩ := t
  have hp : putLv (x, y, b, ()) = putI x ++ putI y ++ putI (flagN b) := rfl
  rw [hp] at h ⊢
  simp only [List.append_assoc] at h
  have hf := flagN_rng b
  have e1 := one_put h h1
  have e2 := one_put h.next h2
  have e3 := many_put h.next.next (okN_small hf.1 (by omega)) hf.1 hf.2
  unfold liveI
  simp only [e1, e2, e3, List.length_append]
  have hb : decide (flagN b = 1) = b := by cases b <;> rfl
  rw [hb]
  congr 2
  omega
theorem lives_put {l : List UInt8} : ∀ (ts : List LiveT) {a : Nat} {r : List UInt8}, At l a (ts.flatMap putLv ++ r) → (∀ t ∈ ts, okN t.1 = true ∧ okN t.2.1 = true) →
    livesI l ts.length (a, false) = (ts, a + (ts.flatMap putLv).length, false)
  | [], a, r, _, _ => by simp [livesI]
  | t :: ts, a, r, h, ht => by
    rw [List.flatMap_cons, List.append_assoc] at h
    have h1 := live_put h (ht t (by simp)).1 (ht t (by simp)).2
    have ih := lives_put ts h.next (fun y hy => ht y (by simp [hy]))
    simp only [List.length_cons, livesI, h1, ih, List.flatMap_cons, List.length_append]
    congr 2
    omega
theorem rng_iff {a b c : Int} : rng a b c = true ↔ b ≤ a ∧ a ≤ c := by unfold rng; simp
theorem okN_big {n : Int} (h0 : 0 ≤ n) (h1 : n ≤ 1000000) : okN n = true := okN_iff.2 ⟨by unfold M12; omega, by unfold M12; omega⟩
theorem livesL_all {lsn : Int} (hl : lsn ≤ 1000000) : ∀ (p : Option LiveT) (ts : List LiveT), livesL lsn p ts = true → ∀ t ∈ ts, okN t.1 = true ∧ okN t.2.1 = true
  | _, [], _, t, ht => by cases ht
  | p, x :: ts, h, t, ht => by
    unfold livesL at h
    simp only [Bool.and_eq_true] at h
    rcases List.mem_cons.1 ht with rfl | ht
    · have := h.1
      unfold liveB at this
      simp only [Bool.and_eq_true, rng_iff] at this
      exact ⟨okN_big (by omega) (by omega), okN_big (by omega) (by omega)⟩
    · exact livesL_all hl _ ts h.2 t ht
theorem recB_okN {x : RecT} (h : recB x = true) : (okN x.1 = true ∧ okN x.2.1 = true ∧ okN x.2.2.1 = true ∧ okN x.2.2.2.1 = true ∧ okN x.2.2.2.2.1 = true ∧ okN x.2.2.2.2.2.2.2.1 = true) ∧
    ∀ t ∈ x.2.2.2.2.2.2.2.2.1, okN t.1 = true ∧ okN t.2.1 = true := by
  unfold recB at h
  simp only [Bool.and_eq_true, rng_iff] at h
  obtain ⟨⟨a1, a2⟩, h⟩ := h
  have z0 : okN 0 = true := okN_big (Int.le_refl _) (by decide)
  split at h
  · rename_i hk
    simp only [Bool.and_eq_true, decide_eq_true_eq] at h
    obtain ⟨⟨⟨⟨b1, b2⟩, ⟨b3, b4⟩, b5⟩, b6⟩, b7⟩ := h
    refine ⟨⟨okN_big (by omega) (by omega), by rw [b1]; exact z0, by rw [b2]; exact z0, by rw [hk]; exact okN_big (by decide) (by decide), by rw [b3]; exact z0, by rw [b6]; exact z0⟩, ?_⟩
    unfold livesB at b7
    simp only [Bool.and_eq_true] at b7
    exact livesL_all a2 none _ b7.1
  · simp only [Bool.and_eq_true, rng_iff, decide_eq_true_eq, List.length_eq_zero_iff] at h
    obtain ⟨⟨⟨⟨c1, c2⟩, ⟨c3, c4⟩⟩, c5⟩, h⟩ := h
    have hno : ∀ t ∈ x.2.2.2.2.2.2.2.2.1, okN t.1 = true ∧ okN t.2.1 = true := by rw [c5]; intro t ht; cases ht
    split at h
    · rename_i hk
      simp only [Bool.and_eq_true, rng_iff, decide_eq_true_eq] at h
      obtain ⟨⟨⟨⟨d1, d2⟩, _⟩, _⟩, d3⟩ := h
      exact ⟨⟨okN_big (by omega) (by omega), okN_big (by omega) (by omega), okN_big (by omega) (by omega), by rw [hk]; exact okN_big (by decide) (by decide), okN_big (by omega) (by omega), by rw [d3]; exact z0⟩, hno⟩
    · split at h
      · rename_i hk
        simp only [Bool.and_eq_true, rng_iff, decide_eq_true_eq] at h
        obtain ⟨⟨⟨⟨d1, d2⟩, _⟩, _⟩, d3, d4⟩ := h
        exact ⟨⟨okN_big (by omega) (by omega), okN_big (by omega) (by omega), okN_big (by omega) (by omega), by rw [hk]; exact okN_big (by decide) (by decide), okN_big (by omega) (by omega), okN_big (by omega) (by omega)⟩, hno⟩
      · split at h
        · rename_i hk
          simp only [Bool.and_eq_true, decide_eq_true_eq] at h
          obtain ⟨⟨⟨d1, _⟩, _⟩, d2⟩ := h
          have hk' : okN x.2.2.2.1 = true := by rcases hk with hk | hk | hk <;> rw [hk] <;> exact okN_big (by decide) (by decide)
          exact ⟨⟨okN_big (by omega) (by omega), okN_big (by omega) (by omega), okN_big (by omega) (by omega), hk', by rw [d1]; exact z0, by rw [d2]; exact z0⟩, hno⟩
        · cases h
theorem grec_put {x : RecT} (h : recB x = true) : grecI (putRec x) = (x, true) := by
  obtain ⟨⟨k1, k2, k3, k4, k5, k6⟩, kt⟩ := recB_okN h
  obtain ⟨s1, s2⟩ := recB_slots h
  have ht := recB_txs h
  have hA : At (putRec x) 0 (putI x.1 ++ (putI x.2.1 ++ (putI x.2.2.1 ++ (putI x.2.2.2.1 ++ (putI x.2.2.2.2.1 ++ (putI x.2.2.2.2.2.2.2.1 ++ (putSl x.2.2.2.2.2.1 ++ (putSl x.2.2.2.2.2.2.1 ++
      (putI x.2.2.2.2.2.2.2.2.1.length ++ (x.2.2.2.2.2.2.2.2.1.flatMap putLv ++ [])))))))))) := by
    refine ⟨Nat.zero_le _, ?_⟩
    unfold putRec recNs
    simp
  have hlen : (putRec x).length = 0 + (putI x.1).length + (putI x.2.1).length + (putI x.2.2.1).length + (putI x.2.2.2.1).length + (putI x.2.2.2.2.1).length + (putI x.2.2.2.2.2.2.2.1).length + (putSl x.2.2.2.2.2.1).length + (putSl x.2.2.2.2.2.2.1).length +
      (putI x.2.2.2.2.2.2.2.2.1.length).length + (x.2.2.2.2.2.2.2.2.1.flatMap putLv).length := by
    unfold putRec recNs
    simp only [List.flatMap_cons, List.flatMap_nil, List.length_append, List.append_nil]
    omega
  have e1 := one_put hA k1
  have e2 := one_put hA.next k2
  have e3 := one_put hA.next.next k3
  have e4 := one_put hA.next.next.next k4
  have e5 := one_put hA.next.next.next.next k5
  have e6 := one_put hA.next.next.next.next.next k6
  have e7 := slot_put hA.next.next.next.next.next.next s1
  have e8 := slot_put hA.next.next.next.next.next.next.next s2
  have e9 := many_put (most := 20) hA.next.next.next.next.next.next.next.next (okN_small (Int.natCast_nonneg _) (by omega)) (Int.natCast_nonneg _) (by omega)
  have e10 := lives_put _ hA.next.next.next.next.next.next.next.next.next kt
  unfold grecI
  simp only [e1, e2, e3, e4, e5, e6, e7, e8, e9, Int.toNat_natCast, e10]
  unfold grecK
  simp only
  rw [← hlen]
  obtain ⟨a1, a2, a3, a4, a5, b1, b2, a8, tx, ⟨⟩⟩ := x
  simp only [h, recEnd]
  simp
end Q6

namespace Q6

open Go Go.Vm Go.By
set_option linter.unusedSimpArgs false

/-! ### what was put is read again: the plain law -/
def rdRec (l : List UInt8) : RecT × RS :=
  let a1 := oneR l (0, false); let a2 := oneR l a1.2; let a3 := oneR l a2.2; let a4 := oneR l a3.2; let a5 := oneR l a4.2; let a6 := oneR l a5.2
  let s1 := slotI l a6.2; let s2 := slotI l s1.2; let m := manyR l 20 s2.2; let t := livesI l m.1.toNat m.2
  ((a1.1, a2.1, a3.1, a4.1, a5.1, s1.1, s2.1, a6.1, t.1, ()), t.2)
theorem rd_put {x : RecT} (h : recB x = true) (r : List UInt8) : rdRec (putRec x ++ r) = (x, ((putRec x).length, false)) := by
  obtain ⟨⟨k1, k2, k3, k4, k5, k6⟩, kt⟩ := recB_okN h
  obtain ⟨s1, s2⟩ := recB_slots h
  have ht := recB_txs h
  have hA : At (putRec x ++ r) 0 (putI x.1 ++ (putI x.2.1 ++ (putI x.2.2.1 ++ (putI x.2.2.2.1 ++ (putI x.2.2.2.2.1 ++ (putI x.2.2.2.2.2.2.2.1 ++ (putSl x.2.2.2.2.2.1 ++ (putSl x.2.2.2.2.2.2.1 ++
      (putI x.2.2.2.2.2.2.2.2.1.length ++ (x.2.2.2.2.2.2.2.2.1.flatMap putLv ++ r)))))))))) := by
    refine ⟨Nat.zero_le _, ?_⟩
    unfold putRec recNs
    simp
  have hlen : (putRec x).length = 0 + (putI x.1).length + (putI x.2.1).length + (putI x.2.2.1).length + (putI x.2.2.2.1).length + (putI x.2.2.2.2.1).length + (putI x.2.2.2.2.2.2.2.1).length + (putSl x.2.2.2.2.2.1).length + (putSl x.2.2.2.2.2.2.1).length +
      (putI x.2.2.2.2.2.2.2.2.1.length).length + (x.2.2.2.2.2.2.2.2.1.flatMap putLv).length := by
    unfold putRec recNs
    simp only [List.flatMap_cons, List.flatMap_nil, List.length_append, List.append_nil]
    omega
  have e1 := one_put hA k1
  have e2 := one_put hA.next k2
  have e3 := one_put hA.next.next k3
  have e4 := one_put hA.next.next.next k4
  have e5 := one_put hA.next.next.next.next k5
  have e6 := one_put hA.next.next.next.next.next k6
  have e7 := slot_put hA.next.next.next.next.next.next s1
  have e8 := slot_put hA.next.next.next.next.next.next.next s2
  have e9 := many_put (most := 20) hA.next.next.next.next.next.next.next.next (okN_small (Int.natCast_nonneg _) (by omega)) (Int.natCast_nonneg _) (by omega)
  have e10 := lives_put _ hA.next.next.next.next.next.next.next.next.next kt
  unfold rdRec
  simp only [e1, e2, e3, e4, e5, e6, e7, e8, e9, Int.toNat_natCast, e10]
  rw [hlen]
theorem putRec_free {x y : RecT} (hx : recB x = true) (hy : recB y = true) (r : List UInt8) (h : putRec x = putRec y ++ r) : x = y := by
  have h1 := rd_put hx []
  have h2 := rd_put hy r
  rw [List.append_nil] at h1
  rw [← h, h1] at h2
  exact congrArg Prod.fst h2
theorem grecKS_true {l : List UInt8} {f : List LiveT → RecT} {t : List LiveT × RS} (h : (grecKS l f t).2 = true) : recB (grecKS l f t).1 = true ∧ putRec (grecKS l f t).1 = l := by
  unfold grecKS recEnd at h ⊢
  split at h
  · rename_i hc
    rw [if_pos hc]
    simp only [Bool.and_eq_true, decide_eq_true_eq] at hc
    exact hc.2
  · cases h
theorem grecS_true {b : List UInt8} (h : (grecS b).2 = true) : recB (grecS b).1 = true ∧ putRec (grecS b).1 = b := by
  unfold grecS at h ⊢
  exact grecKS_true h
theorem grec_cut {x : RecT} (hx : recB x = true) (hn : 0 < (putRec x).length) : (grecS ((putRec x).take ((putRec x).length - 1))).2 = false := by
  cases hg : (grecS ((putRec x).take ((putRec x).length - 1))).2
  · rfl
  · exfalso
    obtain ⟨hy, he⟩ := grecS_true hg
    have h1 : putRec x = putRec (grecS ((putRec x).take ((putRec x).length - 1))).1 ++ (putRec x).drop ((putRec x).length - 1) := by rw [he, List.take_append_drop]
    have h2 := putRec_free hx hy _ h1
    rw [← h2] at he
    have h3 := congrArg List.length he
    rw [List.length_take] at h3
    omega
end Q6

namespace Q6
open Go Go.Vm Go.Proofs
set_option maxHeartbeats 4000000
set_option synthInstance.maxSize 2000
set_option synthInstance.maxHeartbeats 400000
set_option maxRecDepth 10000
set_option linter.unusedSimpArgs false
set_option linter.unusedVariables false

theorem laws_eqLive_ok (x y : (Int × Int × Bool × Unit)) (hx : Enc.lim 1048576 x) : CallR Try.prog 156 [.nd [.int .i64 x.1, .int .i64 x.2.1, .bool x.2.2.1], .nd [.int .i64 y.1, .int .i64 y.2.1, .bool y.2.2.1]] [] (.bool (decide (x = y))) := by
  refine CallR.of_body (n := 20) (rs := [.tmp 4]) hY.ok Try.func156 rfl (by decide) rfl rfl rfl rfl (fun F => ?_)
  have fx := And.intro Y1 (And.intro Y2 (And.intro Y3 (And.intro Y4 (Y91))))
  have key : x = y ↔ (x.1 = y.1 ∧ x.2.1 = y.2.1 ∧ x.2.2.1 = y.2.2.1) :=
    ⟨fun h => by subst h; simp, fun h => Prod.ext h.1 (Prod.ext h.2.1 (Prod.ext h.2.2 rfl))⟩
  have fy := Nat.add_zero
  refine goK ?_ ?_ ?_ ?_ ?_ ?_ ?_ ?_ ?_ ?_ ?_ ?_ ?_ ?_ ?_ ?_
  any_goals (first | exact True.intro | skip)
  all_goals (repeat (refine Wh.mk fun hcc => ?_))
  all_goals simp only [tupOf, fixEs, key]
  all_goals simp_all
theorem laws_eqLiveS_ok (l m : List ((Int × Int × Bool × Unit))) (hl : Enc.lim 1048576 l) : CallR Try.prog 111 [.sl .b (l.map Enc.b), .sl .b (m.map Enc.b)] [] (.bool (decide (l = m))) := by
  refine CallR.of_body (n := 27) (rs := [.tmp 4]) hY.ok Try.func111 rfl (by decide) rfl rfl rfl rfl (fun F => ?_)
  have fx := And.intro Y3 (And.intro Y4 (And.intro Y39 (Y91)))
  have hl1 : l.length ≤ 1048576 := hl.1
  have fy := Nat.add_zero
  refine goS ?_
  refine SW.cond rfl (fun hc => ?_) (fun hc => ?_)
  · have hne : ¬ l = m := by intro e; subst e; simp at hc
    have fy := Nat.add_zero
    refine goK ?_ ?_ ?_ ?_ ?_ ?_ ?_ ?_ ?_ ?_ ?_ ?_ ?_ ?_ ?_ ?_
    any_goals (first | exact True.intro | skip)
    all_goals (repeat (refine Wh.mk fun hcc => ?_))
    simp [tupOf, fixEs, hne]
  have hlen : l.length = m.length := by have : (l.length : Int) = m.length := by simpa using hc
                                        omega
  refine SW.skip ?_
  simp only [thenS]
  have fy := Nat.add_zero
  refine goN ?_ ?_ ?_ ?_ ?_ ?_ ?_ ?_ ?_ ?_ ?_ ?_ ?_ ?_ ?_ ?_
  any_goals (first | exact True.intro | skip)
  skip
  refine SW.loop (fun i : Nat => ⟨[.sl .b (l.map Enc.b), .sl .b (m.map Enc.b), .undef, .undef, .undef, .int .i64 i, .undef, .undef, .undef, .undef, .undef, .undef, .undef, .undef, .undef, .undef, .undef, .undef, .undef, .undef, .undef, .undef, .undef, .undef, .undef, .undef, .undef], [[]]⟩)
    (fun n i => n = l.length - i ∧ i ≤ l.length ∧ ∀ j (h : j < l.length), j < i → l[j] = m[j]'(by omega)) (n := l.length) (x := 0) (Norm.to 0 rfl (by simp [weakL])) ⟨rfl, Nat.zero_le _, fun j _ h => absurd h (Nat.not_lt_zero _)⟩ ?_
  rintro n i ⟨hn, hi, hp⟩
  have fy := Nat.add_zero
  refine goS ?_
  refine SW.cond rfl (fun hc => ?_) (fun hc => ?_)
  · have hlt : i < l.length := by simpa using hc
    have hlt' : i < m.length := by omega
    have hgl : (l.map Enc.b)[i]? = some (.nd [.int .i64 l[i].1, .int .i64 l[i].2.1, .bool l[i].2.2.1]) := map_get Enc.b l i hlt
    have hgm : (m.map Enc.b)[i]? = some (.nd [.int .i64 m[i].1, .int .i64 m[i].2.1, .bool m[i].2.2.1]) := map_get Enc.b m i hlt'
    have hC1 := cx [] (laws_eqLive_ok l[i] m[i] (hl.2 _ (List.getElem_mem hlt)))
    have fy := And.intro hgl (hgm)
    refine goK ?_ ?_ ?_ ?_ ?_ ?_ ?_ ?_ ?_ ?_ ?_ ?_ ?_ ?_ ?_ ?_
    any_goals (first | exact True.intro | skip)
    all_goals (repeat (refine Wh.mk fun hcc => ?_))
    · have hx := hcc
      have hne : ¬ l[i] = m[i] := by intro e; simp [e] at hx
      have hlm : ¬ l = m := by intro e; subst e; exact hne rfl
      simp [tupOf, fixEs, hlm]
    · have hx := hcc
      have hx' : l[i] = m[i] := by first | (simpa using hx; done) | (apply UInt8.toNat_inj.1; simp at hx; omega)
      refine ⟨n - 1, i + 1, by omega, ⟨by omega, by omega, fun j hj hji => ?_⟩, ?_⟩
      · by_cases he : j = i
        · subst he; exact hx'
        · exact hp j hj (by omega)
      · rw [wrap64 _ (by omega) (by omega)]
        first | exact Norm.to 0 rfl (by simp [weakL]) | exact Norm.to 1 rfl (by simp [weakL])
  · have hge : i = l.length := by
      have : ¬ i < l.length := by simpa using hc
      omega
    have hlm : l = m := List.ext_getElem hlen fun j h1 h2 => hp j h1 (by omega)
    have fy := Nat.add_zero
    refine goK ?_ ?_ ?_ ?_ ?_ ?_ ?_ ?_ ?_ ?_ ?_ ?_ ?_ ?_ ?_ ?_
    any_goals (first | exact True.intro | skip)
    all_goals (repeat (refine Wh.mk fun hcc => ?_))
    simp [tupOf, fixEs, hlm]
end Q6

namespace Q6
open Go Go.Vm Go.Proofs
set_option maxHeartbeats 4000000
set_option synthInstance.maxSize 2000
set_option synthInstance.maxHeartbeats 400000
set_option maxRecDepth 10000
set_option linter.unusedSimpArgs false
set_option linter.unusedVariables false

instance deRec_8 : DecidableEq (List ((Int × Int × Bool × Unit)) × Unit) := instDecidableEqProd
instance deRec_7 : DecidableEq (Int × List ((Int × Int × Bool × Unit)) × Unit) := instDecidableEqProd
instance deRec_6 : DecidableEq ((Bool × ((Int × (List Int) × (List Int) × Unit)) × Unit) × Int × List ((Int × Int × Bool × Unit)) × Unit) := instDecidableEqProd
instance deRec_5 : DecidableEq ((Bool × ((Int × (List Int) × (List Int) × Unit)) × Unit) × (Bool × ((Int × (List Int) × (List Int) × Unit)) × Unit) × Int × List ((Int × Int × Bool × Unit)) × Unit) := instDecidableEqProd
instance deRec_4 : DecidableEq (Int × (Bool × ((Int × (List Int) × (List Int) × Unit)) × Unit) × (Bool × ((Int × (List Int) × (List Int) × Unit)) × Unit) × Int × List ((Int × Int × Bool × Unit)) × Unit) := instDecidableEqProd
instance deRec_3 : DecidableEq (Int × Int × (Bool × ((Int × (List Int) × (List Int) × Unit)) × Unit) × (Bool × ((Int × (List Int) × (List Int) × Unit)) × Unit) × Int × List ((Int × Int × Bool × Unit)) × Unit) := instDecidableEqProd
instance deRec_2 : DecidableEq (Int × Int × Int × (Bool × ((Int × (List Int) × (List Int) × Unit)) × Unit) × (Bool × ((Int × (List Int) × (List Int) × Unit)) × Unit) × Int × List ((Int × Int × Bool × Unit)) × Unit) := instDecidableEqProd
instance deRec_1 : DecidableEq (Int × Int × Int × Int × (Bool × ((Int × (List Int) × (List Int) × Unit)) × Unit) × (Bool × ((Int × (List Int) × (List Int) × Unit)) × Unit) × Int × List ((Int × Int × Bool × Unit)) × Unit) := instDecidableEqProd
instance deRec_0 : DecidableEq (Int × Int × Int × Int × Int × (Bool × ((Int × (List Int) × (List Int) × Unit)) × Unit) × (Bool × ((Int × (List Int) × (List Int) × Unit)) × Unit) × Int × List ((Int × Int × Bool × Unit)) × Unit) := instDecidableEqProd
theorem eqRec_ok (x y : (Int × Int × Int × Int × Int × ((Bool × ((Int × (List Int) × (List Int) × Unit)) × Unit)) × ((Bool × ((Int × (List Int) × (List Int) × Unit)) × Unit)) × Int × (List ((Int × Int × Bool × Unit))) × Unit)) (hx : Enc.lim 1048576 x) : CallR Try.prog 43 [.nd [.int .i64 x.1, .int .i64 x.2.1, .int .i64 x.2.2.1, .int .i64 x.2.2.2.1, .int .i64 x.2.2.2.2.1, .nd [.bool x.2.2.2.2.2.1.1, .nd [.int .i64 x.2.2.2.2.2.1.2.1.1, .sl .b (x.2.2.2.2.2.1.2.1.2.1.map Enc.b), .sl .b (x.2.2.2.2.2.1.2.1.2.2.1.map Enc.b)]], .nd [.bool x.2.2.2.2.2.2.1.1, .nd [.int .i64 x.2.2.2.2.2.2.1.2.1.1, .sl .b (x.2.2.2.2.2.2.1.2.1.2.1.map Enc.b), .sl .b (x.2.2.2.2.2.2.1.2.1.2.2.1.map Enc.b)]], .int .i64 x.2.2.2.2.2.2.2.1, .sl .b (x.2.2.2.2.2.2.2.2.1.map Enc.b)], .nd [.int .i64 y.1, .int .i64 y.2.1, .int .i64 y.2.2.1, .int .i64 y.2.2.2.1, .int .i64 y.2.2.2.2.1, .nd [.bool y.2.2.2.2.2.1.1, .nd [.int .i64 y.2.2.2.2.2.1.2.1.1, .sl .b (y.2.2.2.2.2.1.2.1.2.1.map Enc.b), .sl .b (y.2.2.2.2.2.1.2.1.2.2.1.map Enc.b)]], .nd [.bool y.2.2.2.2.2.2.1.1, .nd [.int .i64 y.2.2.2.2.2.2.1.2.1.1, .sl .b (y.2.2.2.2.2.2.1.2.1.2.1.map Enc.b), .sl .b (y.2.2.2.2.2.2.1.2.1.2.2.1.map Enc.b)]], .int .i64 y.2.2.2.2.2.2.2.1, .sl .b (y.2.2.2.2.2.2.2.2.1.map Enc.b)]] [] (.bool (decide (x = y))) := by
  refine CallR.of_body (n := 53) (rs := [.tmp 4]) hY.ok Try.func43 rfl (by decide) rfl rfl rfl rfl (fun F => ?_)
  have fx := And.intro Y1 (And.intro Y2 (And.intro Y3 (And.intro Y4 (And.intro Y5 (And.intro Y6 (And.intro Y7 (And.intro Y8 (And.intro Y34 (And.intro Y36 (And.intro Y38 (And.intro Y39 (And.intro Y41 (Y91)))))))))))))
  have key : decide (x = y) = (decide (x.1 = y.1) && (decide (x.2.1 = y.2.1) && (decide (x.2.2.1 = y.2.2.1) && (decide (x.2.2.2.1 = y.2.2.2.1) && (decide (x.2.2.2.2.1 = y.2.2.2.2.1) && (decide (x.2.2.2.2.2.1 = y.2.2.2.2.2.1) && (decide (x.2.2.2.2.2.2.1 = y.2.2.2.2.2.2.1) && (decide (x.2.2.2.2.2.2.2.1 = y.2.2.2.2.2.2.2.1) && decide (x.2.2.2.2.2.2.2.2.1 = y.2.2.2.2.2.2.2.2.1))))))))) := by
    have e : x = y ↔ (x.1 = y.1 ∧ x.2.1 = y.2.1 ∧ x.2.2.1 = y.2.2.1 ∧ x.2.2.2.1 = y.2.2.2.1 ∧ x.2.2.2.2.1 = y.2.2.2.2.1 ∧ x.2.2.2.2.2.1 = y.2.2.2.2.2.1 ∧ x.2.2.2.2.2.2.1 = y.2.2.2.2.2.2.1 ∧ x.2.2.2.2.2.2.2.1 = y.2.2.2.2.2.2.2.1 ∧ x.2.2.2.2.2.2.2.2.1 = y.2.2.2.2.2.2.2.2.1) := ⟨fun h => by subst h; simp, fun h => Prod.ext h.1 (Prod.ext h.2.1 (Prod.ext h.2.2.1 (Prod.ext h.2.2.2.1 (Prod.ext h.2.2.2.2.1 (Prod.ext h.2.2.2.2.2.1 (Prod.ext h.2.2.2.2.2.2.1 (Prod.ext h.2.2.2.2.2.2.2.1 (Prod.ext h.2.2.2.2.2.2.2.2 rfl))))))))⟩
    simp only [e, Bool.decide_and]
  have h1 := laws_eqSlot_ok x.2.2.2.2.2.1 y.2.2.2.2.2.1 hx.2.2.2.2.2.1
  have h2 := laws_eqSlot_ok x.2.2.2.2.2.2.1 y.2.2.2.2.2.2.1 hx.2.2.2.2.2.2.1
  have h3 := laws_eqLiveS_ok x.2.2.2.2.2.2.2.2.1 y.2.2.2.2.2.2.2.2.1 hx.2.2.2.2.2.2.2.2.1
  rw [key]
  clear key hx
  generalize decide (x.2.2.2.2.2.1 = y.2.2.2.2.2.1) = d1 at *
  generalize decide (x.2.2.2.2.2.2.1 = y.2.2.2.2.2.2.1) = d2 at *
  generalize decide (x.2.2.2.2.2.2.2.2.1 = y.2.2.2.2.2.2.2.2.1) = d3 at *
  obtain ⟨x1, x2, x3, x4, x5, ⟨xa, ⟨xb, xc, xd, _⟩, _⟩, ⟨xe, ⟨xf, xg, xh, _⟩, _⟩, x8, x9, _⟩ := x
  obtain ⟨y1, y2, y3, y4, y5, ⟨ya, ⟨yb, yc, yd, _⟩, _⟩, ⟨ye, ⟨yf, yg, yh, _⟩, _⟩, y8, y9, _⟩ := y
  simp only at h1 h2 h3 ⊢
  skip
  have hC1 := cx [] (h1)
  have hC2 := cx [] (h2)
  have hC3 := cx [] (h3)
  have fy := Nat.add_zero
  refine goK ?_ ?_ ?_ ?_ ?_ ?_ ?_ ?_ ?_ ?_ ?_ ?_ ?_ ?_ ?_ ?_
  any_goals (first | exact True.intro | skip)
  all_goals (repeat (refine Wh.mk fun hcc => ?_))
  all_goals first | rfl | (simp_all [tupOf, fixEs]; done) | skip
end Q6

namespace Q6
open Go Go.Vm Go.Proofs
set_option maxHeartbeats 4000000
set_option synthInstance.maxSize 2000
set_option synthInstance.maxHeartbeats 400000
set_option maxRecDepth 10000
set_option linter.unusedSimpArgs false
set_option linter.unusedVariables false

theorem markInt_ok (l : List Int) (k : Int) (hl : l.length ≤ 1048576) (h0 : 0 ≤ k) (h1 : k ≤ 1125899906842624) : CallR Try.prog 72 [.io (.tup [.ow 1 (l.map Enc.o)]), .int .i64 k] [.tup [.ow 1 ((marksG id l.length k).map Enc.o)]] (.int .i64 (k + l.length)) := by
  refine CallR.of_body (n := 19) (rs := [.tmp 4]) hY.ok Try.func72 rfl (by decide) rfl rfl rfl rfl (fun F => ?_)
  have fx := And.intro Y3 (And.intro Y4 (Y34))
  have fy := Nat.add_zero
  refine goN ?_ ?_ ?_ ?_ ?_ ?_ ?_ ?_ ?_ ?_ ?_ ?_ ?_ ?_ ?_ ?_
  any_goals (first | exact True.intro | skip)
  skip
  refine SW.loop (fun i : Nat => ⟨[.ref 0 0 0 l.length, .int .i64 (k + (i : Nat)), .undef, .undef, .undef, .int .i64 i, .undef, .undef, .undef, .undef, .undef, .undef, .undef, .undef, .undef, .undef, .undef, .undef, .undef], [[.arr 1 ((mixG id l k i).map Enc.o) false]]⟩)
    (fun n i => n = l.length - i ∧ i ≤ l.length) (n := l.length) (x := 0) (Norm.re [0] (by decide) rfl (by simp [heapFits, rowFits, obFits, mixG_zero]) (by simp [tmFits, T.ren])) ⟨rfl, Nat.zero_le _⟩ ?_
  rintro n i ⟨hn, hi⟩
  have fy := Nat.add_zero
  refine goS ?_
  refine SW.cond rfl (fun hc => ?_) (fun hc => ?_)
  · have hlt : i < l.length := by simp at hc; omega
    have hltI : (i : Int) < (l.length : Int) := by omega
    have hg : ((mixG id l k i).map Enc.o)[i]? = some (.int .i64 l[i]) := mixG_get id l k i hlt
    have hs : ((mixG id l k i).map Enc.o).set i (.int .i64 (k + (i : Nat))) = (mixG id l k (i + 1)).map Enc.o := mixG_set id l k i hlt
    have fy := And.intro hg (And.intro hs (And.intro hltI (And.intro Nat.zero_add (Int.toNat_natCast))))
    refine goR ?_ ?_ ?_ ?_ ?_ ?_ ?_ ?_ ?_ ?_ ?_ ?_ ?_ ?_ ?_ ?_
    any_goals (first | exact True.intro | skip)
    all_goals (repeat (refine Wh.mk fun hcc => ?_))
    refine ⟨n - 1, i + 1, by omega, ⟨by omega, by omega⟩, ?_⟩
    rw [wrap64 _ (by omega) (by omega), wrap64 _ (by omega) (by omega), show k + (i : Int) + 1 = k + ((i + 1 : Nat) : Int) by omega]
    exact Norm.re [0] (by decide) rfl (by simp only [eq_self, heapFits, rowFits, obFits, List.getElem?_cons_zero, List.getElem?_cons_succ, renL_o, renL_b, true_and, and_true, and_self]) (by simp [tmFits, T.ren])
  · have hge : i = l.length := by
      have : ¬ i < l.length := by simp at hc; omega
      omega
    subst hge
    rw [mixG_all]
    have fy := Nat.add_zero
    refine goR ?_ ?_ ?_ ?_ ?_ ?_ ?_ ?_ ?_ ?_ ?_ ?_ ?_ ?_ ?_ ?_
    any_goals (first | exact True.intro | skip)
    all_goals (repeat (refine Wh.mk fun hcc => ?_))
    refine SW.ret (show RetQ _ _ _ _ _ _ _ from ⟨.inr rfl, _, [0], [.int .i64 (k + l.length)], ?_, ⟨rfl, ?_, rfl, rfl, ?_, rfl⟩⟩)
    rotate_left
    · (simp [-List.map_set, -List.map_append, pass1, modeOf, giveS, giveSL, Heap.at, Heap.put, fixEs, ioAt, ioAtT, ioKs, ioKT, ioM, ioT, thawA, thawAL, T.asArr, T.cel, T.clo, cloL, T.cloA, cloAL]; rfl)
    · simp [cloOL, T.cloO, T.asArr]
theorem heldInt_ok (n : Nat) (k : Int) (hl : n ≤ 1048576) (h0 : 0 ≤ k) (h1 : k ≤ 1125899906842624) : CallR Try.prog 119 [.sl .b ((marksG id n k).map Enc.b), .int .i64 k] [] (.int .i64 (k + n)) := by
  refine CallR.of_body (n := 21) (rs := [.tmp 4]) hY.ok Try.func119 rfl (by decide) rfl rfl rfl rfl (fun F => ?_)
  have fx := And.intro Y3 (And.intro Y4 (Y34))
  have fy := Nat.add_zero
  refine goN ?_ ?_ ?_ ?_ ?_ ?_ ?_ ?_ ?_ ?_ ?_ ?_ ?_ ?_ ?_ ?_
  any_goals (first | exact True.intro | skip)
  skip
  refine SW.loop (fun i : Nat => ⟨[.sl .b ((marksG id n k).map Enc.b), .int .i64 (k + (i : Nat)), .undef, .undef, .undef, .int .i64 i, .undef, .undef, .undef, .undef, .undef, .undef, .undef, .undef, .undef, .undef, .undef, .undef, .undef, .undef, .undef], [[]]⟩)
    (fun N i => N = n - i ∧ i ≤ n) (n := n) (x := 0) (Norm.to 0 rfl (by simp [weakL])) ⟨rfl, Nat.zero_le _⟩ ?_
  rintro N i ⟨hn, hi⟩
  have fy := Nat.add_zero
  refine goS ?_
  refine SW.cond rfl (fun hc => ?_) (fun hc => ?_)
  · have hlt : i < n := by simp at hc; omega
    have hg : ((marksG id n k).map Enc.b)[i]? = some (.int .i64 (k + (i : Nat))) := by rw [map_get Enc.b _ i (by rw [marksG_len]; exact hlt), marksG_get id n k i hlt]; rfl
    have fy := And.intro hg (And.intro Nat.zero_add (Int.toNat_natCast))
    refine goR ?_ ?_ ?_ ?_ ?_ ?_ ?_ ?_ ?_ ?_ ?_ ?_ ?_ ?_ ?_ ?_
    any_goals (first | exact True.intro | skip)
    all_goals (repeat (refine Wh.mk fun hcc => ?_))
    all_goals first | (exfalso; simp at hcc; done) | skip
    refine ⟨N - 1, i + 1, by omega, ⟨by omega, by omega⟩, ?_⟩
    rw [wrap64 _ (by omega) (by omega), wrap64 _ (by omega) (by omega), show k + (i : Int) + 1 = k + ((i + 1 : Nat) : Int) by omega]
    exact Norm.to 0 rfl (by simp [weakL])
  · have hge : i = n := by
      have : ¬ i < n := by simp at hc; omega
      omega
    subst hge
    have fy := Nat.add_zero
    refine goK ?_ ?_ ?_ ?_ ?_ ?_ ?_ ?_ ?_ ?_ ?_ ?_ ?_ ?_ ?_ ?_
    any_goals (first | exact True.intro | skip)
    all_goals (repeat (refine Wh.mk fun hcc => ?_))
    simp [tupOf, fixEs]
end Q6

namespace Q6
open Go Go.Vm Go.Proofs
set_option maxHeartbeats 4000000
set_option synthInstance.maxSize 2000
set_option synthInstance.maxHeartbeats 400000
set_option maxRecDepth 10000
set_option linter.unusedSimpArgs false
set_option linter.unusedVariables false

theorem markObj_ok (x : (Int × (List Int) × (List Int) × Unit)) (k : Int) (hx : x.2.1.length ≤ 1048576 ∧ x.2.2.1.length ≤ 1048576) (h0 : 0 ≤ k) (h1 : k ≤ 562949953421312) : CallR Try.prog 157 [.nd [.int .i64 x.1, .io (.tup [.ow 1 (x.2.1.map Enc.o)]), .io (.tup [.ow 1 (x.2.2.1.map Enc.o)])], .int .i64 k] [.tup [.ow 1 ((marksG id x.2.1.length (k)).map Enc.o)], .tup [.ow 1 ((marksG id x.2.2.1.length (k + x.2.1.length)).map Enc.o)]] (.int .i64 (k + x.2.1.length + x.2.2.1.length)) := by
  refine CallR.of_body (n := 14) (rs := [.tmp 4]) hY.ok Try.func157 rfl (by decide) rfl rfl rfl rfl (fun F => ?_)
  have fx := And.intro Y1 (And.intro Y2 (And.intro Y3 (And.intro Y34 (Y36))))
  have hC1 := cx [.ios] (markInt_ok x.2.1 k hx.1 h0 (by omega))
  have hC2 := cx [.ios] (markInt_ok x.2.2.1 (k + x.2.1.length) hx.2 (by omega) (by omega))
  have fy := Nat.add_zero
  refine goR ?_ ?_ ?_ ?_ ?_ ?_ ?_ ?_ ?_ ?_ ?_ ?_ ?_ ?_ ?_ ?_
  any_goals (first | exact True.intro | skip)
  all_goals (repeat (refine Wh.mk fun hcc => ?_))
  all_goals exact SW.ret (show RetQ _ _ _ _ _ _ _ from RetQ.y [0] [.int .i64 (k + x.2.1.length + x.2.2.1.length)])
theorem heldObj_ok (y : Int) (n m : Nat) (k : Int) (hn : n ≤ 1048576) (hm : m ≤ 1048576) (h0 : 0 ≤ k) (h1 : k ≤ 562949953421312) : CallR Try.prog 158 [.nd [.int .i64 y, .sl .b ((marksG id n (k)).map Enc.b), .sl .b ((marksG id m (k + n)).map Enc.b)], .int .i64 k] [] (.int .i64 (k + n + m)) := by
  refine CallR.of_body (n := 18) (rs := [.tmp 4]) hY.ok Try.func158 rfl (by decide) rfl rfl rfl rfl (fun F => ?_)
  have fx := And.intro Y1 (And.intro Y2 (And.intro Y3 (And.intro Y4 (And.intro Y34 (Y36)))))
  have hq0 : decide (k + (n : Int) < 0) = false := by simp; omega
  have hq1 : decide (k + (n : Int) + (m : Int) < 0) = false := by simp; omega
  have hC1 := cx [] (heldInt_ok n k hn h0 (by omega))
  have hC2 := cx [] (heldInt_ok m (k + n) hm (by omega) (by omega))
  have fy := And.intro hq0 (hq1)
  refine goK ?_ ?_ ?_ ?_ ?_ ?_ ?_ ?_ ?_ ?_ ?_ ?_ ?_ ?_ ?_ ?_
  any_goals (first | exact True.intro | skip)
  all_goals (repeat (refine Wh.mk fun hcc => ?_))
  all_goals simp [tupOf, fixEs]
theorem markSlot_ok (x : (Bool × ((Int × (List Int) × (List Int) × Unit)) × Unit)) (k : Int) (hx : x.2.1.2.1.length ≤ 1048576 ∧ x.2.1.2.2.1.length ≤ 1048576) (h0 : 0 ≤ k) (h1 : k ≤ 562949953421312) : CallR Try.prog 112 [.nd [.bool x.1, .nd [.int .i64 x.2.1.1, .io (.tup [.ow 1 (x.2.1.2.1.map Enc.o)]), .io (.tup [.ow 1 (x.2.1.2.2.1.map Enc.o)])]], .int .i64 k] [.tup [.ow 1 ((marksG id x.2.1.2.1.length (k)).map Enc.o)], .tup [.ow 1 ((marksG id x.2.1.2.2.1.length (k + x.2.1.2.1.length)).map Enc.o)]] (.int .i64 (k + x.2.1.2.1.length + x.2.1.2.2.1.length)) := by
  refine CallR.of_body (n := 10) (rs := [.tmp 4]) hY.ok Try.func112 rfl (by decide) rfl rfl rfl rfl (fun F => ?_)
  have fx := And.intro Y1 (And.intro Y3 (And.intro Y4 (And.intro Y34 (And.intro Y36 (Y38)))))
  have hC1 := cx [.iov] (markObj_ok x.2.1 k hx h0 h1)
  have fy := Nat.add_zero
  refine goR ?_ ?_ ?_ ?_ ?_ ?_ ?_ ?_ ?_ ?_ ?_ ?_ ?_ ?_ ?_ ?_
  any_goals (first | exact True.intro | skip)
  all_goals (repeat (refine Wh.mk fun hcc => ?_))
  all_goals exact SW.ret (show RetQ _ _ _ _ _ _ _ from RetQ.y [0] [.int .i64 (k + x.2.1.2.1.length + x.2.1.2.2.1.length)])
theorem heldSlot_ok (b : Bool) (y : Int) (n m : Nat) (k : Int) (hn : n ≤ 1048576) (hm : m ≤ 1048576) (h0 : 0 ≤ k) (h1 : k ≤ 562949953421312) : CallR Try.prog 114 [.nd [.bool b, .nd [.int .i64 y, .sl .b ((marksG id n (k)).map Enc.b), .sl .b ((marksG id m (k + n)).map Enc.b)]], .int .i64 k] [] (.int .i64 (k + n + m)) := by
  refine CallR.of_body (n := 12) (rs := [.tmp 4]) hY.ok Try.func114 rfl (by decide) rfl rfl rfl rfl (fun F => ?_)
  have fx := And.intro Y1 (And.intro Y3 (And.intro Y4 (And.intro Y34 (And.intro Y36 (Y38)))))
  have hq1 : decide (k + (n : Int) + (m : Int) < 0) = false := by simp; omega
  have hC1 := cx [] (heldObj_ok y n m k hn hm h0 h1)
  have fy := hq1
  refine goK ?_ ?_ ?_ ?_ ?_ ?_ ?_ ?_ ?_ ?_ ?_ ?_ ?_ ?_ ?_ ?_
  any_goals (first | exact True.intro | skip)
  all_goals (repeat (refine Wh.mk fun hcc => ?_))
  all_goals simp [tupOf, fixEs]
end Q6

namespace Q6
open Go Go.Vm Go.Proofs
set_option maxHeartbeats 4000000
set_option synthInstance.maxSize 2000
set_option synthInstance.maxHeartbeats 400000
set_option maxRecDepth 10000
set_option linter.unusedSimpArgs false
set_option linter.unusedVariables false

def lvM (k j : Int) : (Int × Int × Bool × Unit) := (k + 3 * j, k + 3 * j + 1, (Int.tmod (k + 3 * j + 2) 3 == 0), ())
theorem markLive_ok (l : List (Int × Int × Bool × Unit)) (k : Int) (hl : l.length ≤ 1048576) (h0 : 0 ≤ k) (h1 : k ≤ 562949953421312) : CallR Try.prog 113 [.io (.tup [.ow 3 (l.map Enc.o)]), .int .i64 k] [.tup [.ow 3 ((marksG (lvM k) l.length 0).map Enc.o)]] (.int .i64 (k + 3 * l.length)) := by
  refine CallR.of_body (n := 36) (rs := [.tmp 4]) hY.ok Try.func113 rfl (by decide) rfl rfl rfl rfl (fun F => ?_)
  have fx := And.intro Y1 (And.intro Y2 (And.intro Y3 (And.intro Y4 (And.intro Y39 (Y91)))))
  have fy := Nat.add_zero
  refine goN ?_ ?_ ?_ ?_ ?_ ?_ ?_ ?_ ?_ ?_ ?_ ?_ ?_ ?_ ?_ ?_
  any_goals (first | exact True.intro | skip)
  skip
  refine SW.loop (fun i : Nat => ⟨[.ref 0 0 0 l.length, .int .i64 (k + 3 * (i : Nat)), .undef, .undef, .undef, .int .i64 (i : Nat), .undef, .undef, .undef, .undef, .undef, .undef, .undef, .undef, .undef, .undef, .undef, .undef, .undef, .undef, .undef, .undef, .undef, .undef, .undef, .undef, .undef, .undef, .undef, .undef, .undef, .undef, .undef, .undef, .undef, .undef], [[.arr 3 ((mixG (lvM k) l 0 i).map Enc.o) false]]⟩)
    (fun n i => n = l.length - i ∧ i ≤ l.length) (n := l.length) (x := 0) (Norm.re [0] (by decide) rfl (by simp [heapFits, rowFits, obFits, mixG_zero]) (by simp [tmFits, T.ren])) ⟨rfl, Nat.zero_le _⟩ ?_
  rintro n i ⟨hn, hi⟩
  have fy := Nat.add_zero
  refine goS ?_
  refine SW.cond rfl (fun hc => ?_) (fun hc => ?_)
  · have hlt : i < l.length := by simp at hc; omega
    have hltI : (i : Int) < (l.length : Int) := by omega
    have hg : ((mixG (lvM k) l 0 i).map Enc.o)[i]? = some (.nd [.int .i64 l[i].1, .int .i64 l[i].2.1, .bool l[i].2.2.1]) := mixG_get (lvM k) l 0 i hlt
    have hlen : ((mixG (lvM k) l 0 i).map (Enc.o : _ → T)).length = l.length := by rw [List.length_map, mixG_len _ _ _ _ hi]
    have hs : ((mixG (lvM k) l 0 i).map Enc.o).set i (.nd [.int .i64 (k + 3 * (i : Nat)), .int .i64 (k + 3 * (i : Nat) + 1), .bool (Int.tmod (k + 3 * (i : Nat) + 2) 3 == 0)]) = (mixG (lvM k) l 0 (i + 1)).map Enc.o := by
      have := mixG_set (lvM k) l 0 i hlt
      rw [Int.zero_add] at this
      exact this
    generalize hL : (mixG (lvM k) l 0 i).map (Enc.o : _ → T) = L at *
    have hg1 : ∀ a : T, (L.set i a)[i]? = some a := fun a => by rw [List.getElem?_set_self (by omega)]
    have hs1 : ∀ a b : T, (L.set i a).set i b = L.set i b := fun a b => List.set_set ..
    have hl1 : ∀ a : T, (L.set i a).length = L.length := fun a => List.length_set ..
    have hw1 : IntKind.i64.wrap (k + 3 * (i : Int) + 1) = k + 3 * (i : Int) + 1 := wrap64 _ (by omega) (by omega)
    have hw2 : IntKind.i64.wrap (k + 3 * (i : Int) + 1 + 1) = k + 3 * (i : Int) + 2 := by rw [wrap64 _ (by omega) (by omega)]; omega
    have hw3 : IntKind.i64.wrap (k + 3 * (i : Int) + 2 + 1) = k + 3 * ((i + 1 : Nat) : Int) := by rw [wrap64 _ (by omega) (by omega)]; omega
    have hw4 : IntKind.i64.wrap ((i : Int) + 1) = ((i + 1 : Nat) : Int) := by rw [wrap64 _ (by omega) (by omega)]; omega
    have fy := And.intro hg (And.intro hg1 (And.intro hs1 (And.intro hl1 (And.intro hltI (And.intro hw1 (And.intro hw2 (And.intro hw3 (And.intro hw4 (And.intro Nat.zero_add (Int.toNat_natCast))))))))))
    refine goR ?_ ?_ ?_ ?_ ?_ ?_ ?_ ?_ ?_ ?_ ?_ ?_ ?_ ?_ ?_ ?_
    any_goals (first | exact True.intro | skip)
    all_goals (repeat (refine Wh.mk fun hcc => ?_))
    refine ⟨n - 1, i + 1, by omega, ⟨by omega, by omega⟩, ?_⟩
    rw [hs]
    exact Norm.re [0] (by decide) rfl (by first | (simp only [eq_self, heapFits, rowFits, obFits, List.getElem?_cons_zero, List.getElem?_cons_succ, renL_o, renL_b, true_and, and_true, and_self]; done) | simp [-List.map_append, heapFits, rowFits, obFits, T.ren, renL]) (by simp [tmFits, T.ren])
  · have hge : i = l.length := by
      have : ¬ i < l.length := by simp at hc; omega
      omega
    subst hge
    rw [mixG_all]
    have fy := Nat.add_zero
    refine goR ?_ ?_ ?_ ?_ ?_ ?_ ?_ ?_ ?_ ?_ ?_ ?_ ?_ ?_ ?_ ?_
    any_goals (first | exact True.intro | skip)
    all_goals (repeat (refine Wh.mk fun hcc => ?_))
    all_goals exact SW.ret (show RetQ _ _ _ _ _ _ _ from RetQ.y [0] [.int .i64 (k + 3 * l.length)])
end Q6

namespace Q6
open Go Go.Vm Go.Proofs
set_option maxHeartbeats 4000000
set_option synthInstance.maxSize 2000
set_option synthInstance.maxHeartbeats 400000
set_option maxRecDepth 10000
set_option linter.unusedSimpArgs false
set_option linter.unusedVariables false

theorem heldLive_ok (n : Nat) (k : Int) (hl : n ≤ 1048576) (h0 : 0 ≤ k) (h1 : k ≤ 562949953421312) : CallR Try.prog 115 [.sl .b ((marksG (lvM k) n 0).map Enc.b), .int .i64 k] [] (.int .i64 (k + 3 * n)) := by
  refine CallR.of_body (n := 42) (rs := [.tmp 4]) hY.ok Try.func115 rfl (by decide) rfl rfl rfl rfl (fun F => ?_)
  have fx := And.intro Y1 (And.intro Y2 (And.intro Y3 (And.intro Y4 (And.intro Y39 (Y91)))))
  have fy := Nat.add_zero
  refine goN ?_ ?_ ?_ ?_ ?_ ?_ ?_ ?_ ?_ ?_ ?_ ?_ ?_ ?_ ?_ ?_
  any_goals (first | exact True.intro | skip)
  skip
  refine SW.loop (fun i : Nat => ⟨[.sl .b ((marksG (lvM k) n 0).map Enc.b), .int .i64 (k + 3 * (i : Nat)), .undef, .undef, .undef, .int .i64 (i : Nat), .undef, .undef, .undef, .undef, .undef, .undef, .undef, .undef, .undef, .undef, .undef, .undef, .undef, .undef, .undef, .undef, .undef, .undef, .undef, .undef, .undef, .undef, .undef, .undef, .undef, .undef, .undef, .undef, .undef, .undef, .undef, .undef, .undef, .undef, .undef, .undef], [[]]⟩)
    (fun N i => N = n - i ∧ i ≤ n) (n := n) (x := 0) (Norm.to 0 rfl (by simp [weakL])) ⟨rfl, Nat.zero_le _⟩ ?_
  rintro N i ⟨hn, hi⟩
  have fy := Nat.add_zero
  refine goS ?_
  refine SW.cond rfl (fun hc => ?_) (fun hc => ?_)
  · have hlt : i < n := by simp at hc; omega
    have hg : ((marksG (lvM k) n 0).map Enc.b)[i]? = some (.nd [.int .i64 (k + 3 * (i : Nat)), .int .i64 (k + 3 * (i : Nat) + 1), .bool (Int.tmod (k + 3 * (i : Nat) + 2) 3 == 0)]) := by
      rw [map_get Enc.b _ i (by rw [marksG_len]; exact hlt), marksG_get (lvM k) n 0 i hlt, Int.zero_add]; rfl
    have hw1 : IntKind.i64.wrap (k + 3 * (i : Int) + 1) = k + 3 * (i : Int) + 1 := wrap64 _ (by omega) (by omega)
    have hw2 : IntKind.i64.wrap (k + 3 * (i : Int) + 1 + 1) = k + 3 * (i : Int) + 2 := by rw [wrap64 _ (by omega) (by omega)]; omega
    have hw3 : IntKind.i64.wrap (k + 3 * (i : Int) + 2 + 1) = k + 3 * ((i + 1 : Nat) : Int) := by rw [wrap64 _ (by omega) (by omega)]; omega
    have hw4 : IntKind.i64.wrap ((i : Int) + 1) = ((i + 1 : Nat) : Int) := by rw [wrap64 _ (by omega) (by omega)]; omega
    have fy := And.intro hg (And.intro hw1 (And.intro hw2 (And.intro hw3 (And.intro hw4 (And.intro Nat.zero_add (Int.toNat_natCast))))))
    refine goR ?_ ?_ ?_ ?_ ?_ ?_ ?_ ?_ ?_ ?_ ?_ ?_ ?_ ?_ ?_ ?_
    any_goals (first | exact True.intro | skip)
    all_goals (repeat (refine Wh.mk fun hcc => ?_))
    all_goals first | (exfalso; simp at hcc; done) | skip
    refine ⟨N - 1, i + 1, by omega, ⟨by omega, by omega⟩, ?_⟩
    exact Norm.to 0 rfl (by simp [weakL])
  · have hge : i = n := by
      have : ¬ i < n := by simp at hc; omega
      omega
    subst hge
    have fy := Nat.add_zero
    refine goK ?_ ?_ ?_ ?_ ?_ ?_ ?_ ?_ ?_ ?_ ?_ ?_ ?_ ?_ ?_ ?_
    any_goals (first | exact True.intro | skip)
    all_goals (repeat (refine Wh.mk fun hcc => ?_))
    simp [tupOf, fixEs]
end Q6
