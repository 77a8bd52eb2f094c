/- Shows what the parts of the program do that the claim reaches: a machine of values over the model, and the contracts of functions, for all arguments within the lengths that each theorem names. -/
import Derived.Test.YtalhmcbkmpggiaaPagesP1
import Derived.Test.YtalhmcbkmpggiaaPagesP4
import Derived.Test.YtalhmcbkmpggiaaPagesP3
import Derived.Test.YtalhmcbkmpggiaaVm5
import Derived.Test.YtalhmcbkmpggiaaPagesP2
set_option linter.all false

namespace Q6
open Go Go.Vm Go.Proofs
set_option maxHeartbeats 4000000
set_option synthInstance.maxSize 2000
set_option synthInstance.maxHeartbeats 400000
set_option maxRecDepth 10000
set_option linter.unusedSimpArgs false
set_option linter.unusedVariables false

open Go.By

noncomputable def slotF (l : List UInt8) (s : CS) : CS × SlotT := if (onceF l s 3).2 = true then ((onceF l s 3).1, slot0') else ((objF l (onceF l s 3).1).1, (true, (objF l (onceF l s 3).1).2, ()))
theorem slotF_ok (l : List UInt8) (s : CS) (hl : l.length ≤ 1048576) (hi : s.1 ≤ l.length) : (slotF l s).1.1 ≤ l.length ∧ slotB (slotF l s).2 = true := by
  obtain ⟨e1, _⟩ := onceF_ok l s 3 hl hi
  unfold slotF
  split
  · exact ⟨e1, by unfold slot0' slotB noObjB; rfl⟩
  · obtain ⟨e2, h2⟩ := objF_ok l (onceF l s 3).1 hl e1
    exact ⟨e2, h2⟩
theorem slotB_lim {s : SlotT} (h : slotB s = true) : s.2.1.2.1.length ≤ 5 ∧ s.2.1.2.2.1.length ≤ 5 := by
  unfold slotB at h
  split at h
  · exact objB_len h
  · unfold noObjB at h
    simp only [Bool.and_eq_true, decide_eq_true_eq] at h
    omega
noncomputable def lvF (l : List UInt8) : Nat → Int → CS → List LiveT → CS × List LiveT
  | 0, _, s, acc => (s, acc)
  | n + 1, i, s, acc => if (onceF l s 2).2 = true then
      lvF l n (i + 1) (onceF l (belowF l (onceF l s 2).1 4).1 2).1 (acc ++ [(i, 1 + (belowF l (onceF l s 2).1 4).2, (onceF l (belowF l (onceF l s 2).1 4).1 2).2, ())])
    else lvF l n (i + 1) (onceF l s 2).1 acc
theorem lvF_ok (l : List UInt8) (hl : l.length ≤ 1048576) : ∀ (n : Nat) (i : Int) (s : CS) (acc : List LiveT), s.1 ≤ l.length → (lvF l n i s acc).1.1 ≤ l.length ∧ (lvF l n i s acc).2.length ≤ acc.length + n
  | 0, i, s, acc, h => ⟨h, Nat.le_refl _⟩
  | n + 1, i, s, acc, h => by
    obtain ⟨e1, _⟩ := onceF_ok l s 2 hl h
    unfold lvF
    split
    · obtain ⟨e2, _⟩ := belowF_ok l (onceF l s 2).1 4 hl e1
      obtain ⟨e3, _⟩ := onceF_ok l (belowF l (onceF l s 2).1 4).1 2 hl e2
      have ih := lvF_ok l hl n (i + 1) _ (acc ++ [(i, 1 + (belowF l (onceF l s 2).1 4).2, (onceF l (belowF l (onceF l s 2).1 4).1 2).2, ())]) e3
      refine ⟨ih.1, Nat.le_trans ih.2 ?_⟩
      rw [List.length_append]; simp; omega
    · have ih := lvF_ok l hl n (i + 1) _ acc e1
      exact ⟨ih.1, by omega⟩
noncomputable def recF (l : List UInt8) (s : CS) : CS × RecT :=
  let a := belowF l s 40; let b := belowF l a.1 4; let c := belowF l b.1 6; let p := intF l c.1 [0, 1, 4, 5 + a.2 - 1]
  if 1 + c.2 = 1 then
    let o := belowF l p.1 31; let s1 := slotF l o.1; let s2 := slotF l s1.1
    (s2.1, (5 + a.2, 1 + b.2, p.2, 1 + c.2, 1 + o.2, s1.2, s2.2, 0, [], ()))
  else if 1 + c.2 = 4 then
    let o := belowF l p.1 31; let s2 := slotF l o.1; let x := intF l s2.1 [0, 1, 5 + a.2 - 1]
    (x.1, (5 + a.2, 1 + b.2, p.2, 1 + c.2, 1 + o.2, slot0', s2.2, x.2, [], ()))
  else if 1 + c.2 = 6 then
    let t := lvF l 4 1 p.1 []
    (t.1, (5 + a.2, 0, 0, 1 + c.2, 0, slot0', slot0', 0, t.2, ()))
  else (p.1, (5 + a.2, 1 + b.2, p.2, 1 + c.2, 0, slot0', slot0', 0, [], ()))

theorem slotW_ok (l : List UInt8) (s : CS) (hl : l.length ≤ 1048576) (hi : s.1 ≤ l.length) : CallR Try.prog 90 [.io (.nd [.sl .s (l.map Enc.b), .int .i64 (s.1 : Nat), .int .i64 s.2])] [.nd [.sl .s (l.map Enc.b), .int .i64 (((slotF l s).1).1 : Nat), .int .i64 ((slotF l s).1).2]] (.nd [.bool (((slotF l s).2).1), .nd [.int .i64 ((((slotF l s).2).2.1).1), .ow 1 (((((slotF l s).2).2.1).2.1).map Enc.o), .ow 1 (((((slotF l s).2).2.1).2.2.1).map Enc.o)]]) := by
  refine CallR.of_body (n := 9) (rs := [.cell 2 38]) hY.ok Try.func90 rfl (by decide) rfl rfl rfl rfl (fun F => ?_)
  have fx := And.intro Y1 (And.intro Y3 (And.intro Y4 (And.intro Y34 (And.intro Y36 (And.intro Y38 (Y87))))))
  obtain ⟨e1, c1⟩ := onceF_ok l s 3 hl hi
  unfold slotF
  generalize onceF l s 3 = o at *
  obtain ⟨s1, b⟩ := o
  simp only at e1 c1 ⊢
  have c2 := objW_ok l s1 hl e1
  generalize objF l s1 = x at *
  cases b
  · simp only [Bool.false_eq_true, if_false, if_true]
    have hC1 := cx [.io] (c1)
    have hC2 := cx [.io] (c2)
    have fy := Nat.add_zero
    refine goR ?_ ?_ ?_ ?_ ?_ ?_ ?_ ?_ ?_ ?_ ?_ ?_ ?_ ?_ ?_ ?_
    any_goals (first | exact True.intro | skip)
    all_goals (repeat (refine Wh.mk fun hcc => ?_))
    all_goals exact SW.ret (show RetQ _ _ _ _ _ _ _ from RetQ.y [0] [.nd [.bool true, .nd [.int .i64 x.2.1, .ow 1 (x.2.2.1.map Enc.o), .ow 1 (x.2.2.2.1.map Enc.o)]]])
  · simp only [Bool.false_eq_true, if_false, if_true]
    unfold slot0'
    have hC1 := cx [.io] (c1)
    have hC2 := cx [.io] (c2)
    have fy := Nat.add_zero
    refine goR ?_ ?_ ?_ ?_ ?_ ?_ ?_ ?_ ?_ ?_ ?_ ?_ ?_ ?_ ?_ ?_
    any_goals (first | exact True.intro | skip)
    all_goals (repeat (refine Wh.mk fun hcc => ?_))
    all_goals exact SW.ret (show RetQ _ _ _ _ _ _ _ from RetQ.y [0] [.nd [.bool false, .nd [.int .i64 0, .ow 1 [], .ow 1 []]]])
theorem recW_ok (l : List UInt8) (s : CS) (hl : l.length ≤ 1048576) (hi : s.1 ≤ l.length) : CallR Try.prog 137 [.io (.nd [.sl .s (l.map Enc.b), .int .i64 (s.1 : Nat), .int .i64 s.2])] [.nd [.sl .s (l.map Enc.b), .int .i64 (((recF l s).1).1 : Nat), .int .i64 ((recF l s).1).2]] (.nd [.int .i64 (((recF l s).2).1), .int .i64 (((recF l s).2).2.1), .int .i64 (((recF l s).2).2.2.1), .int .i64 (((recF l s).2).2.2.2.1), .int .i64 (((recF l s).2).2.2.2.2.1), .nd [.bool ((((recF l s).2).2.2.2.2.2.1).1), .nd [.int .i64 (((((recF l s).2).2.2.2.2.2.1).2.1).1), .ow 1 ((((((recF l s).2).2.2.2.2.2.1).2.1).2.1).map Enc.o), .ow 1 ((((((recF l s).2).2.2.2.2.2.1).2.1).2.2.1).map Enc.o)]], .nd [.bool ((((recF l s).2).2.2.2.2.2.2.1).1), .nd [.int .i64 (((((recF l s).2).2.2.2.2.2.2.1).2.1).1), .ow 1 ((((((recF l s).2).2.2.2.2.2.2.1).2.1).2.1).map Enc.o), .ow 1 ((((((recF l s).2).2.2.2.2.2.2.1).2.1).2.2.1).map Enc.o)]], .int .i64 (((recF l s).2).2.2.2.2.2.2.2.1), .ow 3 ((((recF l s).2).2.2.2.2.2.2.2.2.1).map Enc.o)]) := by
  refine CallR.of_body (n := 75) (rs := [.cell 2 41]) hY.ok Try.func137 rfl (by decide) rfl rfl rfl rfl (fun F => ?_)
  have fx := And.intro Y1 (And.intro Y2 (And.intro Y3 (And.intro Y4 (And.intro Y5 (And.intro Y6 (And.intro Y7 (And.intro Y8 (And.intro Y34 (And.intro Y36 (And.intro Y38 (And.intro Y39 (And.intro Y41 (And.intro Y87 (Y91))))))))))))))
  unfold recF
  simp only
  obtain ⟨e1, p1, c1⟩ := belowF_ok l s 40 hl hi
  generalize belowF l s 40 = a at *
  obtain ⟨e2, p2, c2⟩ := belowF_ok l a.1 4 hl e1
  generalize belowF l a.1 4 = b at *
  obtain ⟨e3, p3, c3⟩ := belowF_ok l b.1 6 hl e2
  generalize belowF l b.1 6 = c at *
  have g1 := p1.2 (by decide)
  have g2 := p2.2 (by decide)
  have g3 := p3.2 (by decide)
  have w1 : IntKind.i64.wrap (5 + a.2) = 5 + a.2 := wrap64 _ (by omega) (by omega)
  have w2 : IntKind.i64.wrap (1 + b.2) = 1 + b.2 := wrap64 _ (by omega) (by omega)
  have w3 : IntKind.i64.wrap (1 + c.2) = 1 + c.2 := wrap64 _ (by omega) (by omega)
  have w4 : IntKind.i64.wrap (5 + a.2 - 1) = 5 + a.2 - 1 := wrap64 _ (by omega) (by omega)
  obtain ⟨ep, qp, dp'⟩ := intF_ok l c.1 [0, 1, 4, 5 + a.2 - 1] hl e3 (by simp) (by simp)
  have dp : CallR Try.prog 92 [.io (.nd [.sl .s (l.map Enc.b), .int .i64 (c.1.1 : Nat), .int .i64 c.1.2]), .sl .b [.int .i64 0, .int .i64 1, .int .i64 4, .int .i64 (5 + a.2 - 1)]] [.nd [.sl .s (l.map Enc.b), .int .i64 (((intF l c.1 [0, 1, 4, 5 + a.2 - 1]).1).1 : Nat), .int .i64 ((intF l c.1 [0, 1, 4, 5 + a.2 - 1]).1).2]] (.int .i64 (intF l c.1 [0, 1, 4, 5 + a.2 - 1]).2) := dp'
  clear dp'
  generalize intF l c.1 [0, 1, 4, 5 + a.2 - 1] = p at *
  have bp := fun own => buildN (Y := Y) (own := own) (t := 34) (n := 4) (ps := [(0, .int .i64 0), (1, .int .i64 1), (2, .int .i64 4), (3, .int .i64 (5 + a.2 - 1))]) (r := [.int .i64 0, .int .i64 1, .int .i64 4, .int .i64 (5 + a.2 - 1)]) Y34 Y3 rfl (by decide) rfl
  have k1 : (1 + c.2 == 1) = decide (1 + c.2 = 1) := rfl
  have k4 : (1 + c.2 == 4) = decide (1 + c.2 = 4) := rfl
  have k6 : (1 + c.2 == 6) = decide (1 + c.2 = 6) := rfl
  by_cases h1 : 1 + c.2 = 1
  · simp only [if_pos h1]
    have h1d : decide (1 + c.2 = 1) = true := decide_eq_true h1
    obtain ⟨e5, p5, c5⟩ := belowF_ok l p.1 31 hl ep
    generalize belowF l p.1 31 = o at *
    have g5 := p5.2 (by decide)
    have w5 : IntKind.i64.wrap (1 + o.2) = 1 + o.2 := wrap64 _ (by omega) (by omega)
    have c6 := slotW_ok l o.1 hl e5
    obtain ⟨e6, _⟩ := slotF_ok l o.1 hl e5
    generalize slotF l o.1 = s1 at *
    have c7 := slotW_ok l s1.1 hl e6
    generalize slotF l s1.1 = s2 at *
    have hC1 := cx [.io] (c1)
    have hC2 := cx [.io] (c2)
    have hC3 := cx [.io] (c3)
    have hC4 := cx [.io] (dp)
    have hC5 := cx [.io] (c5)
    have hC6 := cx [.io] (c6)
    have hC7 := cx [.io] (c7)
    have fy := And.intro w1 (And.intro w2 (And.intro w3 (And.intro w4 (And.intro bp (And.intro k1 (And.intro k4 (And.intro k6 (And.intro h1d (w5)))))))))
    have hD1 := dx 19 [5, 3, 1, 1, 1, 2] [(1, 1), (1, 2), (1, 3), (1, 4)]
    refine goR ?_ ?_ ?_ ?_ ?_ ?_ ?_ ?_ ?_ ?_ ?_ ?_ ?_ ?_ ?_ ?_
    any_goals (first | exact True.intro | skip)
    all_goals (repeat (refine Wh.mk fun hcc => ?_))
    all_goals exact SW.ret (show RetQ _ _ _ _ _ _ _ from RetQ.y [0] [.nd [.int .i64 (5 + a.2), .int .i64 (1 + b.2), .int .i64 p.2, .int .i64 (1 + c.2), .int .i64 (1 + o.2), .nd [.bool s1.2.1, .nd [.int .i64 s1.2.2.1.1, .ow 1 (s1.2.2.1.2.1.map Enc.o), .ow 1 (s1.2.2.1.2.2.1.map Enc.o)]], .nd [.bool s2.2.1, .nd [.int .i64 s2.2.2.1.1, .ow 1 (s2.2.2.1.2.1.map Enc.o), .ow 1 (s2.2.2.1.2.2.1.map Enc.o)]], .int .i64 0, .ow 3 []]])
  simp only [if_neg h1]
  have h1d : decide (1 + c.2 = 1) = false := decide_eq_false h1
  by_cases h4 : 1 + c.2 = 4
  · simp only [if_pos h4]
    have h4d : decide (1 + c.2 = 4) = true := decide_eq_true h4
    obtain ⟨e5, p5, c5⟩ := belowF_ok l p.1 31 hl ep
    generalize belowF l p.1 31 = o at *
    have g5 := p5.2 (by decide)
    have w5 : IntKind.i64.wrap (1 + o.2) = 1 + o.2 := wrap64 _ (by omega) (by omega)
    have c6 := slotW_ok l o.1 hl e5
    obtain ⟨e6, _⟩ := slotF_ok l o.1 hl e5
    generalize slotF l o.1 = s2 at *
    obtain ⟨ev, qv, dv'⟩ := intF_ok l s2.1 [0, 1, 5 + a.2 - 1] hl e6 (by simp) (by simp)
    have dv : CallR Try.prog 92 [.io (.nd [.sl .s (l.map Enc.b), .int .i64 (s2.1.1 : Nat), .int .i64 s2.1.2]), .sl .b [.int .i64 0, .int .i64 1, .int .i64 (5 + a.2 - 1)]] [.nd [.sl .s (l.map Enc.b), .int .i64 (((intF l s2.1 [0, 1, 5 + a.2 - 1]).1).1 : Nat), .int .i64 ((intF l s2.1 [0, 1, 5 + a.2 - 1]).1).2]] (.int .i64 (intF l s2.1 [0, 1, 5 + a.2 - 1]).2) := dv'
    clear dv'
    generalize intF l s2.1 [0, 1, 5 + a.2 - 1] = v at *
    have bv := fun own => buildN (Y := Y) (own := own) (t := 34) (n := 3) (ps := [(0, .int .i64 0), (1, .int .i64 1), (2, .int .i64 (5 + a.2 - 1))]) (r := [.int .i64 0, .int .i64 1, .int .i64 (5 + a.2 - 1)]) Y34 Y3 rfl (by decide) rfl
    unfold slot0'
    have hC1 := cx [.io] (c1)
    have hC2 := cx [.io] (c2)
    have hC3 := cx [.io] (c3)
    have hC4 := cx [.io] (dp)
    have hC5 := cx [.io] (c5)
    have hC6 := cx [.io] (c6)
    have hC7 := cx [.io] (dv)
    have fy := And.intro w1 (And.intro w2 (And.intro w3 (And.intro w4 (And.intro bp (And.intro k1 (And.intro k4 (And.intro k6 (And.intro h1d (And.intro h4d (And.intro w5 (bv)))))))))))
    have hD1 := dx 19 [5, 3, 1, 1, 1, 2] [(1, 1), (1, 2), (1, 3), (1, 4)]
    refine goR ?_ ?_ ?_ ?_ ?_ ?_ ?_ ?_ ?_ ?_ ?_ ?_ ?_ ?_ ?_ ?_
    any_goals (first | exact True.intro | skip)
    all_goals (repeat (refine Wh.mk fun hcc => ?_))
    all_goals exact SW.ret (show RetQ _ _ _ _ _ _ _ from RetQ.y [0] [.nd [.int .i64 (5 + a.2), .int .i64 (1 + b.2), .int .i64 p.2, .int .i64 (1 + c.2), .int .i64 (1 + o.2), .nd [.bool false, .nd [.int .i64 0, .ow 1 [], .ow 1 []]], .nd [.bool s2.2.1, .nd [.int .i64 s2.2.2.1.1, .ow 1 (s2.2.2.1.2.1.map Enc.o), .ow 1 (s2.2.2.1.2.2.1.map Enc.o)]], .int .i64 v.2, .ow 3 []]])
  simp only [if_neg h4]
  have h4d : decide (1 + c.2 = 4) = false := decide_eq_false h4
  by_cases h6 : 1 + c.2 = 6
  rotate_left
  · simp only [if_neg h6]
    have h6d : decide (1 + c.2 = 6) = false := decide_eq_false h6
    unfold slot0'
    have hC1 := cx [.io] (c1)
    have hC2 := cx [.io] (c2)
    have hC3 := cx [.io] (c3)
    have hC4 := cx [.io] (dp)
    have fy := And.intro w1 (And.intro w2 (And.intro w3 (And.intro w4 (And.intro bp (And.intro k1 (And.intro k4 (And.intro k6 (And.intro h1d (And.intro h4d (h6d))))))))))
    have hD1 := dx 19 [5, 3, 1, 1, 1, 2] [(1, 1), (1, 2), (1, 3), (1, 4)]
    refine goR ?_ ?_ ?_ ?_ ?_ ?_ ?_ ?_ ?_ ?_ ?_ ?_ ?_ ?_ ?_ ?_
    any_goals (first | exact True.intro | skip)
    all_goals (repeat (refine Wh.mk fun hcc => ?_))
    all_goals exact SW.ret (show RetQ _ _ _ _ _ _ _ from RetQ.y [0] [.nd [.int .i64 (5 + a.2), .int .i64 (1 + b.2), .int .i64 p.2, .int .i64 (1 + c.2), .int .i64 0, .nd [.bool false, .nd [.int .i64 0, .ow 1 [], .ow 1 []]], .nd [.bool false, .nd [.int .i64 0, .ow 1 [], .ow 1 []]], .int .i64 0, .ow 3 []]])
  · simp only [if_pos h6]
    have h6d : decide (1 + c.2 = 6) = true := decide_eq_true h6
    unfold slot0'
    obtain ⟨f1, f2⟩ := lvF_ok l hl 4 1 p.1 [] ep
    generalize hT0 : lvF l 4 1 p.1 [] = T0 at *
    have hC1 := cx [.io] (c1)
    have hC2 := cx [.io] (c2)
    have hC3 := cx [.io] (c3)
    have hC4 := cx [.io] (dp)
    have fy := And.intro w1 (And.intro w2 (And.intro w3 (And.intro w4 (And.intro bp (And.intro k1 (And.intro k4 (And.intro k6 (And.intro h1d (And.intro h4d (h6d))))))))))
    have hD1 := dx 19 [5, 3, 1, 1, 1, 2] [(1, 1), (1, 2), (1, 3), (1, 4)]
    refine goR ?_ ?_ ?_ ?_ ?_ ?_ ?_ ?_ ?_ ?_ ?_ ?_ ?_ ?_ ?_ ?_
    any_goals (first | exact True.intro | skip)
    all_goals (repeat (refine Wh.mk fun hcc => ?_))
    refine SW.loop (fun x : Nat × Int × CS × List LiveT => ⟨[.ptr 0 0 [] 0, .undef, .ptr 1 0 [] 0, .ptr 2 0 [] 0, .int .i64 x.2.1, .undef, .undef, .undef, .undef, .undef, .undef, .undef, .undef, .undef, .undef, .undef, .undef, .undef, .undef, .undef, .undef, .undef, .undef, .undef, .undef, .undef, .undef, .undef, .undef, .undef, .undef, .undef, .undef, .undef, .undef, .undef, .undef, .undef, .undef, .undef, .undef, .undef, .undef, .undef, .undef, .undef, .undef, .undef, .undef, .undef, .undef, .undef, .undef, .undef, .undef, .undef, .undef, .undef, .undef, .undef, .undef, .undef, .undef, .undef, .undef, .undef, .undef, .undef, .undef, .undef, .undef, .undef, .undef, .undef, .undef], [[.var (.nd [.sl .s (l.map Enc.b), .int .i64 (x.2.2.1.1 : Nat), .int .i64 x.2.2.1.2])], [.var (.nd [.int .i64 0, .int .i64 0, .int .i64 0, .int .i64 0, .int .i64 0, .nd [.bool false, .nd [.int .i64 0, .nils 1, .nils 1]], .nd [.bool false, .nd [.int .i64 0, .nils 1, .nils 1]], .int .i64 0, .nils 3])], [.var (.nd [.int .i64 (5 + a.2), .int .i64 0, .int .i64 0, .int .i64 (1 + c.2), .int .i64 0, .nd [.bool false, .nd [.int .i64 0, .nils 1, .nils 1]], .nd [.bool false, .nd [.int .i64 0, .nils 1, .nils 1]], .int .i64 0, .ref 3 0 0 x.2.2.2.length])], [.arr 3 (x.2.2.2.map Enc.o) false]]⟩)
      (fun N x => N = x.1 ∧ x.2.1 + x.1 = 5 ∧ x.1 ≤ 4 ∧ x.2.2.1.1 ≤ l.length ∧ x.2.2.2.length + x.1 ≤ 4 ∧ lvF l x.1 x.2.1 x.2.2.1 x.2.2.2 = T0) (n := 4) (x := (4, 1, p.1, [])) ?_ ⟨rfl, by simp, by simp, ep, by simp, hT0⟩ ?_
    · skip
      refine Norm.trans (Norm.forget (u := .nd [.int .i64 (5 + a.2), .int .i64 0, .int .i64 0, .int .i64 (1 + c.2), .int .i64 0, .nd [.bool false, .nd [.int .i64 0, .nils 1, .nils 1]], .nd [.bool false, .nd [.int .i64 0, .nils 1, .nils 1]], .int .i64 0, .ow 3 []]) 5 0 rfl (.inr ⟨_, rfl, ⟨_, _, rfl, rfl, ⟨_, _, rfl, rfl, ⟨_, _, rfl, rfl, ⟨_, _, rfl, rfl, ⟨_, _, rfl, rfl, ⟨_, _, rfl, .inl rfl, ⟨_, _, rfl, .inl rfl, ⟨_, _, rfl, rfl, ⟨_, _, rfl, .inr (.inr rfl), rfl⟩⟩⟩⟩⟩⟩⟩⟩⟩⟩)) ?_
      simp only [Heap.put, List.getElem?_cons_zero, List.getElem?_cons_succ, List.set_cons_succ, List.set_cons_zero]
      refine Norm.trans (Norm.expelVar 5 0 rfl) ?_
      simp only [Heap.put, List.getElem?_cons_zero, List.getElem?_cons_succ, List.set_cons_succ, List.set_cons_zero, thawA, thawAL, List.length_cons, List.length_nil, Nat.reduceAdd, List.nil_append, List.append_nil, List.cons_append, Nat.zero_add]
      exact Norm.re [0, 1, 5, 8] (by decide) rfl (by first | (simp only [eq_self, heapFits, rowFits, obFits, List.getElem?_cons_zero, List.getElem?_cons_succ, renL_o, renL_b, true_and, and_true, and_self]; done) | simp [-List.map_append, heapFits, rowFits, obFits, T.ren, renL]) (by simp [tmFits, T.ren])
    clear hT0
    rintro N ⟨r, i, s', acc⟩ ⟨hN, hi5, hr4, hs, hal, hT⟩
    simp only at hN hi5 hr4 hs hal hT ⊢
    have fy := Nat.add_zero
    refine goS ?_
    refine SW.cond rfl (fun hc => ?_) (fun hc => ?_)
    · have hpos : 0 < r := by simp at hc; omega
      obtain ⟨r, rfl⟩ : ∃ r', r = r' + 1 := ⟨r - 1, by omega⟩
      simp only [lvF] at hT
      obtain ⟨g6, d6⟩ := onceF_ok l s' 2 hl hs
      generalize onceF l s' 2 = o at *
      obtain ⟨so, bo⟩ := o
      simp only at g6 d6 hT
      have hwi : IntKind.i64.wrap (i + 1) = i + 1 := wrap64 _ (by omega) (by omega)
      cases bo
      · simp only [Bool.false_eq_true, if_false] at hT
        have hC1 := cx [.io] (d6)
        have fy := hwi
        have hD1 := dx 19 [5, 3, 1, 1, 1, 2] [(1, 1), (1, 2), (1, 3), (1, 4)]
        refine goR ?_ ?_ ?_ ?_ ?_ ?_ ?_ ?_ ?_ ?_ ?_ ?_ ?_ ?_ ?_ ?_
        any_goals (first | exact True.intro | skip)
        all_goals (repeat (refine Wh.mk fun hcc => ?_))
        refine ⟨N - 1, (r, i + 1, so, acc), by omega, ⟨by simp only; omega, by simp only; omega, by simp only; omega, g6, by simp only; omega, hT⟩, ?_⟩
        exact Norm.re [0, 1, 2, 3] (by decide) rfl (by first | (simp only [eq_self, heapFits, rowFits, obFits, List.getElem?_cons_zero, List.getElem?_cons_succ, renL_o, renL_b, true_and, and_true, and_self]; done) | simp [-List.map_append, heapFits, rowFits, obFits, T.ren, renL]) (by simp [tmFits, T.ren])
      · simp only [if_true] at hT
        obtain ⟨g7, r7, d7⟩ := belowF_ok l so 4 hl g6
        generalize belowF l so 4 = m at *
        have g7' := r7.2 (by decide)
        obtain ⟨g8, d8⟩ := onceF_ok l m.1 2 hl g7
        generalize onceF l m.1 2 = o2 at *
        have hwm : IntKind.i64.wrap (1 + m.2) = 1 + m.2 := wrap64 _ (by omega) (by omega)
        have hap := fun (own e j e2 j2 : Nat) (H : Heap) (q1 : H.at e j = some (.arr 3 ((acc).map Enc.o) false)) (q2 : H.at e2 j2 = some (.arr 3 [.nd [.int .i64 (((((i, 1 + m.2, o2.2, ()) : LiveT))).1), .int .i64 (((((i, 1 + m.2, o2.2, ()) : LiveT))).2.1), .bool (((((i, 1 + m.2, o2.2, ()) : LiveT))).2.2.1)]] false)) => append_runP (Y := Y) (own := own) (t := 39) (u := 39) (e := e) (j := j) (off := 0) (n := (acc).length) (e2 := e2) (j2 := j2) (f := (acc).map Enc.o) (l := acc) (x := ((i, 1 + m.2, o2.2, ()) : LiveT)) (H := H) Y39 Y39 Y91 rfl (by decide) q1 q2 (by rw [List.drop_zero]; exact take_map_len _ _) (by simp) (by omega) rfl rfl
        have hC1 := cx [.io] (d6)
        have hC2 := cx [.io] (d7)
        have hC3 := cx [.io] (d8)
        have fy := And.intro hwi (And.intro hwm (And.intro bs1_39 (hap)))
        have hD1 := dx 19 [5, 3, 1, 1, 1, 2] [(1, 1), (1, 2), (1, 3), (1, 4)]
        refine goR ?_ ?_ ?_ ?_ ?_ ?_ ?_ ?_ ?_ ?_ ?_ ?_ ?_ ?_ ?_ ?_
        any_goals (first | exact True.intro | skip)
        all_goals (repeat (refine Wh.mk fun hcc => ?_))
        refine ⟨N - 1, (r, i + 1, o2.1, acc ++ [(i, 1 + m.2, o2.2, ())]), by omega, ⟨by simp only; omega, by simp only; omega, by simp only; omega, g8, by simp only [List.length_append, List.length_cons, List.length_nil]; omega, hT⟩, ?_⟩
        exact Norm.re [0, 1, 2, 8] (by decide) rfl (by first | (simp only [eq_self, heapFits, rowFits, obFits, List.getElem?_cons_zero, List.getElem?_cons_succ, renL_o, renL_b, true_and, and_true, and_self]; done) | simp [-List.map_append, heapFits, rowFits, obFits, T.ren, renL]) (by simp [tmFits, T.ren])
    · have hr0 : r = 0 := by
        have : ¬ 0 < r := by simp at hc; omega
        omega
      subst hr0
      simp only [lvF] at hT
      subst hT
      have fy := Nat.add_zero
      have hD1 := dx 19 [5, 3, 1, 1, 1, 2] [(1, 1), (1, 2), (1, 3), (1, 4)]
      refine goR ?_ ?_ ?_ ?_ ?_ ?_ ?_ ?_ ?_ ?_ ?_ ?_ ?_ ?_ ?_ ?_
      any_goals (first | exact True.intro | skip)
      all_goals (repeat (refine Wh.mk fun hcc => ?_))
      all_goals exact SW.ret (show RetQ _ _ _ _ _ _ _ from RetQ.y [0] [.nd [.int .i64 (5 + a.2), .int .i64 0, .int .i64 0, .int .i64 (1 + c.2), .int .i64 0, .nd [.bool false, .nd [.int .i64 0, .ow 1 [], .ow 1 []]], .nd [.bool false, .nd [.int .i64 0, .ow 1 [], .ow 1 []]], .int .i64 0, .ow 3 (acc.map Enc.o)]])
end Q6

namespace Q6
open Go Go.Vm Go.Proofs
set_option maxHeartbeats 4000000
set_option synthInstance.maxSize 2000
set_option synthInstance.maxHeartbeats 400000
set_option maxRecDepth 10000
set_option linter.unusedSimpArgs false
set_option linter.unusedVariables false

open Go.By

theorem objBendD (l : List UInt8) (s : CS) (hl : l.length ≤ 1048576) (hi : s.1 ≤ l.length) (x : (Int × (List Int) × (List Int) × Unit)) (h1 : x.2.1.length ≤ 5) (h2 : x.2.2.1.length ≤ 5) : ∃ (s' : CS) (y : (Int × (List Int) × (List Int) × Unit)), s'.1 ≤ l.length ∧ (y.2.1.length ≤ 6 ∧ y.2.2.1.length ≤ 6) ∧ CallR Try.prog 146 [.io (.nd [.sl .s (l.map Enc.b), .int .i64 (s.1 : Nat), .int .i64 s.2]), .nd [.int .i64 x.1, .sl .b (x.2.1.map Enc.b), .sl .b (x.2.2.1.map Enc.b)]] [.nd [.sl .s (l.map Enc.b), .int .i64 (s'.1 : Nat), .int .i64 s'.2]] (.nd [.int .i64 y.1, .ow 1 (y.2.1.map Enc.o), .ow 1 (y.2.2.1.map Enc.o)]) := by
  obtain ⟨e1, p1, c1⟩ := belowF_ok l s 5 hl hi
  generalize belowF l s 5 = b at *
  obtain ⟨s1, k⟩ := b
  simp only at e1 p1 c1
  have p2 := p1.2 (by decide)
  have c0 := l2Copy_ok x (by omega) (by omega)
  obtain ⟨kd, A, B, ⟨⟩⟩ := x
  simp only at c0 h1 h2
  obtain rfl | rfl | rfl | rfl | rfl : k = 0 ∨ k = 1 ∨ k = 2 ∨ k = 3 ∨ k = 4 := by omega
  · obtain ⟨ev, qv, dv'⟩ := intF_ok l s1 [0, 99, 100, -1] hl e1 (by simp) (by simp)
    have dv : CallR Try.prog 92 [.io (.nd [.sl .s (l.map Enc.b), .int .i64 (s1.1 : Nat), .int .i64 s1.2]), .sl .b [.int .i64 0, .int .i64 99, .int .i64 100, .int .i64 (-1)]] [.nd [.sl .s (l.map Enc.b), .int .i64 (((intF l s1 [0, 99, 100, -1]).1).1 : Nat), .int .i64 ((intF l s1 [0, 99, 100, -1]).1).2]] (.int .i64 (intF l s1 [0, 99, 100, -1]).2) := dv'
    clear dv'
    generalize intF l s1 [0, 99, 100, -1] = v at *
    have bv := fun own => buildN (Y := Y) (own := own) (t := 34) (n := 4) (ps := [(0, .int .i64 0), (1, .int .i64 99), (2, .int .i64 100), (3, .int .i64 (-1))]) (r := [.int .i64 0, .int .i64 99, .int .i64 100, .int .i64 (-1)]) Y34 Y3 rfl (by decide) rfl
    refine ⟨v.1, (v.2, A, B, ()), ev, ⟨by simp only; omega, by simp only; omega⟩, ?_⟩
    refine CallR.of_body (n := 43) (rs := [.cell 4 36]) hY.ok Try.func146 rfl (by decide) rfl rfl rfl rfl (fun F => ?_)
    have fx := And.intro Y1 (And.intro Y2 (And.intro Y3 (And.intro Y4 (And.intro Y34 (And.intro Y36 (Y87))))))
    have hC1 := cx [] (c0)
    have hC2 := cx [.io] (c1)
    have hC3 := cx [.io] (dv)
    have fy := bv
    have hD1 := dx 6 [4, 1, 1, 1, 2] [(1, 1), (1, 2), (1, 3)]
    have hD2 := dx 8 [4, 1, 1, 1, 2] [(1, 1), (1, 2), (1, 3)]
    refine goR ?_ ?_ ?_ ?_ ?_ ?_ ?_ ?_ ?_ ?_ ?_ ?_ ?_ ?_ ?_ ?_
    any_goals (first | exact True.intro | skip)
    all_goals (repeat (refine Wh.mk fun hcc => ?_))
    all_goals exact SW.ret (show RetQ _ _ _ _ _ _ _ from RetQ.y [0] [.nd [.int .i64 v.2, .ow 1 (A.map Enc.o), .ow 1 (B.map Enc.o)]])
  · obtain ⟨ev, qv, dv'⟩ := intF_ok l s1 [1000001, -1000001, 5] hl e1 (by simp) (by simp)
    have dv : CallR Try.prog 92 [.io (.nd [.sl .s (l.map Enc.b), .int .i64 (s1.1 : Nat), .int .i64 s1.2]), .sl .b [.int .i64 1000001, .int .i64 (-1000001), .int .i64 5]] [.nd [.sl .s (l.map Enc.b), .int .i64 (((intF l s1 [1000001, -1000001, 5]).1).1 : Nat), .int .i64 ((intF l s1 [1000001, -1000001, 5]).1).2]] (.int .i64 (intF l s1 [1000001, -1000001, 5]).2) := dv'
    clear dv'
    generalize intF l s1 [1000001, -1000001, 5] = v at *
    have bv := fun own => buildN (Y := Y) (own := own) (t := 34) (n := 3) (ps := [(0, .int .i64 1000001), (1, .int .i64 (-1000001)), (2, .int .i64 5)]) (r := [.int .i64 1000001, .int .i64 (-1000001), .int .i64 5]) Y34 Y3 rfl (by decide) rfl
    have hap := fun (own e j e2 j2 : Nat) (H : Heap) (q1 : H.at e j = some (.arr 1 ((A).map Enc.o) false)) (q2 : H.at e2 j2 = some (.arr 1 [.int .i64 v.2] false)) => append_runP (Y := Y) (own := own) (t := 34) (u := 34) (e := e) (j := j) (off := 0) (n := (A).length) (e2 := e2) (j2 := j2) (f := (A).map Enc.o) (l := A) (x := v.2) (H := H) Y34 Y34 Y3 rfl (by decide) q1 q2 (by rw [List.drop_zero]; exact take_map_len _ _) (by simp) (by omega) rfl rfl
    refine ⟨v.1, (kd, A ++ [v.2], B, ()), ev, ⟨by simp; omega, by simp; omega⟩, ?_⟩
    refine CallR.of_body (n := 43) (rs := [.cell 4 36]) hY.ok Try.func146 rfl (by decide) rfl rfl rfl rfl (fun F => ?_)
    have fx := And.intro Y1 (And.intro Y2 (And.intro Y3 (And.intro Y4 (And.intro Y34 (And.intro Y36 (Y87))))))
    have hC1 := cx [] (c0)
    have hC2 := cx [.io] (c1)
    have hC3 := cx [.io] (dv)
    have fy := And.intro bv (And.intro bs1_34 (hap))
    have hD1 := dx 6 [4, 1, 1, 1, 2] [(1, 1), (1, 2), (1, 3)]
    have hD2 := dx 8 [4, 1, 1, 1, 2] [(1, 1), (1, 2), (1, 3)]
    refine goR ?_ ?_ ?_ ?_ ?_ ?_ ?_ ?_ ?_ ?_ ?_ ?_ ?_ ?_ ?_ ?_
    any_goals (first | exact True.intro | skip)
    all_goals (repeat (refine Wh.mk fun hcc => ?_))
    all_goals exact SW.ret (show RetQ _ _ _ _ _ _ _ from RetQ.y [0] [.nd [.int .i64 kd, .ow 1 ((A ++ [v.2]).map Enc.o), .ow 1 (B.map Enc.o)]])
  · obtain ⟨ev, qv, dv'⟩ := intF_ok l s1 [32, -1, 5] hl e1 (by simp) (by simp)
    have dv : CallR Try.prog 92 [.io (.nd [.sl .s (l.map Enc.b), .int .i64 (s1.1 : Nat), .int .i64 s1.2]), .sl .b [.int .i64 32, .int .i64 (-1), .int .i64 5]] [.nd [.sl .s (l.map Enc.b), .int .i64 (((intF l s1 [32, -1, 5]).1).1 : Nat), .int .i64 ((intF l s1 [32, -1, 5]).1).2]] (.int .i64 (intF l s1 [32, -1, 5]).2) := dv'
    clear dv'
    generalize intF l s1 [32, -1, 5] = v at *
    have bv := fun own => buildN (Y := Y) (own := own) (t := 34) (n := 3) (ps := [(0, .int .i64 32), (1, .int .i64 (-1)), (2, .int .i64 5)]) (r := [.int .i64 32, .int .i64 (-1), .int .i64 5]) Y34 Y3 rfl (by decide) rfl
    have hap := fun (own e j e2 j2 : Nat) (H : Heap) (q1 : H.at e j = some (.arr 1 ((B).map Enc.o) false)) (q2 : H.at e2 j2 = some (.arr 1 [.int .i64 v.2] false)) => append_runP (Y := Y) (own := own) (t := 34) (u := 34) (e := e) (j := j) (off := 0) (n := (B).length) (e2 := e2) (j2 := j2) (f := (B).map Enc.o) (l := B) (x := v.2) (H := H) Y34 Y34 Y3 rfl (by decide) q1 q2 (by rw [List.drop_zero]; exact take_map_len _ _) (by simp) (by omega) rfl rfl
    refine ⟨v.1, (kd, A, B ++ [v.2], ()), ev, ⟨by simp; omega, by simp; omega⟩, ?_⟩
    refine CallR.of_body (n := 43) (rs := [.cell 4 36]) hY.ok Try.func146 rfl (by decide) rfl rfl rfl rfl (fun F => ?_)
    have fx := And.intro Y1 (And.intro Y2 (And.intro Y3 (And.intro Y4 (And.intro Y34 (And.intro Y36 (Y87))))))
    have hC1 := cx [] (c0)
    have hC2 := cx [.io] (c1)
    have hC3 := cx [.io] (dv)
    have fy := And.intro bv (And.intro bs1_34 (hap))
    have hD1 := dx 6 [4, 1, 1, 1, 2] [(1, 1), (1, 2), (1, 3)]
    have hD2 := dx 8 [4, 1, 1, 1, 2] [(1, 1), (1, 2), (1, 3)]
    refine goR ?_ ?_ ?_ ?_ ?_ ?_ ?_ ?_ ?_ ?_ ?_ ?_ ?_ ?_ ?_ ?_
    any_goals (first | exact True.intro | skip)
    all_goals (repeat (refine Wh.mk fun hcc => ?_))
    all_goals exact SW.ret (show RetQ _ _ _ _ _ _ _ from RetQ.y [0] [.nd [.int .i64 kd, .ow 1 (A.map Enc.o), .ow 1 ((B ++ [v.2]).map Enc.o)]])
  · obtain ⟨e2, p3, c2⟩ := belowF_ok l s1 2 hl e1
    generalize belowF l s1 2 = z at *
    obtain ⟨s2, r⟩ := z
    simp only at e2 p3 c2
    have p4 := p3.2 (by decide)
    obtain rfl | rfl : r = 0 ∨ r = 1 := by omega
    · have hmk : ∀ own, makeSliceM Y own 34 (.int .i64 5) (.int .i64 5) = .pure { v := .ref own 0 0 5, news := [.arr 1 [.int .i64 0, .int .i64 0, .int .i64 0, .int .i64 0, .int .i64 0] false] } := fun own => by simp [makeSliceM, Y34, Y3, zeroT, List.replicate, Ty.isFn]
      have hw : IntKind.i64.wrap (5 + 0) = 5 := by decide
      refine ⟨s2, (kd, [0, 0, 0, 0, 0], B, ()), e2, ⟨by simp, by simp only; omega⟩, ?_⟩
      refine CallR.of_body (n := 43) (rs := [.cell 4 36]) hY.ok Try.func146 rfl (by decide) rfl rfl rfl rfl (fun F => ?_)
      have fx := And.intro Y1 (And.intro Y2 (And.intro Y3 (And.intro Y4 (And.intro Y34 (And.intro Y36 (Y87))))))
      have hC1 := cx [] (c0)
      have hC2 := cx [.io] (c1)
      have hC3 := cx [.io] (c2)
      have fy := And.intro hw (hmk)
      have hD1 := dx 6 [4, 1, 1, 1, 2] [(1, 1), (1, 2), (1, 3)]
      have hD2 := dx 8 [4, 1, 1, 1, 2] [(1, 1), (1, 2), (1, 3)]
      refine goR ?_ ?_ ?_ ?_ ?_ ?_ ?_ ?_ ?_ ?_ ?_ ?_ ?_ ?_ ?_ ?_
      any_goals (first | exact True.intro | skip)
      all_goals (repeat (refine Wh.mk fun hcc => ?_))
      all_goals exact SW.ret (show RetQ _ _ _ _ _ _ _ from RetQ.y [0] [.nd [.int .i64 kd, .ow 1 [.int .i64 0, .int .i64 0, .int .i64 0, .int .i64 0, .int .i64 0], .ow 1 (B.map Enc.o)]])
    · have hmk : ∀ own, makeSliceM Y own 34 (.int .i64 6) (.int .i64 6) = .pure { v := .ref own 0 0 6, news := [.arr 1 [.int .i64 0, .int .i64 0, .int .i64 0, .int .i64 0, .int .i64 0, .int .i64 0] false] } := fun own => by simp [makeSliceM, Y34, Y3, zeroT, List.replicate, Ty.isFn]
      have hw : IntKind.i64.wrap (5 + 1) = 6 := by decide
      refine ⟨s2, (kd, [0, 0, 0, 0, 0, 0], B, ()), e2, ⟨by simp, by simp only; omega⟩, ?_⟩
      refine CallR.of_body (n := 43) (rs := [.cell 4 36]) hY.ok Try.func146 rfl (by decide) rfl rfl rfl rfl (fun F => ?_)
      have fx := And.intro Y1 (And.intro Y2 (And.intro Y3 (And.intro Y4 (And.intro Y34 (And.intro Y36 (Y87))))))
      have hC1 := cx [] (c0)
      have hC2 := cx [.io] (c1)
      have hC3 := cx [.io] (c2)
      have fy := And.intro hw (hmk)
      have hD1 := dx 6 [4, 1, 1, 1, 2] [(1, 1), (1, 2), (1, 3)]
      have hD2 := dx 8 [4, 1, 1, 1, 2] [(1, 1), (1, 2), (1, 3)]
      refine goR ?_ ?_ ?_ ?_ ?_ ?_ ?_ ?_ ?_ ?_ ?_ ?_ ?_ ?_ ?_ ?_
      any_goals (first | exact True.intro | skip)
      all_goals (repeat (refine Wh.mk fun hcc => ?_))
      all_goals exact SW.ret (show RetQ _ _ _ _ _ _ _ from RetQ.y [0] [.nd [.int .i64 kd, .ow 1 [.int .i64 0, .int .i64 0, .int .i64 0, .int .i64 0, .int .i64 0, .int .i64 0], .ow 1 (B.map Enc.o)]])
  · refine ⟨s1, (kd, A, B, ()), e1, ⟨by simp only; omega, by simp only; omega⟩, ?_⟩
    refine CallR.of_body (n := 43) (rs := [.cell 4 36]) hY.ok Try.func146 rfl (by decide) rfl rfl rfl rfl (fun F => ?_)
    have fx := And.intro Y1 (And.intro Y2 (And.intro Y3 (And.intro Y4 (And.intro Y34 (And.intro Y36 (Y87))))))
    have hC1 := cx [] (c0)
    have hC2 := cx [.io] (c1)
    have fy := Nat.add_zero
    have hD1 := dx 6 [4, 1, 1, 1, 2] [(1, 1), (1, 2), (1, 3)]
    have hD2 := dx 8 [4, 1, 1, 1, 2] [(1, 1), (1, 2), (1, 3)]
    refine goR ?_ ?_ ?_ ?_ ?_ ?_ ?_ ?_ ?_ ?_ ?_ ?_ ?_ ?_ ?_ ?_
    any_goals (first | exact True.intro | skip)
    all_goals (repeat (refine Wh.mk fun hcc => ?_))
    all_goals exact SW.ret (show RetQ _ _ _ _ _ _ _ from RetQ.y [0] [.nd [.int .i64 kd, .ow 1 (A.map Enc.o), .ow 1 (B.map Enc.o)]])
end Q6

namespace Q6
open Go Go.Vm Go.Proofs
set_option maxHeartbeats 4000000
set_option synthInstance.maxSize 2000
set_option synthInstance.maxHeartbeats 400000
set_option maxRecDepth 10000
set_option linter.unusedSimpArgs false
set_option linter.unusedVariables false

open Go.By

def slL (x : SlotT) (n : Nat) : Prop := x.2.1.2.1.length ≤ n ∧ x.2.1.2.2.1.length ≤ n
def pgL (p : PageT) (n : Nat) : Prop := slL p.2.1.1 n ∧ slL p.2.1.2.1 n ∧ slL p.2.1.2.2.1 n ∧ slL p.2.1.2.2.2.1 n
theorem slL_up {x : SlotT} {n m : Nat} (h : slL x n) (hm : n ≤ m) : slL x m := ⟨Nat.le_trans h.1 hm, Nat.le_trans h.2 hm⟩
theorem pgL_up {p : PageT} {n m : Nat} (h : pgL p n) (hm : n ≤ m) : pgL p m := ⟨slL_up h.1 hm, slL_up h.2.1 hm, slL_up h.2.2.1 hm, slL_up h.2.2.2 hm⟩
theorem slL_lim {x : SlotT} {n : Nat} (h : slL x n) (hn : n ≤ 1048576) : Enc.lim 1048576 x := ⟨trivial, ⟨trivial, ⟨Nat.le_trans h.1 hn, fun _ _ => trivial⟩, ⟨Nat.le_trans h.2 hn, fun _ _ => trivial⟩, trivial⟩, trivial⟩
theorem pgL_lim {p : PageT} {n : Nat} (h : pgL p n) (hn : n ≤ 1048576) : Enc.lim 1048576 p := ⟨trivial, ⟨slL_lim h.1 hn, slL_lim h.2.1 hn, slL_lim h.2.2.1 hn, slL_lim h.2.2.2 hn, trivial⟩, trivial⟩
theorem slotD (l : List UInt8) (s : CS) (hl : l.length ≤ 1048576) (hi : s.1 ≤ l.length) : ∃ (s' : CS) (x : SlotT), s'.1 ≤ l.length ∧ slL x 5 ∧ CallR Try.prog 90 [.io (.nd [.sl .s (l.map Enc.b), .int .i64 (s.1 : Nat), .int .i64 s.2])] [.nd [.sl .s (l.map Enc.b), .int .i64 (s'.1 : Nat), .int .i64 s'.2]] (.nd [.bool x.1, .nd [.int .i64 x.2.1.1, .ow 1 (x.2.1.2.1.map Enc.o), .ow 1 (x.2.1.2.2.1.map Enc.o)]]) := by
  obtain ⟨e, h⟩ := slotF_ok l s hl hi
  exact ⟨(slotF l s).1, (slotF l s).2, e, slotB_lim h, slotW_ok l s hl hi⟩
theorem pageD (l : List UInt8) (s : CS) (hl : l.length ≤ 1048576) (hi : s.1 ≤ l.length) : ∃ (s' : CS) (p : PageT), s'.1 ≤ l.length ∧ pgL p 5 ∧ CallR Try.prog 144 [.io (.nd [.sl .s (l.map Enc.b), .int .i64 (s.1 : Nat), .int .i64 s.2])] [.nd [.sl .s (l.map Enc.b), .int .i64 (s'.1 : Nat), .int .i64 s'.2]] (.nd [.int .i64 p.1, .nd [.nd [.bool p.2.1.1.1, .nd [.int .i64 p.2.1.1.2.1.1, .ow 1 (p.2.1.1.2.1.2.1.map Enc.o), .ow 1 (p.2.1.1.2.1.2.2.1.map Enc.o)]], .nd [.bool p.2.1.2.1.1, .nd [.int .i64 p.2.1.2.1.2.1.1, .ow 1 (p.2.1.2.1.2.1.2.1.map Enc.o), .ow 1 (p.2.1.2.1.2.1.2.2.1.map Enc.o)]], .nd [.bool p.2.1.2.2.1.1, .nd [.int .i64 p.2.1.2.2.1.2.1.1, .ow 1 (p.2.1.2.2.1.2.1.2.1.map Enc.o), .ow 1 (p.2.1.2.2.1.2.1.2.2.1.map Enc.o)]], .nd [.bool p.2.1.2.2.2.1.1, .nd [.int .i64 p.2.1.2.2.2.1.2.1.1, .ow 1 (p.2.1.2.2.2.1.2.1.2.1.map Enc.o), .ow 1 (p.2.1.2.2.2.1.2.1.2.2.1.map Enc.o)]]]]) := by
  obtain ⟨e, p1, c0⟩ := belowF_ok l s 30 hl hi
  generalize belowF l s 30 = b at *
  obtain ⟨s0, n⟩ := b
  simp only at e p1 c0
  obtain ⟨s1, ⟨p0, ⟨k0, A0, B0, ⟨⟩⟩, ⟨⟩⟩, e1, h1, c1⟩ := slotD l s0 hl e
  simp only at h1 c1
  obtain ⟨s2, ⟨p1, ⟨k1, A1, B1, ⟨⟩⟩, ⟨⟩⟩, e2, h2, c2⟩ := slotD l s1 hl e1
  simp only at h2 c2
  obtain ⟨s3, ⟨p2, ⟨k2, A2, B2, ⟨⟩⟩, ⟨⟩⟩, e3, h3, c3⟩ := slotD l s2 hl e2
  simp only at h3 c3
  obtain ⟨s4, ⟨p3, ⟨k3, A3, B3, ⟨⟩⟩, ⟨⟩⟩, e4, h4, c4⟩ := slotD l s3 hl e3
  simp only at h4 c4
  refine ⟨s4, (n, ((p0, (k0, A0, B0, ()), ()), (p1, (k1, A1, B1, ()), ()), (p2, (k2, A2, B2, ()), ()), (p3, (k3, A3, B3, ()), ()), ()), ()), e4, ⟨h1, h2, h3, h4⟩, ?_⟩
  refine CallR.of_body (n := 18) (rs := [.cell 2 49]) hY.ok Try.func144 rfl (by decide) rfl rfl rfl rfl (fun F => ?_)
  have fx := And.intro Y1 (And.intro Y3 (And.intro Y4 (And.intro Y34 (And.intro Y36 (And.intro Y38 (And.intro Y47 (And.intro Y49 (Y87))))))))
  have hC1 := cx [.io] (c0)
  have hC2 := cx [.io] (c1)
  have hC3 := cx [.io] (c2)
  have hC4 := cx [.io] (c3)
  have hC5 := cx [.io] (c4)
  have fy := And.intro nc4 (And.intro nc8 (And.intro wa (tn)))
  refine goU ?_ ?_ ?_ ?_ ?_ ?_ ?_ ?_ ?_ ?_ ?_ ?_ ?_ ?_ ?_ ?_
  any_goals (first | exact True.intro | skip)
  all_goals (repeat (refine Wh.mk fun hcc => ?_))
  all_goals exact SW.ret (show RetQ _ _ _ _ _ _ _ from RetQ.y [0] [.nd [.int .i64 n, .nd [.nd [.bool p0, .nd [.int .i64 k0, .ow 1 (A0.map Enc.o), .ow 1 (B0.map Enc.o)]], .nd [.bool p1, .nd [.int .i64 k1, .ow 1 (A1.map Enc.o), .ow 1 (B1.map Enc.o)]], .nd [.bool p2, .nd [.int .i64 k2, .ow 1 (A2.map Enc.o), .ow 1 (B2.map Enc.o)]], .nd [.bool p3, .nd [.int .i64 k3, .ow 1 (A3.map Enc.o), .ow 1 (B3.map Enc.o)]]]]])
theorem pageAnyD (l : List UInt8) (s : CS) (hl : l.length ≤ 1048576) (hi : s.1 ≤ l.length) : ∃ (s' : CS) (p : PageT), s'.1 ≤ l.length ∧ pgL p 6 ∧ CallR Try.prog 89 [.io (.nd [.sl .s (l.map Enc.b), .int .i64 (s.1 : Nat), .int .i64 s.2])] [.nd [.sl .s (l.map Enc.b), .int .i64 (s'.1 : Nat), .int .i64 s'.2]] (.nd [.int .i64 p.1, .nd [.nd [.bool p.2.1.1.1, .nd [.int .i64 p.2.1.1.2.1.1, .ow 1 (p.2.1.1.2.1.2.1.map Enc.o), .ow 1 (p.2.1.1.2.1.2.2.1.map Enc.o)]], .nd [.bool p.2.1.2.1.1, .nd [.int .i64 p.2.1.2.1.2.1.1, .ow 1 (p.2.1.2.1.2.1.2.1.map Enc.o), .ow 1 (p.2.1.2.1.2.1.2.2.1.map Enc.o)]], .nd [.bool p.2.1.2.2.1.1, .nd [.int .i64 p.2.1.2.2.1.2.1.1, .ow 1 (p.2.1.2.2.1.2.1.2.1.map Enc.o), .ow 1 (p.2.1.2.2.1.2.1.2.2.1.map Enc.o)]], .nd [.bool p.2.1.2.2.2.1.1, .nd [.int .i64 p.2.1.2.2.2.1.2.1.1, .ow 1 (p.2.1.2.2.2.1.2.1.2.1.map Enc.o), .ow 1 (p.2.1.2.2.2.1.2.1.2.2.1.map Enc.o)]]]]) := by
  obtain ⟨s0, ⟨n, ⟨⟨p0, ⟨k0, A0, B0, ⟨⟩⟩, ⟨⟩⟩, ⟨p1, ⟨k1, A1, B1, ⟨⟩⟩, ⟨⟩⟩, ⟨p2, ⟨k2, A2, B2, ⟨⟩⟩, ⟨⟩⟩, ⟨p3, ⟨k3, A3, B3, ⟨⟩⟩, ⟨⟩⟩, ⟨⟩⟩, ⟨⟩⟩, e0, ⟨h0, h1, h2, h3⟩, c0⟩ := pageD l s hl hi
  simp only at h0 h1 h2 h3 c0
  have g0 := slL_up h0 (m := 6) (by decide)
  have g1 := slL_up h1 (m := 6) (by decide)
  have g2 := slL_up h2 (m := 6) (by decide)
  have g3 := slL_up h3 (m := 6) (by decide)
  obtain ⟨e1, z1, c1⟩ := belowF_ok l s0 4 hl e0
  generalize belowF l s0 4 = b at *
  obtain ⟨s1, k⟩ := b
  simp only at e1 z1 c1
  have z2 := z1.2 (by decide)
  obtain ⟨e2, z3, c2⟩ := belowF_ok l s1 12 hl e1
  generalize belowF l s1 12 = b at *
  obtain ⟨s2, r⟩ := b
  simp only at e2 z3 c2
  have z4 := z3.2 (by decide)
  obtain rfl | rfl | rfl | hr : r = 0 ∨ r = 1 ∨ r = 2 ∨ 3 ≤ r := by omega
  · obtain ⟨ev, qv, dv'⟩ := intF_ok l s2 [-1, 1000000, 1000001] hl e2 (by simp) (by simp)
    have dv : CallR Try.prog 92 [.io (.nd [.sl .s (l.map Enc.b), .int .i64 (s2.1 : Nat), .int .i64 s2.2]), .sl .b [.int .i64 (-1), .int .i64 1000000, .int .i64 1000001]] [.nd [.sl .s (l.map Enc.b), .int .i64 (((intF l s2 [-1, 1000000, 1000001]).1).1 : Nat), .int .i64 ((intF l s2 [-1, 1000000, 1000001]).1).2]] (.int .i64 (intF l s2 [-1, 1000000, 1000001]).2) := dv'
    clear dv'
    generalize intF l s2 [-1, 1000000, 1000001] = v at *
    have bv := fun own => buildN (Y := Y) (own := own) (t := 34) (n := 3) (ps := [(0, .int .i64 (-1)), (1, .int .i64 1000000), (2, .int .i64 1000001)]) (r := [.int .i64 (-1), .int .i64 1000000, .int .i64 1000001]) Y34 Y3 rfl (by decide) rfl
    refine ⟨v.1, (v.2, ((p0, (k0, A0, B0, ()), ()), (p1, (k1, A1, B1, ()), ()), (p2, (k2, A2, B2, ()), ()), (p3, (k3, A3, B3, ()), ()), ()), ()), ev, ⟨g0, g1, g2, g3⟩, ?_⟩
    refine CallR.of_body (n := 43) (rs := [.cell 2 49]) hY.ok Try.func89 rfl (by decide) rfl rfl rfl rfl (fun F => ?_)
    have fx := And.intro Y1 (And.intro Y2 (And.intro Y3 (And.intro Y4 (And.intro Y34 (And.intro Y36 (And.intro Y38 (And.intro Y47 (And.intro Y49 (Y87)))))))))
    have hC1 := cx [.io] (c0)
    have hC2 := cx [.io] (c1)
    have hC3 := cx [.io] (c2)
    have hC4 := cx [.io] (dv)
    have fy := bv
    refine goR ?_ ?_ ?_ ?_ ?_ ?_ ?_ ?_ ?_ ?_ ?_ ?_ ?_ ?_ ?_ ?_
    any_goals (first | exact True.intro | skip)
    all_goals (repeat (refine Wh.mk fun hcc => ?_))
    all_goals exact SW.ret (show RetQ _ _ _ _ _ _ _ from RetQ.y [0] [.nd [.int .i64 v.2, .nd [.nd [.bool p0, .nd [.int .i64 k0, .ow 1 (A0.map Enc.o), .ow 1 (B0.map Enc.o)]], .nd [.bool p1, .nd [.int .i64 k1, .ow 1 (A1.map Enc.o), .ow 1 (B1.map Enc.o)]], .nd [.bool p2, .nd [.int .i64 k2, .ow 1 (A2.map Enc.o), .ow 1 (B2.map Enc.o)]], .nd [.bool p3, .nd [.int .i64 k3, .ow 1 (A3.map Enc.o), .ow 1 (B3.map Enc.o)]]]]])
  · obtain rfl | rfl | rfl | rfl : k = 0 ∨ k = 1 ∨ k = 2 ∨ k = 3 := by omega
    · refine ⟨s2, (n, (((!p0), (k0, A0, B0, ()), ()), (p1, (k1, A1, B1, ()), ()), (p2, (k2, A2, B2, ()), ()), (p3, (k3, A3, B3, ()), ()), ()), ()), e2, ⟨g0, g1, g2, g3⟩, ?_⟩
      refine CallR.of_body (n := 43) (rs := [.cell 2 49]) hY.ok Try.func89 rfl (by decide) rfl rfl rfl rfl (fun F => ?_)
      have fx := And.intro Y1 (And.intro Y2 (And.intro Y3 (And.intro Y4 (And.intro Y34 (And.intro Y36 (And.intro Y38 (And.intro Y47 (And.intro Y49 (Y87)))))))))
      have hC1 := cx [.io] (c0)
      have hC2 := cx [.io] (c1)
      have hC3 := cx [.io] (c2)
      have fy := And.intro nc4 (And.intro nc8 (And.intro wa (tn)))
      refine goR ?_ ?_ ?_ ?_ ?_ ?_ ?_ ?_ ?_ ?_ ?_ ?_ ?_ ?_ ?_ ?_
      any_goals (first | exact True.intro | skip)
      all_goals (repeat (refine Wh.mk fun hcc => ?_))
      all_goals exact SW.ret (show RetQ _ _ _ _ _ _ _ from RetQ.y [0] [.nd [.int .i64 n, .nd [.nd [.bool (!p0), .nd [.int .i64 k0, .ow 1 (A0.map Enc.o), .ow 1 (B0.map Enc.o)]], .nd [.bool p1, .nd [.int .i64 k1, .ow 1 (A1.map Enc.o), .ow 1 (B1.map Enc.o)]], .nd [.bool p2, .nd [.int .i64 k2, .ow 1 (A2.map Enc.o), .ow 1 (B2.map Enc.o)]], .nd [.bool p3, .nd [.int .i64 k3, .ow 1 (A3.map Enc.o), .ow 1 (B3.map Enc.o)]]]]])
    · refine ⟨s2, (n, ((p0, (k0, A0, B0, ()), ()), ((!p1), (k1, A1, B1, ()), ()), (p2, (k2, A2, B2, ()), ()), (p3, (k3, A3, B3, ()), ()), ()), ()), e2, ⟨g0, g1, g2, g3⟩, ?_⟩
      refine CallR.of_body (n := 43) (rs := [.cell 2 49]) hY.ok Try.func89 rfl (by decide) rfl rfl rfl rfl (fun F => ?_)
      have fx := And.intro Y1 (And.intro Y2 (And.intro Y3 (And.intro Y4 (And.intro Y34 (And.intro Y36 (And.intro Y38 (And.intro Y47 (And.intro Y49 (Y87)))))))))
      have hC1 := cx [.io] (c0)
      have hC2 := cx [.io] (c1)
      have hC3 := cx [.io] (c2)
      have fy := And.intro nc4 (And.intro nc8 (And.intro wa (tn)))
      refine goR ?_ ?_ ?_ ?_ ?_ ?_ ?_ ?_ ?_ ?_ ?_ ?_ ?_ ?_ ?_ ?_
      any_goals (first | exact True.intro | skip)
      all_goals (repeat (refine Wh.mk fun hcc => ?_))
      all_goals exact SW.ret (show RetQ _ _ _ _ _ _ _ from RetQ.y [0] [.nd [.int .i64 n, .nd [.nd [.bool p0, .nd [.int .i64 k0, .ow 1 (A0.map Enc.o), .ow 1 (B0.map Enc.o)]], .nd [.bool (!p1), .nd [.int .i64 k1, .ow 1 (A1.map Enc.o), .ow 1 (B1.map Enc.o)]], .nd [.bool p2, .nd [.int .i64 k2, .ow 1 (A2.map Enc.o), .ow 1 (B2.map Enc.o)]], .nd [.bool p3, .nd [.int .i64 k3, .ow 1 (A3.map Enc.o), .ow 1 (B3.map Enc.o)]]]]])
    · refine ⟨s2, (n, ((p0, (k0, A0, B0, ()), ()), (p1, (k1, A1, B1, ()), ()), ((!p2), (k2, A2, B2, ()), ()), (p3, (k3, A3, B3, ()), ()), ()), ()), e2, ⟨g0, g1, g2, g3⟩, ?_⟩
      refine CallR.of_body (n := 43) (rs := [.cell 2 49]) hY.ok Try.func89 rfl (by decide) rfl rfl rfl rfl (fun F => ?_)
      have fx := And.intro Y1 (And.intro Y2 (And.intro Y3 (And.intro Y4 (And.intro Y34 (And.intro Y36 (And.intro Y38 (And.intro Y47 (And.intro Y49 (Y87)))))))))
      have hC1 := cx [.io] (c0)
      have hC2 := cx [.io] (c1)
      have hC3 := cx [.io] (c2)
      have fy := And.intro nc4 (And.intro nc8 (And.intro wa (tn)))
      refine goR ?_ ?_ ?_ ?_ ?_ ?_ ?_ ?_ ?_ ?_ ?_ ?_ ?_ ?_ ?_ ?_
      any_goals (first | exact True.intro | skip)
      all_goals (repeat (refine Wh.mk fun hcc => ?_))
      all_goals exact SW.ret (show RetQ _ _ _ _ _ _ _ from RetQ.y [0] [.nd [.int .i64 n, .nd [.nd [.bool p0, .nd [.int .i64 k0, .ow 1 (A0.map Enc.o), .ow 1 (B0.map Enc.o)]], .nd [.bool p1, .nd [.int .i64 k1, .ow 1 (A1.map Enc.o), .ow 1 (B1.map Enc.o)]], .nd [.bool (!p2), .nd [.int .i64 k2, .ow 1 (A2.map Enc.o), .ow 1 (B2.map Enc.o)]], .nd [.bool p3, .nd [.int .i64 k3, .ow 1 (A3.map Enc.o), .ow 1 (B3.map Enc.o)]]]]])
    · refine ⟨s2, (n, ((p0, (k0, A0, B0, ()), ()), (p1, (k1, A1, B1, ()), ()), (p2, (k2, A2, B2, ()), ()), ((!p3), (k3, A3, B3, ()), ()), ()), ()), e2, ⟨g0, g1, g2, g3⟩, ?_⟩
      refine CallR.of_body (n := 43) (rs := [.cell 2 49]) hY.ok Try.func89 rfl (by decide) rfl rfl rfl rfl (fun F => ?_)
      have fx := And.intro Y1 (And.intro Y2 (And.intro Y3 (And.intro Y4 (And.intro Y34 (And.intro Y36 (And.intro Y38 (And.intro Y47 (And.intro Y49 (Y87)))))))))
      have hC1 := cx [.io] (c0)
      have hC2 := cx [.io] (c1)
      have hC3 := cx [.io] (c2)
      have fy := And.intro nc4 (And.intro nc8 (And.intro wa (tn)))
      refine goR ?_ ?_ ?_ ?_ ?_ ?_ ?_ ?_ ?_ ?_ ?_ ?_ ?_ ?_ ?_ ?_
      any_goals (first | exact True.intro | skip)
      all_goals (repeat (refine Wh.mk fun hcc => ?_))
      all_goals exact SW.ret (show RetQ _ _ _ _ _ _ _ from RetQ.y [0] [.nd [.int .i64 n, .nd [.nd [.bool p0, .nd [.int .i64 k0, .ow 1 (A0.map Enc.o), .ow 1 (B0.map Enc.o)]], .nd [.bool p1, .nd [.int .i64 k1, .ow 1 (A1.map Enc.o), .ow 1 (B1.map Enc.o)]], .nd [.bool p2, .nd [.int .i64 k2, .ow 1 (A2.map Enc.o), .ow 1 (B2.map Enc.o)]], .nd [.bool (!p3), .nd [.int .i64 k3, .ow 1 (A3.map Enc.o), .ow 1 (B3.map Enc.o)]]]]])
  · obtain rfl | rfl | rfl | rfl : k = 0 ∨ k = 1 ∨ k = 2 ∨ k = 3 := by omega
    · obtain ⟨s3, ⟨yk, yA, yB, ⟨⟩⟩, e3, hy, c3⟩ := objBendD l s2 hl e2 (k0, A0, B0, ()) h0.1 h0.2
      simp only at hy c3
      refine ⟨s3, (n, ((p0, (yk, yA, yB, ()), ()), (p1, (k1, A1, B1, ()), ()), (p2, (k2, A2, B2, ()), ()), (p3, (k3, A3, B3, ()), ()), ()), ()), e3, ⟨hy, g1, g2, g3⟩, ?_⟩
      refine CallR.of_body (n := 43) (rs := [.cell 2 49]) hY.ok Try.func89 rfl (by decide) rfl rfl rfl rfl (fun F => ?_)
      have fx := And.intro Y1 (And.intro Y2 (And.intro Y3 (And.intro Y4 (And.intro Y34 (And.intro Y36 (And.intro Y38 (And.intro Y47 (And.intro Y49 (Y87)))))))))
      have hC1 := cx [.io] (c0)
      have hC2 := cx [.io] (c1)
      have hC3 := cx [.io] (c2)
      have hC4 := cx [.io] (c3)
      have fy := And.intro nc4 (And.intro nc8 (And.intro wa (tn)))
      refine goR ?_ ?_ ?_ ?_ ?_ ?_ ?_ ?_ ?_ ?_ ?_ ?_ ?_ ?_ ?_ ?_
      any_goals (first | exact True.intro | skip)
      all_goals (repeat (refine Wh.mk fun hcc => ?_))
      all_goals exact SW.ret (show RetQ _ _ _ _ _ _ _ from RetQ.y [0] [.nd [.int .i64 n, .nd [.nd [.bool p0, .nd [.int .i64 yk, .ow 1 (yA.map Enc.o), .ow 1 (yB.map Enc.o)]], .nd [.bool p1, .nd [.int .i64 k1, .ow 1 (A1.map Enc.o), .ow 1 (B1.map Enc.o)]], .nd [.bool p2, .nd [.int .i64 k2, .ow 1 (A2.map Enc.o), .ow 1 (B2.map Enc.o)]], .nd [.bool p3, .nd [.int .i64 k3, .ow 1 (A3.map Enc.o), .ow 1 (B3.map Enc.o)]]]]])
    · obtain ⟨s3, ⟨yk, yA, yB, ⟨⟩⟩, e3, hy, c3⟩ := objBendD l s2 hl e2 (k1, A1, B1, ()) h1.1 h1.2
      simp only at hy c3
      refine ⟨s3, (n, ((p0, (k0, A0, B0, ()), ()), (p1, (yk, yA, yB, ()), ()), (p2, (k2, A2, B2, ()), ()), (p3, (k3, A3, B3, ()), ()), ()), ()), e3, ⟨g0, hy, g2, g3⟩, ?_⟩
      refine CallR.of_body (n := 43) (rs := [.cell 2 49]) hY.ok Try.func89 rfl (by decide) rfl rfl rfl rfl (fun F => ?_)
      have fx := And.intro Y1 (And.intro Y2 (And.intro Y3 (And.intro Y4 (And.intro Y34 (And.intro Y36 (And.intro Y38 (And.intro Y47 (And.intro Y49 (Y87)))))))))
      have hC1 := cx [.io] (c0)
      have hC2 := cx [.io] (c1)
      have hC3 := cx [.io] (c2)
      have hC4 := cx [.io] (c3)
      have fy := And.intro nc4 (And.intro nc8 (And.intro wa (tn)))
      refine goR ?_ ?_ ?_ ?_ ?_ ?_ ?_ ?_ ?_ ?_ ?_ ?_ ?_ ?_ ?_ ?_
      any_goals (first | exact True.intro | skip)
      all_goals (repeat (refine Wh.mk fun hcc => ?_))
      all_goals exact SW.ret (show RetQ _ _ _ _ _ _ _ from RetQ.y [0] [.nd [.int .i64 n, .nd [.nd [.bool p0, .nd [.int .i64 k0, .ow 1 (A0.map Enc.o), .ow 1 (B0.map Enc.o)]], .nd [.bool p1, .nd [.int .i64 yk, .ow 1 (yA.map Enc.o), .ow 1 (yB.map Enc.o)]], .nd [.bool p2, .nd [.int .i64 k2, .ow 1 (A2.map Enc.o), .ow 1 (B2.map Enc.o)]], .nd [.bool p3, .nd [.int .i64 k3, .ow 1 (A3.map Enc.o), .ow 1 (B3.map Enc.o)]]]]])
    · obtain ⟨s3, ⟨yk, yA, yB, ⟨⟩⟩, e3, hy, c3⟩ := objBendD l s2 hl e2 (k2, A2, B2, ()) h2.1 h2.2
      simp only at hy c3
      refine ⟨s3, (n, ((p0, (k0, A0, B0, ()), ()), (p1, (k1, A1, B1, ()), ()), (p2, (yk, yA, yB, ()), ()), (p3, (k3, A3, B3, ()), ()), ()), ()), e3, ⟨g0, g1, hy, g3⟩, ?_⟩
      refine CallR.of_body (n := 43) (rs := [.cell 2 49]) hY.ok Try.func89 rfl (by decide) rfl rfl rfl rfl (fun F => ?_)
      have fx := And.intro Y1 (And.intro Y2 (And.intro Y3 (And.intro Y4 (And.intro Y34 (And.intro Y36 (And.intro Y38 (And.intro Y47 (And.intro Y49 (Y87)))))))))
      have hC1 := cx [.io] (c0)
      have hC2 := cx [.io] (c1)
      have hC3 := cx [.io] (c2)
      have hC4 := cx [.io] (c3)
      have fy := And.intro nc4 (And.intro nc8 (And.intro wa (tn)))
      refine goR ?_ ?_ ?_ ?_ ?_ ?_ ?_ ?_ ?_ ?_ ?_ ?_ ?_ ?_ ?_ ?_
      any_goals (first | exact True.intro | skip)
      all_goals (repeat (refine Wh.mk fun hcc => ?_))
      all_goals exact SW.ret (show RetQ _ _ _ _ _ _ _ from RetQ.y [0] [.nd [.int .i64 n, .nd [.nd [.bool p0, .nd [.int .i64 k0, .ow 1 (A0.map Enc.o), .ow 1 (B0.map Enc.o)]], .nd [.bool p1, .nd [.int .i64 k1, .ow 1 (A1.map Enc.o), .ow 1 (B1.map Enc.o)]], .nd [.bool p2, .nd [.int .i64 yk, .ow 1 (yA.map Enc.o), .ow 1 (yB.map Enc.o)]], .nd [.bool p3, .nd [.int .i64 k3, .ow 1 (A3.map Enc.o), .ow 1 (B3.map Enc.o)]]]]])
    · obtain ⟨s3, ⟨yk, yA, yB, ⟨⟩⟩, e3, hy, c3⟩ := objBendD l s2 hl e2 (k3, A3, B3, ()) h3.1 h3.2
      simp only at hy c3
      refine ⟨s3, (n, ((p0, (k0, A0, B0, ()), ()), (p1, (k1, A1, B1, ()), ()), (p2, (k2, A2, B2, ()), ()), (p3, (yk, yA, yB, ()), ()), ()), ()), e3, ⟨g0, g1, g2, hy⟩, ?_⟩
      refine CallR.of_body (n := 43) (rs := [.cell 2 49]) hY.ok Try.func89 rfl (by decide) rfl rfl rfl rfl (fun F => ?_)
      have fx := And.intro Y1 (And.intro Y2 (And.intro Y3 (And.intro Y4 (And.intro Y34 (And.intro Y36 (And.intro Y38 (And.intro Y47 (And.intro Y49 (Y87)))))))))
      have hC1 := cx [.io] (c0)
      have hC2 := cx [.io] (c1)
      have hC3 := cx [.io] (c2)
      have hC4 := cx [.io] (c3)
      have fy := And.intro nc4 (And.intro nc8 (And.intro wa (tn)))
      refine goR ?_ ?_ ?_ ?_ ?_ ?_ ?_ ?_ ?_ ?_ ?_ ?_ ?_ ?_ ?_ ?_
      any_goals (first | exact True.intro | skip)
      all_goals (repeat (refine Wh.mk fun hcc => ?_))
      all_goals exact SW.ret (show RetQ _ _ _ _ _ _ _ from RetQ.y [0] [.nd [.int .i64 n, .nd [.nd [.bool p0, .nd [.int .i64 k0, .ow 1 (A0.map Enc.o), .ow 1 (B0.map Enc.o)]], .nd [.bool p1, .nd [.int .i64 k1, .ow 1 (A1.map Enc.o), .ow 1 (B1.map Enc.o)]], .nd [.bool p2, .nd [.int .i64 k2, .ow 1 (A2.map Enc.o), .ow 1 (B2.map Enc.o)]], .nd [.bool p3, .nd [.int .i64 yk, .ow 1 (yA.map Enc.o), .ow 1 (yB.map Enc.o)]]]]])
  · refine ⟨s2, (n, ((p0, (k0, A0, B0, ()), ()), (p1, (k1, A1, B1, ()), ()), (p2, (k2, A2, B2, ()), ()), (p3, (k3, A3, B3, ()), ()), ()), ()), e2, ⟨g0, g1, g2, g3⟩, ?_⟩
    have r0 : (r == 0) = false := by simp; omega
    have r1 : (r == 1) = false := by simp; omega
    have r2 : (r == 2) = false := by simp; omega
    refine CallR.of_body (n := 43) (rs := [.cell 2 49]) hY.ok Try.func89 rfl (by decide) rfl rfl rfl rfl (fun F => ?_)
    have fx := And.intro Y1 (And.intro Y2 (And.intro Y3 (And.intro Y4 (And.intro Y34 (And.intro Y36 (And.intro Y38 (And.intro Y47 (And.intro Y49 (Y87)))))))))
    have hC1 := cx [.io] (c0)
    have hC2 := cx [.io] (c1)
    have hC3 := cx [.io] (c2)
    have fy := And.intro r0 (And.intro r1 (r2))
    refine goR ?_ ?_ ?_ ?_ ?_ ?_ ?_ ?_ ?_ ?_ ?_ ?_ ?_ ?_ ?_ ?_
    any_goals (first | exact True.intro | skip)
    all_goals (repeat (refine Wh.mk fun hcc => ?_))
    all_goals exact SW.ret (show RetQ _ _ _ _ _ _ _ from RetQ.y [0] [.nd [.int .i64 n, .nd [.nd [.bool p0, .nd [.int .i64 k0, .ow 1 (A0.map Enc.o), .ow 1 (B0.map Enc.o)]], .nd [.bool p1, .nd [.int .i64 k1, .ow 1 (A1.map Enc.o), .ow 1 (B1.map Enc.o)]], .nd [.bool p2, .nd [.int .i64 k2, .ow 1 (A2.map Enc.o), .ow 1 (B2.map Enc.o)]], .nd [.bool p3, .nd [.int .i64 k3, .ow 1 (A3.map Enc.o), .ow 1 (B3.map Enc.o)]]]]])
theorem drawSetD (l : List UInt8) (hl : l.length ≤ 1048576) : ∃ (p : PageT) (k : Int) (x : SlotT) (m : Int), pgL p 6 ∧ slL x 6 ∧ k ∈ [(0 : Int), 1, 2, 3, 3, -1, 4] ∧ CallR Try.prog 27 [.sl .s (l.map Enc.b)] [] (.tup [.nd [.int .i64 p.1, .nd [.nd [.bool p.2.1.1.1, .nd [.int .i64 p.2.1.1.2.1.1, .ow 1 (p.2.1.1.2.1.2.1.map Enc.o), .ow 1 (p.2.1.1.2.1.2.2.1.map Enc.o)]], .nd [.bool p.2.1.2.1.1, .nd [.int .i64 p.2.1.2.1.2.1.1, .ow 1 (p.2.1.2.1.2.1.2.1.map Enc.o), .ow 1 (p.2.1.2.1.2.1.2.2.1.map Enc.o)]], .nd [.bool p.2.1.2.2.1.1, .nd [.int .i64 p.2.1.2.2.1.2.1.1, .ow 1 (p.2.1.2.2.1.2.1.2.1.map Enc.o), .ow 1 (p.2.1.2.2.1.2.1.2.2.1.map Enc.o)]], .nd [.bool p.2.1.2.2.2.1.1, .nd [.int .i64 p.2.1.2.2.2.1.2.1.1, .ow 1 (p.2.1.2.2.2.1.2.1.2.1.map Enc.o), .ow 1 (p.2.1.2.2.2.1.2.1.2.2.1.map Enc.o)]]]], .int .i64 k, .nd [.bool x.1, .nd [.int .i64 x.2.1.1, .ow 1 (x.2.1.2.1.map Enc.o), .ow 1 (x.2.1.2.2.1.map Enc.o)]], .int .i64 m]) := by
  obtain ⟨hh, c0⟩ := new_ok l hl
  obtain ⟨⟨n1, i1⟩, ⟨n, ⟨⟨p0, ⟨k0, A0, B0, ⟨⟩⟩, ⟨⟩⟩, ⟨p1, ⟨k1, A1, B1, ⟨⟩⟩, ⟨⟩⟩, ⟨p2, ⟨k2, A2, B2, ⟨⟩⟩, ⟨⟩⟩, ⟨p3, ⟨k3, A3, B3, ⟨⟩⟩, ⟨⟩⟩, ⟨⟩⟩, ⟨⟩⟩, e1, g, c1⟩ := pageAnyD l (0, hh) hl (Nat.zero_le _)
  simp only [Int.natCast_zero] at e1 c0 c1
  obtain ⟨s2, ⟨xp, ⟨xk, xA, xB, ⟨⟩⟩, ⟨⟩⟩, e2, hx, c2⟩ := slotD l (n1, i1) hl e1
  simp only at hx c2
  have hx6 := slL_up hx (m := 6) (by decide)
  obtain ⟨e3, c3⟩ := onceF_ok l s2 10 hl e2
  generalize onceF l s2 10 = b at *
  obtain ⟨s3, o⟩ := b
  simp only at e3 c3
  obtain ⟨ev, qv, dv'⟩ := intF_ok l s3 [0, 1, 2, 3, 3, -1, 4] hl e3 (by simp) (by simp)
  have dv : CallR Try.prog 92 [.io (.nd [.sl .s (l.map Enc.b), .int .i64 (s3.1 : Nat), .int .i64 s3.2]), .sl .b [.int .i64 0, .int .i64 1, .int .i64 2, .int .i64 3, .int .i64 3, .int .i64 (-1), .int .i64 4]] [.nd [.sl .s (l.map Enc.b), .int .i64 (((intF l s3 [0, 1, 2, 3, 3, -1, 4]).1).1 : Nat), .int .i64 ((intF l s3 [0, 1, 2, 3, 3, -1, 4]).1).2]] (.int .i64 (intF l s3 [0, 1, 2, 3, 3, -1, 4]).2) := dv'
  clear dv'
  generalize intF l s3 [0, 1, 2, 3, 3, -1, 4] = v at *
  have bv := fun own => buildN (Y := Y) (own := own) (t := 34) (n := 7) (ps := [(0, .int .i64 0), (1, .int .i64 1), (2, .int .i64 2), (3, .int .i64 3), (4, .int .i64 3), (5, .int .i64 (-1)), (6, .int .i64 4)]) (r := [.int .i64 0, .int .i64 1, .int .i64 2, .int .i64 3, .int .i64 3, .int .i64 (-1), .int .i64 4]) Y34 Y3 rfl (by decide) rfl
  obtain ⟨ew, qw, dw'⟩ := intF_ok l v.1 [30, 31, 0, 1000000, 1000001, 40] hl ev (by simp) (by simp)
  have dw : CallR Try.prog 92 [.io (.nd [.sl .s (l.map Enc.b), .int .i64 (v.1.1 : Nat), .int .i64 v.1.2]), .sl .b [.int .i64 30, .int .i64 31, .int .i64 0, .int .i64 1000000, .int .i64 1000001, .int .i64 40]] [.nd [.sl .s (l.map Enc.b), .int .i64 (((intF l v.1 [30, 31, 0, 1000000, 1000001, 40]).1).1 : Nat), .int .i64 ((intF l v.1 [30, 31, 0, 1000000, 1000001, 40]).1).2]] (.int .i64 (intF l v.1 [30, 31, 0, 1000000, 1000001, 40]).2) := dw'
  clear dw'
  generalize intF l v.1 [30, 31, 0, 1000000, 1000001, 40] = w at *
  have bw := fun own => buildN (Y := Y) (own := own) (t := 34) (n := 6) (ps := [(0, .int .i64 30), (1, .int .i64 31), (2, .int .i64 0), (3, .int .i64 1000000), (4, .int .i64 1000001), (5, .int .i64 40)]) (r := [.int .i64 30, .int .i64 31, .int .i64 0, .int .i64 1000000, .int .i64 1000001, .int .i64 40]) Y34 Y3 rfl (by decide) rfl
  cases o
  · refine ⟨(n, ((p0, (k0, A0, B0, ()), ()), (p1, (k1, A1, B1, ()), ()), (p2, (k2, A2, B2, ()), ()), (p3, (k3, A3, B3, ()), ()), ()), ()), v.2, (xp, (xk, xA, xB, ()), ()), w.2, g, hx6, qv, ?_⟩
    refine CallR.of_body (n := 29) (rs := [.cell 2 49, .tmp 3, .cell 4 38, .tmp 5]) hY.ok Try.func27 rfl (by decide) rfl rfl rfl rfl (fun F => ?_)
    have fx := And.intro Y1 (And.intro Y2 (And.intro Y3 (And.intro Y4 (And.intro Y5 (And.intro Y6 (And.intro Y7 (And.intro Y24 (And.intro Y34 (And.intro Y36 (And.intro Y38 (And.intro Y47 (And.intro Y49 (Y87)))))))))))))
    have hC1 := cx [.own 1] (c0)
    have hC2 := cx [.io] (c1)
    have hC3 := cx [.io] (c2)
    have hC4 := cx [.io] (c3)
    have hC5 := cx [.io] (dv)
    have hC6 := cx [.io] (dw)
    have fy := And.intro bv (bw)
    have hD1 := dx 6 [3, 1, 3, 1, 1, 2] [(0, 1), (0, 2), (0, 3), (0, 4), (4, 0), (4, 1), (4, 3), (4, 4), (4, 5)]
    refine goR ?_ ?_ ?_ ?_ ?_ ?_ ?_ ?_ ?_ ?_ ?_ ?_ ?_ ?_ ?_ ?_
    any_goals (first | exact True.intro | skip)
    all_goals (repeat (refine Wh.mk fun hcc => ?_))
    all_goals exact SW.ret (show RetQ _ _ _ _ _ _ _ from RetQ.y [0, 0, 0, 0] [.nd [.int .i64 n, .nd [.nd [.bool p0, .nd [.int .i64 k0, .ow 1 (A0.map Enc.o), .ow 1 (B0.map Enc.o)]], .nd [.bool p1, .nd [.int .i64 k1, .ow 1 (A1.map Enc.o), .ow 1 (B1.map Enc.o)]], .nd [.bool p2, .nd [.int .i64 k2, .ow 1 (A2.map Enc.o), .ow 1 (B2.map Enc.o)]], .nd [.bool p3, .nd [.int .i64 k3, .ow 1 (A3.map Enc.o), .ow 1 (B3.map Enc.o)]]]], .int .i64 v.2, .nd [.bool xp, .nd [.int .i64 xk, .ow 1 (xA.map Enc.o), .ow 1 (xB.map Enc.o)]], .int .i64 w.2])
  · refine ⟨(n, ((p0, (k0, A0, B0, ()), ()), (p1, (k1, A1, B1, ()), ()), (p2, (k2, A2, B2, ()), ()), (p3, (k3, A3, B3, ()), ()), ()), ()), v.2, ((!xp), (xk, xA, xB, ()), ()), w.2, g, hx6, qv, ?_⟩
    refine CallR.of_body (n := 29) (rs := [.cell 2 49, .tmp 3, .cell 4 38, .tmp 5]) hY.ok Try.func27 rfl (by decide) rfl rfl rfl rfl (fun F => ?_)
    have fx := And.intro Y1 (And.intro Y2 (And.intro Y3 (And.intro Y4 (And.intro Y5 (And.intro Y6 (And.intro Y7 (And.intro Y24 (And.intro Y34 (And.intro Y36 (And.intro Y38 (And.intro Y47 (And.intro Y49 (Y87)))))))))))))
    have hC1 := cx [.own 1] (c0)
    have hC2 := cx [.io] (c1)
    have hC3 := cx [.io] (c2)
    have hC4 := cx [.io] (c3)
    have hC5 := cx [.io] (dv)
    have hC6 := cx [.io] (dw)
    have fy := And.intro bv (bw)
    have hD1 := dx 6 [3, 1, 3, 1, 1, 2] [(0, 1), (0, 2), (0, 3), (0, 4), (4, 0), (4, 1), (4, 3), (4, 4), (4, 5)]
    refine goR ?_ ?_ ?_ ?_ ?_ ?_ ?_ ?_ ?_ ?_ ?_ ?_ ?_ ?_ ?_ ?_
    any_goals (first | exact True.intro | skip)
    all_goals (repeat (refine Wh.mk fun hcc => ?_))
    all_goals exact SW.ret (show RetQ _ _ _ _ _ _ _ from RetQ.y [0, 0, 0, 0] [.nd [.int .i64 n, .nd [.nd [.bool p0, .nd [.int .i64 k0, .ow 1 (A0.map Enc.o), .ow 1 (B0.map Enc.o)]], .nd [.bool p1, .nd [.int .i64 k1, .ow 1 (A1.map Enc.o), .ow 1 (B1.map Enc.o)]], .nd [.bool p2, .nd [.int .i64 k2, .ow 1 (A2.map Enc.o), .ow 1 (B2.map Enc.o)]], .nd [.bool p3, .nd [.int .i64 k3, .ow 1 (A3.map Enc.o), .ow 1 (B3.map Enc.o)]]]], .int .i64 v.2, .nd [.bool (!xp), .nd [.int .i64 xk, .ow 1 (xA.map Enc.o), .ow 1 (xB.map Enc.o)]], .int .i64 w.2])
end Q6

namespace Q6
open Go Go.Vm Go.Proofs
set_option maxHeartbeats 4000000
set_option synthInstance.maxSize 2000
set_option synthInstance.maxHeartbeats 400000
set_option maxRecDepth 10000
set_option linter.unusedSimpArgs false
set_option linter.unusedVariables false

theorem markInt_ok (l : List Int) (k : Int) (hl : l.length ≤ 1048576) (h0 : 0 ≤ k) (h1 : k ≤ 1125899906842624) : CallR Try.prog 72 [.io (.tup [.ow 1 (l.map Enc.o)]), .int .i64 k] [.tup [.ow 1 ((marksG id l.length k).map Enc.o)]] (.int .i64 (k + l.length)) := by
  refine CallR.of_body (n := 19) (rs := [.tmp 4]) hY.ok Try.func72 rfl (by decide) rfl rfl rfl rfl (fun F => ?_)
  have fx := And.intro Y3 (And.intro Y4 (Y34))
  have fy := Nat.add_zero
  refine goN ?_ ?_ ?_ ?_ ?_ ?_ ?_ ?_ ?_ ?_ ?_ ?_ ?_ ?_ ?_ ?_
  any_goals (first | exact True.intro | skip)
  skip
  refine SW.loop (fun i : Nat => ⟨[.ref 0 0 0 l.length, .int .i64 (k + (i : Nat)), .undef, .undef, .undef, .int .i64 i, .undef, .undef, .undef, .undef, .undef, .undef, .undef, .undef, .undef, .undef, .undef, .undef, .undef], [[.arr 1 ((mixG id l k i).map Enc.o) false]]⟩)
    (fun n i => n = l.length - i ∧ i ≤ l.length) (n := l.length) (x := 0) (Norm.re [0] (by decide) rfl (by simp [heapFits, rowFits, obFits, mixG_zero]) (by simp [tmFits, T.ren])) ⟨rfl, Nat.zero_le _⟩ ?_
  rintro n i ⟨hn, hi⟩
  have fy := Nat.add_zero
  refine goS ?_
  refine SW.cond rfl (fun hc => ?_) (fun hc => ?_)
  · have hlt : i < l.length := by simp at hc; omega
    have hltI : (i : Int) < (l.length : Int) := by omega
    have hg : ((mixG id l k i).map Enc.o)[i]? = some (.int .i64 l[i]) := mixG_get id l k i hlt
    have hs : ((mixG id l k i).map Enc.o).set i (.int .i64 (k + (i : Nat))) = (mixG id l k (i + 1)).map Enc.o := mixG_set id l k i hlt
    have fy := And.intro hg (And.intro hs (And.intro hltI (And.intro Nat.zero_add (Int.toNat_natCast))))
    refine goR ?_ ?_ ?_ ?_ ?_ ?_ ?_ ?_ ?_ ?_ ?_ ?_ ?_ ?_ ?_ ?_
    any_goals (first | exact True.intro | skip)
    all_goals (repeat (refine Wh.mk fun hcc => ?_))
    refine ⟨n - 1, i + 1, by omega, ⟨by omega, by omega⟩, ?_⟩
    rw [wrap64 _ (by omega) (by omega), wrap64 _ (by omega) (by omega), show k + (i : Int) + 1 = k + ((i + 1 : Nat) : Int) by omega]
    exact Norm.re [0] (by decide) rfl (by simp only [eq_self, heapFits, rowFits, obFits, List.getElem?_cons_zero, List.getElem?_cons_succ, renL_o, renL_b, true_and, and_true, and_self]) (by simp [tmFits, T.ren])
  · have hge : i = l.length := by
      have : ¬ i < l.length := by simp at hc; omega
      omega
    subst hge
    rw [mixG_all]
    have fy := Nat.add_zero
    refine goR ?_ ?_ ?_ ?_ ?_ ?_ ?_ ?_ ?_ ?_ ?_ ?_ ?_ ?_ ?_ ?_
    any_goals (first | exact True.intro | skip)
    all_goals (repeat (refine Wh.mk fun hcc => ?_))
    refine SW.ret (show RetQ _ _ _ _ _ _ _ from ⟨.inr rfl, _, [0], [.int .i64 (k + l.length)], ?_, ⟨rfl, ?_, rfl, rfl, ?_, rfl⟩⟩)
    rotate_left
    · (simp [-List.map_set, -List.map_append, pass1, modeOf, giveS, giveSL, Heap.at, Heap.put, fixEs, ioAt, ioAtT, ioKs, ioKT, ioM, ioT, thawA, thawAL, T.asArr, T.cel, T.clo, cloL, T.cloA, cloAL]; rfl)
    · simp [cloOL, T.cloO, T.asArr]
theorem heldInt_ok (n : Nat) (k : Int) (hl : n ≤ 1048576) (h0 : 0 ≤ k) (h1 : k ≤ 1125899906842624) : CallR Try.prog 119 [.sl .b ((marksG id n k).map Enc.b), .int .i64 k] [] (.int .i64 (k + n)) := by
  refine CallR.of_body (n := 21) (rs := [.tmp 4]) hY.ok Try.func119 rfl (by decide) rfl rfl rfl rfl (fun F => ?_)
  have fx := And.intro Y3 (And.intro Y4 (Y34))
  have fy := Nat.add_zero
  refine goN ?_ ?_ ?_ ?_ ?_ ?_ ?_ ?_ ?_ ?_ ?_ ?_ ?_ ?_ ?_ ?_
  any_goals (first | exact True.intro | skip)
  skip
  refine SW.loop (fun i : Nat => ⟨[.sl .b ((marksG id n k).map Enc.b), .int .i64 (k + (i : Nat)), .undef, .undef, .undef, .int .i64 i, .undef, .undef, .undef, .undef, .undef, .undef, .undef, .undef, .undef, .undef, .undef, .undef, .undef, .undef, .undef], [[]]⟩)
    (fun N i => N = n - i ∧ i ≤ n) (n := n) (x := 0) (Norm.to 0 rfl (by simp [weakL])) ⟨rfl, Nat.zero_le _⟩ ?_
  rintro N i ⟨hn, hi⟩
  have fy := Nat.add_zero
  refine goS ?_
  refine SW.cond rfl (fun hc => ?_) (fun hc => ?_)
  · have hlt : i < n := by simp at hc; omega
    have hg : ((marksG id n k).map Enc.b)[i]? = some (.int .i64 (k + (i : Nat))) := by rw [map_get Enc.b _ i (by rw [marksG_len]; exact hlt), marksG_get id n k i hlt]; rfl
    have fy := And.intro hg (And.intro Nat.zero_add (Int.toNat_natCast))
    refine goR ?_ ?_ ?_ ?_ ?_ ?_ ?_ ?_ ?_ ?_ ?_ ?_ ?_ ?_ ?_ ?_
    any_goals (first | exact True.intro | skip)
    all_goals (repeat (refine Wh.mk fun hcc => ?_))
    all_goals first | (exfalso; simp at hcc; done) | skip
    refine ⟨N - 1, i + 1, by omega, ⟨by omega, by omega⟩, ?_⟩
    rw [wrap64 _ (by omega) (by omega), wrap64 _ (by omega) (by omega), show k + (i : Int) + 1 = k + ((i + 1 : Nat) : Int) by omega]
    exact Norm.to 0 rfl (by simp [weakL])
  · have hge : i = n := by
      have : ¬ i < n := by simp at hc; omega
      omega
    subst hge
    have fy := Nat.add_zero
    refine goK ?_ ?_ ?_ ?_ ?_ ?_ ?_ ?_ ?_ ?_ ?_ ?_ ?_ ?_ ?_ ?_
    any_goals (first | exact True.intro | skip)
    all_goals (repeat (refine Wh.mk fun hcc => ?_))
    simp [tupOf, fixEs]
end Q6

namespace Q6
open Go Go.Vm Go.Proofs
set_option maxHeartbeats 4000000
set_option synthInstance.maxSize 2000
set_option synthInstance.maxHeartbeats 400000
set_option maxRecDepth 10000
set_option linter.unusedSimpArgs false
set_option linter.unusedVariables false

theorem markObj_ok (x : (Int × (List Int) × (List Int) × Unit)) (k : Int) (hx : x.2.1.length ≤ 1048576 ∧ x.2.2.1.length ≤ 1048576) (h0 : 0 ≤ k) (h1 : k ≤ 562949953421312) : CallR Try.prog 157 [.nd [.int .i64 x.1, .io (.tup [.ow 1 (x.2.1.map Enc.o)]), .io (.tup [.ow 1 (x.2.2.1.map Enc.o)])], .int .i64 k] [.tup [.ow 1 ((marksG id x.2.1.length (k)).map Enc.o)], .tup [.ow 1 ((marksG id x.2.2.1.length (k + x.2.1.length)).map Enc.o)]] (.int .i64 (k + x.2.1.length + x.2.2.1.length)) := by
  refine CallR.of_body (n := 14) (rs := [.tmp 4]) hY.ok Try.func157 rfl (by decide) rfl rfl rfl rfl (fun F => ?_)
  have fx := And.intro Y1 (And.intro Y2 (And.intro Y3 (And.intro Y34 (Y36))))
  have hC1 := cx [.ios] (markInt_ok x.2.1 k hx.1 h0 (by omega))
  have hC2 := cx [.ios] (markInt_ok x.2.2.1 (k + x.2.1.length) hx.2 (by omega) (by omega))
  have fy := Nat.add_zero
  refine goR ?_ ?_ ?_ ?_ ?_ ?_ ?_ ?_ ?_ ?_ ?_ ?_ ?_ ?_ ?_ ?_
  any_goals (first | exact True.intro | skip)
  all_goals (repeat (refine Wh.mk fun hcc => ?_))
  all_goals exact SW.ret (show RetQ _ _ _ _ _ _ _ from RetQ.y [0] [.int .i64 (k + x.2.1.length + x.2.2.1.length)])
theorem heldObj_ok (y : Int) (n m : Nat) (k : Int) (hn : n ≤ 1048576) (hm : m ≤ 1048576) (h0 : 0 ≤ k) (h1 : k ≤ 562949953421312) : CallR Try.prog 158 [.nd [.int .i64 y, .sl .b ((marksG id n (k)).map Enc.b), .sl .b ((marksG id m (k + n)).map Enc.b)], .int .i64 k] [] (.int .i64 (k + n + m)) := by
  refine CallR.of_body (n := 18) (rs := [.tmp 4]) hY.ok Try.func158 rfl (by decide) rfl rfl rfl rfl (fun F => ?_)
  have fx := And.intro Y1 (And.intro Y2 (And.intro Y3 (And.intro Y4 (And.intro Y34 (Y36)))))
  have hq0 : decide (k + (n : Int) < 0) = false := by simp; omega
  have hq1 : decide (k + (n : Int) + (m : Int) < 0) = false := by simp; omega
  have hC1 := cx [] (heldInt_ok n k hn h0 (by omega))
  have hC2 := cx [] (heldInt_ok m (k + n) hm (by omega) (by omega))
  have fy := And.intro hq0 (hq1)
  refine goK ?_ ?_ ?_ ?_ ?_ ?_ ?_ ?_ ?_ ?_ ?_ ?_ ?_ ?_ ?_ ?_
  any_goals (first | exact True.intro | skip)
  all_goals (repeat (refine Wh.mk fun hcc => ?_))
  all_goals simp [tupOf, fixEs]
theorem markSlot_ok (x : (Bool × ((Int × (List Int) × (List Int) × Unit)) × Unit)) (k : Int) (hx : x.2.1.2.1.length ≤ 1048576 ∧ x.2.1.2.2.1.length ≤ 1048576) (h0 : 0 ≤ k) (h1 : k ≤ 562949953421312) : CallR Try.prog 112 [.nd [.bool x.1, .nd [.int .i64 x.2.1.1, .io (.tup [.ow 1 (x.2.1.2.1.map Enc.o)]), .io (.tup [.ow 1 (x.2.1.2.2.1.map Enc.o)])]], .int .i64 k] [.tup [.ow 1 ((marksG id x.2.1.2.1.length (k)).map Enc.o)], .tup [.ow 1 ((marksG id x.2.1.2.2.1.length (k + x.2.1.2.1.length)).map Enc.o)]] (.int .i64 (k + x.2.1.2.1.length + x.2.1.2.2.1.length)) := by
  refine CallR.of_body (n := 10) (rs := [.tmp 4]) hY.ok Try.func112 rfl (by decide) rfl rfl rfl rfl (fun F => ?_)
  have fx := And.intro Y1 (And.intro Y3 (And.intro Y4 (And.intro Y34 (And.intro Y36 (Y38)))))
  have hC1 := cx [.iov] (markObj_ok x.2.1 k hx h0 h1)
  have fy := Nat.add_zero
  refine goR ?_ ?_ ?_ ?_ ?_ ?_ ?_ ?_ ?_ ?_ ?_ ?_ ?_ ?_ ?_ ?_
  any_goals (first | exact True.intro | skip)
  all_goals (repeat (refine Wh.mk fun hcc => ?_))
  all_goals exact SW.ret (show RetQ _ _ _ _ _ _ _ from RetQ.y [0] [.int .i64 (k + x.2.1.2.1.length + x.2.1.2.2.1.length)])
theorem heldSlot_ok (b : Bool) (y : Int) (n m : Nat) (k : Int) (hn : n ≤ 1048576) (hm : m ≤ 1048576) (h0 : 0 ≤ k) (h1 : k ≤ 562949953421312) : CallR Try.prog 114 [.nd [.bool b, .nd [.int .i64 y, .sl .b ((marksG id n (k)).map Enc.b), .sl .b ((marksG id m (k + n)).map Enc.b)]], .int .i64 k] [] (.int .i64 (k + n + m)) := by
  refine CallR.of_body (n := 12) (rs := [.tmp 4]) hY.ok Try.func114 rfl (by decide) rfl rfl rfl rfl (fun F => ?_)
  have fx := And.intro Y1 (And.intro Y3 (And.intro Y4 (And.intro Y34 (And.intro Y36 (Y38)))))
  have hq1 : decide (k + (n : Int) + (m : Int) < 0) = false := by simp; omega
  have hC1 := cx [] (heldObj_ok y n m k hn hm h0 h1)
  have fy := hq1
  refine goK ?_ ?_ ?_ ?_ ?_ ?_ ?_ ?_ ?_ ?_ ?_ ?_ ?_ ?_ ?_ ?_
  any_goals (first | exact True.intro | skip)
  all_goals (repeat (refine Wh.mk fun hcc => ?_))
  all_goals simp [tupOf, fixEs]
end Q6

namespace Q6
open Go Go.Vm Go.Proofs
set_option maxHeartbeats 4000000
set_option synthInstance.maxSize 2000
set_option synthInstance.maxHeartbeats 400000
set_option maxRecDepth 10000
set_option linter.unusedSimpArgs false
set_option linter.unusedVariables false

set_option synthInstance.maxHeartbeats 4000000
set_option synthInstance.maxSize 20000
abbrev Slot4T := (((Bool × ((Int × (List Int) × (List Int) × Unit)) × Unit)) × ((Bool × ((Int × (List Int) × (List Int) × Unit)) × Unit)) × ((Bool × ((Int × (List Int) × (List Int) × Unit)) × Unit)) × ((Bool × ((Int × (List Int) × (List Int) × Unit)) × Unit)) × Unit)
theorem laws_eqSlotA4_ok (x y : Slot4T) (hx : Enc.lim 1048576 x) : CallR Try.prog 108 [.nd [.nd [.bool x.1.1, .nd [.int .i64 x.1.2.1.1, .sl .b (x.1.2.1.2.1.map Enc.b), .sl .b (x.1.2.1.2.2.1.map Enc.b)]], .nd [.bool x.2.1.1, .nd [.int .i64 x.2.1.2.1.1, .sl .b (x.2.1.2.1.2.1.map Enc.b), .sl .b (x.2.1.2.1.2.2.1.map Enc.b)]], .nd [.bool x.2.2.1.1, .nd [.int .i64 x.2.2.1.2.1.1, .sl .b (x.2.2.1.2.1.2.1.map Enc.b), .sl .b (x.2.2.1.2.1.2.2.1.map Enc.b)]], .nd [.bool x.2.2.2.1.1, .nd [.int .i64 x.2.2.2.1.2.1.1, .sl .b (x.2.2.2.1.2.1.2.1.map Enc.b), .sl .b (x.2.2.2.1.2.1.2.2.1.map Enc.b)]]], .nd [.nd [.bool y.1.1, .nd [.int .i64 y.1.2.1.1, .sl .b (y.1.2.1.2.1.map Enc.b), .sl .b (y.1.2.1.2.2.1.map Enc.b)]], .nd [.bool y.2.1.1, .nd [.int .i64 y.2.1.2.1.1, .sl .b (y.2.1.2.1.2.1.map Enc.b), .sl .b (y.2.1.2.1.2.2.1.map Enc.b)]], .nd [.bool y.2.2.1.1, .nd [.int .i64 y.2.2.1.2.1.1, .sl .b (y.2.2.1.2.1.2.1.map Enc.b), .sl .b (y.2.2.1.2.1.2.2.1.map Enc.b)]], .nd [.bool y.2.2.2.1.1, .nd [.int .i64 y.2.2.2.1.2.1.1, .sl .b (y.2.2.2.1.2.1.2.1.map Enc.b), .sl .b (y.2.2.2.1.2.1.2.2.1.map Enc.b)]]]] [] (.bool (decide (x = y))) := by
  refine CallR.of_body (n := 18) (rs := [.tmp 4]) hY.ok Try.func108 rfl (by decide) rfl rfl rfl rfl (fun F => ?_)
  have fx := And.intro Y3 (And.intro Y4 (And.intro Y34 (And.intro Y36 (And.intro Y38 (Y47)))))
  obtain ⟨a, b, c, d, ⟨⟩⟩ := x
  obtain ⟨a', b', c', d', ⟨⟩⟩ := y
  have h1 := laws_eqSlot_ok a a' hx.1
  have h2 := laws_eqSlot_ok b b' hx.2.1
  have h3 := laws_eqSlot_ok c c' hx.2.2.1
  have h4 := laws_eqSlot_ok d d' hx.2.2.2.1
  rw [show decide ((a, b, c, d, ()) = (a', b', c', d', ())) = (decide (a = a') && (decide (b = b') && (decide (c = c') && decide (d = d')))) by simp]
  generalize decide (a = a') = p1 at *
  generalize decide (b = b') = p2 at *
  generalize decide (c = c') = p3 at *
  generalize decide (d = d') = p4 at *
  have hC1 := cx [] (h1)
  have hC2 := cx [] (h2)
  have hC3 := cx [] (h3)
  have hC4 := cx [] (h4)
  have fy := And.intro nc4 (And.intro nc8 (And.intro wa (tn)))
  refine goV ?_ ?_ ?_ ?_ ?_ ?_ ?_ ?_ ?_ ?_ ?_ ?_ ?_ ?_ ?_ ?_
  any_goals (first | exact True.intro | skip)
  all_goals (repeat (refine Wh.mk fun hcc => ?_))
  all_goals (first | rfl | ((try simp only [tupOf, fixEs]); (first | done | rfl | (simp_all []; done) | grind [])))
theorem eqPage_ok (x y : PageT) (hx : Enc.lim 1048576 x) : CallR Try.prog 39 [.nd [.int .i64 x.1, .nd [.nd [.bool x.2.1.1.1, .nd [.int .i64 x.2.1.1.2.1.1, .sl .b (x.2.1.1.2.1.2.1.map Enc.b), .sl .b (x.2.1.1.2.1.2.2.1.map Enc.b)]], .nd [.bool x.2.1.2.1.1, .nd [.int .i64 x.2.1.2.1.2.1.1, .sl .b (x.2.1.2.1.2.1.2.1.map Enc.b), .sl .b (x.2.1.2.1.2.1.2.2.1.map Enc.b)]], .nd [.bool x.2.1.2.2.1.1, .nd [.int .i64 x.2.1.2.2.1.2.1.1, .sl .b (x.2.1.2.2.1.2.1.2.1.map Enc.b), .sl .b (x.2.1.2.2.1.2.1.2.2.1.map Enc.b)]], .nd [.bool x.2.1.2.2.2.1.1, .nd [.int .i64 x.2.1.2.2.2.1.2.1.1, .sl .b (x.2.1.2.2.2.1.2.1.2.1.map Enc.b), .sl .b (x.2.1.2.2.2.1.2.1.2.2.1.map Enc.b)]]]], .nd [.int .i64 y.1, .nd [.nd [.bool y.2.1.1.1, .nd [.int .i64 y.2.1.1.2.1.1, .sl .b (y.2.1.1.2.1.2.1.map Enc.b), .sl .b (y.2.1.1.2.1.2.2.1.map Enc.b)]], .nd [.bool y.2.1.2.1.1, .nd [.int .i64 y.2.1.2.1.2.1.1, .sl .b (y.2.1.2.1.2.1.2.1.map Enc.b), .sl .b (y.2.1.2.1.2.1.2.2.1.map Enc.b)]], .nd [.bool y.2.1.2.2.1.1, .nd [.int .i64 y.2.1.2.2.1.2.1.1, .sl .b (y.2.1.2.2.1.2.1.2.1.map Enc.b), .sl .b (y.2.1.2.2.1.2.1.2.2.1.map Enc.b)]], .nd [.bool y.2.1.2.2.2.1.1, .nd [.int .i64 y.2.1.2.2.2.1.2.1.1, .sl .b (y.2.1.2.2.2.1.2.1.2.1.map Enc.b), .sl .b (y.2.1.2.2.2.1.2.1.2.2.1.map Enc.b)]]]]] [] (.bool (decide (x = y))) := by
  refine CallR.of_body (n := 16) (rs := [.tmp 4]) hY.ok Try.func39 rfl (by decide) rfl rfl rfl rfl (fun F => ?_)
  have fx := And.intro Y1 (And.intro Y3 (And.intro Y4 (And.intro Y34 (And.intro Y36 (And.intro Y38 (And.intro Y47 (Y49)))))))
  obtain ⟨a, ⟨s1, s2, s3, s4, ⟨⟩⟩, ⟨⟩⟩ := x
  obtain ⟨a', ⟨t1, t2, t3, t4, ⟨⟩⟩, ⟨⟩⟩ := y
  have h1 := laws_eqSlotA4_ok (s1, s2, s3, s4, ()) (t1, t2, t3, t4, ()) hx.2.1
  rw [show decide ((a, (s1, s2, s3, s4, ()), ()) = (a', (t1, t2, t3, t4, ()), ())) = (decide (a = a') && decide ((s1, s2, s3, s4, ()) = (t1, t2, t3, t4, ()))) by simp]
  simp only at h1
  generalize decide ((s1, s2, s3, s4, ()) = (t1, t2, t3, t4, ())) = p1 at *
  have hne : (a != a') = !decide (a = a') := by by_cases h : a = a' <;> simp [h]
  generalize decide (a = a') = p2 at *
  clear hx
  have hC1 := cx [] (h1)
  have fy := hne
  refine goK ?_ ?_ ?_ ?_ ?_ ?_ ?_ ?_ ?_ ?_ ?_ ?_ ?_ ?_ ?_ ?_
  any_goals (first | exact True.intro | skip)
  all_goals (repeat (refine Wh.mk fun hcc => ?_))
  all_goals (first | rfl | ((try simp only [tupOf, fixEs]); (first | done | rfl | (simp_all []; done) | grind [])))
theorem markSlotA4_ok (x : (((Bool × ((Int × (List Int) × (List Int) × Unit)) × Unit)) × ((Bool × ((Int × (List Int) × (List Int) × Unit)) × Unit)) × ((Bool × ((Int × (List Int) × (List Int) × Unit)) × Unit)) × ((Bool × ((Int × (List Int) × (List Int) × Unit)) × Unit)) × Unit)) (k : Int) (hx : Enc.lim 1048576 x) (h0 : 0 ≤ k) (h1 : k ≤ 281474976710656) : CallR Try.prog 109 [.nd [.nd [.bool x.1.1, .nd [.int .i64 x.1.2.1.1, .io (.tup [.ow 1 (x.1.2.1.2.1.map Enc.o)]), .io (.tup [.ow 1 (x.1.2.1.2.2.1.map Enc.o)])]], .nd [.bool x.2.1.1, .nd [.int .i64 x.2.1.2.1.1, .io (.tup [.ow 1 (x.2.1.2.1.2.1.map Enc.o)]), .io (.tup [.ow 1 (x.2.1.2.1.2.2.1.map Enc.o)])]], .nd [.bool x.2.2.1.1, .nd [.int .i64 x.2.2.1.2.1.1, .io (.tup [.ow 1 (x.2.2.1.2.1.2.1.map Enc.o)]), .io (.tup [.ow 1 (x.2.2.1.2.1.2.2.1.map Enc.o)])]], .nd [.bool x.2.2.2.1.1, .nd [.int .i64 x.2.2.2.1.2.1.1, .io (.tup [.ow 1 (x.2.2.2.1.2.1.2.1.map Enc.o)]), .io (.tup [.ow 1 (x.2.2.2.1.2.1.2.2.1.map Enc.o)])]]], .int .i64 k] [.tup [.ow 1 ((marksG id x.1.2.1.2.1.length (k)).map Enc.o)], .tup [.ow 1 ((marksG id x.1.2.1.2.2.1.length (k + x.1.2.1.2.1.length)).map Enc.o)], .tup [.ow 1 ((marksG id x.2.1.2.1.2.1.length (k + x.1.2.1.2.1.length + x.1.2.1.2.2.1.length)).map Enc.o)], .tup [.ow 1 ((marksG id x.2.1.2.1.2.2.1.length (k + x.1.2.1.2.1.length + x.1.2.1.2.2.1.length + x.2.1.2.1.2.1.length)).map Enc.o)], .tup [.ow 1 ((marksG id x.2.2.1.2.1.2.1.length (k + x.1.2.1.2.1.length + x.1.2.1.2.2.1.length + x.2.1.2.1.2.1.length + x.2.1.2.1.2.2.1.length)).map Enc.o)], .tup [.ow 1 ((marksG id x.2.2.1.2.1.2.2.1.length (k + x.1.2.1.2.1.length + x.1.2.1.2.2.1.length + x.2.1.2.1.2.1.length + x.2.1.2.1.2.2.1.length + x.2.2.1.2.1.2.1.length)).map Enc.o)], .tup [.ow 1 ((marksG id x.2.2.2.1.2.1.2.1.length (k + x.1.2.1.2.1.length + x.1.2.1.2.2.1.length + x.2.1.2.1.2.1.length + x.2.1.2.1.2.2.1.length + x.2.2.1.2.1.2.1.length + x.2.2.1.2.1.2.2.1.length)).map Enc.o)], .tup [.ow 1 ((marksG id x.2.2.2.1.2.1.2.2.1.length (k + x.1.2.1.2.1.length + x.1.2.1.2.2.1.length + x.2.1.2.1.2.1.length + x.2.1.2.1.2.2.1.length + x.2.2.1.2.1.2.1.length + x.2.2.1.2.1.2.2.1.length + x.2.2.2.1.2.1.2.1.length)).map Enc.o)]] (.int .i64 (k + x.1.2.1.2.1.length + x.1.2.1.2.2.1.length + x.2.1.2.1.2.1.length + x.2.1.2.1.2.2.1.length + x.2.2.1.2.1.2.1.length + x.2.2.1.2.1.2.2.1.length + x.2.2.2.1.2.1.2.1.length + x.2.2.2.1.2.1.2.2.1.length)) := by
  refine CallR.of_body (n := 16) (rs := [.tmp 4]) hY.ok Try.func109 rfl (by decide) rfl rfl rfl rfl (fun F => ?_)
  have fx := And.intro Y3 (And.intro Y4 (And.intro Y34 (And.intro Y36 (And.intro Y38 (Y47)))))
  have q1 := hx.1.2.1.2.1.1
  have q2 := hx.1.2.1.2.2.1.1
  have q3 := hx.2.1.2.1.2.1.1
  have q4 := hx.2.1.2.1.2.2.1.1
  have q5 := hx.2.2.1.2.1.2.1.1
  have q6 := hx.2.2.1.2.1.2.2.1.1
  have q7 := hx.2.2.2.1.2.1.2.1.1
  have q8 := hx.2.2.2.1.2.1.2.2.1.1
  have hC1 := cx [.iov] (markSlot_ok x.1 (k) ⟨q1, q2⟩ (by omega) (by omega))
  have hC2 := cx [.iov] (markSlot_ok x.2.1 (k + x.1.2.1.2.1.length + x.1.2.1.2.2.1.length) ⟨q3, q4⟩ (by omega) (by omega))
  have hC3 := cx [.iov] (markSlot_ok x.2.2.1 (k + x.1.2.1.2.1.length + x.1.2.1.2.2.1.length + x.2.1.2.1.2.1.length + x.2.1.2.1.2.2.1.length) ⟨q5, q6⟩ (by omega) (by omega))
  have hC4 := cx [.iov] (markSlot_ok x.2.2.2.1 (k + x.1.2.1.2.1.length + x.1.2.1.2.2.1.length + x.2.1.2.1.2.1.length + x.2.1.2.1.2.2.1.length + x.2.2.1.2.1.2.1.length + x.2.2.1.2.1.2.2.1.length) ⟨q7, q8⟩ (by omega) (by omega))
  have fy := And.intro nc4 (And.intro nc8 (And.intro wa (tn)))
  refine goU ?_ ?_ ?_ ?_ ?_ ?_ ?_ ?_ ?_ ?_ ?_ ?_ ?_ ?_ ?_ ?_
  any_goals (first | exact True.intro | skip)
  all_goals (repeat (refine Wh.mk fun hcc => ?_))
  all_goals exact SW.ret (show RetQ _ _ _ _ _ _ _ from RetQ.y [0] [.int .i64 (k + x.1.2.1.2.1.length + x.1.2.1.2.2.1.length + x.2.1.2.1.2.1.length + x.2.1.2.1.2.2.1.length + x.2.2.1.2.1.2.1.length + x.2.2.1.2.1.2.2.1.length + x.2.2.2.1.2.1.2.1.length + x.2.2.2.1.2.1.2.2.1.length)])
end Q6

namespace Q6
open Go Go.Vm Go.Proofs
set_option maxHeartbeats 4000000
set_option synthInstance.maxSize 2000
set_option synthInstance.maxHeartbeats 400000
set_option maxRecDepth 10000
set_option linter.unusedSimpArgs false
set_option linter.unusedVariables false


def pvL (l : List LiveT) (i : Nat) : Option LiveT := if i = 0 then none else l[i - 1]?
theorem pvL_zero (l : List LiveT) : pvL l 0 = none := rfl
theorem pvL_succ (l : List LiveT) (i : Nat) (h : i < l.length) : pvL l (i + 1) = some l[i] := by unfold pvL; rw [if_neg (by omega), Nat.add_sub_cancel, List.getElem?_eq_getElem h]
theorem pvL_pos (l : List LiveT) (i : Nat) (h : i < l.length) (h0 : ¬ i = 0) : pvL l i = some (l[i - 1]'(by omega)) := by unfold pvL; rw [if_neg h0, List.getElem?_eq_getElem (by omega)]


theorem live_get (l : List LiveT) (i : Nat) (h : i < l.length) : (l.map Enc.b)[i]? = some (.nd [.int .i64 l[i].1, .int .i64 l[i].2.1, .bool l[i].2.2.1]) := map_get Enc.b l i h

theorem livesOk_ok (l : List LiveT) (lsn : Int) (hl : l.length ≤ 1048576) (h1 : 1 ≤ lsn) (h2 : lsn ≤ 1000000) : CallR Try.prog 81 [.sl .b (l.map Enc.b), .int .i64 lsn] [] (.bool (livesB l lsn)) := by
  refine CallR.of_body (n := 45) (rs := [.tmp 4]) hY.ok Try.func81 rfl (by decide) rfl rfl rfl rfl (fun F => ?_)
  have fx := And.intro Y1 (And.intro Y3 (And.intro Y4 (And.intro Y39 (Y91))))
  have hwl : IntKind.i64.wrap (lsn - 1) = lsn - 1 := wrap64 _ (by omega) (by omega)
  have fy := Nat.add_zero
  refine goN ?_ ?_ ?_ ?_ ?_ ?_ ?_ ?_ ?_ ?_ ?_ ?_ ?_ ?_ ?_ ?_
  any_goals (first | exact True.intro | skip)
  skip
  refine SW.loop (fun i : Nat => ⟨[.sl .b (l.map Enc.b), .int .i64 lsn, .undef, .undef, .undef, .undef, .undef, .sl .b (l.map Enc.b), .int .i64 l.length, .int .i64 i, .undef, .undef, .undef, .undef, .undef, .undef, .undef, .undef, .undef, .undef, .undef, .undef, .undef, .undef, .undef, .undef, .undef, .undef, .undef, .undef, .undef, .undef, .undef, .undef, .undef, .undef, .undef, .undef, .undef, .undef, .undef, .undef, .undef, .undef, .undef], [[]]⟩)
    (fun n i => n = l.length - i ∧ i ≤ l.length ∧ livesL lsn (pvL l i) (l.drop i) = livesL lsn none l) (n := l.length) (x := 0) (Norm.re [0] (by decide) rfl (by first | (simp only [eq_self, heapFits, rowFits, obFits, List.getElem?_cons_zero, List.getElem?_cons_succ, renL_o, renL_b, true_and, and_true, and_self]; done) | simp [-List.map_append, heapFits, rowFits, obFits, T.ren, renL]) (by simp [tmFits, T.ren])) ⟨rfl, Nat.zero_le _, rfl⟩ ?_
  rintro n i ⟨hn, hi, hfd⟩
  have fy := Nat.add_zero
  refine goS ?_
  refine SW.cond rfl (fun hc => ?_) (fun hc => ?_)
  · have hlt : i < l.length := by simpa using hc
    have hg := live_get l i hlt
    have hltI : (i : Int) < (l.length : Int) := by omega
    rw [List.drop_eq_getElem_cons hlt, livesL] at hfd
    have hA := isTx_ok l[i].1
    have hB := inR_ok l[i].2.1 1 (lsn - 1)
    have hcon : ∀ b, liveB lsn (pvL l i) l[i] = b → (b = false → livesB l lsn = false) := fun b hb h => by subst h; rw [hb] at hfd; unfold livesB; rw [← hfd]; rfl
    have hgo : liveB lsn (pvL l i) l[i] = true → livesL lsn (pvL l (i + 1)) (l.drop (i + 1)) = livesL lsn none l := fun hb => by rw [hb, Bool.true_and] at hfd; rw [pvL_succ l i hlt]; exact hfd
    have hlb : liveB lsn (pvL l i) l[i] = ((rng l[i].1 1 1000 && rng l[i].2.1 1 (lsn - 1)) && (match pvL l i with | none => true | some q => decide (q.1 < l[i].1))) := rfl
    have hz : (i = 0 ∧ decide ((i : Int) > 0) = false ∧ (match pvL l i with | none => true | some q => decide (q.1 < l[i].1)) = true) ∨ (¬ i = 0 ∧ decide ((i : Int) > 0) = true) := by
      by_cases h : i = 0
      · subst h; exact .inl ⟨rfl, rfl, rfl⟩
      · exact .inr ⟨h, by simp; omega⟩
    cases hAv : rng l[i].1 1 1000
    · rw [hAv] at hA
      have hC1 := cx [] (hA)
      have hC2 := cx [] (hB)
      have fy := And.intro hg (And.intro hltI (hwl))
      refine goK ?_ ?_ ?_ ?_ ?_ ?_ ?_ ?_ ?_ ?_ ?_ ?_ ?_ ?_ ?_ ?_
      any_goals (first | exact True.intro | skip)
      all_goals (repeat (refine Wh.mk fun hcc => ?_))
      all_goals (simp only [tupOf, fixEs]; rw [hcon _ rfl (by rw [hlb]; simp_all)])
    · rw [hAv] at hA
      cases hBv : rng l[i].2.1 1 (lsn - 1)
      · rw [hBv] at hB
        have hC1 := cx [] (hA)
        have hC2 := cx [] (hB)
        have fy := And.intro hg (And.intro hltI (hwl))
        refine goK ?_ ?_ ?_ ?_ ?_ ?_ ?_ ?_ ?_ ?_ ?_ ?_ ?_ ?_ ?_ ?_
        any_goals (first | exact True.intro | skip)
        all_goals (repeat (refine Wh.mk fun hcc => ?_))
        all_goals (simp only [tupOf, fixEs]; rw [hcon _ rfl (by rw [hlb]; simp_all)])
      · rw [hBv] at hB
        rcases hz with ⟨hi0, hzd, hzm⟩ | ⟨hi0, hzd⟩
        · skip
          have hC1 := cx [] (hA)
          have hC2 := cx [] (hB)
          have fy := And.intro hg (And.intro hltI (And.intro hwl (hzd)))
          refine goK ?_ ?_ ?_ ?_ ?_ ?_ ?_ ?_ ?_ ?_ ?_ ?_ ?_ ?_ ?_ ?_
          any_goals (first | exact True.intro | skip)
          all_goals (repeat (refine Wh.mk fun hcc => ?_))
          all_goals (refine ⟨n - 1, i + 1, by omega, ⟨by omega, by omega, hgo (by rw [hlb]; simp_all)⟩, ?_⟩; rw [wrap64 _ (by omega) (by omega)]; exact Norm.re [0] (by decide) rfl (by first | (simp only [eq_self, heapFits, rowFits, obFits, List.getElem?_cons_zero, List.getElem?_cons_succ, renL_o, renL_b, true_and, and_true, and_self]; done) | simp [-List.map_append, heapFits, rowFits, obFits, T.ren, renL]) (by simp [tmFits, T.ren]))
        · have hgp : (l.map Enc.b)[i - 1]? = some (.nd [.int .i64 (((l[i - 1]'(by omega))).1), .int .i64 (((l[i - 1]'(by omega))).2.1), .bool (((l[i - 1]'(by omega))).2.2.1)]) := map_get Enc.b l (i - 1) (by omega)
          have hwi : IntKind.i64.wrap ((i : Int) - 1) = ((i - 1 : Nat) : Int) := by rw [wrap64 _ (by omega) (by omega)]; omega
          have hpI : ((i - 1 : Nat) : Int) < (l.length : Int) := by omega
          have hpm : (match pvL l i with | none => true | some q => decide (q.1 < l[i].1)) = decide ((l[i - 1]'(by omega)).1 < l[i].1) := by rw [pvL_pos l i hlt hi0]
          rw [hpm] at hlb
          by_cases hC : (l[i - 1]'(by omega)).1 < l[i].1
          · have hCd : decide ((l[i - 1]'(by omega)).1 ≥ l[i].1) = false := by simp; omega
            have hC1 := cx [] (hA)
            have hC2 := cx [] (hB)
            have fy := And.intro hg (And.intro hltI (And.intro hwl (And.intro hzd (And.intro hgp (And.intro hwi (And.intro hpI (hCd)))))))
            refine goK ?_ ?_ ?_ ?_ ?_ ?_ ?_ ?_ ?_ ?_ ?_ ?_ ?_ ?_ ?_ ?_
            any_goals (first | exact True.intro | skip)
            all_goals (repeat (refine Wh.mk fun hcc => ?_))
            all_goals (refine ⟨n - 1, i + 1, by omega, ⟨by omega, by omega, hgo (by rw [hlb]; simp_all)⟩, ?_⟩; rw [wrap64 _ (by omega) (by omega)]; exact Norm.re [0] (by decide) rfl (by first | (simp only [eq_self, heapFits, rowFits, obFits, List.getElem?_cons_zero, List.getElem?_cons_succ, renL_o, renL_b, true_and, and_true, and_self]; done) | simp [-List.map_append, heapFits, rowFits, obFits, T.ren, renL]) (by simp [tmFits, T.ren]))
          · have hCd : decide ((l[i - 1]'(by omega)).1 ≥ l[i].1) = true := by simp; omega
            have hC1 := cx [] (hA)
            have hC2 := cx [] (hB)
            have fy := And.intro hg (And.intro hltI (And.intro hwl (And.intro hzd (And.intro hgp (And.intro hwi (And.intro hpI (hCd)))))))
            refine goK ?_ ?_ ?_ ?_ ?_ ?_ ?_ ?_ ?_ ?_ ?_ ?_ ?_ ?_ ?_ ?_
            any_goals (first | exact True.intro | skip)
            all_goals (repeat (refine Wh.mk fun hcc => ?_))
            all_goals (simp only [tupOf, fixEs]; rw [hcon _ rfl (by rw [hlb]; simp_all)])
  · have hge : i = l.length := by
      have : ¬ i < l.length := by simpa using hc
      omega
    subst hge
    rw [List.drop_length] at hfd
    have hlv : livesB l lsn = decide ((l.length : Int) ≤ 20) := by
      unfold livesB; rw [← hfd]; simp only [livesL, Bool.true_and]; exact decide_eq_decide.2 (by omega)
    have fy := Nat.add_zero
    refine goK ?_ ?_ ?_ ?_ ?_ ?_ ?_ ?_ ?_ ?_ ?_ ?_ ?_ ?_ ?_ ?_
    any_goals (first | exact True.intro | skip)
    all_goals (repeat (refine Wh.mk fun hcc => ?_))
    all_goals simp only [tupOf, fixEs, hlv]
theorem l4Lives_ok (l : List LiveT) (lsn : Int) (a2 a3 a4 a5 a8 : Int) (s1 s2 : SlotT) (hl : l.length ≤ 1048576) (h1 : 1 ≤ lsn) (h2 : lsn ≤ 1000000) : CallR Try.prog 78 [.nd [.int .i64 lsn, .int .i64 a2, .int .i64 a3, .int .i64 a4, .int .i64 a5, .nd [.bool s1.1, .nd [.int .i64 s1.2.1.1, .sl .b (s1.2.1.2.1.map Enc.b), .sl .b (s1.2.1.2.2.1.map Enc.b)]], .nd [.bool s2.1, .nd [.int .i64 s2.2.1.1, .sl .b (s2.2.1.2.1.map Enc.b), .sl .b (s2.2.1.2.2.1.map Enc.b)]], .int .i64 a8, .sl .b (l.map Enc.b)]] [] (.bool (livesB l lsn)) := by
  refine CallR.of_body (n := 56) (rs := [.tmp 2]) hY.ok Try.func78 rfl (by decide) rfl rfl rfl rfl (fun F => ?_)
  have fx := And.intro Y1 (And.intro Y2 (And.intro Y3 (And.intro Y4 (And.intro Y6 (And.intro Y8 (And.intro Y34 (And.intro Y36 (And.intro Y38 (And.intro Y39 (And.intro Y41 (Y91)))))))))))
  have hwl : IntKind.i64.wrap (lsn - 1) = lsn - 1 := wrap64 _ (by omega) (by omega)
  have fy := Nat.add_zero
  refine goN ?_ ?_ ?_ ?_ ?_ ?_ ?_ ?_ ?_ ?_ ?_ ?_ ?_ ?_ ?_ ?_
  any_goals (first | exact True.intro | skip)
  skip
  refine SW.loop (fun i : Nat => ⟨[.undef, .ptr 1 0 [] 0, .undef, .int .i64 i, .undef, .undef, .undef, .undef, .undef, .undef, .undef, .undef, .undef, .undef, .undef, .undef, .undef, .undef, .undef, .undef, .undef, .undef, .undef, .undef, .undef, .undef, .undef, .undef, .undef, .undef, .undef, .undef, .undef, .undef, .undef, .undef, .undef, .undef, .undef, .undef, .undef, .undef, .undef, .undef, .undef, .undef, .undef, .undef, .undef, .undef, .undef, .undef, .undef, .undef, .undef, .undef], [[], [.var (.nd [.int .i64 lsn, .int .i64 a2, .int .i64 a3, .int .i64 a4, .int .i64 a5, .nd [.bool s1.1, .nd [.int .i64 s1.2.1.1, .sl .b (s1.2.1.2.1.map Enc.b), .sl .b (s1.2.1.2.2.1.map Enc.b)]], .nd [.bool s2.1, .nd [.int .i64 s2.2.1.1, .sl .b (s2.2.1.2.1.map Enc.b), .sl .b (s2.2.1.2.2.1.map Enc.b)]], .int .i64 a8, .sl .b (l.map Enc.b)])]]⟩)
    (fun n i => n = l.length - i ∧ i ≤ l.length ∧ livesL lsn (pvL l i) (l.drop i) = livesL lsn none l) (n := l.length) (x := 0) (Norm.re [0, 1] (by decide) rfl (by first | (simp only [eq_self, heapFits, rowFits, obFits, List.getElem?_cons_zero, List.getElem?_cons_succ, renL_o, renL_b, true_and, and_true, and_self]; done) | simp [-List.map_append, heapFits, rowFits, obFits, T.ren, renL]) (by simp [tmFits, T.ren])) ⟨rfl, Nat.zero_le _, rfl⟩ ?_
  rintro n i ⟨hn, hi, hfd⟩
  have fy := Nat.add_zero
  refine goS ?_
  refine SW.cond rfl (fun hc => ?_) (fun hc => ?_)
  · have hlt : i < l.length := by simpa using hc
    have hg := live_get l i hlt
    have hltI : (i : Int) < (l.length : Int) := by omega
    rw [List.drop_eq_getElem_cons hlt, livesL] at hfd
    have hA := l1InR_ok l[i].1 1 1000
    have hB := l1InR_ok l[i].2.1 1 (lsn - 1)
    have hcon : ∀ b, liveB lsn (pvL l i) l[i] = b → (b = false → livesB l lsn = false) := fun b hb h => by subst h; rw [hb] at hfd; unfold livesB; rw [← hfd]; rfl
    have hgo : liveB lsn (pvL l i) l[i] = true → livesL lsn (pvL l (i + 1)) (l.drop (i + 1)) = livesL lsn none l := fun hb => by rw [hb, Bool.true_and] at hfd; rw [pvL_succ l i hlt]; exact hfd
    have hlb : liveB lsn (pvL l i) l[i] = ((rng l[i].1 1 1000 && rng l[i].2.1 1 (lsn - 1)) && (match pvL l i with | none => true | some q => decide (q.1 < l[i].1))) := rfl
    have hz : (i = 0 ∧ decide ((i : Int) > 0) = false ∧ (match pvL l i with | none => true | some q => decide (q.1 < l[i].1)) = true) ∨ (¬ i = 0 ∧ decide ((i : Int) > 0) = true) := by
      by_cases h : i = 0
      · subst h; exact .inl ⟨rfl, rfl, rfl⟩
      · exact .inr ⟨h, by simp; omega⟩
    cases hAv : rng l[i].1 1 1000
    · rw [hAv] at hA
      have hC1 := cx [] (hA)
      have hC2 := cx [] (hB)
      have fy := And.intro hg (And.intro hltI (hwl))
      refine goK ?_ ?_ ?_ ?_ ?_ ?_ ?_ ?_ ?_ ?_ ?_ ?_ ?_ ?_ ?_ ?_
      any_goals (first | exact True.intro | skip)
      all_goals (repeat (refine Wh.mk fun hcc => ?_))
      all_goals (simp only [tupOf, fixEs]; rw [hcon _ rfl (by rw [hlb]; simp_all)])
    · rw [hAv] at hA
      cases hBv : rng l[i].2.1 1 (lsn - 1)
      · rw [hBv] at hB
        have hC1 := cx [] (hA)
        have hC2 := cx [] (hB)
        have fy := And.intro hg (And.intro hltI (hwl))
        refine goK ?_ ?_ ?_ ?_ ?_ ?_ ?_ ?_ ?_ ?_ ?_ ?_ ?_ ?_ ?_ ?_
        any_goals (first | exact True.intro | skip)
        all_goals (repeat (refine Wh.mk fun hcc => ?_))
        all_goals (simp only [tupOf, fixEs]; rw [hcon _ rfl (by rw [hlb]; simp_all)])
      · rw [hBv] at hB
        rcases hz with ⟨hi0, hzd, hzm⟩ | ⟨hi0, hzd⟩
        · skip
          have hC1 := cx [] (hA)
          have hC2 := cx [] (hB)
          have fy := And.intro hg (And.intro hltI (And.intro hwl (hzd)))
          refine goK ?_ ?_ ?_ ?_ ?_ ?_ ?_ ?_ ?_ ?_ ?_ ?_ ?_ ?_ ?_ ?_
          any_goals (first | exact True.intro | skip)
          all_goals (repeat (refine Wh.mk fun hcc => ?_))
          all_goals (refine ⟨n - 1, i + 1, by omega, ⟨by omega, by omega, hgo (by rw [hlb]; simp_all)⟩, ?_⟩; rw [wrap64 _ (by omega) (by omega)]; exact Norm.re [0, 1] (by decide) rfl (by first | (simp only [eq_self, heapFits, rowFits, obFits, List.getElem?_cons_zero, List.getElem?_cons_succ, renL_o, renL_b, true_and, and_true, and_self]; done) | simp [-List.map_append, heapFits, rowFits, obFits, T.ren, renL]) (by simp [tmFits, T.ren]))
        · have hgp : (l.map Enc.b)[i - 1]? = some (.nd [.int .i64 (((l[i - 1]'(by omega))).1), .int .i64 (((l[i - 1]'(by omega))).2.1), .bool (((l[i - 1]'(by omega))).2.2.1)]) := map_get Enc.b l (i - 1) (by omega)
          have hwi : IntKind.i64.wrap ((i : Int) - 1) = ((i - 1 : Nat) : Int) := by rw [wrap64 _ (by omega) (by omega)]; omega
          have hpI : ((i - 1 : Nat) : Int) < (l.length : Int) := by omega
          have hpm : (match pvL l i with | none => true | some q => decide (q.1 < l[i].1)) = decide ((l[i - 1]'(by omega)).1 < l[i].1) := by rw [pvL_pos l i hlt hi0]
          rw [hpm] at hlb
          by_cases hC : (l[i - 1]'(by omega)).1 < l[i].1
          · have hCd : decide ((l[i - 1]'(by omega)).1 ≥ l[i].1) = false := by simp; omega
            have hC1 := cx [] (hA)
            have hC2 := cx [] (hB)
            have fy := And.intro hg (And.intro hltI (And.intro hwl (And.intro hzd (And.intro hgp (And.intro hwi (And.intro hpI (hCd)))))))
            refine goK ?_ ?_ ?_ ?_ ?_ ?_ ?_ ?_ ?_ ?_ ?_ ?_ ?_ ?_ ?_ ?_
            any_goals (first | exact True.intro | skip)
            all_goals (repeat (refine Wh.mk fun hcc => ?_))
            all_goals (refine ⟨n - 1, i + 1, by omega, ⟨by omega, by omega, hgo (by rw [hlb]; simp_all)⟩, ?_⟩; rw [wrap64 _ (by omega) (by omega)]; exact Norm.re [0, 1] (by decide) rfl (by first | (simp only [eq_self, heapFits, rowFits, obFits, List.getElem?_cons_zero, List.getElem?_cons_succ, renL_o, renL_b, true_and, and_true, and_self]; done) | simp [-List.map_append, heapFits, rowFits, obFits, T.ren, renL]) (by simp [tmFits, T.ren]))
          · have hCd : decide ((l[i - 1]'(by omega)).1 ≥ l[i].1) = true := by simp; omega
            have hC1 := cx [] (hA)
            have hC2 := cx [] (hB)
            have fy := And.intro hg (And.intro hltI (And.intro hwl (And.intro hzd (And.intro hgp (And.intro hwi (And.intro hpI (hCd)))))))
            refine goK ?_ ?_ ?_ ?_ ?_ ?_ ?_ ?_ ?_ ?_ ?_ ?_ ?_ ?_ ?_ ?_
            any_goals (first | exact True.intro | skip)
            all_goals (repeat (refine Wh.mk fun hcc => ?_))
            all_goals (simp only [tupOf, fixEs]; rw [hcon _ rfl (by rw [hlb]; simp_all)])
  · have hge : i = l.length := by
      have : ¬ i < l.length := by simpa using hc
      omega
    subst hge
    rw [List.drop_length] at hfd
    have hlv : livesB l lsn = decide ((l.length : Int) ≤ 20) := by
      unfold livesB; rw [← hfd]; simp only [livesL, Bool.true_and]; exact decide_eq_decide.2 (by omega)
    have fy := Nat.add_zero
    refine goK ?_ ?_ ?_ ?_ ?_ ?_ ?_ ?_ ?_ ?_ ?_ ?_ ?_ ?_ ?_ ?_
    any_goals (first | exact True.intro | skip)
    all_goals (repeat (refine Wh.mk fun hcc => ?_))
    all_goals simp only [tupOf, fixEs, hlv]
end Q6

namespace Q6
open Go Go.Vm Go.Proofs
set_option maxHeartbeats 4000000
set_option synthInstance.maxSize 2000
set_option synthInstance.maxHeartbeats 400000
set_option maxRecDepth 10000
set_option linter.unusedSimpArgs false
set_option linter.unusedVariables false


def slot0 : SlotT := (false, (0, [], [], ()), ())
theorem noSlot_eq (s : SlotT) : decide (s = slot0) = noSlotB s := by
  obtain ⟨b, ⟨k, i, r, u⟩, u'⟩ := s
  unfold noSlotB noObjB slot0
  simp only [Prod.mk.injEq, List.length_eq_zero_iff, and_true]
  cases b <;> simp [Bool.and_assoc]
theorem sNoSlot_ok (s : SlotT) (hs : Enc.lim 1048576 s) : CallR Try.prog 139 [.nd [.bool s.1, .nd [.int .i64 s.2.1.1, .sl .b (s.2.1.2.1.map Enc.b), .sl .b (s.2.1.2.2.1.map Enc.b)]], .nd [.bool false, .nd [.int .i64 0, .sl .b [], .sl .b []]]] [] (.bool (noSlotB s)) := by
  rw [← noSlot_eq]; exact sSameSlot_ok s slot0 hs
def z6 (x : RecT) : Bool := ((((decide (x.2.1 = 0) && decide (x.2.2.1 = 0)) && (decide (x.2.2.2.2.1 = 0) && noSlotB x.2.2.2.2.2.2.1)) && noSlotB x.2.2.2.2.2.1) && decide (x.2.2.2.2.2.2.2.1 = 0))
def z1 (x : RecT) : Bool := decide (x.2.2.2.2.2.2.2.1 = 0) && decide (x.2.2.2.2.2.2.2.2.1.length = 0)
def z4 (x : RecT) : Bool := noSlotB x.2.2.2.2.2.1 && decide (x.2.2.2.2.2.2.2.2.1.length = 0)
def z2 (x : RecT) : Bool := (((decide (x.2.2.2.2.1 = 0) && noSlotB x.2.2.2.2.2.2.1) && noSlotB x.2.2.2.2.2.1) && decide (x.2.2.2.2.2.2.2.1 = 0)) && decide (x.2.2.2.2.2.2.2.2.1.length = 0)

theorem l4Zero_z6 (x : RecT) (hx : Enc.lim 1048576 x) : CallR Try.prog 77 [.nd [.int .i64 x.1, .int .i64 x.2.1, .int .i64 x.2.2.1, .int .i64 x.2.2.2.1, .int .i64 x.2.2.2.2.1, .nd [.bool x.2.2.2.2.2.1.1, .nd [.int .i64 x.2.2.2.2.2.1.2.1.1, .sl .b (x.2.2.2.2.2.1.2.1.2.1.map Enc.b), .sl .b (x.2.2.2.2.2.1.2.1.2.2.1.map Enc.b)]], .nd [.bool x.2.2.2.2.2.2.1.1, .nd [.int .i64 x.2.2.2.2.2.2.1.2.1.1, .sl .b (x.2.2.2.2.2.2.1.2.1.2.1.map Enc.b), .sl .b (x.2.2.2.2.2.2.1.2.1.2.2.1.map Enc.b)]], .int .i64 x.2.2.2.2.2.2.2.1, .sl .b (x.2.2.2.2.2.2.2.2.1.map Enc.b)], .bool false, .bool false, .bool false, .bool false, .bool true] [] (.bool (z6 x)) := by
  refine CallR.of_body (n := 66) (rs := [.tmp 12]) hY.ok Try.func77 rfl (by decide) rfl rfl rfl rfl (fun F => ?_)
  have fx := And.intro Y1 (And.intro Y2 (And.intro Y3 (And.intro Y4 (And.intro Y5 (And.intro Y6 (And.intro Y7 (And.intro Y8 (And.intro Y34 (And.intro Y36 (And.intro Y38 (And.intro Y39 (And.intro Y41 (Y91)))))))))))))
  have hA := sNoSlot_ok x.2.2.2.2.2.2.1 hx.2.2.2.2.2.2.1
  have hB := sNoSlot_ok x.2.2.2.2.2.1 hx.2.2.2.2.2.1
  have hq1 : (x.2.1 == 0) = decide (x.2.1 = 0) := rfl
  have hq2 : (x.2.2.1 == 0) = decide (x.2.2.1 = 0) := rfl
  have hq3 : (x.2.2.2.2.1 == 0) = decide (x.2.2.2.2.1 = 0) := rfl
  have hq4 : (x.2.2.2.2.2.2.2.1 == 0) = decide (x.2.2.2.2.2.2.2.1 = 0) := rfl
  have hq5 : ((x.2.2.2.2.2.2.2.2.1.length : Int) == 0) = decide (x.2.2.2.2.2.2.2.2.1.length = 0) := by
    by_cases h : x.2.2.2.2.2.2.2.2.1.length = 0
    · simp [h]
    · have : ¬ (x.2.2.2.2.2.2.2.2.1.length : Int) = 0 := by omega
      rw [beq_eq_false_iff_ne.2 this]; simp [h]
  unfold z6
  generalize noSlotB x.2.2.2.2.2.2.1 = sa at *
  generalize noSlotB x.2.2.2.2.2.1 = sb at *
  generalize decide (x.2.1 = 0) = d1 at *
  generalize decide (x.2.2.1 = 0) = d2 at *
  generalize decide (x.2.2.2.2.1 = 0) = d3 at *
  generalize decide (x.2.2.2.2.2.2.2.1 = 0) = d4 at *
  generalize decide (x.2.2.2.2.2.2.2.2.1.length = 0) = d5 at *
  have hC1 := cx [] (hA)
  have hC2 := cx [] (hB)
  have fy := And.intro hq1 (And.intro hq2 (And.intro hq3 (And.intro hq4 (hq5))))
  refine goK ?_ ?_ ?_ ?_ ?_ ?_ ?_ ?_ ?_ ?_ ?_ ?_ ?_ ?_ ?_ ?_
  any_goals (first | exact True.intro | skip)
  all_goals (repeat (refine Wh.mk fun hcc => ?_))
  all_goals (first | rfl | ((try simp only [tupOf, fixEs]); (first | done | (revert d1 d2 d3 d4 d5 sa sb; decide) | (simp_all; done) | grind)))
theorem l4Zero_z1 (x : RecT) (hx : Enc.lim 1048576 x) : CallR Try.prog 77 [.nd [.int .i64 x.1, .int .i64 x.2.1, .int .i64 x.2.2.1, .int .i64 x.2.2.2.1, .int .i64 x.2.2.2.2.1, .nd [.bool x.2.2.2.2.2.1.1, .nd [.int .i64 x.2.2.2.2.2.1.2.1.1, .sl .b (x.2.2.2.2.2.1.2.1.2.1.map Enc.b), .sl .b (x.2.2.2.2.2.1.2.1.2.2.1.map Enc.b)]], .nd [.bool x.2.2.2.2.2.2.1.1, .nd [.int .i64 x.2.2.2.2.2.2.1.2.1.1, .sl .b (x.2.2.2.2.2.2.1.2.1.2.1.map Enc.b), .sl .b (x.2.2.2.2.2.2.1.2.1.2.2.1.map Enc.b)]], .int .i64 x.2.2.2.2.2.2.2.1, .sl .b (x.2.2.2.2.2.2.2.2.1.map Enc.b)], .bool true, .bool true, .bool true, .bool false, .bool false] [] (.bool (z1 x)) := by
  refine CallR.of_body (n := 66) (rs := [.tmp 12]) hY.ok Try.func77 rfl (by decide) rfl rfl rfl rfl (fun F => ?_)
  have fx := And.intro Y1 (And.intro Y2 (And.intro Y3 (And.intro Y4 (And.intro Y5 (And.intro Y6 (And.intro Y7 (And.intro Y8 (And.intro Y34 (And.intro Y36 (And.intro Y38 (And.intro Y39 (And.intro Y41 (Y91)))))))))))))
  have hA := sNoSlot_ok x.2.2.2.2.2.2.1 hx.2.2.2.2.2.2.1
  have hB := sNoSlot_ok x.2.2.2.2.2.1 hx.2.2.2.2.2.1
  have hq1 : (x.2.1 == 0) = decide (x.2.1 = 0) := rfl
  have hq2 : (x.2.2.1 == 0) = decide (x.2.2.1 = 0) := rfl
  have hq3 : (x.2.2.2.2.1 == 0) = decide (x.2.2.2.2.1 = 0) := rfl
  have hq4 : (x.2.2.2.2.2.2.2.1 == 0) = decide (x.2.2.2.2.2.2.2.1 = 0) := rfl
  have hq5 : ((x.2.2.2.2.2.2.2.2.1.length : Int) == 0) = decide (x.2.2.2.2.2.2.2.2.1.length = 0) := by
    by_cases h : x.2.2.2.2.2.2.2.2.1.length = 0
    · simp [h]
    · have : ¬ (x.2.2.2.2.2.2.2.2.1.length : Int) = 0 := by omega
      rw [beq_eq_false_iff_ne.2 this]; simp [h]
  unfold z1
  generalize noSlotB x.2.2.2.2.2.2.1 = sa at *
  generalize noSlotB x.2.2.2.2.2.1 = sb at *
  generalize decide (x.2.1 = 0) = d1 at *
  generalize decide (x.2.2.1 = 0) = d2 at *
  generalize decide (x.2.2.2.2.1 = 0) = d3 at *
  generalize decide (x.2.2.2.2.2.2.2.1 = 0) = d4 at *
  generalize decide (x.2.2.2.2.2.2.2.2.1.length = 0) = d5 at *
  have hC1 := cx [] (hA)
  have hC2 := cx [] (hB)
  have fy := And.intro hq1 (And.intro hq2 (And.intro hq3 (And.intro hq4 (hq5))))
  refine goK ?_ ?_ ?_ ?_ ?_ ?_ ?_ ?_ ?_ ?_ ?_ ?_ ?_ ?_ ?_ ?_
  any_goals (first | exact True.intro | skip)
  all_goals (repeat (refine Wh.mk fun hcc => ?_))
  all_goals (first | rfl | ((try simp only [tupOf, fixEs]); (first | done | (revert d1 d2 d3 d4 d5 sa sb; decide) | (simp_all; done) | grind)))
theorem l4Zero_z4 (x : RecT) (hx : Enc.lim 1048576 x) : CallR Try.prog 77 [.nd [.int .i64 x.1, .int .i64 x.2.1, .int .i64 x.2.2.1, .int .i64 x.2.2.2.1, .int .i64 x.2.2.2.2.1, .nd [.bool x.2.2.2.2.2.1.1, .nd [.int .i64 x.2.2.2.2.2.1.2.1.1, .sl .b (x.2.2.2.2.2.1.2.1.2.1.map Enc.b), .sl .b (x.2.2.2.2.2.1.2.1.2.2.1.map Enc.b)]], .nd [.bool x.2.2.2.2.2.2.1.1, .nd [.int .i64 x.2.2.2.2.2.2.1.2.1.1, .sl .b (x.2.2.2.2.2.2.1.2.1.2.1.map Enc.b), .sl .b (x.2.2.2.2.2.2.1.2.1.2.2.1.map Enc.b)]], .int .i64 x.2.2.2.2.2.2.2.1, .sl .b (x.2.2.2.2.2.2.2.2.1.map Enc.b)], .bool true, .bool true, .bool false, .bool true, .bool false] [] (.bool (z4 x)) := by
  refine CallR.of_body (n := 66) (rs := [.tmp 12]) hY.ok Try.func77 rfl (by decide) rfl rfl rfl rfl (fun F => ?_)
  have fx := And.intro Y1 (And.intro Y2 (And.intro Y3 (And.intro Y4 (And.intro Y5 (And.intro Y6 (And.intro Y7 (And.intro Y8 (And.intro Y34 (And.intro Y36 (And.intro Y38 (And.intro Y39 (And.intro Y41 (Y91)))))))))))))
  have hA := sNoSlot_ok x.2.2.2.2.2.2.1 hx.2.2.2.2.2.2.1
  have hB := sNoSlot_ok x.2.2.2.2.2.1 hx.2.2.2.2.2.1
  have hq1 : (x.2.1 == 0) = decide (x.2.1 = 0) := rfl
  have hq2 : (x.2.2.1 == 0) = decide (x.2.2.1 = 0) := rfl
  have hq3 : (x.2.2.2.2.1 == 0) = decide (x.2.2.2.2.1 = 0) := rfl
  have hq4 : (x.2.2.2.2.2.2.2.1 == 0) = decide (x.2.2.2.2.2.2.2.1 = 0) := rfl
  have hq5 : ((x.2.2.2.2.2.2.2.2.1.length : Int) == 0) = decide (x.2.2.2.2.2.2.2.2.1.length = 0) := by
    by_cases h : x.2.2.2.2.2.2.2.2.1.length = 0
    · simp [h]
    · have : ¬ (x.2.2.2.2.2.2.2.2.1.length : Int) = 0 := by omega
      rw [beq_eq_false_iff_ne.2 this]; simp [h]
  unfold z4
  generalize noSlotB x.2.2.2.2.2.2.1 = sa at *
  generalize noSlotB x.2.2.2.2.2.1 = sb at *
  generalize decide (x.2.1 = 0) = d1 at *
  generalize decide (x.2.2.1 = 0) = d2 at *
  generalize decide (x.2.2.2.2.1 = 0) = d3 at *
  generalize decide (x.2.2.2.2.2.2.2.1 = 0) = d4 at *
  generalize decide (x.2.2.2.2.2.2.2.2.1.length = 0) = d5 at *
  have hC1 := cx [] (hA)
  have hC2 := cx [] (hB)
  have fy := And.intro hq1 (And.intro hq2 (And.intro hq3 (And.intro hq4 (hq5))))
  refine goK ?_ ?_ ?_ ?_ ?_ ?_ ?_ ?_ ?_ ?_ ?_ ?_ ?_ ?_ ?_ ?_
  any_goals (first | exact True.intro | skip)
  all_goals (repeat (refine Wh.mk fun hcc => ?_))
  all_goals (first | rfl | ((try simp only [tupOf, fixEs]); (first | done | (revert d1 d2 d3 d4 d5 sa sb; decide) | (simp_all; done) | grind)))
theorem l4Zero_z2 (x : RecT) (hx : Enc.lim 1048576 x) : CallR Try.prog 77 [.nd [.int .i64 x.1, .int .i64 x.2.1, .int .i64 x.2.2.1, .int .i64 x.2.2.2.1, .int .i64 x.2.2.2.2.1, .nd [.bool x.2.2.2.2.2.1.1, .nd [.int .i64 x.2.2.2.2.2.1.2.1.1, .sl .b (x.2.2.2.2.2.1.2.1.2.1.map Enc.b), .sl .b (x.2.2.2.2.2.1.2.1.2.2.1.map Enc.b)]], .nd [.bool x.2.2.2.2.2.2.1.1, .nd [.int .i64 x.2.2.2.2.2.2.1.2.1.1, .sl .b (x.2.2.2.2.2.2.1.2.1.2.1.map Enc.b), .sl .b (x.2.2.2.2.2.2.1.2.1.2.2.1.map Enc.b)]], .int .i64 x.2.2.2.2.2.2.2.1, .sl .b (x.2.2.2.2.2.2.2.2.1.map Enc.b)], .bool true, .bool false, .bool false, .bool false, .bool false] [] (.bool (z2 x)) := by
  refine CallR.of_body (n := 66) (rs := [.tmp 12]) hY.ok Try.func77 rfl (by decide) rfl rfl rfl rfl (fun F => ?_)
  have fx := And.intro Y1 (And.intro Y2 (And.intro Y3 (And.intro Y4 (And.intro Y5 (And.intro Y6 (And.intro Y7 (And.intro Y8 (And.intro Y34 (And.intro Y36 (And.intro Y38 (And.intro Y39 (And.intro Y41 (Y91)))))))))))))
  have hA := sNoSlot_ok x.2.2.2.2.2.2.1 hx.2.2.2.2.2.2.1
  have hB := sNoSlot_ok x.2.2.2.2.2.1 hx.2.2.2.2.2.1
  have hq1 : (x.2.1 == 0) = decide (x.2.1 = 0) := rfl
  have hq2 : (x.2.2.1 == 0) = decide (x.2.2.1 = 0) := rfl
  have hq3 : (x.2.2.2.2.1 == 0) = decide (x.2.2.2.2.1 = 0) := rfl
  have hq4 : (x.2.2.2.2.2.2.2.1 == 0) = decide (x.2.2.2.2.2.2.2.1 = 0) := rfl
  have hq5 : ((x.2.2.2.2.2.2.2.2.1.length : Int) == 0) = decide (x.2.2.2.2.2.2.2.2.1.length = 0) := by
    by_cases h : x.2.2.2.2.2.2.2.2.1.length = 0
    · simp [h]
    · have : ¬ (x.2.2.2.2.2.2.2.2.1.length : Int) = 0 := by omega
      rw [beq_eq_false_iff_ne.2 this]; simp [h]
  unfold z2
  generalize noSlotB x.2.2.2.2.2.2.1 = sa at *
  generalize noSlotB x.2.2.2.2.2.1 = sb at *
  generalize decide (x.2.1 = 0) = d1 at *
  generalize decide (x.2.2.1 = 0) = d2 at *
  generalize decide (x.2.2.2.2.1 = 0) = d3 at *
  generalize decide (x.2.2.2.2.2.2.2.1 = 0) = d4 at *
  generalize decide (x.2.2.2.2.2.2.2.2.1.length = 0) = d5 at *
  have hC1 := cx [] (hA)
  have hC2 := cx [] (hB)
  have fy := And.intro hq1 (And.intro hq2 (And.intro hq3 (And.intro hq4 (hq5))))
  refine goK ?_ ?_ ?_ ?_ ?_ ?_ ?_ ?_ ?_ ?_ ?_ ?_ ?_ ?_ ?_ ?_
  any_goals (first | exact True.intro | skip)
  all_goals (repeat (refine Wh.mk fun hcc => ?_))
  all_goals (first | rfl | ((try simp only [tupOf, fixEs]); (first | done | (revert d1 d2 d3 d4 d5 sa sb; decide) | (simp_all; done) | grind)))
end Q6

namespace Q6
open Go Go.Vm Go.Proofs
set_option maxHeartbeats 4000000
set_option synthInstance.maxSize 2000
set_option synthInstance.maxHeartbeats 400000
set_option maxRecDepth 10000
set_option linter.unusedSimpArgs false
set_option linter.unusedVariables false


theorem noSlot_slot {s : SlotT} (h : noSlotB s = true) : slotB s = true := by
  unfold noSlotB at h; simp only [Bool.and_eq_true, Bool.not_eq_true'] at h
  unfold slotB; rw [h.1]; simpa using h.2

theorem specRecOk_ok (x : RecT) (hx : Enc.lim 1048576 x) : CallR Try.prog 23 [.nd [.int .i64 x.1, .int .i64 x.2.1, .int .i64 x.2.2.1, .int .i64 x.2.2.2.1, .int .i64 x.2.2.2.2.1, .nd [.bool x.2.2.2.2.2.1.1, .nd [.int .i64 x.2.2.2.2.2.1.2.1.1, .sl .b (x.2.2.2.2.2.1.2.1.2.1.map Enc.b), .sl .b (x.2.2.2.2.2.1.2.1.2.2.1.map Enc.b)]], .nd [.bool x.2.2.2.2.2.2.1.1, .nd [.int .i64 x.2.2.2.2.2.2.1.2.1.1, .sl .b (x.2.2.2.2.2.2.1.2.1.2.1.map Enc.b), .sl .b (x.2.2.2.2.2.2.1.2.1.2.2.1.map Enc.b)]], .int .i64 x.2.2.2.2.2.2.2.1, .sl .b (x.2.2.2.2.2.2.2.2.1.map Enc.b)]] [] (.bool (recB x)) := by
  refine CallR.of_body (n := 75) (rs := [.tmp 2]) hY.ok Try.func23 rfl (by decide) rfl rfl rfl rfl (fun F => ?_)
  have fx := And.intro Y1 (And.intro Y2 (And.intro Y3 (And.intro Y4 (And.intro Y5 (And.intro Y6 (And.intro Y7 (And.intro Y34 (And.intro Y36 (And.intro Y38 (And.intro Y39 (And.intro Y41 (Y91))))))))))))
  have hk6 : (x.2.2.2.1 == 6) = decide (x.2.2.2.1 = 6) := rfl
  have hk1 : (x.2.2.2.1 == 1) = decide (x.2.2.2.1 = 1) := rfl
  have hk2 : (x.2.2.2.1 == 2) = decide (x.2.2.2.1 = 2) := rfl
  have hk3 : (x.2.2.2.1 == 3) = decide (x.2.2.2.1 = 3) := rfl
  have hk4 : (x.2.2.2.1 == 4) = decide (x.2.2.2.1 = 4) := rfl
  have hk5 : (x.2.2.2.1 == 5) = decide (x.2.2.2.1 = 5) := rfl
  have hI := l1InR_ok x.1 1 1000000
  have hSA := l3Slot_ok x.2.2.2.2.2.1 hx.2.2.2.2.2.1
  have hSB := l3Slot_ok x.2.2.2.2.2.2.1 hx.2.2.2.2.2.2.1
  have hn1 := @noSlot_slot x.2.2.2.2.2.1
  have hn2 := @noSlot_slot x.2.2.2.2.2.2.1
  cases hL : (rng x.1 1 1000000 && slotB x.2.2.2.2.2.1 && slotB x.2.2.2.2.2.2.1)
  · have hL2 : (!rng x.1 1 1000000 || !slotB x.2.2.2.2.2.1 || !slotB x.2.2.2.2.2.2.1) = true := by rw [← Bool.not_and, ← Bool.not_and, hL]; rfl
    have hG1 := fun u1 u2 u3 => l1InR_ok u1 u2 u3
    have hC1 := cx [] (hSA)
    have hC2 := cx [] (hSB)
    have fy := hL2
    refine goK ?_ ?_ ?_ ?_ ?_ ?_ ?_ ?_ ?_ ?_ ?_ ?_ ?_ ?_ ?_ ?_
    any_goals (first | exact True.intro | skip)
    all_goals (repeat (refine Wh.mk fun hcc => ?_))
    all_goals (try simp only [tupOf, fixEs])
    all_goals (simp only [recB])
    all_goals (try (exfalso; simp_all; done))
    all_goals (congr 1; revert hL hn1 hn2; cases rng x.1 1 1000000 <;> cases slotB x.2.2.2.2.2.1 <;> cases slotB x.2.2.2.2.2.2.1 <;> simp_all)
  · have hL2 : (!rng x.1 1 1000000 || !slotB x.2.2.2.2.2.1 || !slotB x.2.2.2.2.2.2.1) = false := by rw [← Bool.not_and, ← Bool.not_and, hL]; rfl
    have hb := hL
    simp only [Bool.and_eq_true] at hb
    obtain ⟨⟨hr, hs1⟩, hs2⟩ := hb
    have hb := hr
    unfold rng at hb
    simp only [Bool.and_eq_true, decide_eq_true_eq] at hb
    have hw : IntKind.i64.wrap (x.1 - 1) = x.1 - 1 := wrap64 _ (by omega) (by omega)
    have hV := l4Lives_ok x.2.2.2.2.2.2.2.2.1 x.1 x.2.1 x.2.2.1 x.2.2.2.1 x.2.2.2.2.1 x.2.2.2.2.2.2.2.1 x.2.2.2.2.2.1 x.2.2.2.2.2.2.1 hx.2.2.2.2.2.2.2.2.1.1 (by omega) (by omega)
    have hT := l1InR_ok x.2.1 1 1000
    have hP := l1InR_ok x.2.2.1 0 (x.1 - 1)
    have hN := l1InR_ok x.2.2.2.2.2.2.2.1 0 (x.1 - 1)
    have hO := l1InR_ok x.2.2.2.2.1 1 31
    have hz6 := l4Zero_z6 x hx
    have hz1 := l4Zero_z1 x hx
    have hz4 := l4Zero_z4 x hx
    have hz2 := l4Zero_z2 x hx
    have hG1 := fun u1 u2 u3 => l1InR_ok u1 u2 u3
    have hC1 := cx [] (hSA)
    have hC2 := cx [] (hSB)
    have hC3 := cx [] (hV)
    have hC4 := cx [] (hz6)
    have hC5 := cx [] (hz1)
    have hC6 := cx [] (hz4)
    have hC7 := cx [] (hz2)
    have fy := And.intro hL2 (And.intro hk1 (And.intro hk2 (And.intro hk3 (And.intro hk4 (And.intro hk5 (And.intro hk6 (hw)))))))
    refine goK ?_ ?_ ?_ ?_ ?_ ?_ ?_ ?_ ?_ ?_ ?_ ?_ ?_ ?_ ?_ ?_
    any_goals (first | exact True.intro | skip)
    all_goals (repeat (refine Wh.mk fun hcc => ?_))
    all_goals (try simp only [tupOf, fixEs])
    all_goals (try (exfalso; simp_all; done))
    all_goals (simp only [recB, hr, hs1, hs2, Bool.true_and, Bool.and_true, z6, z1, z4, z2])
    all_goals first | rfl | (simp_all; done) | grind
end Q6

namespace Q6
open Go Go.Vm Go.Proofs
set_option maxHeartbeats 4000000
set_option synthInstance.maxSize 2000
set_option synthInstance.maxHeartbeats 400000
set_option maxRecDepth 10000
set_option linter.unusedSimpArgs false
set_option linter.unusedVariables false

open Go.By

def putSl (s : SlotT) : List UInt8 := if s.1 = true then putI (putObj s.2.1).length ++ putObj s.2.1 else putI 0
theorem putObj_len {x : ObjT} (h : objB x = true) : (putObj x).length ≤ 78 := by
  have h5 := objB_len h
  have h1 := putI_len x.1
  have h2 := putL_len x.2.1
  have h3 := putL_len x.2.2.1
  unfold putObj; simp only [List.length_append]; omega
theorem putSl_len {s : SlotT} (h : slotB s = true) : (putSl s).length ≤ 84 := by
  unfold putSl
  split
  · rename_i hs
    have hb : objB s.2.1 = true := by unfold slotB at h; rw [if_pos hs] at h; exact h
    have h1 := putI_len (putObj s.2.1).length
    have h2 := putObj_len hb
    simp only [List.length_append]; omega
  · have := putI_len 0; omega

theorem sPutSlot_ok (b : List UInt8) (s : SlotT) (hs : Enc.lim 1048576 s) (hsb : slotB s = true) (hb : b.length ≤ 1048576) : CallR Try.prog 125 [.sl .b (b.map Enc.b), .nd [.bool s.1, .nd [.int .i64 s.2.1.1, .sl .b (s.2.1.2.1.map Enc.b), .sl .b (s.2.1.2.2.1.map Enc.b)]]] [] (.ow 1 ((b ++ putSl s).map Enc.o)) := by
  refine CallR.of_body (n := 20) (rs := [.tmp 4]) hY.ok Try.func125 rfl (by decide) rfl rfl rfl rfl (fun F => ?_)
  have fx := And.intro Y1 (And.intro Y3 (And.intro Y4 (And.intro Y5 (And.intro Y24 (And.intro Y34 (And.intro Y36 (Y38)))))))
  obtain ⟨has, o, ⟨⟩⟩ := s
  unfold putSl
  simp only at hs ⊢
  cases has
  · have hP := PutInt_ok b 0 (by omega)
    simp only [Bool.false_eq_true, if_false]
    have hC1 := cx [] (hP)
    have fy := Nat.add_zero
    refine goR ?_ ?_ ?_ ?_ ?_ ?_ ?_ ?_ ?_ ?_ ?_ ?_ ?_ ?_ ?_ ?_
    any_goals (first | exact True.intro | skip)
    all_goals (repeat (refine Wh.mk fun hcc => ?_))
    all_goals exact SW.ret (show RetQ _ _ _ _ _ _ _ from RetQ.y [1] [.ow 1 ((b ++ putI 0).map Enc.o)])
  · have hob : objB o = true := hsb
    have hO := sPutObj_y o hs.2.1 hob
    have hol := putObj_len hob
    simp only [if_true]
    generalize putObj o = p at *
    have hP := PutInt_ok b p.length (by omega)
    have hpl := putI_len p.length
    have hap := append_runR (Y := Y) (H := [[], [.var (.nd [.bool (((true, o, ())).1), .nd [.int .i64 ((((true, o, ())).2.1).1), .sl .b (((((true, o, ())).2.1).2.1).map Enc.b), .sl .b (((((true, o, ())).2.1).2.2.1).map Enc.b)]])], [.arr 1 (p.map Enc.o) false], [.arr 1 ((b ++ putI p.length).map Enc.o) false], []]) (own := 4) (t := 24) (u := 24) (e := 3) (j := 0) (off := 0) (n := (b ++ putI p.length).length) (e2 := 2) (j2 := 0) (f := (b ++ putI p.length).map Enc.o) (l := b ++ putI p.length) (m := p) Y24 Y24 Y5 rfl (by decide) rfl rfl (by rw [List.drop_zero]; exact take_map_len _ _) (by simp) (by simp only [List.length_append]; omega) rfl b_byte
    rw [List.append_assoc] at hap
    have hq : (b ++ putI p.length).length = (b ++ putI p.length).length := rfl
    generalize hP2 : b ++ putI p.length = P2 at *
    have hPP : b ++ (putI p.length ++ p) = P2 ++ p := by rw [← List.append_assoc, hP2]
    rw [hPP] at hap ⊢
    have hC1 := cx [] (hO)
    have hC2 := cx [] (hP)
    have fy := hap
    refine goR ?_ ?_ ?_ ?_ ?_ ?_ ?_ ?_ ?_ ?_ ?_ ?_ ?_ ?_ ?_ ?_
    any_goals (first | exact True.intro | skip)
    all_goals (repeat (refine Wh.mk fun hcc => ?_))
    all_goals exact SW.ret (show RetQ _ _ _ _ _ _ _ from RetQ.y [1] [.ow 1 ((P2 ++ p).map Enc.o)])
end Q6
