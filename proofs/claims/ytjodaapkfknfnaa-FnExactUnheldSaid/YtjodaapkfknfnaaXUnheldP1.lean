/- Shows what the parts of the program do that the claim reaches: a machine of values over the model, and the contracts of functions, for all arguments within the lengths that each theorem names. -/
import Derived.Test.YtjodaapkfknfnaaXViewP1
import Derived.Test.YtjodaapkfknfnaaXViewP2
import Derived.Test.YtjodaapkfknfnaaXViewV5
import Derived.Test.YtjodaapkfknfnaaXViewP3
set_option linter.all false

namespace Q6
open Go Go.Vm Go.Proofs
set_option maxHeartbeats 4000000
set_option synthInstance.maxSize 2000
set_option synthInstance.maxHeartbeats 400000
set_option maxRecDepth 10000
set_option linter.unusedSimpArgs false
set_option linter.unusedVariables false

set_option synthInstance.maxHeartbeats 4000000
set_option synthInstance.maxSize 20000
set_option maxHeartbeats 40000000
abbrev HoldT := (Int × Int × Unit)
abbrev LogT := ((List ((Int × Int × Int × Int × Int × ((Bool × ((Int × (List Int) × (List Int) × Unit)) × Unit)) × ((Bool × ((Int × (List Int) × (List Int) × Unit)) × Unit)) × Int × (List ((Int × Int × Bool × Unit))) × Unit))) × Int × Unit)
theorem clu_ok (r : RecT) (g : HoldT) : CallR Try.prog 125 [.nd [.int .i64 r.1, .int .i64 r.2.1, .int .i64 r.2.2.1, .int .i64 r.2.2.2.1, .int .i64 r.2.2.2.2.1, .nd [.bool r.2.2.2.2.2.1.1, .nd [.int .i64 r.2.2.2.2.2.1.2.1.1, .sl .b (r.2.2.2.2.2.1.2.1.2.1.map Enc.b), .sl .b (r.2.2.2.2.2.1.2.1.2.2.1.map Enc.b)]], .nd [.bool r.2.2.2.2.2.2.1.1, .nd [.int .i64 r.2.2.2.2.2.2.1.2.1.1, .sl .b (r.2.2.2.2.2.2.1.2.1.2.1.map Enc.b), .sl .b (r.2.2.2.2.2.2.1.2.1.2.2.1.map Enc.b)]], .int .i64 r.2.2.2.2.2.2.2.1, .sl .b (r.2.2.2.2.2.2.2.2.1.map Enc.b)], .fp (.nd [.int .i64 g.1, .int .i64 g.2.1])] [] (.bool (decide (r.2.2.2.1 = 1) && decide (r.2.1 = g.1) && decide (r.2.2.2.2.1 = g.2.1))) := by
  refine CallR.of_body (n := 21) (rs := [.tmp 3]) hY.ok Try.func125 rfl (by decide) rfl rfl rfl rfl (fun F => ?_)
  have fx := And.intro Y1 (And.intro Y3 (And.intro Y4 (And.intro Y27 (And.intro Y35 (And.intro Y37 (And.intro Y94 (And.intro Y165 (And.intro Y169 (Y197)))))))))
  generalize hb1 : decide (r.2.2.2.1 = 1) = b1
  generalize hb2 : decide (r.2.1 = g.1) = b2
  generalize hb3 : decide (r.2.2.2.2.1 = g.2.1) = b3
  have e1 : (r.2.2.2.1 == (1 : Int)) = b1 := hb1
  have e2 : (r.2.1 == g.1) = b2 := hb2
  have e3 : (r.2.2.2.2.1 == g.2.1) = b3 := hb3
  clear hb1 hb2 hb3
  cases b1
  · skip
    cases b2
    · skip
      cases b3
      · skip
        have fy := And.intro nc4 (And.intro nc8 (And.intro wa (And.intro tn (And.intro e1 (And.intro e2 (e3))))))
        refine goR ?_ ?_ ?_ ?_ ?_ ?_ ?_ ?_ ?_ ?_ ?_ ?_ ?_ ?_ ?_ ?_
        any_goals (first | exact True.intro | skip)
        all_goals (repeat (refine Wh.mk fun hcc => ?_))
        all_goals exact SW.ret (show RetQ _ _ _ _ _ _ _ from RetQ.y [0] [.bool false])
      · skip
        have fy := And.intro nc4 (And.intro nc8 (And.intro wa (And.intro tn (And.intro e1 (And.intro e2 (e3))))))
        refine goR ?_ ?_ ?_ ?_ ?_ ?_ ?_ ?_ ?_ ?_ ?_ ?_ ?_ ?_ ?_ ?_
        any_goals (first | exact True.intro | skip)
        all_goals (repeat (refine Wh.mk fun hcc => ?_))
        all_goals exact SW.ret (show RetQ _ _ _ _ _ _ _ from RetQ.y [0] [.bool false])
    · skip
      cases b3
      · skip
        have fy := And.intro nc4 (And.intro nc8 (And.intro wa (And.intro tn (And.intro e1 (And.intro e2 (e3))))))
        refine goR ?_ ?_ ?_ ?_ ?_ ?_ ?_ ?_ ?_ ?_ ?_ ?_ ?_ ?_ ?_ ?_
        any_goals (first | exact True.intro | skip)
        all_goals (repeat (refine Wh.mk fun hcc => ?_))
        all_goals exact SW.ret (show RetQ _ _ _ _ _ _ _ from RetQ.y [0] [.bool false])
      · skip
        have fy := And.intro nc4 (And.intro nc8 (And.intro wa (And.intro tn (And.intro e1 (And.intro e2 (e3))))))
        refine goR ?_ ?_ ?_ ?_ ?_ ?_ ?_ ?_ ?_ ?_ ?_ ?_ ?_ ?_ ?_ ?_
        any_goals (first | exact True.intro | skip)
        all_goals (repeat (refine Wh.mk fun hcc => ?_))
        all_goals exact SW.ret (show RetQ _ _ _ _ _ _ _ from RetQ.y [0] [.bool false])
  · skip
    cases b2
    · skip
      cases b3
      · skip
        have fy := And.intro nc4 (And.intro nc8 (And.intro wa (And.intro tn (And.intro e1 (And.intro e2 (e3))))))
        refine goR ?_ ?_ ?_ ?_ ?_ ?_ ?_ ?_ ?_ ?_ ?_ ?_ ?_ ?_ ?_ ?_
        any_goals (first | exact True.intro | skip)
        all_goals (repeat (refine Wh.mk fun hcc => ?_))
        all_goals exact SW.ret (show RetQ _ _ _ _ _ _ _ from RetQ.y [0] [.bool false])
      · skip
        have fy := And.intro nc4 (And.intro nc8 (And.intro wa (And.intro tn (And.intro e1 (And.intro e2 (e3))))))
        refine goR ?_ ?_ ?_ ?_ ?_ ?_ ?_ ?_ ?_ ?_ ?_ ?_ ?_ ?_ ?_ ?_
        any_goals (first | exact True.intro | skip)
        all_goals (repeat (refine Wh.mk fun hcc => ?_))
        all_goals exact SW.ret (show RetQ _ _ _ _ _ _ _ from RetQ.y [0] [.bool false])
    · skip
      cases b3
      · skip
        have fy := And.intro nc4 (And.intro nc8 (And.intro wa (And.intro tn (And.intro e1 (And.intro e2 (e3))))))
        refine goR ?_ ?_ ?_ ?_ ?_ ?_ ?_ ?_ ?_ ?_ ?_ ?_ ?_ ?_ ?_ ?_
        any_goals (first | exact True.intro | skip)
        all_goals (repeat (refine Wh.mk fun hcc => ?_))
        all_goals exact SW.ret (show RetQ _ _ _ _ _ _ _ from RetQ.y [0] [.bool false])
      · skip
        have fy := And.intro nc4 (And.intro nc8 (And.intro wa (And.intro tn (And.intro e1 (And.intro e2 (e3))))))
        refine goR ?_ ?_ ?_ ?_ ?_ ?_ ?_ ?_ ?_ ?_ ?_ ?_ ?_ ?_ ?_ ?_
        any_goals (first | exact True.intro | skip)
        all_goals (repeat (refine Wh.mk fun hcc => ?_))
        all_goals exact SW.ret (show RetQ _ _ _ _ _ _ _ from RetQ.y [0] [.bool true])
theorem idxR_ok (g : HoldT) (l : List ((Int × Int × Int × Int × Int × ((Bool × ((Int × (List Int) × (List Int) × Unit)) × Unit)) × ((Bool × ((Int × (List Int) × (List Int) × Unit)) × Unit)) × Int × (List ((Int × Int × Bool × Unit))) × Unit))) (hl : Enc.lim 1048576 l) : CallR Try.prog 124 [.sl .b (l.map Enc.b), .fn 125 [] [.fp (.nd [.int .i64 g.1, .int .i64 g.2.1])]] [] (.int .i64 (idxOf (fun r => decide (r.2.2.2.1 = 1) && decide (r.2.1 = g.1) && decide (r.2.2.2.2.1 = g.2.1)) l)) := by
  refine CallR.of_body (n := 19) (rs := [.tmp 4]) hY.ok Try.func124 rfl (by decide) rfl rfl rfl rfl (fun F => ?_)
  have fx := And.intro Y3 (And.intro Y4 (And.intro Y27 (And.intro Y35 (And.intro Y37 (And.intro Y91 (And.intro Y94 (And.intro Y169 (And.intro Y170 (Y197)))))))))
  have hl1 : l.length ≤ 1048576 := hl.1
  have fy := Nat.add_zero
  refine goN ?_ ?_ ?_ ?_ ?_ ?_ ?_ ?_ ?_ ?_ ?_ ?_ ?_ ?_ ?_ ?_
  any_goals (first | exact True.intro | skip)
  skip
  refine SW.loop (fun i : Nat => ⟨[.sl .b (l.map Enc.b), .fn 125 [] [.fp (.nd [.int .i64 g.1, .int .i64 g.2.1])], .undef, .undef, .undef, .undef, .undef, .int .i64 l.length, .int .i64 i, .undef, .undef, .undef, .undef, .undef, .undef, .undef, .undef, .undef, .undef], [[]]⟩)
    (fun n i => n = l.length - i ∧ i ≤ l.length ∧ ∀ j (h : j < l.length), j < i → (fun r => decide (r.2.2.2.1 = 1) && decide (r.2.1 = g.1) && decide (r.2.2.2.2.1 = g.2.1)) l[j] = false) (n := l.length) (x := 0) (Norm.to 0 rfl (by simp [weakL])) ⟨rfl, Nat.zero_le _, fun j _ h => absurd h (Nat.not_lt_zero _)⟩ ?_
  rintro n i ⟨hn, hi, hp⟩
  have fy := Nat.add_zero
  refine goS ?_
  refine SW.cond rfl (fun hc => ?_) (fun hc => ?_)
  · have hlt : i < l.length := by simpa using hc
    have hg : (l.map Enc.b)[i]? = some (.nd [.int .i64 l[i].1, .int .i64 l[i].2.1, .int .i64 l[i].2.2.1, .int .i64 l[i].2.2.2.1, .int .i64 l[i].2.2.2.2.1, .nd [.bool l[i].2.2.2.2.2.1.1, .nd [.int .i64 l[i].2.2.2.2.2.1.2.1.1, .sl .b (l[i].2.2.2.2.2.1.2.1.2.1.map Enc.b), .sl .b (l[i].2.2.2.2.2.1.2.1.2.2.1.map Enc.b)]], .nd [.bool l[i].2.2.2.2.2.2.1.1, .nd [.int .i64 l[i].2.2.2.2.2.2.1.2.1.1, .sl .b (l[i].2.2.2.2.2.2.1.2.1.2.1.map Enc.b), .sl .b (l[i].2.2.2.2.2.2.1.2.1.2.2.1.map Enc.b)]], .int .i64 l[i].2.2.2.2.2.2.2.1, .sl .b (l[i].2.2.2.2.2.2.2.2.1.map Enc.b)]) := map_get Enc.b l i hlt
    have hC1 := cx [] (clu_ok l[i] g)
    have fy := hg
    refine goK ?_ ?_ ?_ ?_ ?_ ?_ ?_ ?_ ?_ ?_ ?_ ?_ ?_ ?_ ?_ ?_
    any_goals (first | exact True.intro | skip)
    all_goals (repeat (refine Wh.mk fun hcc => ?_))
    · have hx := hcc
      have hx' : (fun r => decide (r.2.2.2.1 = 1) && decide (r.2.1 = g.1) && decide (r.2.2.2.2.1 = g.2.1)) l[i] = true := by simpa using hx
      simp only [tupOf, fixEs, idxOf_eq (fun r => decide (r.2.2.2.1 = 1) && decide (r.2.1 = g.1) && decide (r.2.2.2.2.1 = g.2.1)) l hlt hx' (fun j hj => hp j (by omega) hj)]
    · have hx := hcc
      have hx' : (fun r => decide (r.2.2.2.1 = 1) && decide (r.2.1 = g.1) && decide (r.2.2.2.2.1 = g.2.1)) l[i] = false := by simpa using hx
      refine ⟨n - 1, i + 1, by omega, ⟨by omega, by omega, fun j hj hji => ?_⟩, ?_⟩
      · by_cases he : j = i
        · subst he; exact hx'
        · exact hp j hj (by omega)
      · rw [wrap64 _ (by omega) (by omega)]
        first | exact Norm.to 0 rfl (by simp [weakL]) | exact Norm.to 1 rfl (by simp [weakL]) | exact Norm.to 2 rfl (by simp [weakL])
  · have hge : i = l.length := by
      have : ¬ i < l.length := by simpa using hc
      omega
    have fy := Nat.add_zero
    refine goK ?_ ?_ ?_ ?_ ?_ ?_ ?_ ?_ ?_ ?_ ?_ ?_ ?_ ?_ ?_ ?_
    any_goals (first | exact True.intro | skip)
    all_goals (repeat (refine Wh.mk fun hcc => ?_))
    simp only [tupOf, fixEs, idxOf_none (fun r => decide (r.2.2.2.1 = 1) && decide (r.2.1 = g.1) && decide (r.2.2.2.2.1 = g.2.1)) l (fun j hj => hp j hj (by omega))]
end Q6

namespace Q6
open Go Go.Vm Go.Proofs
set_option maxHeartbeats 4000000
set_option synthInstance.maxSize 2000
set_option synthInstance.maxHeartbeats 400000
set_option maxRecDepth 10000
set_option linter.unusedSimpArgs false
set_option linter.unusedVariables false

set_option synthInstance.maxHeartbeats 4000000
set_option synthInstance.maxSize 20000
set_option maxHeartbeats 40000000
def isR (g : HoldT) (r : RecT) : Bool := (decide (r.2.2.2.1 = 1) && decide (r.2.1 = g.1) && decide (r.2.2.2.2.1 = g.2.1))
def befF (l : List RecT) (g : HoldT) (s : (Bool × ((Int × (List Int) × (List Int) × Unit)) × Unit)) : (Bool × ((Int × (List Int) × (List Int) × Unit)) × Unit) := match l.find? (isR g) with | some r => r.2.2.2.2.2.1 | none => s
theorem bef_at (l : List RecT) (g : HoldT) (s : (Bool × ((Int × (List Int) × (List Int) × Unit)) × Unit)) (i : Nat) (h : i < l.length) (hp : ∀ j (hj : j < l.length), j < i → isR g l[j] = false) (hi : isR g l[i] = true) : befF l g s = (l[i]).2.2.2.2.2.1 := by
  have : l.find? (isR g) = some l[i] := List.find?_eq_some_iff_getElem.2 ⟨hi, i, h, rfl, fun j hj => by simp [hp j (by omega) hj]⟩
  simp [befF, this]
theorem bef_no (l : List RecT) (g : HoldT) (s : (Bool × ((Int × (List Int) × (List Int) × Unit)) × Unit)) (hp : ∀ j (hj : j < l.length), isR g l[j] = false) : befF l g s = s := by
  have : l.find? (isR g) = none := by
    rw [List.find?_eq_none]
    intro x hx
    obtain ⟨j, hj, rfl⟩ := List.getElem_of_mem hx
    simp [hp j hj]
  simp [befF, this]
theorem l13Before_ok (x : LogT) (g : HoldT) (s : (Bool × ((Int × (List Int) × (List Int) × Unit)) × Unit)) (hl : Enc.lim 1048576 x.1) : CallR Try.prog 123 [.nd [.sl .b (x.1.map Enc.b), .int .i64 x.2.1], .int .i64 g.1, .int .i64 g.2.1, .nd [.bool s.1, .nd [.int .i64 s.2.1.1, .ow 1 (s.2.1.2.1.map Enc.o), .ow 1 (s.2.1.2.2.1.map Enc.o)]]] [] (.nd [.bool (((befF x.1 g s)).1), .nd [.int .i64 ((((befF x.1 g s)).2.1).1), .ow 1 (((((befF x.1 g s)).2.1).2.1).map Enc.o), .ow 1 (((((befF x.1 g s)).2.1).2.2.1).map Enc.o)]]) := by
  refine CallR.of_body (n := 42) (rs := [.cell 8 37]) hY.ok Try.func123 rfl (by decide) rfl rfl rfl rfl (fun F => ?_)
  have fx := And.intro Y1 (And.intro Y3 (And.intro Y4 (And.intro Y5 (And.intro Y27 (And.intro Y35 (And.intro Y37 (And.intro Y91 (And.intro Y93 (And.intro Y94 (And.intro Y169 (Y197)))))))))))
  obtain ⟨p, ⟨k, A, B, ⟨⟩⟩, ⟨⟩⟩ := s
  obtain ⟨l, sure, ⟨⟩⟩ := x
  simp only at hl ⊢
  have hl1 := hl.1
  generalize hb0 : befF l g (p, (k, A, B, ()), ()) = Z
  have fy := And.intro nc4 (And.intro nc8 (And.intro wa (tn)))
  refine goN ?_ ?_ ?_ ?_ ?_ ?_ ?_ ?_ ?_ ?_ ?_ ?_ ?_ ?_ ?_ ?_
  any_goals (first | exact True.intro | skip)
  skip
  refine SW.loop (fun i : Nat => ⟨[.undef, .int .i64 g.1, .int .i64 g.2.1, .undef, .ptr 1 0 [] 0, .undef, .undef, .ptr 2 0 [] 0, .ptr 3 0 [] 0, .int .i64 (i : Nat), .undef, .undef, .undef, .undef, .undef, .undef, .undef, .undef, .undef, .undef, .undef, .undef, .undef, .undef, .undef, .undef, .undef, .undef, .undef, .undef, .undef, .undef, .undef, .undef, .undef, .undef, .undef, .undef, .undef, .undef, .undef, .undef], [[.arr 1 (A.map Enc.o) false, .arr 1 (B.map Enc.o) false], [.var (.nd [.sl .b (l.map Enc.b), .int .i64 sure])], [.var (.nd [.bool p, .nd [.int .i64 k, .ref 0 0 0 A.length, .ref 0 1 0 B.length]])], [.var (.nd [.bool false, .nd [.int .i64 0, .nils 1, .nils 1]])]]⟩)
    (fun n i => n = l.length - i ∧ i ≤ l.length ∧ ∀ j (hj : j < l.length), j < i → isR g l[j] = false) (n := l.length) (x := 0) (Norm.to 0 rfl (by simp [weakL])) ⟨rfl, Nat.zero_le _, fun j _ h => absurd h (Nat.not_lt_zero _)⟩ ?_
  rintro n i ⟨hn, hi, hp⟩
  have fy := And.intro nc4 (And.intro nc8 (And.intro wa (tn)))
  refine goS ?_
  refine SW.cond rfl (fun hc => ?_) (fun hc => ?_)
  · have hlt : i < l.length := by simp at hc; omega
    have hltI : (i : Int) < (l.length : Int) := by omega
    have hg : (l.map Enc.b)[i]? = some (.nd [.int .i64 l[i].1, .int .i64 l[i].2.1, .int .i64 l[i].2.2.1, .int .i64 l[i].2.2.2.1, .int .i64 l[i].2.2.2.2.1, .nd [.bool l[i].2.2.2.2.2.1.1, .nd [.int .i64 l[i].2.2.2.2.2.1.2.1.1, .sl .b (l[i].2.2.2.2.2.1.2.1.2.1.map Enc.b), .sl .b (l[i].2.2.2.2.2.1.2.1.2.2.1.map Enc.b)]], .nd [.bool l[i].2.2.2.2.2.2.1.1, .nd [.int .i64 l[i].2.2.2.2.2.2.1.2.1.1, .sl .b (l[i].2.2.2.2.2.2.1.2.1.2.1.map Enc.b), .sl .b (l[i].2.2.2.2.2.2.1.2.1.2.2.1.map Enc.b)]], .int .i64 l[i].2.2.2.2.2.2.2.1, .sl .b (l[i].2.2.2.2.2.2.2.2.1.map Enc.b)]) := map_get Enc.b l i hlt
    have hwi : IntKind.i64.wrap ((i : Int) + 1) = ((i + 1 : Nat) : Int) := by rw [wrap64 _ (by omega) (by omega)]; omega
    have hli := hl.2 _ (List.getElem_mem hlt)
    have hli1 := hli.2.2.2.2.2.1.2.1
    have c1 := l3CopySlot_ok (l[i]).2.2.2.2.2.1 hli1.2.1.1 hli1.2.2.1.1
    have hat := bef_at l g (p, (k, A, B, ()), ()) i hlt hp
    rw [hb0] at hat
    have hnx : isR g l[i] = false → ∀ j (hj : j < l.length), j < i + 1 → isR g l[j] = false := fun h j hj hji => by
      by_cases he : j = i
      · subst he; exact h
      · exact hp j hj (by omega)
    have hRe : isR g l[i] = (decide (l[i].2.2.2.1 = 1) && decide (l[i].2.1 = g.1) && decide (l[i].2.2.2.2.1 = g.2.1)) := rfl
    rw [hRe] at hat hnx
    clear hRe hli hli1 hl hp hb0
    generalize l[i] = r at *
    generalize hb1 : decide (r.2.2.2.1 = 1) = b1 at *
    generalize hb2 : decide (r.2.1 = g.1) = b2 at *
    generalize hb3 : decide (r.2.2.2.2.1 = g.2.1) = b3 at *
    have e1 : (r.2.2.2.1 == (1 : Int)) = b1 := hb1
    have e2 : (r.2.1 == g.1) = b2 := hb2
    have e3 : (r.2.2.2.2.1 == g.2.1) = b3 := hb3
    clear hb1 hb2 hb3
    cases b1
    · skip
      have hC1 := cx [] (c1)
      have fy := And.intro nc4 (And.intro nc8 (And.intro wa (And.intro tn (And.intro hg (And.intro hltI (And.intro hwi (And.intro e1 (And.intro e2 (e3)))))))))
      refine goR ?_ ?_ ?_ ?_ ?_ ?_ ?_ ?_ ?_ ?_ ?_ ?_ ?_ ?_ ?_ ?_
      any_goals (first | exact True.intro | skip)
      all_goals (repeat (refine Wh.mk fun hcc => ?_))
      refine ⟨n - 1, i + 1, by omega, ⟨by omega, by omega, hnx (by simp)⟩, ?_⟩
      exact Norm.re [0, 1, 2, 3] (by decide) rfl (by simp [-List.map_append, heapFits, rowFits, obFits, T.ren, renL]) (by simp [tmFits, T.ren])
    · skip
      cases b2
      · skip
        have hC1 := cx [] (c1)
        have fy := And.intro nc4 (And.intro nc8 (And.intro wa (And.intro tn (And.intro hg (And.intro hltI (And.intro hwi (And.intro e1 (And.intro e2 (e3)))))))))
        refine goR ?_ ?_ ?_ ?_ ?_ ?_ ?_ ?_ ?_ ?_ ?_ ?_ ?_ ?_ ?_ ?_
        any_goals (first | exact True.intro | skip)
        all_goals (repeat (refine Wh.mk fun hcc => ?_))
        refine ⟨n - 1, i + 1, by omega, ⟨by omega, by omega, hnx (by simp)⟩, ?_⟩
        exact Norm.re [0, 1, 2, 3] (by decide) rfl (by simp [-List.map_append, heapFits, rowFits, obFits, T.ren, renL]) (by simp [tmFits, T.ren])
      · skip
        cases b3
        · skip
          have hC1 := cx [] (c1)
          have fy := And.intro nc4 (And.intro nc8 (And.intro wa (And.intro tn (And.intro hg (And.intro hltI (And.intro hwi (And.intro e1 (And.intro e2 (e3)))))))))
          refine goR ?_ ?_ ?_ ?_ ?_ ?_ ?_ ?_ ?_ ?_ ?_ ?_ ?_ ?_ ?_ ?_
          any_goals (first | exact True.intro | skip)
          all_goals (repeat (refine Wh.mk fun hcc => ?_))
          refine ⟨n - 1, i + 1, by omega, ⟨by omega, by omega, hnx (by simp)⟩, ?_⟩
          exact Norm.re [0, 1, 2, 3] (by decide) rfl (by simp [-List.map_append, heapFits, rowFits, obFits, T.ren, renL]) (by simp [tmFits, T.ren])
        · skip
          have hZ := hat rfl
          subst hZ
          have hC1 := cx [] (c1)
          have fy := And.intro nc4 (And.intro nc8 (And.intro wa (And.intro tn (And.intro hg (And.intro hltI (And.intro hwi (And.intro e1 (And.intro e2 (e3)))))))))
          refine goR ?_ ?_ ?_ ?_ ?_ ?_ ?_ ?_ ?_ ?_ ?_ ?_ ?_ ?_ ?_ ?_
          any_goals (first | exact True.intro | skip)
          all_goals (repeat (refine Wh.mk fun hcc => ?_))
          all_goals exact SW.ret (show RetQ _ _ _ _ _ _ _ from RetQ.y [0] [.nd [.bool r.2.2.2.2.2.1.1, .nd [.int .i64 r.2.2.2.2.2.1.2.1.1, .ow 1 (r.2.2.2.2.2.1.2.1.2.1.map Enc.o), .ow 1 (r.2.2.2.2.2.1.2.1.2.2.1.map Enc.o)]]])
  · have hge : i = l.length := by simp at hc; omega
    subst hge
    rw [bef_no l g _ (fun j hj => hp j hj hj)] at hb0
    subst hb0
    have fy := And.intro nc4 (And.intro nc8 (And.intro wa (tn)))
    refine goR ?_ ?_ ?_ ?_ ?_ ?_ ?_ ?_ ?_ ?_ ?_ ?_ ?_ ?_ ?_ ?_
    any_goals (first | exact True.intro | skip)
    all_goals (repeat (refine Wh.mk fun hcc => ?_))
    all_goals exact SW.ret (show RetQ _ _ _ _ _ _ _ from RetQ.y [0] [.nd [.bool p, .nd [.int .i64 k, .ow 1 (A.map Enc.o), .ow 1 (B.map Enc.o)]]])
end Q6

namespace Q6
open Go Go.Vm Go.Proofs
set_option maxHeartbeats 4000000
set_option synthInstance.maxSize 2000
set_option synthInstance.maxHeartbeats 400000
set_option maxRecDepth 10000
set_option linter.unusedSimpArgs false
set_option linter.unusedVariables false

set_option synthInstance.maxHeartbeats 4000000
set_option synthInstance.maxSize 20000
set_option maxHeartbeats 40000000
def updF (l : List RecT) (g : HoldT) (V : List ((Bool × ((Int × (List Int) × (List Int) × Unit)) × Unit))) : List ((Bool × ((Int × (List Int) × (List Int) × Unit)) × Unit)) := if 1 ≤ g.2.1 ∧ g.2.1 ≤ 31 then match l.findIdx? (isR g) with | some j => (match l[j]? with | some r => V.set g.2.1.toNat r.2.2.2.2.2.1 | none => V) | none => V else V
theorem updF_len (l : List RecT) (g : HoldT) (V : List ((Bool × ((Int × (List Int) × (List Int) × Unit)) × Unit))) : (updF l g V).length = V.length := by
  unfold updF
  split
  · split
    · split <;> simp
    · rfl
  · rfl
theorem updF_lim (l : List RecT) (g : HoldT) (V : List ((Bool × ((Int × (List Int) × (List Int) × Unit)) × Unit))) (hl : Enc.lim 1048576 l) (hV : Enc.lim 1048576 V) : Enc.lim 1048576 (updF l g V) := by
  refine ⟨by rw [updF_len]; exact hV.1, ?_⟩
  unfold updF
  split
  · split
    · rename_i j hj
      split
      · rename_i r hr
        intro b hb
        rcases List.mem_or_eq_of_mem_set hb with hb | rfl
        · exact hV.2 b hb
        · exact (hl.2 r (List.mem_of_getElem? hr)).2.2.2.2.2.1
      · exact hV.2
    · exact hV.2
  · exact hV.2
theorem upd_some (l : List RecT) (tx : Int) (o j : Nat) (V : List ((Bool × ((Int × (List Int) × (List Int) × Unit)) × Unit))) (h1 : 1 ≤ o) (h2 : o ≤ 31) (hf : l.findIdx? (isR (tx, (o : Int), ())) = some j) (hj : j < l.length) : updF l (tx, (o : Int), ()) V = V.set o (l[j]).2.2.2.2.2.1 := by
  unfold updF
  rw [if_pos ⟨by simp only; omega, by simp only; omega⟩, hf]
  simp [hj]
theorem upd_none (l : List RecT) (g : HoldT) (V : List ((Bool × ((Int × (List Int) × (List Int) × Unit)) × Unit))) (hf : l.findIdx? (isR g) = none) : updF l g V = V := by unfold updF; rw [hf]; split <;> rfl
theorem upd_out (l : List RecT) (g : HoldT) (V : List ((Bool × ((Int × (List Int) × (List Int) × Unit)) × Unit))) (h : ¬ (1 ≤ g.2.1 ∧ g.2.1 ≤ 31)) : updF l g V = V := by unfold updF; rw [if_neg h]
def unF (x : EngT) (i : Nat) : List ((Bool × ((Int × (List Int) × (List Int) × Unit)) × Unit)) := (x.2.2.2.2.1.take i).foldl (fun V g => updF x.2.2.1.1 g V) (vW x 32)
theorem unF_zero (x : EngT) : unF x 0 = vW x 32 := by simp [unF]
theorem unF_succ (x : EngT) (i : Nat) (h : i < x.2.2.2.2.1.length) : unF x (i + 1) = updF x.2.2.1.1 x.2.2.2.2.1[i] (unF x i) := by unfold unF; rw [List.take_succ_eq_append_getElem h, List.foldl_append]; rfl
theorem unF_len (x : EngT) : ∀ i, i ≤ x.2.2.2.2.1.length → (unF x i).length = 32
  | 0, _ => by rw [unF_zero, vW_len]
  | i + 1, h => by rw [unF_succ x i (by omega), updF_len, unF_len x i (by omega)]
theorem unF_lim (x : EngT) (hx : Enc.lim 1048576 x) (hv : Enc.lim 1048576 (vW x 32)) : ∀ i, i ≤ x.2.2.2.2.1.length → Enc.lim 1048576 (unF x i)
  | 0, _ => by rw [unF_zero]; exact hv
  | i + 1, h => by rw [unF_succ x i (by omega)]; exact updF_lim _ _ _ hx.2.2.1.1 (unF_lim x hx hv i (by omega))
theorem iUnheld_ok (x : EngT) (hx : Enc.lim 1048576 x) : CallR Try.prog 48 [.nd [.nd (x.1.l.map Enc.b), .nd [.sl .b (x.2.1.1.map Enc.b), .int .i64 x.2.1.2.1], .nd [.sl .b (x.2.2.1.1.map Enc.b), .int .i64 x.2.2.1.2.1], .sl .b (x.2.2.2.1.map Enc.b), .sl .b (x.2.2.2.2.1.map Enc.b), .int .i64 x.2.2.2.2.2.1, .bool x.2.2.2.2.2.2.1]] [] (.ow 4 ((unF x x.2.2.2.2.1.length).map Enc.o)) := by
  refine CallR.of_body (n := 42) (rs := [.tmp 2]) hY.ok Try.func48 rfl (by decide) (by simp [ioSizes, ioSz]) rfl rfl rfl (fun F => ?_)
  have fx := And.intro Y1 (And.intro Y2 (And.intro Y3 (And.intro Y4 (And.intro Y5 (And.intro Y24 (And.intro Y27 (And.intro Y35 (And.intro Y37 (And.intro Y84 (And.intro Y86 (And.intro Y87 (And.intro Y88 (And.intro Y90 (And.intro Y91 (And.intro Y93 (And.intro Y94 (And.intro Y95 (And.intro Y97 (And.intro Y165 (And.intro Y169 (And.intro Y170 (And.intro Y192 (Y197)))))))))))))))))))))))
  simp only [entryS, thawAL, thawA, thawAL_b, thawAL_tR, List.append_nil, List.nil_append, List.length_nil, Nat.add_zero]
  have hd := (tRfacts x.1).2.2.2.2
  have c0 := iView_ok x hx
  have hC1 := cx [] (c0)
  have fy := And.intro nc4 (And.intro nc8 (And.intro wa (And.intro tn (hd))))
  have hD1 := dx 7 [11, 2] [(2, 1)]
  refine goN ?_ ?_ ?_ ?_ ?_ ?_ ?_ ?_ ?_ ?_ ?_ ?_ ?_ ?_ ?_ ?_
  any_goals (first | exact True.intro | skip)
  skip
  refine SW.loop (fun i : Nat => ⟨[.undef, .ptr 1 0 [] 0, .undef, .ref 2 0 0 (unF x i).length, .undef, .undef, .undef, .undef, .undef, .undef, .sl .b (x.2.2.2.2.1.map Enc.b), .int .i64 (x.2.2.2.2.1.length : Nat), .int .i64 (i : Nat), .undef, .undef, .undef, .undef, .undef, .undef, .undef, .undef, .undef, .undef, .undef, .undef, .undef, .undef, .undef, .undef, .undef, .undef, .undef, .undef, .undef, .undef, .undef, .undef, .undef, .undef, .undef, .undef, .undef], [[], [.var (.nd [.nd (x.1.l.map Enc.b), .nd [.sl .b (x.2.1.1.map Enc.b), .int .i64 x.2.1.2.1], .nd [.sl .b (x.2.2.1.1.map Enc.b), .int .i64 x.2.2.1.2.1], .sl .b (x.2.2.2.1.map Enc.b), .sl .b (x.2.2.2.2.1.map Enc.b), .int .i64 x.2.2.2.2.2.1, .bool x.2.2.2.2.2.2.1])], [.arr 4 ((unF x i).map Enc.o) false]]⟩)
    (fun n i => n = x.2.2.2.2.1.length - i ∧ i ≤ x.2.2.2.2.1.length) (n := x.2.2.2.2.1.length) (x := 0) ?_ ⟨rfl, Nat.zero_le _⟩ ?_
  · rw [unF_zero]
    exact Norm.re [0, 1, 2] (by decide) rfl (by simp [-List.map_append, heapFits, rowFits, obFits, T.ren, renL]) (by simp [tmFits, T.ren])
  rintro n i ⟨hn, hi⟩
  have fy := And.intro nc4 (And.intro nc8 (And.intro wa (tn)))
  refine goS ?_
  refine SW.cond rfl (fun hc => ?_) (fun hc => ?_)
  · have hlt : i < x.2.2.2.2.1.length := by simp at hc; omega
    have hltI : (i : Int) < (x.2.2.2.2.1.length : Int) := by omega
    have hg : (x.2.2.2.2.1.map Enc.b)[i]? = some (.nd [.int .i64 (((x.2.2.2.2.1[i])).1), .int .i64 (((x.2.2.2.2.1[i])).2.1)]) := map_get Enc.b _ i hlt
    have hHl : x.2.2.2.2.1.length ≤ 1048576 := hx.2.2.2.2.1.1
    have hwi : IntKind.i64.wrap ((i : Int) + 1) = ((i + 1 : Nat) : Int) := by rw [wrap64 _ (by omega) (by omega)]; omega
    have hsu := unF_succ x i hlt
    have hVl := unF_len x i hi
    have hrl : Enc.lim 1048576 x.2.2.1.1 := hx.2.2.1.1
    have c1 := fun g => idxR_ok g x.2.2.1.1 hrl
    generalize x.2.2.2.2.1[i] = g at *
    generalize unF x i = V at *
    obtain ⟨tx, oid, ⟨⟩⟩ := g
    replace c1 := c1 (tx, oid, ())
    have c2 := oid_ok oid
    have hI : idxOf (isR (tx, oid, ())) x.2.2.1.1 = (match x.2.2.1.1.findIdx? (isR (tx, oid, ())) with | some i => (i : Int) | none => -1) := rfl
    change CallR _ _ _ _ (T.int .i64 (idxOf (isR (tx, oid, ())) x.2.2.1.1)) at c1
    simp only at c1
    rw [hI] at c1
    cases hf : x.2.2.1.1.findIdx? (isR (tx, oid, ())) with
    | none =>
      rw [hf] at c1
      simp only at c1
      rw [upd_none _ _ _ hf] at hsu
      have hge : decide ((-1 : Int) ≥ 0) = false := rfl
      have hC1 := cx [] (c1)
      have hC2 := cx [] (c2)
      have fy := And.intro nc4 (And.intro nc8 (And.intro wa (And.intro tn (And.intro hd (And.intro hg (And.intro hltI (And.intro hwi (hge))))))))
      have hD1 := dx 7 [11, 2] [(2, 1)]
      refine goR ?_ ?_ ?_ ?_ ?_ ?_ ?_ ?_ ?_ ?_ ?_ ?_ ?_ ?_ ?_ ?_
      any_goals (first | exact True.intro | skip)
      all_goals (repeat (refine Wh.mk fun hcc => ?_))
      refine ⟨n - 1, i + 1, by omega, ⟨by omega, by omega⟩, ?_⟩
      rw [hsu]
      exact Norm.re [0, 1, 2] (by decide) rfl (by simp [-List.map_append, heapFits, rowFits, obFits, T.ren, renL]) (by simp [tmFits, T.ren])
    | some j =>
      rw [hf] at c1
      simp only at c1
      have hge : decide ((j : Int) ≥ 0) = true := by simp
      have hj : j < x.2.2.1.1.length := (List.findIdx?_eq_some_iff_getElem.1 hf).1
      have hjI : (j : Int) < (x.2.2.1.1.length : Int) := by omega
      by_cases hin : 1 ≤ oid ∧ oid ≤ 31
      · rw [show (decide (oid ≥ 1) && decide (oid ≤ 31)) = true by simp; omega] at c2
        obtain ⟨o, rfl⟩ : ∃ o : Nat, oid = (o : Int) := ⟨oid.toNat, by omega⟩
        rw [upd_some _ _ o j V (by omega) (by omega) hf hj] at hsu
        have hgj : (x.2.2.1.1.map Enc.b)[j]? = some (.nd [.int .i64 (((x.2.2.1.1[j])).1), .int .i64 (((x.2.2.1.1[j])).2.1), .int .i64 (((x.2.2.1.1[j])).2.2.1), .int .i64 (((x.2.2.1.1[j])).2.2.2.1), .int .i64 (((x.2.2.1.1[j])).2.2.2.2.1), .nd [.bool ((((x.2.2.1.1[j])).2.2.2.2.2.1).1), .nd [.int .i64 (((((x.2.2.1.1[j])).2.2.2.2.2.1).2.1).1), .sl .b ((((((x.2.2.1.1[j])).2.2.2.2.2.1).2.1).2.1).map Enc.b), .sl .b ((((((x.2.2.1.1[j])).2.2.2.2.2.1).2.1).2.2.1).map Enc.b)]], .nd [.bool ((((x.2.2.1.1[j])).2.2.2.2.2.2.1).1), .nd [.int .i64 (((((x.2.2.1.1[j])).2.2.2.2.2.2.1).2.1).1), .sl .b ((((((x.2.2.1.1[j])).2.2.2.2.2.2.1).2.1).2.1).map Enc.b), .sl .b ((((((x.2.2.1.1[j])).2.2.2.2.2.2.1).2.1).2.2.1).map Enc.b)]], .int .i64 (((x.2.2.1.1[j])).2.2.2.2.2.2.2.1), .sl .b ((((x.2.2.1.1[j])).2.2.2.2.2.2.2.2.1).map Enc.b)]) := map_get Enc.b _ j hj
        have hli1 := (hrl.2 _ (List.getElem_mem hj)).2.2.2.2.2.1.2.1
        have c3 := cloneSlot_ok (x.2.2.1.1[j]).2.2.2.2.2.1 hli1.2.1.1 hli1.2.2.1.1
        have hoI : (o : Int) < (V.length : Int) := by omega
        have hoV : o < V.length := by omega
        have hL2 : (V.map (Enc.o : _ → T))[o]? = some (.nd [.bool (((V[o])).1), .nd [.int .i64 ((((V[o])).2.1).1), .ow 1 (((((V[o])).2.1).2.1).map Enc.o), .ow 1 (((((V[o])).2.1).2.2.1).map Enc.o)]]) := map_get Enc.o V o hoV
        have hL4 : ∀ X : T, ((V.map (Enc.o : _ → T)).set o X)[o]? = some X := fun X => List.getElem?_set_self (by rw [List.length_map]; exact hoV)
        have hL1 : (V.map (Enc.o : _ → T)).length = V.length := List.length_map ..
        generalize V[o] = s0 at *
        generalize x.2.2.1.1[j] = r at *
        have hC1 := cx [] (c1)
        have hC2 := cx [] (c2)
        have hC3 := cx [] (c3)
        have fy := And.intro nc4 (And.intro nc8 (And.intro wa (And.intro tn (And.intro hd (And.intro hg (And.intro hltI (And.intro hwi (And.intro hge (And.intro hjI (And.intro hgj (And.intro hoI (And.intro hL1 (And.intro hL2 (hL4))))))))))))))
        have hD1 := dx 7 [11, 2] [(2, 1)]
        refine goR ?_ ?_ ?_ ?_ ?_ ?_ ?_ ?_ ?_ ?_ ?_ ?_ ?_ ?_ ?_ ?_
        any_goals (first | exact True.intro | skip)
        all_goals (repeat (refine Wh.mk fun hcc => ?_))
        refine ⟨n - 1, i + 1, by omega, ⟨by omega, by omega⟩, ?_⟩
        rw [hsu, List.length_set]
        refine Norm.trans (Norm.soakArr 2 0 o rfl (hL4 _)) ?_
        refine Norm.re [0, 1, 2] (by decide) rfl ?_ (by simp [tmFits, T.ren])
        simp only [soakS, soakL, Heap.at, Heap.put, List.getElem?_cons_zero, List.getElem?_cons_succ, List.set_cons_zero, List.set_cons_succ, List.length_map, and_self, if_true, List.set_set, heapFits, rowFits, obFits, renL_o, true_and, and_true]
        refine ⟨by simp [T.ren, renL], ?_⟩
        rw [List.map_set]
        rfl
      · rw [show (decide (oid ≥ 1) && decide (oid ≤ 31)) = false by simp; omega] at c2
        rw [upd_out _ _ _ hin] at hsu
        have hC1 := cx [] (c1)
        have hC2 := cx [] (c2)
        have fy := And.intro nc4 (And.intro nc8 (And.intro wa (And.intro tn (And.intro hd (And.intro hg (And.intro hltI (And.intro hwi (And.intro hge (hjI)))))))))
        have hD1 := dx 7 [11, 2] [(2, 1)]
        refine goR ?_ ?_ ?_ ?_ ?_ ?_ ?_ ?_ ?_ ?_ ?_ ?_ ?_ ?_ ?_ ?_
        any_goals (first | exact True.intro | skip)
        all_goals (repeat (refine Wh.mk fun hcc => ?_))
        refine ⟨n - 1, i + 1, by omega, ⟨by omega, by omega⟩, ?_⟩
        rw [hsu]
        exact Norm.re [0, 1, 2] (by decide) rfl (by simp [-List.map_append, heapFits, rowFits, obFits, T.ren, renL]) (by simp [tmFits, T.ren])
  · have hge : i = x.2.2.2.2.1.length := by simp at hc; omega
    subst hge
    have fy := And.intro nc4 (And.intro nc8 (And.intro wa (tn)))
    have hD1 := dx 7 [11, 2] [(2, 1)]
    refine goN ?_ ?_ ?_ ?_ ?_ ?_ ?_ ?_ ?_ ?_ ?_ ?_ ?_ ?_ ?_ ?_
    any_goals (first | exact True.intro | skip)
    skip
    all_goals exact SW.ret (show RetQ _ _ _ _ _ _ _ from RetQ.y [4] [.ow 4 ((unF x x.2.2.2.2.1.length).map Enc.o)])
end Q6

namespace Q6
open Go Go.Vm Go.Proofs
set_option maxHeartbeats 4000000
set_option synthInstance.maxSize 2000
set_option synthInstance.maxHeartbeats 400000
set_option maxRecDepth 10000
set_option linter.unusedSimpArgs false
set_option linter.unusedVariables false

set_option synthInstance.maxHeartbeats 4000000
set_option synthInstance.maxSize 20000
set_option maxHeartbeats 40000000
theorem upd_bef (l : List RecT) (tx : Int) (o : Nat) (V : List ((Bool × ((Int × (List Int) × (List Int) × Unit)) × Unit))) (h1 : 1 ≤ o) (h2 : o ≤ 31) (ho : o < V.length) : V.set o (befF l (tx, (o : Int), ()) V[o]) = updF l (tx, (o : Int), ()) V := by
  cases hf : l.findIdx? (isR (tx, (o : Int), ())) with
  | none =>
    rw [upd_none _ _ _ hf, bef_no l _ _ (fun j hj => by
      have := List.findIdx?_eq_none_iff.1 hf l[j] (List.getElem_mem hj)
      simpa using this)]
    exact List.set_getElem_self ho
  | some j =>
    obtain ⟨hj, hp, hq⟩ := List.findIdx?_eq_some_iff_getElem.1 hf
    rw [upd_some l tx o j V h1 h2 hf hj, bef_at l _ _ j hj (fun k hk hkj => by simpa using hq k hkj) hp]
theorem bef_lim (l : List RecT) (g : HoldT) (s : (Bool × ((Int × (List Int) × (List Int) × Unit)) × Unit)) (hl : Enc.lim 1048576 l) (hs : Enc.lim 1048576 s) : Enc.lim 1048576 ((befF l g s)) := by
  unfold befF
  split
  · rename_i r hr
    exact (hl.2 r (List.mem_of_find?_eq_some hr)).2.2.2.2.2.1
  · exact hs
theorem sUnheld_ok (x : EngT) (hx : Enc.lim 1048576 x) : CallR Try.prog 47 [.nd [.nd (x.1.l.map Enc.b), .nd [.sl .b (x.2.1.1.map Enc.b), .int .i64 x.2.1.2.1], .nd [.sl .b (x.2.2.1.1.map Enc.b), .int .i64 x.2.2.1.2.1], .sl .b (x.2.2.2.1.map Enc.b), .sl .b (x.2.2.2.2.1.map Enc.b), .int .i64 x.2.2.2.2.2.1, .bool x.2.2.2.2.2.2.1]] [] (.ow 4 ((unF x x.2.2.2.2.1.length).map Enc.o)) := by
  refine CallR.of_body (n := 40) (rs := [.tmp 2]) hY.ok Try.func47 rfl (by decide) (by simp [ioSizes, ioSz]) rfl rfl rfl (fun F => ?_)
  have fx := And.intro Y1 (And.intro Y2 (And.intro Y3 (And.intro Y4 (And.intro Y24 (And.intro Y27 (And.intro Y35 (And.intro Y37 (And.intro Y84 (And.intro Y86 (And.intro Y87 (And.intro Y88 (And.intro Y90 (And.intro Y91 (And.intro Y93 (And.intro Y94 (And.intro Y95 (And.intro Y97 (And.intro Y165 (And.intro Y169 (And.intro Y192 (Y197)))))))))))))))))))))
  simp only [entryS, thawAL, thawA, thawAL_b, thawAL_tR, List.append_nil, List.nil_append, List.length_nil, Nat.add_zero]
  have hd := (tRfacts x.1).2.2.2.2
  have c0 := sView_ok x hx
  have hC1 := cx [] (c0)
  have fy := And.intro nc4 (And.intro nc8 (And.intro wa (And.intro tn (hd))))
  have hD1 := dx 7 [15, 2] [(2, 1)]
  refine goN ?_ ?_ ?_ ?_ ?_ ?_ ?_ ?_ ?_ ?_ ?_ ?_ ?_ ?_ ?_ ?_
  any_goals (first | exact True.intro | skip)
  skip
  refine SW.loop (fun i : Nat => ⟨[.undef, .ptr 1 0 [] 0, .undef, .ref 2 0 0 (unF x i).length, .int .i64 (i : Nat), .undef, .undef, .undef, .undef, .undef, .undef, .undef, .undef, .undef, .undef, .undef, .undef, .undef, .undef, .undef, .undef, .undef, .undef, .undef, .undef, .undef, .undef, .undef, .undef, .undef, .undef, .undef, .undef, .undef, .undef, .undef, .undef, .undef, .undef, .undef], [[], [.var (.nd [.nd (x.1.l.map Enc.b), .nd [.sl .b (x.2.1.1.map Enc.b), .int .i64 x.2.1.2.1], .nd [.sl .b (x.2.2.1.1.map Enc.b), .int .i64 x.2.2.1.2.1], .sl .b (x.2.2.2.1.map Enc.b), .sl .b (x.2.2.2.2.1.map Enc.b), .int .i64 x.2.2.2.2.2.1, .bool x.2.2.2.2.2.2.1])], [.arr 4 ((unF x i).map Enc.o) false]]⟩)
    (fun n i => n = x.2.2.2.2.1.length - i ∧ i ≤ x.2.2.2.2.1.length) (n := x.2.2.2.2.1.length) (x := 0) ?_ ⟨rfl, Nat.zero_le _⟩ ?_
  · rw [unF_zero]
    exact Norm.re [0, 1, 2] (by decide) rfl (by simp [-List.map_append, heapFits, rowFits, obFits, T.ren, renL]) (by simp [tmFits, T.ren])
  rintro n i ⟨hn, hi⟩
  have fy := And.intro nc4 (And.intro nc8 (And.intro wa (And.intro tn (hd))))
  refine goS ?_
  refine SW.cond rfl (fun hc => ?_) (fun hc => ?_)
  · have hlt : i < x.2.2.2.2.1.length := by simp at hc; omega
    have hltI : (i : Int) < (x.2.2.2.2.1.length : Int) := by omega
    have hg : (x.2.2.2.2.1.map Enc.b)[i]? = some (.nd [.int .i64 (((x.2.2.2.2.1[i])).1), .int .i64 (((x.2.2.2.2.1[i])).2.1)]) := map_get Enc.b _ i hlt
    have hHl : x.2.2.2.2.1.length ≤ 1048576 := hx.2.2.2.2.1.1
    have hwi : IntKind.i64.wrap ((i : Int) + 1) = ((i + 1 : Nat) : Int) := by rw [wrap64 _ (by omega) (by omega)]; omega
    have hsu := unF_succ x i hlt
    have hVl := unF_len x i hi
    have hrl : Enc.lim 1048576 x.2.2.1.1 := hx.2.2.1.1
    generalize x.2.2.2.2.1[i] = g at *
    generalize unF x i = V at *
    obtain ⟨tx, oid, ⟨⟩⟩ := g
    have c2 := l1In_ok oid 1 31
    by_cases hin : 1 ≤ oid ∧ oid ≤ 31
    · rw [show (decide (oid ≥ 1) && decide (oid ≤ 31)) = true by simp; omega] at c2
      obtain ⟨o, rfl⟩ : ∃ o : Nat, oid = (o : Int) := ⟨oid.toNat, by omega⟩
      have hoI : (o : Int) < (V.length : Int) := by omega
      have hoV : o < V.length := by omega
      have hup := upd_bef x.2.2.1.1 tx o V (by omega) (by omega) hoV
      rw [← hup] at hsu
      have hL2 : (V.map (Enc.o : _ → T))[o]? = some (.nd [.bool (((V[o])).1), .nd [.int .i64 ((((V[o])).2.1).1), .ow 1 (((((V[o])).2.1).2.1).map Enc.o), .ow 1 (((((V[o])).2.1).2.2.1).map Enc.o)]]) := map_get Enc.o V o hoV
      have hL4 : ∀ X : T, ((V.map (Enc.o : _ → T)).set o X)[o]? = some X := fun X => List.getElem?_set_self (by rw [List.length_map]; exact hoV)
      have hL1 : (V.map (Enc.o : _ → T)).length = V.length := List.length_map ..
      have hL5 : ∀ X X' : T, ((V.map (Enc.o : _ → T)).set o X).set o X' = (V.map (Enc.o : _ → T)).set o X' := fun X X' => List.set_set ..
      have hL6 : ∀ X : T, ((V.map (Enc.o : _ → T)).set o X).length = V.length := fun X => by rw [List.length_set, List.length_map]
      have c3 := l13Before_ok x.2.2.1 (tx, (o : Int), ()) V[o] hrl
      clear hup
      generalize befF x.2.2.1.1 (tx, (o : Int), ()) V[o] = Z at *
      generalize V[o] = s0 at *
      refine SW.norm (Norm.expel 2 0 o rfl hL2) ?_
      simp only [thawA, thawAL, Heap.put, List.length_cons, List.length_nil, Nat.zero_add, Nat.add_zero, Nat.reduceAdd, List.getElem?_cons_zero, List.getElem?_cons_succ, List.set_cons_zero, List.set_cons_succ, List.cons_append, List.nil_append, List.length_map]
      have hC1 := cx [] (c2)
      have hC2 := cx [.lend, .lend, .lend, .own 0] (c3)
      have fy := And.intro nc4 (And.intro nc8 (And.intro wa (And.intro tn (And.intro hd (And.intro hg (And.intro hltI (And.intro hwi (And.intro hoI (And.intro hL1 (And.intro hL4 (And.intro hL5 (hL6))))))))))))
      have hD1 := dx 7 [15, 2] [(2, 1)]
      refine goR ?_ ?_ ?_ ?_ ?_ ?_ ?_ ?_ ?_ ?_ ?_ ?_ ?_ ?_ ?_ ?_
      any_goals (first | exact True.intro | skip)
      all_goals (repeat (refine Wh.mk fun hcc => ?_))
      refine ⟨n - 1, i + 1, by omega, ⟨by omega, by omega⟩, ?_⟩
      rw [hsu, List.length_set]
      refine Norm.trans (Norm.soakArr 2 0 o rfl (hL4 _)) ?_
      refine Norm.re [0, 1, 2] (by decide) rfl ?_ (by simp [tmFits, T.ren])
      simp only [soakS, soakL, Heap.at, Heap.put, List.getElem?_cons_zero, List.getElem?_cons_succ, List.set_cons_zero, List.set_cons_succ, List.length_map, and_self, if_true, List.set_set, heapFits, rowFits, obFits, renL_o, true_and, and_true]
      refine ⟨by simp [T.ren, renL], ?_⟩
      rw [List.map_set]
      rfl
    · rw [show (decide (oid ≥ 1) && decide (oid ≤ 31)) = false by simp; omega] at c2
      rw [upd_out _ _ _ hin] at hsu
      have hC1 := cx [] (c2)
      have fy := And.intro nc4 (And.intro nc8 (And.intro wa (And.intro tn (And.intro hd (And.intro hg (And.intro hltI (hwi)))))))
      have hD1 := dx 7 [15, 2] [(2, 1)]
      refine goR ?_ ?_ ?_ ?_ ?_ ?_ ?_ ?_ ?_ ?_ ?_ ?_ ?_ ?_ ?_ ?_
      any_goals (first | exact True.intro | skip)
      all_goals (repeat (refine Wh.mk fun hcc => ?_))
      refine ⟨n - 1, i + 1, by omega, ⟨by omega, by omega⟩, ?_⟩
      rw [hsu]
      exact Norm.re [0, 1, 2] (by decide) rfl (by simp [-List.map_append, heapFits, rowFits, obFits, T.ren, renL]) (by simp [tmFits, T.ren])
  · have hge : i = x.2.2.2.2.1.length := by simp at hc; omega
    subst hge
    have fy := And.intro nc4 (And.intro nc8 (And.intro wa (tn)))
    have hD1 := dx 7 [15, 2] [(2, 1)]
    refine goN ?_ ?_ ?_ ?_ ?_ ?_ ?_ ?_ ?_ ?_ ?_ ?_ ?_ ?_ ?_ ?_
    any_goals (first | exact True.intro | skip)
    skip
    all_goals exact SW.ret (show RetQ _ _ _ _ _ _ _ from RetQ.y [4] [.ow 4 ((unF x x.2.2.2.2.1.length).map Enc.o)])
end Q6

namespace Q6
open Go Go.Vm Go.Proofs
set_option maxHeartbeats 4000000
set_option synthInstance.maxSize 2000
set_option synthInstance.maxHeartbeats 400000
set_option maxRecDepth 10000
set_option linter.unusedSimpArgs false
set_option linter.unusedVariables false

set_option synthInstance.maxHeartbeats 4000000
set_option synthInstance.maxSize 20000
set_option maxHeartbeats 40000000
instance deRec_8 : DecidableEq (List ((Int × Int × Bool × Unit)) × Unit) := instDecidableEqProd
instance deRec_7 : DecidableEq (Int × List ((Int × Int × Bool × Unit)) × Unit) := instDecidableEqProd
instance deRec_6 : DecidableEq ((Bool × ((Int × (List Int) × (List Int) × Unit)) × Unit) × Int × List ((Int × Int × Bool × Unit)) × Unit) := instDecidableEqProd
instance deRec_5 : DecidableEq ((Bool × ((Int × (List Int) × (List Int) × Unit)) × Unit) × (Bool × ((Int × (List Int) × (List Int) × Unit)) × Unit) × Int × List ((Int × Int × Bool × Unit)) × Unit) := instDecidableEqProd
instance deRec_4 : DecidableEq (Int × (Bool × ((Int × (List Int) × (List Int) × Unit)) × Unit) × (Bool × ((Int × (List Int) × (List Int) × Unit)) × Unit) × Int × List ((Int × Int × Bool × Unit)) × Unit) := instDecidableEqProd
instance deRec_3 : DecidableEq (Int × Int × (Bool × ((Int × (List Int) × (List Int) × Unit)) × Unit) × (Bool × ((Int × (List Int) × (List Int) × Unit)) × Unit) × Int × List ((Int × Int × Bool × Unit)) × Unit) := instDecidableEqProd
instance deRec_2 : DecidableEq (Int × Int × Int × (Bool × ((Int × (List Int) × (List Int) × Unit)) × Unit) × (Bool × ((Int × (List Int) × (List Int) × Unit)) × Unit) × Int × List ((Int × Int × Bool × Unit)) × Unit) := instDecidableEqProd
instance deRec_1 : DecidableEq (Int × Int × Int × Int × (Bool × ((Int × (List Int) × (List Int) × Unit)) × Unit) × (Bool × ((Int × (List Int) × (List Int) × Unit)) × Unit) × Int × List ((Int × Int × Bool × Unit)) × Unit) := instDecidableEqProd
instance deRec_0 : DecidableEq (Int × Int × Int × Int × Int × (Bool × ((Int × (List Int) × (List Int) × Unit)) × Unit) × (Bool × ((Int × (List Int) × (List Int) × Unit)) × Unit) × Int × List ((Int × Int × Bool × Unit)) × Unit) := instDecidableEqProd
instance deObj : DecidableEq ((Int × (List Int) × (List Int) × Unit)) := inferInstance
instance deSlot : DecidableEq ((Bool × ((Int × (List Int) × (List Int) × Unit)) × Unit)) := inferInstance
instance deA4 : DecidableEq ((((Bool × ((Int × (List Int) × (List Int) × Unit)) × Unit)) × ((Bool × ((Int × (List Int) × (List Int) × Unit)) × Unit)) × ((Bool × ((Int × (List Int) × (List Int) × Unit)) × Unit)) × ((Bool × ((Int × (List Int) × (List Int) × Unit)) × Unit)) × Unit)) := instDecidableEqProd
instance dePage : DecidableEq ((Int × ((((Bool × ((Int × (List Int) × (List Int) × Unit)) × Unit)) × ((Bool × ((Int × (List Int) × (List Int) × Unit)) × Unit)) × ((Bool × ((Int × (List Int) × (List Int) × Unit)) × Unit)) × ((Bool × ((Int × (List Int) × (List Int) × Unit)) × Unit)) × Unit)) × Unit)) := instDecidableEqProd
instance deSeat : DecidableEq ((Int × ((Int × ((((Bool × ((Int × (List Int) × (List Int) × Unit)) × Unit)) × ((Bool × ((Int × (List Int) × (List Int) × Unit)) × Unit)) × ((Bool × ((Int × (List Int) × (List Int) × Unit)) × Unit)) × ((Bool × ((Int × (List Int) × (List Int) × Unit)) × Unit)) × Unit)) × Unit)) × Bool × Bool × Unit)) := instDecidableEqProd
abbrev Slot4T := (((Bool × ((Int × (List Int) × (List Int) × Unit)) × Unit)) × ((Bool × ((Int × (List Int) × (List Int) × Unit)) × Unit)) × ((Bool × ((Int × (List Int) × (List Int) × Unit)) × Unit)) × ((Bool × ((Int × (List Int) × (List Int) × Unit)) × Unit)) × Unit)
theorem laws_eqSlotA4_ok (x y : Slot4T) (hx : Enc.lim 1048576 x) : CallR Try.prog 186 [.nd [.nd [.bool x.1.1, .nd [.int .i64 x.1.2.1.1, .sl .b (x.1.2.1.2.1.map Enc.b), .sl .b (x.1.2.1.2.2.1.map Enc.b)]], .nd [.bool x.2.1.1, .nd [.int .i64 x.2.1.2.1.1, .sl .b (x.2.1.2.1.2.1.map Enc.b), .sl .b (x.2.1.2.1.2.2.1.map Enc.b)]], .nd [.bool x.2.2.1.1, .nd [.int .i64 x.2.2.1.2.1.1, .sl .b (x.2.2.1.2.1.2.1.map Enc.b), .sl .b (x.2.2.1.2.1.2.2.1.map Enc.b)]], .nd [.bool x.2.2.2.1.1, .nd [.int .i64 x.2.2.2.1.2.1.1, .sl .b (x.2.2.2.1.2.1.2.1.map Enc.b), .sl .b (x.2.2.2.1.2.1.2.2.1.map Enc.b)]]], .nd [.nd [.bool y.1.1, .nd [.int .i64 y.1.2.1.1, .sl .b (y.1.2.1.2.1.map Enc.b), .sl .b (y.1.2.1.2.2.1.map Enc.b)]], .nd [.bool y.2.1.1, .nd [.int .i64 y.2.1.2.1.1, .sl .b (y.2.1.2.1.2.1.map Enc.b), .sl .b (y.2.1.2.1.2.2.1.map Enc.b)]], .nd [.bool y.2.2.1.1, .nd [.int .i64 y.2.2.1.2.1.1, .sl .b (y.2.2.1.2.1.2.1.map Enc.b), .sl .b (y.2.2.1.2.1.2.2.1.map Enc.b)]], .nd [.bool y.2.2.2.1.1, .nd [.int .i64 y.2.2.2.1.2.1.1, .sl .b (y.2.2.2.1.2.1.2.1.map Enc.b), .sl .b (y.2.2.2.1.2.1.2.2.1.map Enc.b)]]]] [] (.bool (decide (x = y))) := by
  refine CallR.of_body (n := 18) (rs := [.tmp 4]) hY.ok Try.func186 rfl (by decide) rfl rfl rfl rfl (fun F => ?_)
  have fx := And.intro Y3 (And.intro Y4 (And.intro Y27 (And.intro Y35 (And.intro Y37 (Y84)))))
  obtain ⟨a, b, c, d, ⟨⟩⟩ := x
  obtain ⟨a', b', c', d', ⟨⟩⟩ := y
  have h1 := laws_eqSlot_ok a a' hx.1
  have h2 := laws_eqSlot_ok b b' hx.2.1
  have h3 := laws_eqSlot_ok c c' hx.2.2.1
  have h4 := laws_eqSlot_ok d d' hx.2.2.2.1
  rw [show decide ((a, b, c, d, ()) = (a', b', c', d', ())) = (decide (a = a') && (decide (b = b') && (decide (c = c') && decide (d = d')))) by simp]
  generalize decide (a = a') = p1 at *
  generalize decide (b = b') = p2 at *
  generalize decide (c = c') = p3 at *
  generalize decide (d = d') = p4 at *
  have hC1 := cx [] (h1)
  have hC2 := cx [] (h2)
  have hC3 := cx [] (h3)
  have hC4 := cx [] (h4)
  have fy := And.intro nc4 (And.intro nc8 (And.intro wa (tn)))
  refine goV ?_ ?_ ?_ ?_ ?_ ?_ ?_ ?_ ?_ ?_ ?_ ?_ ?_ ?_ ?_ ?_
  any_goals (first | exact True.intro | skip)
  all_goals (repeat (refine Wh.mk fun hcc => ?_))
  all_goals (first | rfl | ((try simp only [tupOf, fixEs]); (first | done | rfl | (simp_all []; done) | grind [])))
theorem laws_eqPage_ok (x y : PageT) (hx : Enc.lim 1048576 x) : CallR Try.prog 164 [.nd [.int .i64 x.1, .nd [.nd [.bool x.2.1.1.1, .nd [.int .i64 x.2.1.1.2.1.1, .sl .b (x.2.1.1.2.1.2.1.map Enc.b), .sl .b (x.2.1.1.2.1.2.2.1.map Enc.b)]], .nd [.bool x.2.1.2.1.1, .nd [.int .i64 x.2.1.2.1.2.1.1, .sl .b (x.2.1.2.1.2.1.2.1.map Enc.b), .sl .b (x.2.1.2.1.2.1.2.2.1.map Enc.b)]], .nd [.bool x.2.1.2.2.1.1, .nd [.int .i64 x.2.1.2.2.1.2.1.1, .sl .b (x.2.1.2.2.1.2.1.2.1.map Enc.b), .sl .b (x.2.1.2.2.1.2.1.2.2.1.map Enc.b)]], .nd [.bool x.2.1.2.2.2.1.1, .nd [.int .i64 x.2.1.2.2.2.1.2.1.1, .sl .b (x.2.1.2.2.2.1.2.1.2.1.map Enc.b), .sl .b (x.2.1.2.2.2.1.2.1.2.2.1.map Enc.b)]]]], .nd [.int .i64 y.1, .nd [.nd [.bool y.2.1.1.1, .nd [.int .i64 y.2.1.1.2.1.1, .sl .b (y.2.1.1.2.1.2.1.map Enc.b), .sl .b (y.2.1.1.2.1.2.2.1.map Enc.b)]], .nd [.bool y.2.1.2.1.1, .nd [.int .i64 y.2.1.2.1.2.1.1, .sl .b (y.2.1.2.1.2.1.2.1.map Enc.b), .sl .b (y.2.1.2.1.2.1.2.2.1.map Enc.b)]], .nd [.bool y.2.1.2.2.1.1, .nd [.int .i64 y.2.1.2.2.1.2.1.1, .sl .b (y.2.1.2.2.1.2.1.2.1.map Enc.b), .sl .b (y.2.1.2.2.1.2.1.2.2.1.map Enc.b)]], .nd [.bool y.2.1.2.2.2.1.1, .nd [.int .i64 y.2.1.2.2.2.1.2.1.1, .sl .b (y.2.1.2.2.2.1.2.1.2.1.map Enc.b), .sl .b (y.2.1.2.2.2.1.2.1.2.2.1.map Enc.b)]]]]] [] (.bool (decide (x = y))) := by
  refine CallR.of_body (n := 16) (rs := [.tmp 4]) hY.ok Try.func164 rfl (by decide) rfl rfl rfl rfl (fun F => ?_)
  have fx := And.intro Y1 (And.intro Y3 (And.intro Y4 (And.intro Y27 (And.intro Y35 (And.intro Y37 (And.intro Y84 (Y86)))))))
  obtain ⟨a, ⟨s1, s2, s3, s4, ⟨⟩⟩, ⟨⟩⟩ := x
  obtain ⟨a', ⟨t1, t2, t3, t4, ⟨⟩⟩, ⟨⟩⟩ := y
  have h1 := laws_eqSlotA4_ok (s1, s2, s3, s4, ()) (t1, t2, t3, t4, ()) hx.2.1
  rw [show decide ((a, (s1, s2, s3, s4, ()), ()) = (a', (t1, t2, t3, t4, ()), ())) = (decide (a = a') && decide ((s1, s2, s3, s4, ()) = (t1, t2, t3, t4, ()))) by simp]
  simp only at h1
  generalize decide ((s1, s2, s3, s4, ()) = (t1, t2, t3, t4, ())) = p1 at *
  have hne : (a != a') = !decide (a = a') := by by_cases h : a = a' <;> simp [h]
  generalize decide (a = a') = p2 at *
  clear hx
  have hC1 := cx [] (h1)
  have fy := hne
  refine goK ?_ ?_ ?_ ?_ ?_ ?_ ?_ ?_ ?_ ?_ ?_ ?_ ?_ ?_ ?_ ?_
  any_goals (first | exact True.intro | skip)
  all_goals (repeat (refine Wh.mk fun hcc => ?_))
  all_goals (first | rfl | ((try simp only [tupOf, fixEs]); (first | done | rfl | (simp_all []; done) | grind [])))
theorem laws_eqSeat_ok (x y : (Int × ((Int × ((((Bool × ((Int × (List Int) × (List Int) × Unit)) × Unit)) × ((Bool × ((Int × (List Int) × (List Int) × Unit)) × Unit)) × ((Bool × ((Int × (List Int) × (List Int) × Unit)) × Unit)) × ((Bool × ((Int × (List Int) × (List Int) × Unit)) × Unit)) × Unit)) × Unit)) × Bool × Bool × Unit)) (hx : Enc.lim 1048576 x) : CallR Try.prog 187 [.nd [.int .i64 x.1, .nd [.int .i64 x.2.1.1, .nd [.nd [.bool x.2.1.2.1.1.1, .nd [.int .i64 x.2.1.2.1.1.2.1.1, .sl .b (x.2.1.2.1.1.2.1.2.1.map Enc.b), .sl .b (x.2.1.2.1.1.2.1.2.2.1.map Enc.b)]], .nd [.bool x.2.1.2.1.2.1.1, .nd [.int .i64 x.2.1.2.1.2.1.2.1.1, .sl .b (x.2.1.2.1.2.1.2.1.2.1.map Enc.b), .sl .b (x.2.1.2.1.2.1.2.1.2.2.1.map Enc.b)]], .nd [.bool x.2.1.2.1.2.2.1.1, .nd [.int .i64 x.2.1.2.1.2.2.1.2.1.1, .sl .b (x.2.1.2.1.2.2.1.2.1.2.1.map Enc.b), .sl .b (x.2.1.2.1.2.2.1.2.1.2.2.1.map Enc.b)]], .nd [.bool x.2.1.2.1.2.2.2.1.1, .nd [.int .i64 x.2.1.2.1.2.2.2.1.2.1.1, .sl .b (x.2.1.2.1.2.2.2.1.2.1.2.1.map Enc.b), .sl .b (x.2.1.2.1.2.2.2.1.2.1.2.2.1.map Enc.b)]]]], .bool x.2.2.1, .bool x.2.2.2.1], .nd [.int .i64 y.1, .nd [.int .i64 y.2.1.1, .nd [.nd [.bool y.2.1.2.1.1.1, .nd [.int .i64 y.2.1.2.1.1.2.1.1, .sl .b (y.2.1.2.1.1.2.1.2.1.map Enc.b), .sl .b (y.2.1.2.1.1.2.1.2.2.1.map Enc.b)]], .nd [.bool y.2.1.2.1.2.1.1, .nd [.int .i64 y.2.1.2.1.2.1.2.1.1, .sl .b (y.2.1.2.1.2.1.2.1.2.1.map Enc.b), .sl .b (y.2.1.2.1.2.1.2.1.2.2.1.map Enc.b)]], .nd [.bool y.2.1.2.1.2.2.1.1, .nd [.int .i64 y.2.1.2.1.2.2.1.2.1.1, .sl .b (y.2.1.2.1.2.2.1.2.1.2.1.map Enc.b), .sl .b (y.2.1.2.1.2.2.1.2.1.2.2.1.map Enc.b)]], .nd [.bool y.2.1.2.1.2.2.2.1.1, .nd [.int .i64 y.2.1.2.1.2.2.2.1.2.1.1, .sl .b (y.2.1.2.1.2.2.2.1.2.1.2.1.map Enc.b), .sl .b (y.2.1.2.1.2.2.2.1.2.1.2.2.1.map Enc.b)]]]], .bool y.2.2.1, .bool y.2.2.2.1]] [] (.bool (decide (x = y))) := by
  refine CallR.of_body (n := 26) (rs := [.tmp 4]) hY.ok Try.func187 rfl (by decide) rfl rfl rfl rfl (fun F => ?_)
  have fx := And.intro Y1 (And.intro Y2 (And.intro Y3 (And.intro Y4 (And.intro Y27 (And.intro Y35 (And.intro Y37 (And.intro Y84 (And.intro Y86 (Y192)))))))))
  obtain ⟨x0, ⟨x10, ⟨x110, x111, x112, x113, ⟨⟩⟩, ⟨⟩⟩, x2, x3, ⟨⟩⟩ := x
  obtain ⟨y0, ⟨y10, ⟨y110, y111, y112, y113, ⟨⟩⟩, ⟨⟩⟩, y2, y3, ⟨⟩⟩ := y
  have key2 : decide ((x0, (x10, (x110, x111, x112, x113, ()), ()), x2, x3, ()) = (y0, (y10, (y110, y111, y112, y113, ()), ()), y2, y3, ())) = (decide (x0 = y0) && (decide ((x10, (x110, x111, x112, x113, ()), ()) = (y10, (y110, y111, y112, y113, ()), ())) && (decide (x2 = y2) && (decide (x3 = y3))))) := by
    rw [Bool.eq_iff_iff]
    simp only [Bool.and_eq_true, decide_eq_true_eq]
    exact (show ((x0, (x10, (x110, x111, x112, x113, ()), ()), x2, x3, ()) = (y0, (y10, (y110, y111, y112, y113, ()), ()), y2, y3, ())) ↔ (x0 = y0 ∧ (x10, (x110, x111, x112, x113, ()), ()) = (y10, (y110, y111, y112, y113, ()), ()) ∧ x2 = y2 ∧ x3 = y3) from ⟨fun h => ⟨congrArg (fun z : (Int × ((Int × ((((Bool × ((Int × (List Int) × (List Int) × Unit)) × Unit)) × ((Bool × ((Int × (List Int) × (List Int) × Unit)) × Unit)) × ((Bool × ((Int × (List Int) × (List Int) × Unit)) × Unit)) × ((Bool × ((Int × (List Int) × (List Int) × Unit)) × Unit)) × Unit)) × Unit)) × Bool × Bool × Unit) => z.1) h, congrArg (fun z : (Int × ((Int × ((((Bool × ((Int × (List Int) × (List Int) × Unit)) × Unit)) × ((Bool × ((Int × (List Int) × (List Int) × Unit)) × Unit)) × ((Bool × ((Int × (List Int) × (List Int) × Unit)) × Unit)) × ((Bool × ((Int × (List Int) × (List Int) × Unit)) × Unit)) × Unit)) × Unit)) × Bool × Bool × Unit) => z.2.1) h, congrArg (fun z : (Int × ((Int × ((((Bool × ((Int × (List Int) × (List Int) × Unit)) × Unit)) × ((Bool × ((Int × (List Int) × (List Int) × Unit)) × Unit)) × ((Bool × ((Int × (List Int) × (List Int) × Unit)) × Unit)) × ((Bool × ((Int × (List Int) × (List Int) × Unit)) × Unit)) × Unit)) × Unit)) × Bool × Bool × Unit) => z.2.2.1) h, congrArg (fun z : (Int × ((Int × ((((Bool × ((Int × (List Int) × (List Int) × Unit)) × Unit)) × ((Bool × ((Int × (List Int) × (List Int) × Unit)) × Unit)) × ((Bool × ((Int × (List Int) × (List Int) × Unit)) × Unit)) × ((Bool × ((Int × (List Int) × (List Int) × Unit)) × Unit)) × Unit)) × Unit)) × Bool × Bool × Unit) => z.2.2.2.1) h⟩, fun h => Prod.ext h.1 (Prod.ext h.2.1 (Prod.ext h.2.2.1 (Prod.ext h.2.2.2 rfl)))⟩)
  rw [key2]
  clear key2
  have e0 : (x0 != y0) = !decide (x0 = y0) := by cases h : decide (x0 = y0) <;> simp_all
  have e1 := laws_eqPage_ok ((x10, (x110, x111, x112, x113, ()), ())) ((y10, (y110, y111, y112, y113, ()), ())) hx.2.1
  try simp only at e1
  have e2 : (x2 == y2) = decide (x2 = y2) := by cases x2 <;> cases y2 <;> rfl
  have e3 : (x3 == y3) = decide (x3 = y3) := by cases x3 <;> cases y3 <;> rfl
  clear hx
  generalize decide (x0 = y0) = p0 at *
  generalize decide ((x10, (x110, x111, x112, x113, ()), ()) = (y10, (y110, y111, y112, y113, ()), ())) = p1 at *
  generalize decide (x2 = y2) = p2 at *
  generalize decide (x3 = y3) = p3 at *
  cases p0
  · skip
    have hC1 := cx [] (e1)
    have fy := And.intro e0 (And.intro e2 (e3))
    refine goR ?_ ?_ ?_ ?_ ?_ ?_ ?_ ?_ ?_ ?_ ?_ ?_ ?_ ?_ ?_ ?_
    any_goals (first | exact True.intro | skip)
    all_goals (repeat (refine Wh.mk fun hcc => ?_))
    all_goals exact SW.ret (show RetQ _ _ _ _ _ _ _ from RetQ.y [0] [.bool false])
  · skip
    cases p1
    · skip
      have hC1 := cx [] (e1)
      have fy := And.intro e0 (And.intro e2 (e3))
      refine goR ?_ ?_ ?_ ?_ ?_ ?_ ?_ ?_ ?_ ?_ ?_ ?_ ?_ ?_ ?_ ?_
      any_goals (first | exact True.intro | skip)
      all_goals (repeat (refine Wh.mk fun hcc => ?_))
      all_goals exact SW.ret (show RetQ _ _ _ _ _ _ _ from RetQ.y [0] [.bool false])
    · skip
      cases p2
      · skip
        have hC1 := cx [] (e1)
        have fy := And.intro e0 (And.intro e2 (e3))
        refine goR ?_ ?_ ?_ ?_ ?_ ?_ ?_ ?_ ?_ ?_ ?_ ?_ ?_ ?_ ?_ ?_
        any_goals (first | exact True.intro | skip)
        all_goals (repeat (refine Wh.mk fun hcc => ?_))
        all_goals exact SW.ret (show RetQ _ _ _ _ _ _ _ from RetQ.y [0] [.bool false])
      · skip
        cases p3
        · skip
          have hC1 := cx [] (e1)
          have fy := And.intro e0 (And.intro e2 (e3))
          refine goR ?_ ?_ ?_ ?_ ?_ ?_ ?_ ?_ ?_ ?_ ?_ ?_ ?_ ?_ ?_ ?_
          any_goals (first | exact True.intro | skip)
          all_goals (repeat (refine Wh.mk fun hcc => ?_))
          all_goals exact SW.ret (show RetQ _ _ _ _ _ _ _ from RetQ.y [0] [.bool false])
        · skip
          have hC1 := cx [] (e1)
          have fy := And.intro e0 (And.intro e2 (e3))
          refine goR ?_ ?_ ?_ ?_ ?_ ?_ ?_ ?_ ?_ ?_ ?_ ?_ ?_ ?_ ?_ ?_
          any_goals (first | exact True.intro | skip)
          all_goals (repeat (refine Wh.mk fun hcc => ?_))
          all_goals exact SW.ret (show RetQ _ _ _ _ _ _ _ from RetQ.y [0] [.bool true])
theorem laws_eqSeatS_ok (l m : List ((Int × ((Int × ((((Bool × ((Int × (List Int) × (List Int) × Unit)) × Unit)) × ((Bool × ((Int × (List Int) × (List Int) × Unit)) × Unit)) × ((Bool × ((Int × (List Int) × (List Int) × Unit)) × Unit)) × ((Bool × ((Int × (List Int) × (List Int) × Unit)) × Unit)) × Unit)) × Unit)) × Bool × Bool × Unit))) (hl : Enc.lim 1048576 l) : CallR Try.prog 165 [.sl .b (l.map Enc.b), .sl .b (m.map Enc.b)] [] (.bool (decide (l = m))) := by
  refine CallR.of_body (n := 27) (rs := [.tmp 4]) hY.ok Try.func165 rfl (by decide) rfl rfl rfl rfl (fun F => ?_)
  have fx := And.intro Y3 (And.intro Y4 (And.intro Y27 (And.intro Y35 (And.intro Y37 (And.intro Y84 (And.intro Y86 (And.intro Y88 (Y192))))))))
  have hl1 : l.length ≤ 1048576 := hl.1
  have fy := Nat.add_zero
  refine goS ?_
  refine SW.cond rfl (fun hc => ?_) (fun hc => ?_)
  · have hne : ¬ l = m := by intro e; subst e; simp at hc
    have fy := Nat.add_zero
    refine goK ?_ ?_ ?_ ?_ ?_ ?_ ?_ ?_ ?_ ?_ ?_ ?_ ?_ ?_ ?_ ?_
    any_goals (first | exact True.intro | skip)
    all_goals (repeat (refine Wh.mk fun hcc => ?_))
    simp [tupOf, fixEs, hne]
  have hlen : l.length = m.length := by have : (l.length : Int) = m.length := by simpa using hc
                                        omega
  refine SW.skip ?_
  simp only [thenS]
  have fy := Nat.add_zero
  refine goN ?_ ?_ ?_ ?_ ?_ ?_ ?_ ?_ ?_ ?_ ?_ ?_ ?_ ?_ ?_ ?_
  any_goals (first | exact True.intro | skip)
  skip
  refine SW.loop (fun i : Nat => ⟨[.sl .b (l.map Enc.b), .sl .b (m.map Enc.b), .undef, .undef, .undef, .int .i64 i, .undef, .undef, .undef, .undef, .undef, .undef, .undef, .undef, .undef, .undef, .undef, .undef, .undef, .undef, .undef, .undef, .undef, .undef, .undef, .undef, .undef], [[]]⟩)
    (fun n i => n = l.length - i ∧ i ≤ l.length ∧ ∀ j (h : j < l.length), j < i → l[j] = m[j]'(by omega)) (n := l.length) (x := 0) (Norm.to 0 rfl (by simp [weakL])) ⟨rfl, Nat.zero_le _, fun j _ h => absurd h (Nat.not_lt_zero _)⟩ ?_
  rintro n i ⟨hn, hi, hp⟩
  have fy := Nat.add_zero
  refine goS ?_
  refine SW.cond rfl (fun hc => ?_) (fun hc => ?_)
  · have hlt : i < l.length := by simpa using hc
    have hlt' : i < m.length := by omega
    have hgl : (l.map Enc.b)[i]? = some (.nd [.int .i64 l[i].1, .nd [.int .i64 l[i].2.1.1, .nd [.nd [.bool l[i].2.1.2.1.1.1, .nd [.int .i64 l[i].2.1.2.1.1.2.1.1, .sl .b (l[i].2.1.2.1.1.2.1.2.1.map Enc.b), .sl .b (l[i].2.1.2.1.1.2.1.2.2.1.map Enc.b)]], .nd [.bool l[i].2.1.2.1.2.1.1, .nd [.int .i64 l[i].2.1.2.1.2.1.2.1.1, .sl .b (l[i].2.1.2.1.2.1.2.1.2.1.map Enc.b), .sl .b (l[i].2.1.2.1.2.1.2.1.2.2.1.map Enc.b)]], .nd [.bool l[i].2.1.2.1.2.2.1.1, .nd [.int .i64 l[i].2.1.2.1.2.2.1.2.1.1, .sl .b (l[i].2.1.2.1.2.2.1.2.1.2.1.map Enc.b), .sl .b (l[i].2.1.2.1.2.2.1.2.1.2.2.1.map Enc.b)]], .nd [.bool l[i].2.1.2.1.2.2.2.1.1, .nd [.int .i64 l[i].2.1.2.1.2.2.2.1.2.1.1, .sl .b (l[i].2.1.2.1.2.2.2.1.2.1.2.1.map Enc.b), .sl .b (l[i].2.1.2.1.2.2.2.1.2.1.2.2.1.map Enc.b)]]]], .bool l[i].2.2.1, .bool l[i].2.2.2.1]) := map_get Enc.b l i hlt
    have hgm : (m.map Enc.b)[i]? = some (.nd [.int .i64 m[i].1, .nd [.int .i64 m[i].2.1.1, .nd [.nd [.bool m[i].2.1.2.1.1.1, .nd [.int .i64 m[i].2.1.2.1.1.2.1.1, .sl .b (m[i].2.1.2.1.1.2.1.2.1.map Enc.b), .sl .b (m[i].2.1.2.1.1.2.1.2.2.1.map Enc.b)]], .nd [.bool m[i].2.1.2.1.2.1.1, .nd [.int .i64 m[i].2.1.2.1.2.1.2.1.1, .sl .b (m[i].2.1.2.1.2.1.2.1.2.1.map Enc.b), .sl .b (m[i].2.1.2.1.2.1.2.1.2.2.1.map Enc.b)]], .nd [.bool m[i].2.1.2.1.2.2.1.1, .nd [.int .i64 m[i].2.1.2.1.2.2.1.2.1.1, .sl .b (m[i].2.1.2.1.2.2.1.2.1.2.1.map Enc.b), .sl .b (m[i].2.1.2.1.2.2.1.2.1.2.2.1.map Enc.b)]], .nd [.bool m[i].2.1.2.1.2.2.2.1.1, .nd [.int .i64 m[i].2.1.2.1.2.2.2.1.2.1.1, .sl .b (m[i].2.1.2.1.2.2.2.1.2.1.2.1.map Enc.b), .sl .b (m[i].2.1.2.1.2.2.2.1.2.1.2.2.1.map Enc.b)]]]], .bool m[i].2.2.1, .bool m[i].2.2.2.1]) := map_get Enc.b m i hlt'
    have hC1 := cx [] (laws_eqSeat_ok l[i] m[i] (hl.2 _ (List.getElem_mem hlt)))
    have fy := And.intro hgl (hgm)
    refine goK ?_ ?_ ?_ ?_ ?_ ?_ ?_ ?_ ?_ ?_ ?_ ?_ ?_ ?_ ?_ ?_
    any_goals (first | exact True.intro | skip)
    all_goals (repeat (refine Wh.mk fun hcc => ?_))
    · have hx := hcc
      have hne : ¬ l[i] = m[i] := by intro e; simp [e] at hx
      have hlm : ¬ l = m := by intro e; subst e; exact hne rfl
      simp [tupOf, fixEs, hlm]
    · have hx := hcc
      have hx' : l[i] = m[i] := by first | (simpa using hx; done) | (apply UInt8.toNat_inj.1; simp at hx; omega)
      refine ⟨n - 1, i + 1, by omega, ⟨by omega, by omega, fun j hj hji => ?_⟩, ?_⟩
      · by_cases he : j = i
        · subst he; exact hx'
        · exact hp j hj (by omega)
      · rw [wrap64 _ (by omega) (by omega)]
        first | exact Norm.to 0 rfl (by simp [weakL]) | exact Norm.to 1 rfl (by simp [weakL])
  · have hge : i = l.length := by
      have : ¬ i < l.length := by simpa using hc
      omega
    have hlm : l = m := List.ext_getElem hlen fun j h1 h2 => hp j h1 (by omega)
    have fy := Nat.add_zero
    refine goK ?_ ?_ ?_ ?_ ?_ ?_ ?_ ?_ ?_ ?_ ?_ ?_ ?_ ?_ ?_ ?_
    any_goals (first | exact True.intro | skip)
    all_goals (repeat (refine Wh.mk fun hcc => ?_))
    simp [tupOf, fixEs, hlm]
theorem laws_eqPool_ok (x y : ((List ((Int × ((Int × ((((Bool × ((Int × (List Int) × (List Int) × Unit)) × Unit)) × ((Bool × ((Int × (List Int) × (List Int) × Unit)) × Unit)) × ((Bool × ((Int × (List Int) × (List Int) × Unit)) × Unit)) × ((Bool × ((Int × (List Int) × (List Int) × Unit)) × Unit)) × Unit)) × Unit)) × Bool × Bool × Unit))) × Int × Unit)) (hx : Enc.lim 1048576 x) : CallR Try.prog 113 [.nd [.sl .b (x.1.map Enc.b), .int .i64 x.2.1], .nd [.sl .b (y.1.map Enc.b), .int .i64 y.2.1]] [] (.bool (decide (x = y))) := by
  refine CallR.of_body (n := 16) (rs := [.tmp 4]) hY.ok Try.func113 rfl (by decide) rfl rfl rfl rfl (fun F => ?_)
  have fx := And.intro Y1 (And.intro Y3 (And.intro Y4 (And.intro Y27 (And.intro Y35 (And.intro Y37 (And.intro Y84 (And.intro Y86 (And.intro Y88 (And.intro Y90 (Y192))))))))))
  have key : x = y ↔ (x.1 = y.1 ∧ x.2.1 = y.2.1) :=
    ⟨fun h => by subst h; simp, fun h => Prod.ext h.1 (Prod.ext h.2 rfl)⟩
  have hC1 := cx [] (laws_eqSeatS_ok x.1 y.1 hx.1)
  have fy := Nat.add_zero
  refine goK ?_ ?_ ?_ ?_ ?_ ?_ ?_ ?_ ?_ ?_ ?_ ?_ ?_ ?_ ?_ ?_
  any_goals (first | exact True.intro | skip)
  all_goals (repeat (refine Wh.mk fun hcc => ?_))
  all_goals simp only [tupOf, fixEs, key]
  all_goals simp_all
theorem laws_eqLive_ok (x y : (Int × Int × Bool × Unit)) (hx : Enc.lim 1048576 x) : CallR Try.prog 167 [.nd [.int .i64 x.1, .int .i64 x.2.1, .bool x.2.2.1], .nd [.int .i64 y.1, .int .i64 y.2.1, .bool y.2.2.1]] [] (.bool (decide (x = y))) := by
  refine CallR.of_body (n := 20) (rs := [.tmp 4]) hY.ok Try.func167 rfl (by decide) rfl rfl rfl rfl (fun F => ?_)
  have fx := And.intro Y1 (And.intro Y2 (And.intro Y3 (And.intro Y4 (Y197))))
  have key : x = y ↔ (x.1 = y.1 ∧ x.2.1 = y.2.1 ∧ x.2.2.1 = y.2.2.1) :=
    ⟨fun h => by subst h; simp, fun h => Prod.ext h.1 (Prod.ext h.2.1 (Prod.ext h.2.2 rfl))⟩
  have fy := Nat.add_zero
  refine goK ?_ ?_ ?_ ?_ ?_ ?_ ?_ ?_ ?_ ?_ ?_ ?_ ?_ ?_ ?_ ?_
  any_goals (first | exact True.intro | skip)
  all_goals (repeat (refine Wh.mk fun hcc => ?_))
  all_goals simp only [tupOf, fixEs, key]
  all_goals simp_all
theorem laws_eqLiveS_ok (l m : List ((Int × Int × Bool × Unit))) (hl : Enc.lim 1048576 l) : CallR Try.prog 115 [.sl .b (l.map Enc.b), .sl .b (m.map Enc.b)] [] (.bool (decide (l = m))) := by
  refine CallR.of_body (n := 27) (rs := [.tmp 4]) hY.ok Try.func115 rfl (by decide) rfl rfl rfl rfl (fun F => ?_)
  have fx := And.intro Y3 (And.intro Y4 (And.intro Y94 (Y197)))
  have hl1 : l.length ≤ 1048576 := hl.1
  have fy := Nat.add_zero
  refine goS ?_
  refine SW.cond rfl (fun hc => ?_) (fun hc => ?_)
  · have hne : ¬ l = m := by intro e; subst e; simp at hc
    have fy := Nat.add_zero
    refine goK ?_ ?_ ?_ ?_ ?_ ?_ ?_ ?_ ?_ ?_ ?_ ?_ ?_ ?_ ?_ ?_
    any_goals (first | exact True.intro | skip)
    all_goals (repeat (refine Wh.mk fun hcc => ?_))
    simp [tupOf, fixEs, hne]
  have hlen : l.length = m.length := by have : (l.length : Int) = m.length := by simpa using hc
                                        omega
  refine SW.skip ?_
  simp only [thenS]
  have fy := Nat.add_zero
  refine goN ?_ ?_ ?_ ?_ ?_ ?_ ?_ ?_ ?_ ?_ ?_ ?_ ?_ ?_ ?_ ?_
  any_goals (first | exact True.intro | skip)
  skip
  refine SW.loop (fun i : Nat => ⟨[.sl .b (l.map Enc.b), .sl .b (m.map Enc.b), .undef, .undef, .undef, .int .i64 i, .undef, .undef, .undef, .undef, .undef, .undef, .undef, .undef, .undef, .undef, .undef, .undef, .undef, .undef, .undef, .undef, .undef, .undef, .undef, .undef, .undef], [[]]⟩)
    (fun n i => n = l.length - i ∧ i ≤ l.length ∧ ∀ j (h : j < l.length), j < i → l[j] = m[j]'(by omega)) (n := l.length) (x := 0) (Norm.to 0 rfl (by simp [weakL])) ⟨rfl, Nat.zero_le _, fun j _ h => absurd h (Nat.not_lt_zero _)⟩ ?_
  rintro n i ⟨hn, hi, hp⟩
  have fy := Nat.add_zero
  refine goS ?_
  refine SW.cond rfl (fun hc => ?_) (fun hc => ?_)
  · have hlt : i < l.length := by simpa using hc
    have hlt' : i < m.length := by omega
    have hgl : (l.map Enc.b)[i]? = some (.nd [.int .i64 l[i].1, .int .i64 l[i].2.1, .bool l[i].2.2.1]) := map_get Enc.b l i hlt
    have hgm : (m.map Enc.b)[i]? = some (.nd [.int .i64 m[i].1, .int .i64 m[i].2.1, .bool m[i].2.2.1]) := map_get Enc.b m i hlt'
    have hC1 := cx [] (laws_eqLive_ok l[i] m[i] (hl.2 _ (List.getElem_mem hlt)))
    have fy := And.intro hgl (hgm)
    refine goK ?_ ?_ ?_ ?_ ?_ ?_ ?_ ?_ ?_ ?_ ?_ ?_ ?_ ?_ ?_ ?_
    any_goals (first | exact True.intro | skip)
    all_goals (repeat (refine Wh.mk fun hcc => ?_))
    · have hx := hcc
      have hne : ¬ l[i] = m[i] := by intro e; simp [e] at hx
      have hlm : ¬ l = m := by intro e; subst e; exact hne rfl
      simp [tupOf, fixEs, hlm]
    · have hx := hcc
      have hx' : l[i] = m[i] := by first | (simpa using hx; done) | (apply UInt8.toNat_inj.1; simp at hx; omega)
      refine ⟨n - 1, i + 1, by omega, ⟨by omega, by omega, fun j hj hji => ?_⟩, ?_⟩
      · by_cases he : j = i
        · subst he; exact hx'
        · exact hp j hj (by omega)
      · rw [wrap64 _ (by omega) (by omega)]
        first | exact Norm.to 0 rfl (by simp [weakL]) | exact Norm.to 1 rfl (by simp [weakL])
  · have hge : i = l.length := by
      have : ¬ i < l.length := by simpa using hc
      omega
    have hlm : l = m := List.ext_getElem hlen fun j h1 h2 => hp j h1 (by omega)
    have fy := Nat.add_zero
    refine goK ?_ ?_ ?_ ?_ ?_ ?_ ?_ ?_ ?_ ?_ ?_ ?_ ?_ ?_ ?_ ?_
    any_goals (first | exact True.intro | skip)
    all_goals (repeat (refine Wh.mk fun hcc => ?_))
    simp [tupOf, fixEs, hlm]
theorem laws_eqHold_ok (x y : (Int × Int × Unit)) (hx : Enc.lim 1048576 x) : CallR Try.prog 168 [.nd [.int .i64 x.1, .int .i64 x.2.1], .nd [.int .i64 y.1, .int .i64 y.2.1]] [] (.bool (decide (x = y))) := by
  refine CallR.of_body (n := 15) (rs := [.tmp 4]) hY.ok Try.func168 rfl (by decide) rfl rfl rfl rfl (fun F => ?_)
  have fx := And.intro Y1 (And.intro Y3 (And.intro Y4 (Y165)))
  have key : x = y ↔ (x.1 = y.1 ∧ x.2.1 = y.2.1) :=
    ⟨fun h => by subst h; simp, fun h => Prod.ext h.1 (Prod.ext h.2 rfl)⟩
  have fy := Nat.add_zero
  refine goK ?_ ?_ ?_ ?_ ?_ ?_ ?_ ?_ ?_ ?_ ?_ ?_ ?_ ?_ ?_ ?_
  any_goals (first | exact True.intro | skip)
  all_goals (repeat (refine Wh.mk fun hcc => ?_))
  all_goals simp only [tupOf, fixEs, key]
  all_goals simp_all
theorem laws_eqHoldS_ok (l m : List ((Int × Int × Unit))) (hl : Enc.lim 1048576 l) : CallR Try.prog 116 [.sl .b (l.map Enc.b), .sl .b (m.map Enc.b)] [] (.bool (decide (l = m))) := by
  refine CallR.of_body (n := 27) (rs := [.tmp 4]) hY.ok Try.func116 rfl (by decide) rfl rfl rfl rfl (fun F => ?_)
  have fx := And.intro Y3 (And.intro Y4 (And.intro Y95 (Y165)))
  have hl1 : l.length ≤ 1048576 := hl.1
  have fy := Nat.add_zero
  refine goS ?_
  refine SW.cond rfl (fun hc => ?_) (fun hc => ?_)
  · have hne : ¬ l = m := by intro e; subst e; simp at hc
    have fy := Nat.add_zero
    refine goK ?_ ?_ ?_ ?_ ?_ ?_ ?_ ?_ ?_ ?_ ?_ ?_ ?_ ?_ ?_ ?_
    any_goals (first | exact True.intro | skip)
    all_goals (repeat (refine Wh.mk fun hcc => ?_))
    simp [tupOf, fixEs, hne]
  have hlen : l.length = m.length := by have : (l.length : Int) = m.length := by simpa using hc
                                        omega
  refine SW.skip ?_
  simp only [thenS]
  have fy := Nat.add_zero
  refine goN ?_ ?_ ?_ ?_ ?_ ?_ ?_ ?_ ?_ ?_ ?_ ?_ ?_ ?_ ?_ ?_
  any_goals (first | exact True.intro | skip)
  skip
  refine SW.loop (fun i : Nat => ⟨[.sl .b (l.map Enc.b), .sl .b (m.map Enc.b), .undef, .undef, .undef, .int .i64 i, .undef, .undef, .undef, .undef, .undef, .undef, .undef, .undef, .undef, .undef, .undef, .undef, .undef, .undef, .undef, .undef, .undef, .undef, .undef, .undef, .undef], [[]]⟩)
    (fun n i => n = l.length - i ∧ i ≤ l.length ∧ ∀ j (h : j < l.length), j < i → l[j] = m[j]'(by omega)) (n := l.length) (x := 0) (Norm.to 0 rfl (by simp [weakL])) ⟨rfl, Nat.zero_le _, fun j _ h => absurd h (Nat.not_lt_zero _)⟩ ?_
  rintro n i ⟨hn, hi, hp⟩
  have fy := Nat.add_zero
  refine goS ?_
  refine SW.cond rfl (fun hc => ?_) (fun hc => ?_)
  · have hlt : i < l.length := by simpa using hc
    have hlt' : i < m.length := by omega
    have hgl : (l.map Enc.b)[i]? = some (.nd [.int .i64 l[i].1, .int .i64 l[i].2.1]) := map_get Enc.b l i hlt
    have hgm : (m.map Enc.b)[i]? = some (.nd [.int .i64 m[i].1, .int .i64 m[i].2.1]) := map_get Enc.b m i hlt'
    have hC1 := cx [] (laws_eqHold_ok l[i] m[i] (hl.2 _ (List.getElem_mem hlt)))
    have fy := And.intro hgl (hgm)
    refine goK ?_ ?_ ?_ ?_ ?_ ?_ ?_ ?_ ?_ ?_ ?_ ?_ ?_ ?_ ?_ ?_
    any_goals (first | exact True.intro | skip)
    all_goals (repeat (refine Wh.mk fun hcc => ?_))
    · have hx := hcc
      have hne : ¬ l[i] = m[i] := by intro e; simp [e] at hx
      have hlm : ¬ l = m := by intro e; subst e; exact hne rfl
      simp [tupOf, fixEs, hlm]
    · have hx := hcc
      have hx' : l[i] = m[i] := by first | (simpa using hx; done) | (apply UInt8.toNat_inj.1; simp at hx; omega)
      refine ⟨n - 1, i + 1, by omega, ⟨by omega, by omega, fun j hj hji => ?_⟩, ?_⟩
      · by_cases he : j = i
        · subst he; exact hx'
        · exact hp j hj (by omega)
      · rw [wrap64 _ (by omega) (by omega)]
        first | exact Norm.to 0 rfl (by simp [weakL]) | exact Norm.to 1 rfl (by simp [weakL])
  · have hge : i = l.length := by
      have : ¬ i < l.length := by simpa using hc
      omega
    have hlm : l = m := List.ext_getElem hlen fun j h1 h2 => hp j h1 (by omega)
    have fy := Nat.add_zero
    refine goK ?_ ?_ ?_ ?_ ?_ ?_ ?_ ?_ ?_ ?_ ?_ ?_ ?_ ?_ ?_ ?_
    any_goals (first | exact True.intro | skip)
    all_goals (repeat (refine Wh.mk fun hcc => ?_))
    simp [tupOf, fixEs, hlm]
theorem laws_eqRec_ok (x y : (Int × Int × Int × Int × Int × ((Bool × ((Int × (List Int) × (List Int) × Unit)) × Unit)) × ((Bool × ((Int × (List Int) × (List Int) × Unit)) × Unit)) × Int × (List ((Int × Int × Bool × Unit))) × Unit)) (hx : Enc.lim 1048576 x) : CallR Try.prog 188 [.nd [.int .i64 x.1, .int .i64 x.2.1, .int .i64 x.2.2.1, .int .i64 x.2.2.2.1, .int .i64 x.2.2.2.2.1, .nd [.bool x.2.2.2.2.2.1.1, .nd [.int .i64 x.2.2.2.2.2.1.2.1.1, .sl .b (x.2.2.2.2.2.1.2.1.2.1.map Enc.b), .sl .b (x.2.2.2.2.2.1.2.1.2.2.1.map Enc.b)]], .nd [.bool x.2.2.2.2.2.2.1.1, .nd [.int .i64 x.2.2.2.2.2.2.1.2.1.1, .sl .b (x.2.2.2.2.2.2.1.2.1.2.1.map Enc.b), .sl .b (x.2.2.2.2.2.2.1.2.1.2.2.1.map Enc.b)]], .int .i64 x.2.2.2.2.2.2.2.1, .sl .b (x.2.2.2.2.2.2.2.2.1.map Enc.b)], .nd [.int .i64 y.1, .int .i64 y.2.1, .int .i64 y.2.2.1, .int .i64 y.2.2.2.1, .int .i64 y.2.2.2.2.1, .nd [.bool y.2.2.2.2.2.1.1, .nd [.int .i64 y.2.2.2.2.2.1.2.1.1, .sl .b (y.2.2.2.2.2.1.2.1.2.1.map Enc.b), .sl .b (y.2.2.2.2.2.1.2.1.2.2.1.map Enc.b)]], .nd [.bool y.2.2.2.2.2.2.1.1, .nd [.int .i64 y.2.2.2.2.2.2.1.2.1.1, .sl .b (y.2.2.2.2.2.2.1.2.1.2.1.map Enc.b), .sl .b (y.2.2.2.2.2.2.1.2.1.2.2.1.map Enc.b)]], .int .i64 y.2.2.2.2.2.2.2.1, .sl .b (y.2.2.2.2.2.2.2.2.1.map Enc.b)]] [] (.bool (decide (x = y))) := by
  refine CallR.of_body (n := 53) (rs := [.tmp 4]) hY.ok Try.func188 rfl (by decide) rfl rfl rfl rfl (fun F => ?_)
  have fx := And.intro Y1 (And.intro Y2 (And.intro Y3 (And.intro Y4 (And.intro Y5 (And.intro Y6 (And.intro Y7 (And.intro Y8 (And.intro Y27 (And.intro Y35 (And.intro Y37 (And.intro Y94 (And.intro Y169 (Y197)))))))))))))
  obtain ⟨x0, x1, x2, x3, x4, x5, x6, x7, x8, ⟨⟩⟩ := x
  obtain ⟨y0, y1, y2, y3, y4, y5, y6, y7, y8, ⟨⟩⟩ := y
  have key2 : decide ((x0, x1, x2, x3, x4, x5, x6, x7, x8, ()) = (y0, y1, y2, y3, y4, y5, y6, y7, y8, ())) = (decide (x0 = y0) && (decide (x1 = y1) && (decide (x2 = y2) && (decide (x3 = y3) && (decide (x4 = y4) && (decide (x5 = y5) && (decide (x6 = y6) && (decide (x7 = y7) && (decide (x8 = y8)))))))))) := by
    rw [Bool.eq_iff_iff]
    simp only [Bool.and_eq_true, decide_eq_true_eq]
    exact (show ((x0, x1, x2, x3, x4, x5, x6, x7, x8, ()) = (y0, y1, y2, y3, y4, y5, y6, y7, y8, ())) ↔ (x0 = y0 ∧ x1 = y1 ∧ x2 = y2 ∧ x3 = y3 ∧ x4 = y4 ∧ x5 = y5 ∧ x6 = y6 ∧ x7 = y7 ∧ x8 = y8) from ⟨fun h => ⟨congrArg (fun z : (Int × Int × Int × Int × Int × ((Bool × ((Int × (List Int) × (List Int) × Unit)) × Unit)) × ((Bool × ((Int × (List Int) × (List Int) × Unit)) × Unit)) × Int × (List ((Int × Int × Bool × Unit))) × Unit) => z.1) h, congrArg (fun z : (Int × Int × Int × Int × Int × ((Bool × ((Int × (List Int) × (List Int) × Unit)) × Unit)) × ((Bool × ((Int × (List Int) × (List Int) × Unit)) × Unit)) × Int × (List ((Int × Int × Bool × Unit))) × Unit) => z.2.1) h, congrArg (fun z : (Int × Int × Int × Int × Int × ((Bool × ((Int × (List Int) × (List Int) × Unit)) × Unit)) × ((Bool × ((Int × (List Int) × (List Int) × Unit)) × Unit)) × Int × (List ((Int × Int × Bool × Unit))) × Unit) => z.2.2.1) h, congrArg (fun z : (Int × Int × Int × Int × Int × ((Bool × ((Int × (List Int) × (List Int) × Unit)) × Unit)) × ((Bool × ((Int × (List Int) × (List Int) × Unit)) × Unit)) × Int × (List ((Int × Int × Bool × Unit))) × Unit) => z.2.2.2.1) h, congrArg (fun z : (Int × Int × Int × Int × Int × ((Bool × ((Int × (List Int) × (List Int) × Unit)) × Unit)) × ((Bool × ((Int × (List Int) × (List Int) × Unit)) × Unit)) × Int × (List ((Int × Int × Bool × Unit))) × Unit) => z.2.2.2.2.1) h, congrArg (fun z : (Int × Int × Int × Int × Int × ((Bool × ((Int × (List Int) × (List Int) × Unit)) × Unit)) × ((Bool × ((Int × (List Int) × (List Int) × Unit)) × Unit)) × Int × (List ((Int × Int × Bool × Unit))) × Unit) => z.2.2.2.2.2.1) h, congrArg (fun z : (Int × Int × Int × Int × Int × ((Bool × ((Int × (List Int) × (List Int) × Unit)) × Unit)) × ((Bool × ((Int × (List Int) × (List Int) × Unit)) × Unit)) × Int × (List ((Int × Int × Bool × Unit))) × Unit) => z.2.2.2.2.2.2.1) h, congrArg (fun z : (Int × Int × Int × Int × Int × ((Bool × ((Int × (List Int) × (List Int) × Unit)) × Unit)) × ((Bool × ((Int × (List Int) × (List Int) × Unit)) × Unit)) × Int × (List ((Int × Int × Bool × Unit))) × Unit) => z.2.2.2.2.2.2.2.1) h, congrArg (fun z : (Int × Int × Int × Int × Int × ((Bool × ((Int × (List Int) × (List Int) × Unit)) × Unit)) × ((Bool × ((Int × (List Int) × (List Int) × Unit)) × Unit)) × Int × (List ((Int × Int × Bool × Unit))) × Unit) => z.2.2.2.2.2.2.2.2.1) h⟩, fun h => Prod.ext h.1 (Prod.ext h.2.1 (Prod.ext h.2.2.1 (Prod.ext h.2.2.2.1 (Prod.ext h.2.2.2.2.1 (Prod.ext h.2.2.2.2.2.1 (Prod.ext h.2.2.2.2.2.2.1 (Prod.ext h.2.2.2.2.2.2.2.1 (Prod.ext h.2.2.2.2.2.2.2.2 rfl))))))))⟩)
  rw [key2]
  clear key2
  have e0 : (x0 != y0) = !decide (x0 = y0) := by cases h : decide (x0 = y0) <;> simp_all
  have e1 : (x1 != y1) = !decide (x1 = y1) := by cases h : decide (x1 = y1) <;> simp_all
  have e2 : (x2 != y2) = !decide (x2 = y2) := by cases h : decide (x2 = y2) <;> simp_all
  have e3 : (x3 != y3) = !decide (x3 = y3) := by cases h : decide (x3 = y3) <;> simp_all
  have e4 : (x4 != y4) = !decide (x4 = y4) := by cases h : decide (x4 = y4) <;> simp_all
  have e5 := laws_eqSlot_ok x5 y5 hx.2.2.2.2.2.1
  try simp only at e5
  have e6 := laws_eqSlot_ok x6 y6 hx.2.2.2.2.2.2.1
  try simp only at e6
  have e7 : (x7 != y7) = !decide (x7 = y7) := by cases h : decide (x7 = y7) <;> simp_all
  have e8 := laws_eqLiveS_ok x8 y8 hx.2.2.2.2.2.2.2.2.1
  try simp only at e8
  clear hx
  generalize decide (x0 = y0) = p0 at *
  generalize decide (x1 = y1) = p1 at *
  generalize decide (x2 = y2) = p2 at *
  generalize decide (x3 = y3) = p3 at *
  generalize decide (x4 = y4) = p4 at *
  generalize decide (x5 = y5) = p5 at *
  generalize decide (x6 = y6) = p6 at *
  generalize decide (x7 = y7) = p7 at *
  generalize decide (x8 = y8) = p8 at *
  cases p0
  · skip
    have hC1 := cx [] (e5)
    have hC2 := cx [] (e6)
    have hC3 := cx [] (e8)
    have fy := And.intro e0 (And.intro e1 (And.intro e2 (And.intro e3 (And.intro e4 (e7)))))
    refine goR ?_ ?_ ?_ ?_ ?_ ?_ ?_ ?_ ?_ ?_ ?_ ?_ ?_ ?_ ?_ ?_
    any_goals (first | exact True.intro | skip)
    all_goals (repeat (refine Wh.mk fun hcc => ?_))
    all_goals exact SW.ret (show RetQ _ _ _ _ _ _ _ from RetQ.y [0] [.bool false])
  · skip
    cases p1
    · skip
      have hC1 := cx [] (e5)
      have hC2 := cx [] (e6)
      have hC3 := cx [] (e8)
      have fy := And.intro e0 (And.intro e1 (And.intro e2 (And.intro e3 (And.intro e4 (e7)))))
      refine goR ?_ ?_ ?_ ?_ ?_ ?_ ?_ ?_ ?_ ?_ ?_ ?_ ?_ ?_ ?_ ?_
      any_goals (first | exact True.intro | skip)
      all_goals (repeat (refine Wh.mk fun hcc => ?_))
      all_goals exact SW.ret (show RetQ _ _ _ _ _ _ _ from RetQ.y [0] [.bool false])
    · skip
      cases p2
      · skip
        have hC1 := cx [] (e5)
        have hC2 := cx [] (e6)
        have hC3 := cx [] (e8)
        have fy := And.intro e0 (And.intro e1 (And.intro e2 (And.intro e3 (And.intro e4 (e7)))))
        refine goR ?_ ?_ ?_ ?_ ?_ ?_ ?_ ?_ ?_ ?_ ?_ ?_ ?_ ?_ ?_ ?_
        any_goals (first | exact True.intro | skip)
        all_goals (repeat (refine Wh.mk fun hcc => ?_))
        all_goals exact SW.ret (show RetQ _ _ _ _ _ _ _ from RetQ.y [0] [.bool false])
      · skip
        cases p3
        · skip
          have hC1 := cx [] (e5)
          have hC2 := cx [] (e6)
          have hC3 := cx [] (e8)
          have fy := And.intro e0 (And.intro e1 (And.intro e2 (And.intro e3 (And.intro e4 (e7)))))
          refine goR ?_ ?_ ?_ ?_ ?_ ?_ ?_ ?_ ?_ ?_ ?_ ?_ ?_ ?_ ?_ ?_
          any_goals (first | exact True.intro | skip)
          all_goals (repeat (refine Wh.mk fun hcc => ?_))
          all_goals exact SW.ret (show RetQ _ _ _ _ _ _ _ from RetQ.y [0] [.bool false])
        · skip
          cases p4
          · skip
            have hC1 := cx [] (e5)
            have hC2 := cx [] (e6)
            have hC3 := cx [] (e8)
            have fy := And.intro e0 (And.intro e1 (And.intro e2 (And.intro e3 (And.intro e4 (e7)))))
            refine goR ?_ ?_ ?_ ?_ ?_ ?_ ?_ ?_ ?_ ?_ ?_ ?_ ?_ ?_ ?_ ?_
            any_goals (first | exact True.intro | skip)
            all_goals (repeat (refine Wh.mk fun hcc => ?_))
            all_goals exact SW.ret (show RetQ _ _ _ _ _ _ _ from RetQ.y [0] [.bool false])
          · skip
            cases p5
            · skip
              have hC1 := cx [] (e5)
              have hC2 := cx [] (e6)
              have hC3 := cx [] (e8)
              have fy := And.intro e0 (And.intro e1 (And.intro e2 (And.intro e3 (And.intro e4 (e7)))))
              refine goR ?_ ?_ ?_ ?_ ?_ ?_ ?_ ?_ ?_ ?_ ?_ ?_ ?_ ?_ ?_ ?_
              any_goals (first | exact True.intro | skip)
              all_goals (repeat (refine Wh.mk fun hcc => ?_))
              all_goals exact SW.ret (show RetQ _ _ _ _ _ _ _ from RetQ.y [0] [.bool false])
            · skip
              cases p6
              · skip
                have hC1 := cx [] (e5)
                have hC2 := cx [] (e6)
                have hC3 := cx [] (e8)
                have fy := And.intro e0 (And.intro e1 (And.intro e2 (And.intro e3 (And.intro e4 (e7)))))
                refine goR ?_ ?_ ?_ ?_ ?_ ?_ ?_ ?_ ?_ ?_ ?_ ?_ ?_ ?_ ?_ ?_
                any_goals (first | exact True.intro | skip)
                all_goals (repeat (refine Wh.mk fun hcc => ?_))
                all_goals exact SW.ret (show RetQ _ _ _ _ _ _ _ from RetQ.y [0] [.bool false])
              · skip
                cases p7
                · skip
                  have hC1 := cx [] (e5)
                  have hC2 := cx [] (e6)
                  have hC3 := cx [] (e8)
                  have fy := And.intro e0 (And.intro e1 (And.intro e2 (And.intro e3 (And.intro e4 (e7)))))
                  refine goR ?_ ?_ ?_ ?_ ?_ ?_ ?_ ?_ ?_ ?_ ?_ ?_ ?_ ?_ ?_ ?_
                  any_goals (first | exact True.intro | skip)
                  all_goals (repeat (refine Wh.mk fun hcc => ?_))
                  all_goals exact SW.ret (show RetQ _ _ _ _ _ _ _ from RetQ.y [0] [.bool false])
                · skip
                  cases p8
                  · skip
                    have hC1 := cx [] (e5)
                    have hC2 := cx [] (e6)
                    have hC3 := cx [] (e8)
                    have fy := And.intro e0 (And.intro e1 (And.intro e2 (And.intro e3 (And.intro e4 (e7)))))
                    refine goR ?_ ?_ ?_ ?_ ?_ ?_ ?_ ?_ ?_ ?_ ?_ ?_ ?_ ?_ ?_ ?_
                    any_goals (first | exact True.intro | skip)
                    all_goals (repeat (refine Wh.mk fun hcc => ?_))
                    all_goals exact SW.ret (show RetQ _ _ _ _ _ _ _ from RetQ.y [0] [.bool false])
                  · skip
                    have hC1 := cx [] (e5)
                    have hC2 := cx [] (e6)
                    have hC3 := cx [] (e8)
                    have fy := And.intro e0 (And.intro e1 (And.intro e2 (And.intro e3 (And.intro e4 (e7)))))
                    refine goR ?_ ?_ ?_ ?_ ?_ ?_ ?_ ?_ ?_ ?_ ?_ ?_ ?_ ?_ ?_ ?_
                    any_goals (first | exact True.intro | skip)
                    all_goals (repeat (refine Wh.mk fun hcc => ?_))
                    all_goals exact SW.ret (show RetQ _ _ _ _ _ _ _ from RetQ.y [0] [.bool true])
theorem laws_eqRecS_ok (l m : List ((Int × Int × Int × Int × Int × ((Bool × ((Int × (List Int) × (List Int) × Unit)) × Unit)) × ((Bool × ((Int × (List Int) × (List Int) × Unit)) × Unit)) × Int × (List ((Int × Int × Bool × Unit))) × Unit))) (hl : Enc.lim 1048576 l) : CallR Try.prog 166 [.sl .b (l.map Enc.b), .sl .b (m.map Enc.b)] [] (.bool (decide (l = m))) := by
  refine CallR.of_body (n := 27) (rs := [.tmp 4]) hY.ok Try.func166 rfl (by decide) rfl rfl rfl rfl (fun F => ?_)
  have fx := And.intro Y3 (And.intro Y4 (And.intro Y27 (And.intro Y35 (And.intro Y37 (And.intro Y91 (And.intro Y94 (And.intro Y169 (Y197))))))))
  have hl1 : l.length ≤ 1048576 := hl.1
  have fy := Nat.add_zero
  refine goS ?_
  refine SW.cond rfl (fun hc => ?_) (fun hc => ?_)
  · have hne : ¬ l = m := by intro e; subst e; simp at hc
    have fy := Nat.add_zero
    refine goK ?_ ?_ ?_ ?_ ?_ ?_ ?_ ?_ ?_ ?_ ?_ ?_ ?_ ?_ ?_ ?_
    any_goals (first | exact True.intro | skip)
    all_goals (repeat (refine Wh.mk fun hcc => ?_))
    simp [tupOf, fixEs, hne]
  have hlen : l.length = m.length := by have : (l.length : Int) = m.length := by simpa using hc
                                        omega
  refine SW.skip ?_
  simp only [thenS]
  have fy := Nat.add_zero
  refine goN ?_ ?_ ?_ ?_ ?_ ?_ ?_ ?_ ?_ ?_ ?_ ?_ ?_ ?_ ?_ ?_
  any_goals (first | exact True.intro | skip)
  skip
  refine SW.loop (fun i : Nat => ⟨[.sl .b (l.map Enc.b), .sl .b (m.map Enc.b), .undef, .undef, .undef, .int .i64 i, .undef, .undef, .undef, .undef, .undef, .undef, .undef, .undef, .undef, .undef, .undef, .undef, .undef, .undef, .undef, .undef, .undef, .undef, .undef, .undef, .undef], [[]]⟩)
    (fun n i => n = l.length - i ∧ i ≤ l.length ∧ ∀ j (h : j < l.length), j < i → l[j] = m[j]'(by omega)) (n := l.length) (x := 0) (Norm.to 0 rfl (by simp [weakL])) ⟨rfl, Nat.zero_le _, fun j _ h => absurd h (Nat.not_lt_zero _)⟩ ?_
  rintro n i ⟨hn, hi, hp⟩
  have fy := Nat.add_zero
  refine goS ?_
  refine SW.cond rfl (fun hc => ?_) (fun hc => ?_)
  · have hlt : i < l.length := by simpa using hc
    have hlt' : i < m.length := by omega
    have hgl : (l.map Enc.b)[i]? = some (.nd [.int .i64 l[i].1, .int .i64 l[i].2.1, .int .i64 l[i].2.2.1, .int .i64 l[i].2.2.2.1, .int .i64 l[i].2.2.2.2.1, .nd [.bool l[i].2.2.2.2.2.1.1, .nd [.int .i64 l[i].2.2.2.2.2.1.2.1.1, .sl .b (l[i].2.2.2.2.2.1.2.1.2.1.map Enc.b), .sl .b (l[i].2.2.2.2.2.1.2.1.2.2.1.map Enc.b)]], .nd [.bool l[i].2.2.2.2.2.2.1.1, .nd [.int .i64 l[i].2.2.2.2.2.2.1.2.1.1, .sl .b (l[i].2.2.2.2.2.2.1.2.1.2.1.map Enc.b), .sl .b (l[i].2.2.2.2.2.2.1.2.1.2.2.1.map Enc.b)]], .int .i64 l[i].2.2.2.2.2.2.2.1, .sl .b (l[i].2.2.2.2.2.2.2.2.1.map Enc.b)]) := map_get Enc.b l i hlt
    have hgm : (m.map Enc.b)[i]? = some (.nd [.int .i64 m[i].1, .int .i64 m[i].2.1, .int .i64 m[i].2.2.1, .int .i64 m[i].2.2.2.1, .int .i64 m[i].2.2.2.2.1, .nd [.bool m[i].2.2.2.2.2.1.1, .nd [.int .i64 m[i].2.2.2.2.2.1.2.1.1, .sl .b (m[i].2.2.2.2.2.1.2.1.2.1.map Enc.b), .sl .b (m[i].2.2.2.2.2.1.2.1.2.2.1.map Enc.b)]], .nd [.bool m[i].2.2.2.2.2.2.1.1, .nd [.int .i64 m[i].2.2.2.2.2.2.1.2.1.1, .sl .b (m[i].2.2.2.2.2.2.1.2.1.2.1.map Enc.b), .sl .b (m[i].2.2.2.2.2.2.1.2.1.2.2.1.map Enc.b)]], .int .i64 m[i].2.2.2.2.2.2.2.1, .sl .b (m[i].2.2.2.2.2.2.2.2.1.map Enc.b)]) := map_get Enc.b m i hlt'
    have hC1 := cx [] (laws_eqRec_ok l[i] m[i] (hl.2 _ (List.getElem_mem hlt)))
    have fy := And.intro hgl (hgm)
    refine goK ?_ ?_ ?_ ?_ ?_ ?_ ?_ ?_ ?_ ?_ ?_ ?_ ?_ ?_ ?_ ?_
    any_goals (first | exact True.intro | skip)
    all_goals (repeat (refine Wh.mk fun hcc => ?_))
    · have hx := hcc
      have hne : ¬ l[i] = m[i] := by intro e; simp [e] at hx
      have hlm : ¬ l = m := by intro e; subst e; exact hne rfl
      simp [tupOf, fixEs, hlm]
    · have hx := hcc
      have hx' : l[i] = m[i] := by first | (simpa using hx; done) | (apply UInt8.toNat_inj.1; simp at hx; omega)
      refine ⟨n - 1, i + 1, by omega, ⟨by omega, by omega, fun j hj hji => ?_⟩, ?_⟩
      · by_cases he : j = i
        · subst he; exact hx'
        · exact hp j hj (by omega)
      · rw [wrap64 _ (by omega) (by omega)]
        first | exact Norm.to 0 rfl (by simp [weakL]) | exact Norm.to 1 rfl (by simp [weakL])
  · have hge : i = l.length := by
      have : ¬ i < l.length := by simpa using hc
      omega
    have hlm : l = m := List.ext_getElem hlen fun j h1 h2 => hp j h1 (by omega)
    have fy := Nat.add_zero
    refine goK ?_ ?_ ?_ ?_ ?_ ?_ ?_ ?_ ?_ ?_ ?_ ?_ ?_ ?_ ?_ ?_
    any_goals (first | exact True.intro | skip)
    all_goals (repeat (refine Wh.mk fun hcc => ?_))
    simp [tupOf, fixEs, hlm]
theorem laws_eqLog_ok (x y : ((List ((Int × Int × Int × Int × Int × ((Bool × ((Int × (List Int) × (List Int) × Unit)) × Unit)) × ((Bool × ((Int × (List Int) × (List Int) × Unit)) × Unit)) × Int × (List ((Int × Int × Bool × Unit))) × Unit))) × Int × Unit)) (hx : Enc.lim 1048576 x) : CallR Try.prog 114 [.nd [.sl .b (x.1.map Enc.b), .int .i64 x.2.1], .nd [.sl .b (y.1.map Enc.b), .int .i64 y.2.1]] [] (.bool (decide (x = y))) := by
  refine CallR.of_body (n := 16) (rs := [.tmp 4]) hY.ok Try.func114 rfl (by decide) rfl rfl rfl rfl (fun F => ?_)
  have fx := And.intro Y1 (And.intro Y3 (And.intro Y4 (And.intro Y27 (And.intro Y35 (And.intro Y37 (And.intro Y91 (And.intro Y93 (And.intro Y94 (And.intro Y169 (Y197))))))))))
  have key : x = y ↔ (x.1 = y.1 ∧ x.2.1 = y.2.1) :=
    ⟨fun h => by subst h; simp, fun h => Prod.ext h.1 (Prod.ext h.2 rfl)⟩
  have hC1 := cx [] (laws_eqRecS_ok x.1 y.1 hx.1)
  have fy := Nat.add_zero
  refine goK ?_ ?_ ?_ ?_ ?_ ?_ ?_ ?_ ?_ ?_ ?_ ?_ ?_ ?_ ?_ ?_
  any_goals (first | exact True.intro | skip)
  all_goals (repeat (refine Wh.mk fun hcc => ?_))
  all_goals simp only [tupOf, fixEs, key]
  all_goals simp_all
end Q6

namespace Q6
open Go Go.Vm Go.Proofs
set_option maxHeartbeats 4000000
set_option synthInstance.maxSize 2000
set_option synthInstance.maxHeartbeats 400000
set_option maxRecDepth 10000
set_option linter.unusedSimpArgs false
set_option linter.unusedVariables false

set_option synthInstance.maxHeartbeats 4000000
set_option synthInstance.maxSize 20000
set_option maxHeartbeats 40000000
theorem laws_eqPageA8_ok (x y : (Arr 8 ((Int × ((((Bool × ((Int × (List Int) × (List Int) × Unit)) × Unit)) × ((Bool × ((Int × (List Int) × (List Int) × Unit)) × Unit)) × ((Bool × ((Int × (List Int) × (List Int) × Unit)) × Unit)) × ((Bool × ((Int × (List Int) × (List Int) × Unit)) × Unit)) × Unit)) × Unit)))) (hx : Enc.lim 1048576 x) : CallR Try.prog 112 [.nd (x.l.map Enc.b), .nd (y.l.map Enc.b)] [] (.bool (decide (x = y))) := by
  refine CallR.of_body (n := 18) (rs := [.tmp 4]) hY.ok Try.func112 rfl (by decide) (by simp [ioSizes, ioSz]) rfl rfl rfl (fun F => ?_)
  have fx := And.intro Y3 (And.intro Y4 (And.intro Y27 (And.intro Y35 (And.intro Y37 (And.intro Y84 (And.intro Y86 (Y87)))))))
  simp only [entryS, thawAL, thawA, thawAL_b, thawAL_tR, List.append_nil, List.nil_append, List.length_nil, Nat.add_zero]
  have hd := (tRfacts x).2.2.2.2
  have hd' := (tRfacts y).2.2.2.2
  obtain ⟨l, hl⟩ := x
  obtain ⟨m, hm⟩ := y
  simp only at hx hd hd' ⊢
  rw [show decide ((⟨l, hl⟩ : Arr 8 PgT) = ⟨m, hm⟩) = decide (l = m) from decide_eq_decide.2 ⟨fun h => congrArg Arr.l h, fun h => Arr.ext h⟩]
  have fy := And.intro nc4 (And.intro nc8 (And.intro wa (And.intro tn (And.intro hd (hd')))))
  refine goN ?_ ?_ ?_ ?_ ?_ ?_ ?_ ?_ ?_ ?_ ?_ ?_ ?_ ?_ ?_ ?_
  any_goals (first | exact True.intro | skip)
  skip
  refine SW.loop (fun i : Nat => ⟨[.undef, .undef, .ptr 1 0 [] 0, .ptr 2 0 [] 0, .undef, .int .i64 (i : Nat), .undef, .undef, .undef, .undef, .undef, .undef, .undef, .undef, .undef, .undef, .undef, .undef], [[], [.var (.nd (l.map Enc.b))], [.var (.nd (m.map Enc.b))]]⟩)
    (fun n i => n = 8 - i ∧ i ≤ 8 ∧ ∀ j (h : j < l.length), j < i → l[j] = m[j]'(by omega)) (n := 8) (x := 0) (Norm.to 0 rfl (by simp [weakL])) ⟨rfl, Nat.zero_le _, fun j _ h => absurd h (Nat.not_lt_zero _)⟩ ?_
  rintro n i ⟨hn, hi, hp⟩
  have fy := And.intro nc4 (And.intro nc8 (And.intro wa (tn)))
  refine goS ?_
  refine SW.cond rfl (fun hc => ?_) (fun hc => ?_)
  · have hlt8 : i < 8 := by simp at hc; omega
    have hlt : i < l.length := by omega
    have hlt' : i < m.length := by omega
    have hltI : (i : Int) < 8 := by omega
    have hgl : (l.map Enc.b)[i]? = some (.nd [.int .i64 l[i].1, .nd [.nd [.bool l[i].2.1.1.1, .nd [.int .i64 l[i].2.1.1.2.1.1, .sl .b (l[i].2.1.1.2.1.2.1.map Enc.b), .sl .b (l[i].2.1.1.2.1.2.2.1.map Enc.b)]], .nd [.bool l[i].2.1.2.1.1, .nd [.int .i64 l[i].2.1.2.1.2.1.1, .sl .b (l[i].2.1.2.1.2.1.2.1.map Enc.b), .sl .b (l[i].2.1.2.1.2.1.2.2.1.map Enc.b)]], .nd [.bool l[i].2.1.2.2.1.1, .nd [.int .i64 l[i].2.1.2.2.1.2.1.1, .sl .b (l[i].2.1.2.2.1.2.1.2.1.map Enc.b), .sl .b (l[i].2.1.2.2.1.2.1.2.2.1.map Enc.b)]], .nd [.bool l[i].2.1.2.2.2.1.1, .nd [.int .i64 l[i].2.1.2.2.2.1.2.1.1, .sl .b (l[i].2.1.2.2.2.1.2.1.2.1.map Enc.b), .sl .b (l[i].2.1.2.2.2.1.2.1.2.2.1.map Enc.b)]]]]) := map_get Enc.b l i hlt
    have hgm : (m.map Enc.b)[i]? = some (.nd [.int .i64 m[i].1, .nd [.nd [.bool m[i].2.1.1.1, .nd [.int .i64 m[i].2.1.1.2.1.1, .sl .b (m[i].2.1.1.2.1.2.1.map Enc.b), .sl .b (m[i].2.1.1.2.1.2.2.1.map Enc.b)]], .nd [.bool m[i].2.1.2.1.1, .nd [.int .i64 m[i].2.1.2.1.2.1.1, .sl .b (m[i].2.1.2.1.2.1.2.1.map Enc.b), .sl .b (m[i].2.1.2.1.2.1.2.2.1.map Enc.b)]], .nd [.bool m[i].2.1.2.2.1.1, .nd [.int .i64 m[i].2.1.2.2.1.2.1.1, .sl .b (m[i].2.1.2.2.1.2.1.2.1.map Enc.b), .sl .b (m[i].2.1.2.2.1.2.1.2.2.1.map Enc.b)]], .nd [.bool m[i].2.1.2.2.2.1.1, .nd [.int .i64 m[i].2.1.2.2.2.1.2.1.1, .sl .b (m[i].2.1.2.2.2.1.2.1.2.1.map Enc.b), .sl .b (m[i].2.1.2.2.2.1.2.1.2.2.1.map Enc.b)]]]]) := map_get Enc.b m i hlt'
    have hlm1 : (l.map (Enc.b : PgT → T)).length = 8 := by simp [hl]
    have hlm2 : (m.map (Enc.b : PgT → T)).length = 8 := by simp [hm]
    have hs1 : sizeL (List.take i (l.map (Enc.b : PgT → T))) = i * 17 := sizeL_takeb l i (by omega)
    have hs2 : sizeL (List.take i (m.map (Enc.b : PgT → T))) = i * 17 := sizeL_takeb m i (by omega)
    have e1 := laws_eqPage_ok l[i] m[i] (hx _ (List.getElem_mem hlt))
    by_cases he : l[i] = m[i]
    · rw [decide_eq_true he] at e1
      have hC1 := cx [] (e1)
      have fy := And.intro nc4 (And.intro nc8 (And.intro wa (And.intro tn (And.intro hgl (And.intro hgm (And.intro hlm1 (And.intro hlm2 (And.intro hs1 (And.intro hs2 (And.intro hltI (And.intro hlt8 (Nat.zero_add))))))))))))
      refine goR ?_ ?_ ?_ ?_ ?_ ?_ ?_ ?_ ?_ ?_ ?_ ?_ ?_ ?_ ?_ ?_
      any_goals (first | exact True.intro | skip)
      all_goals (repeat (refine Wh.mk fun hcc => ?_))
      refine ⟨n - 1, i + 1, by omega, ⟨by omega, by omega, fun j hj hji => ?_⟩, ?_⟩
      · by_cases hji' : j = i
        · subst hji'; exact he
        · exact hp j hj (by omega)
      · rw [wrap64 _ (by omega) (by omega)]
        first | exact Norm.to 0 rfl (by simp [weakL]) | exact Norm.to 1 rfl (by simp [weakL]) | exact Norm.to 2 rfl (by simp [weakL])
    · rw [decide_eq_false he] at e1
      have hC1 := cx [] (e1)
      have fy := And.intro nc4 (And.intro nc8 (And.intro wa (And.intro tn (And.intro hgl (And.intro hgm (And.intro hlm1 (And.intro hlm2 (And.intro hs1 (And.intro hs2 (And.intro hltI (And.intro hlt8 (Nat.zero_add))))))))))))
      refine goR ?_ ?_ ?_ ?_ ?_ ?_ ?_ ?_ ?_ ?_ ?_ ?_ ?_ ?_ ?_ ?_
      any_goals (first | exact True.intro | skip)
      all_goals (repeat (refine Wh.mk fun hcc => ?_))
      rw [decide_eq_false (show ¬ l = m from fun e => he (by subst e; rfl))]
      exact SW.ret (show RetQ _ _ _ _ _ _ _ from RetQ.y [0] [.bool false])
  · have hge : 8 ≤ i := by simp at hc; omega
    rw [decide_eq_true (show l = m from List.ext_getElem (by omega) fun j h1 h2 => hp j h1 (by omega))]
    have fy := And.intro nc4 (And.intro nc8 (And.intro wa (tn)))
    refine goR ?_ ?_ ?_ ?_ ?_ ?_ ?_ ?_ ?_ ?_ ?_ ?_ ?_ ?_ ?_ ?_
    any_goals (first | exact True.intro | skip)
    all_goals (repeat (refine Wh.mk fun hcc => ?_))
    exact SW.ret (show RetQ _ _ _ _ _ _ _ from RetQ.y [0] [.bool true])
theorem laws_eqEngine_ok (x y : (((Arr 8 ((Int × ((((Bool × ((Int × (List Int) × (List Int) × Unit)) × Unit)) × ((Bool × ((Int × (List Int) × (List Int) × Unit)) × Unit)) × ((Bool × ((Int × (List Int) × (List Int) × Unit)) × Unit)) × ((Bool × ((Int × (List Int) × (List Int) × Unit)) × Unit)) × Unit)) × Unit)))) × (((List ((Int × ((Int × ((((Bool × ((Int × (List Int) × (List Int) × Unit)) × Unit)) × ((Bool × ((Int × (List Int) × (List Int) × Unit)) × Unit)) × ((Bool × ((Int × (List Int) × (List Int) × Unit)) × Unit)) × ((Bool × ((Int × (List Int) × (List Int) × Unit)) × Unit)) × Unit)) × Unit)) × Bool × Bool × Unit))) × Int × Unit)) × (((List ((Int × Int × Int × Int × Int × ((Bool × ((Int × (List Int) × (List Int) × Unit)) × Unit)) × ((Bool × ((Int × (List Int) × (List Int) × Unit)) × Unit)) × Int × (List ((Int × Int × Bool × Unit))) × Unit))) × Int × Unit)) × (List ((Int × Int × Bool × Unit))) × (List ((Int × Int × Unit))) × Int × Bool × Unit)) (hx : Enc.lim 1048576 x) : CallR Try.prog 43 [.nd [.nd (x.1.l.map Enc.b), .nd [.sl .b (x.2.1.1.map Enc.b), .int .i64 x.2.1.2.1], .nd [.sl .b (x.2.2.1.1.map Enc.b), .int .i64 x.2.2.1.2.1], .sl .b (x.2.2.2.1.map Enc.b), .sl .b (x.2.2.2.2.1.map Enc.b), .int .i64 x.2.2.2.2.2.1, .bool x.2.2.2.2.2.2.1], .nd [.nd (y.1.l.map Enc.b), .nd [.sl .b (y.2.1.1.map Enc.b), .int .i64 y.2.1.2.1], .nd [.sl .b (y.2.2.1.1.map Enc.b), .int .i64 y.2.2.1.2.1], .sl .b (y.2.2.2.1.map Enc.b), .sl .b (y.2.2.2.2.1.map Enc.b), .int .i64 y.2.2.2.2.2.1, .bool y.2.2.2.2.2.2.1]] [] (.bool (decide (x = y))) := by
  refine CallR.of_body (n := 45) (rs := [.tmp 4]) hY.ok Try.func43 rfl (by decide) (by simp [ioSizes, ioSz]) rfl rfl rfl (fun F => ?_)
  have fx := And.intro Y1 (And.intro Y2 (And.intro Y3 (And.intro Y4 (And.intro Y5 (And.intro Y6 (And.intro Y27 (And.intro Y35 (And.intro Y37 (And.intro Y84 (And.intro Y86 (And.intro Y87 (And.intro Y88 (And.intro Y90 (And.intro Y91 (And.intro Y93 (And.intro Y94 (And.intro Y95 (And.intro Y97 (And.intro Y165 (And.intro Y169 (And.intro Y192 (Y197))))))))))))))))))))))
  simp only [entryS, thawAL, thawA, thawAL_b, thawAL_tR, List.append_nil, List.nil_append, List.length_nil, Nat.add_zero]
  have hd := (tRfacts x.1).2.2.2.2
  have hd2 := (tRfacts y.1).2.2.2.2
  obtain ⟨x0, x1, x2, x3, x4, x5, x6, ⟨⟩⟩ := x
  obtain ⟨y0, y1, y2, y3, y4, y5, y6, ⟨⟩⟩ := y
  have key2 : decide ((x0, x1, x2, x3, x4, x5, x6, ()) = (y0, y1, y2, y3, y4, y5, y6, ())) = (decide (x0 = y0) && (decide (x1 = y1) && (decide (x2 = y2) && (decide (x3 = y3) && (decide (x4 = y4) && (decide (x5 = y5) && (decide (x6 = y6)))))))) := by
    rw [Bool.eq_iff_iff]
    simp only [Bool.and_eq_true, decide_eq_true_eq]
    exact (show ((x0, x1, x2, x3, x4, x5, x6, ()) = (y0, y1, y2, y3, y4, y5, y6, ())) ↔ (x0 = y0 ∧ x1 = y1 ∧ x2 = y2 ∧ x3 = y3 ∧ x4 = y4 ∧ x5 = y5 ∧ x6 = y6) from ⟨fun h => ⟨congrArg (fun z : (((Arr 8 ((Int × ((((Bool × ((Int × (List Int) × (List Int) × Unit)) × Unit)) × ((Bool × ((Int × (List Int) × (List Int) × Unit)) × Unit)) × ((Bool × ((Int × (List Int) × (List Int) × Unit)) × Unit)) × ((Bool × ((Int × (List Int) × (List Int) × Unit)) × Unit)) × Unit)) × Unit)))) × (((List ((Int × ((Int × ((((Bool × ((Int × (List Int) × (List Int) × Unit)) × Unit)) × ((Bool × ((Int × (List Int) × (List Int) × Unit)) × Unit)) × ((Bool × ((Int × (List Int) × (List Int) × Unit)) × Unit)) × ((Bool × ((Int × (List Int) × (List Int) × Unit)) × Unit)) × Unit)) × Unit)) × Bool × Bool × Unit))) × Int × Unit)) × (((List ((Int × Int × Int × Int × Int × ((Bool × ((Int × (List Int) × (List Int) × Unit)) × Unit)) × ((Bool × ((Int × (List Int) × (List Int) × Unit)) × Unit)) × Int × (List ((Int × Int × Bool × Unit))) × Unit))) × Int × Unit)) × (List ((Int × Int × Bool × Unit))) × (List ((Int × Int × Unit))) × Int × Bool × Unit) => z.1) h, congrArg (fun z : (((Arr 8 ((Int × ((((Bool × ((Int × (List Int) × (List Int) × Unit)) × Unit)) × ((Bool × ((Int × (List Int) × (List Int) × Unit)) × Unit)) × ((Bool × ((Int × (List Int) × (List Int) × Unit)) × Unit)) × ((Bool × ((Int × (List Int) × (List Int) × Unit)) × Unit)) × Unit)) × Unit)))) × (((List ((Int × ((Int × ((((Bool × ((Int × (List Int) × (List Int) × Unit)) × Unit)) × ((Bool × ((Int × (List Int) × (List Int) × Unit)) × Unit)) × ((Bool × ((Int × (List Int) × (List Int) × Unit)) × Unit)) × ((Bool × ((Int × (List Int) × (List Int) × Unit)) × Unit)) × Unit)) × Unit)) × Bool × Bool × Unit))) × Int × Unit)) × (((List ((Int × Int × Int × Int × Int × ((Bool × ((Int × (List Int) × (List Int) × Unit)) × Unit)) × ((Bool × ((Int × (List Int) × (List Int) × Unit)) × Unit)) × Int × (List ((Int × Int × Bool × Unit))) × Unit))) × Int × Unit)) × (List ((Int × Int × Bool × Unit))) × (List ((Int × Int × Unit))) × Int × Bool × Unit) => z.2.1) h, congrArg (fun z : (((Arr 8 ((Int × ((((Bool × ((Int × (List Int) × (List Int) × Unit)) × Unit)) × ((Bool × ((Int × (List Int) × (List Int) × Unit)) × Unit)) × ((Bool × ((Int × (List Int) × (List Int) × Unit)) × Unit)) × ((Bool × ((Int × (List Int) × (List Int) × Unit)) × Unit)) × Unit)) × Unit)))) × (((List ((Int × ((Int × ((((Bool × ((Int × (List Int) × (List Int) × Unit)) × Unit)) × ((Bool × ((Int × (List Int) × (List Int) × Unit)) × Unit)) × ((Bool × ((Int × (List Int) × (List Int) × Unit)) × Unit)) × ((Bool × ((Int × (List Int) × (List Int) × Unit)) × Unit)) × Unit)) × Unit)) × Bool × Bool × Unit))) × Int × Unit)) × (((List ((Int × Int × Int × Int × Int × ((Bool × ((Int × (List Int) × (List Int) × Unit)) × Unit)) × ((Bool × ((Int × (List Int) × (List Int) × Unit)) × Unit)) × Int × (List ((Int × Int × Bool × Unit))) × Unit))) × Int × Unit)) × (List ((Int × Int × Bool × Unit))) × (List ((Int × Int × Unit))) × Int × Bool × Unit) => z.2.2.1) h, congrArg (fun z : (((Arr 8 ((Int × ((((Bool × ((Int × (List Int) × (List Int) × Unit)) × Unit)) × ((Bool × ((Int × (List Int) × (List Int) × Unit)) × Unit)) × ((Bool × ((Int × (List Int) × (List Int) × Unit)) × Unit)) × ((Bool × ((Int × (List Int) × (List Int) × Unit)) × Unit)) × Unit)) × Unit)))) × (((List ((Int × ((Int × ((((Bool × ((Int × (List Int) × (List Int) × Unit)) × Unit)) × ((Bool × ((Int × (List Int) × (List Int) × Unit)) × Unit)) × ((Bool × ((Int × (List Int) × (List Int) × Unit)) × Unit)) × ((Bool × ((Int × (List Int) × (List Int) × Unit)) × Unit)) × Unit)) × Unit)) × Bool × Bool × Unit))) × Int × Unit)) × (((List ((Int × Int × Int × Int × Int × ((Bool × ((Int × (List Int) × (List Int) × Unit)) × Unit)) × ((Bool × ((Int × (List Int) × (List Int) × Unit)) × Unit)) × Int × (List ((Int × Int × Bool × Unit))) × Unit))) × Int × Unit)) × (List ((Int × Int × Bool × Unit))) × (List ((Int × Int × Unit))) × Int × Bool × Unit) => z.2.2.2.1) h, congrArg (fun z : (((Arr 8 ((Int × ((((Bool × ((Int × (List Int) × (List Int) × Unit)) × Unit)) × ((Bool × ((Int × (List Int) × (List Int) × Unit)) × Unit)) × ((Bool × ((Int × (List Int) × (List Int) × Unit)) × Unit)) × ((Bool × ((Int × (List Int) × (List Int) × Unit)) × Unit)) × Unit)) × Unit)))) × (((List ((Int × ((Int × ((((Bool × ((Int × (List Int) × (List Int) × Unit)) × Unit)) × ((Bool × ((Int × (List Int) × (List Int) × Unit)) × Unit)) × ((Bool × ((Int × (List Int) × (List Int) × Unit)) × Unit)) × ((Bool × ((Int × (List Int) × (List Int) × Unit)) × Unit)) × Unit)) × Unit)) × Bool × Bool × Unit))) × Int × Unit)) × (((List ((Int × Int × Int × Int × Int × ((Bool × ((Int × (List Int) × (List Int) × Unit)) × Unit)) × ((Bool × ((Int × (List Int) × (List Int) × Unit)) × Unit)) × Int × (List ((Int × Int × Bool × Unit))) × Unit))) × Int × Unit)) × (List ((Int × Int × Bool × Unit))) × (List ((Int × Int × Unit))) × Int × Bool × Unit) => z.2.2.2.2.1) h, congrArg (fun z : (((Arr 8 ((Int × ((((Bool × ((Int × (List Int) × (List Int) × Unit)) × Unit)) × ((Bool × ((Int × (List Int) × (List Int) × Unit)) × Unit)) × ((Bool × ((Int × (List Int) × (List Int) × Unit)) × Unit)) × ((Bool × ((Int × (List Int) × (List Int) × Unit)) × Unit)) × Unit)) × Unit)))) × (((List ((Int × ((Int × ((((Bool × ((Int × (List Int) × (List Int) × Unit)) × Unit)) × ((Bool × ((Int × (List Int) × (List Int) × Unit)) × Unit)) × ((Bool × ((Int × (List Int) × (List Int) × Unit)) × Unit)) × ((Bool × ((Int × (List Int) × (List Int) × Unit)) × Unit)) × Unit)) × Unit)) × Bool × Bool × Unit))) × Int × Unit)) × (((List ((Int × Int × Int × Int × Int × ((Bool × ((Int × (List Int) × (List Int) × Unit)) × Unit)) × ((Bool × ((Int × (List Int) × (List Int) × Unit)) × Unit)) × Int × (List ((Int × Int × Bool × Unit))) × Unit))) × Int × Unit)) × (List ((Int × Int × Bool × Unit))) × (List ((Int × Int × Unit))) × Int × Bool × Unit) => z.2.2.2.2.2.1) h, congrArg (fun z : (((Arr 8 ((Int × ((((Bool × ((Int × (List Int) × (List Int) × Unit)) × Unit)) × ((Bool × ((Int × (List Int) × (List Int) × Unit)) × Unit)) × ((Bool × ((Int × (List Int) × (List Int) × Unit)) × Unit)) × ((Bool × ((Int × (List Int) × (List Int) × Unit)) × Unit)) × Unit)) × Unit)))) × (((List ((Int × ((Int × ((((Bool × ((Int × (List Int) × (List Int) × Unit)) × Unit)) × ((Bool × ((Int × (List Int) × (List Int) × Unit)) × Unit)) × ((Bool × ((Int × (List Int) × (List Int) × Unit)) × Unit)) × ((Bool × ((Int × (List Int) × (List Int) × Unit)) × Unit)) × Unit)) × Unit)) × Bool × Bool × Unit))) × Int × Unit)) × (((List ((Int × Int × Int × Int × Int × ((Bool × ((Int × (List Int) × (List Int) × Unit)) × Unit)) × ((Bool × ((Int × (List Int) × (List Int) × Unit)) × Unit)) × Int × (List ((Int × Int × Bool × Unit))) × Unit))) × Int × Unit)) × (List ((Int × Int × Bool × Unit))) × (List ((Int × Int × Unit))) × Int × Bool × Unit) => z.2.2.2.2.2.2.1) h⟩, fun h => Prod.ext h.1 (Prod.ext h.2.1 (Prod.ext h.2.2.1 (Prod.ext h.2.2.2.1 (Prod.ext h.2.2.2.2.1 (Prod.ext h.2.2.2.2.2.1 (Prod.ext h.2.2.2.2.2.2 rfl))))))⟩)
  rw [key2]
  clear key2
  have e0 := laws_eqPageA8_ok x0 y0 hx.1
  try simp only at e0
  have e1 := laws_eqPool_ok x1 y1 hx.2.1
  try simp only at e1
  have e2 := laws_eqLog_ok x2 y2 hx.2.2.1
  try simp only at e2
  have e3 := laws_eqLiveS_ok x3 y3 hx.2.2.2.1
  try simp only at e3
  have e4 := laws_eqHoldS_ok x4 y4 hx.2.2.2.2.1
  try simp only at e4
  have e5 : (x5 != y5) = !decide (x5 = y5) := by cases h : decide (x5 = y5) <;> simp_all
  have e6 : (x6 == y6) = decide (x6 = y6) := by cases x6 <;> cases y6 <;> rfl
  clear hx
  generalize decide (x0 = y0) = p0 at *
  generalize decide (x1 = y1) = p1 at *
  generalize decide (x2 = y2) = p2 at *
  generalize decide (x3 = y3) = p3 at *
  generalize decide (x4 = y4) = p4 at *
  generalize decide (x5 = y5) = p5 at *
  generalize decide (x6 = y6) = p6 at *
  cases p0
  · skip
    have hC1 := cx [] (e0)
    have hC2 := cx [] (e1)
    have hC3 := cx [] (e2)
    have hC4 := cx [] (e3)
    have hC5 := cx [] (e4)
    have fy := And.intro hd (And.intro hd2 (And.intro e5 (e6)))
    refine goR ?_ ?_ ?_ ?_ ?_ ?_ ?_ ?_ ?_ ?_ ?_ ?_ ?_ ?_ ?_ ?_
    any_goals (first | exact True.intro | skip)
    all_goals (repeat (refine Wh.mk fun hcc => ?_))
    all_goals exact SW.ret (show RetQ _ _ _ _ _ _ _ from RetQ.y [0] [.bool false])
  · skip
    cases p1
    · skip
      have hC1 := cx [] (e0)
      have hC2 := cx [] (e1)
      have hC3 := cx [] (e2)
      have hC4 := cx [] (e3)
      have hC5 := cx [] (e4)
      have fy := And.intro hd (And.intro hd2 (And.intro e5 (e6)))
      refine goR ?_ ?_ ?_ ?_ ?_ ?_ ?_ ?_ ?_ ?_ ?_ ?_ ?_ ?_ ?_ ?_
      any_goals (first | exact True.intro | skip)
      all_goals (repeat (refine Wh.mk fun hcc => ?_))
      all_goals exact SW.ret (show RetQ _ _ _ _ _ _ _ from RetQ.y [0] [.bool false])
    · skip
      cases p2
      · skip
        have hC1 := cx [] (e0)
        have hC2 := cx [] (e1)
        have hC3 := cx [] (e2)
        have hC4 := cx [] (e3)
        have hC5 := cx [] (e4)
        have fy := And.intro hd (And.intro hd2 (And.intro e5 (e6)))
        refine goR ?_ ?_ ?_ ?_ ?_ ?_ ?_ ?_ ?_ ?_ ?_ ?_ ?_ ?_ ?_ ?_
        any_goals (first | exact True.intro | skip)
        all_goals (repeat (refine Wh.mk fun hcc => ?_))
        all_goals exact SW.ret (show RetQ _ _ _ _ _ _ _ from RetQ.y [0] [.bool false])
      · skip
        cases p3
        · skip
          have hC1 := cx [] (e0)
          have hC2 := cx [] (e1)
          have hC3 := cx [] (e2)
          have hC4 := cx [] (e3)
          have hC5 := cx [] (e4)
          have fy := And.intro hd (And.intro hd2 (And.intro e5 (e6)))
          refine goR ?_ ?_ ?_ ?_ ?_ ?_ ?_ ?_ ?_ ?_ ?_ ?_ ?_ ?_ ?_ ?_
          any_goals (first | exact True.intro | skip)
          all_goals (repeat (refine Wh.mk fun hcc => ?_))
          all_goals exact SW.ret (show RetQ _ _ _ _ _ _ _ from RetQ.y [0] [.bool false])
        · skip
          cases p4
          · skip
            have hC1 := cx [] (e0)
            have hC2 := cx [] (e1)
            have hC3 := cx [] (e2)
            have hC4 := cx [] (e3)
            have hC5 := cx [] (e4)
            have fy := And.intro hd (And.intro hd2 (And.intro e5 (e6)))
            refine goR ?_ ?_ ?_ ?_ ?_ ?_ ?_ ?_ ?_ ?_ ?_ ?_ ?_ ?_ ?_ ?_
            any_goals (first | exact True.intro | skip)
            all_goals (repeat (refine Wh.mk fun hcc => ?_))
            all_goals exact SW.ret (show RetQ _ _ _ _ _ _ _ from RetQ.y [0] [.bool false])
          · skip
            cases p5
            · skip
              have hC1 := cx [] (e0)
              have hC2 := cx [] (e1)
              have hC3 := cx [] (e2)
              have hC4 := cx [] (e3)
              have hC5 := cx [] (e4)
              have fy := And.intro hd (And.intro hd2 (And.intro e5 (e6)))
              refine goR ?_ ?_ ?_ ?_ ?_ ?_ ?_ ?_ ?_ ?_ ?_ ?_ ?_ ?_ ?_ ?_
              any_goals (first | exact True.intro | skip)
              all_goals (repeat (refine Wh.mk fun hcc => ?_))
              all_goals exact SW.ret (show RetQ _ _ _ _ _ _ _ from RetQ.y [0] [.bool false])
            · skip
              cases p6
              · skip
                have hC1 := cx [] (e0)
                have hC2 := cx [] (e1)
                have hC3 := cx [] (e2)
                have hC4 := cx [] (e3)
                have hC5 := cx [] (e4)
                have fy := And.intro hd (And.intro hd2 (And.intro e5 (e6)))
                refine goR ?_ ?_ ?_ ?_ ?_ ?_ ?_ ?_ ?_ ?_ ?_ ?_ ?_ ?_ ?_ ?_
                any_goals (first | exact True.intro | skip)
                all_goals (repeat (refine Wh.mk fun hcc => ?_))
                all_goals exact SW.ret (show RetQ _ _ _ _ _ _ _ from RetQ.y [0] [.bool false])
              · skip
                have hC1 := cx [] (e0)
                have hC2 := cx [] (e1)
                have hC3 := cx [] (e2)
                have hC4 := cx [] (e3)
                have hC5 := cx [] (e4)
                have fy := And.intro hd (And.intro hd2 (And.intro e5 (e6)))
                refine goR ?_ ?_ ?_ ?_ ?_ ?_ ?_ ?_ ?_ ?_ ?_ ?_ ?_ ?_ ?_ ?_
                any_goals (first | exact True.intro | skip)
                all_goals (repeat (refine Wh.mk fun hcc => ?_))
                all_goals exact SW.ret (show RetQ _ _ _ _ _ _ _ from RetQ.y [0] [.bool true])
end Q6

namespace Q6
open Go Go.Vm Go.Proofs
set_option maxHeartbeats 4000000
set_option synthInstance.maxSize 2000
set_option synthInstance.maxHeartbeats 400000
set_option maxRecDepth 10000
set_option linter.unusedSimpArgs false
set_option linter.unusedVariables false

set_option synthInstance.maxHeartbeats 4000000
set_option synthInstance.maxSize 20000
set_option maxHeartbeats 40000000
theorem take_thr {α : Type} [Enc α] (f : α → Int → α × Int) (l : List α) (k : Int) : List.take l.length ((thr f l k).1.map (Enc.o : α → T)) = (thr f l k).1.map Enc.o := by
  rw [List.take_of_length_le]; simp [thr_len]
attribute [local simp] thr_len take_thr
theorem vW_lim (x : EngT) (hx : Enc.lim 1048576 x) (i : Nat) : Enc.lim 1048576 (vW x i) := by
  refine ⟨by rw [vW_len]; omega, fun b hb => ?_⟩
  obtain ⟨j, hj, rfl⟩ := List.getElem_of_mem hb
  rw [vW_at]
  rw [vW_len] at hj
  split
  · exact slAt_lim x (j / 4) (j % 4) (by omega) hx
  · exact ⟨trivial, ⟨trivial, ⟨Nat.zero_le _, fun y (h : y ∈ ([] : List Int)) => by cases h⟩, ⟨Nat.zero_le _, fun y (h : y ∈ ([] : List Int)) => by cases h⟩, trivial⟩, trivial⟩
theorem unheldLaw_ok (x : (((Arr 8 ((Int × ((((Bool × ((Int × (List Int) × (List Int) × Unit)) × Unit)) × ((Bool × ((Int × (List Int) × (List Int) × Unit)) × Unit)) × ((Bool × ((Int × (List Int) × (List Int) × Unit)) × Unit)) × ((Bool × ((Int × (List Int) × (List Int) × Unit)) × Unit)) × Unit)) × Unit)))) × (((List ((Int × ((Int × ((((Bool × ((Int × (List Int) × (List Int) × Unit)) × Unit)) × ((Bool × ((Int × (List Int) × (List Int) × Unit)) × Unit)) × ((Bool × ((Int × (List Int) × (List Int) × Unit)) × Unit)) × ((Bool × ((Int × (List Int) × (List Int) × Unit)) × Unit)) × Unit)) × Unit)) × Bool × Bool × Unit))) × Int × Unit)) × (((List ((Int × Int × Int × Int × Int × ((Bool × ((Int × (List Int) × (List Int) × Unit)) × Unit)) × ((Bool × ((Int × (List Int) × (List Int) × Unit)) × Unit)) × Int × (List ((Int × Int × Bool × Unit))) × Unit))) × Int × Unit)) × (List ((Int × Int × Bool × Unit))) × (List ((Int × Int × Unit))) × Int × Bool × Unit)) (hx : Enc.lim maxLen x) : CallR Try.prog 9 [.nd [.nd (x.1.l.map Enc.b), .nd [.sl .b (x.2.1.1.map Enc.b), .int .i64 x.2.1.2.1], .nd [.sl .b (x.2.2.1.1.map Enc.b), .int .i64 x.2.2.1.2.1], .sl .b (x.2.2.2.1.map Enc.b), .sl .b (x.2.2.2.2.1.map Enc.b), .int .i64 x.2.2.2.2.2.1, .bool x.2.2.2.2.2.2.1]] [] (.bool true) := by
  refine CallR.of_body (n := 69) (rs := [.tmp 2]) hY.ok Try.func9 rfl (by decide) (by simp [ioSizes, ioSz]) rfl rfl rfl (fun F => ?_)
  have fx := And.intro Y3 (And.intro Y4 (And.intro Y24 (And.intro Y27 (And.intro Y35 (And.intro Y37 (And.intro Y65 (And.intro Y67 (And.intro Y68 (And.intro Y70 (And.intro Y71 (And.intro Y72 (And.intro Y74 (And.intro Y75 (And.intro Y77 (And.intro Y78 (And.intro Y79 (And.intro Y81 (And.intro Y84 (And.intro Y86 (And.intro Y87 (And.intro Y88 (And.intro Y90 (And.intro Y91 (And.intro Y93 (And.intro Y94 (And.intro Y95 (And.intro Y97 (And.intro Y165 (And.intro Y169 (And.intro Y192 (And.intro Y197 (And.intro Y199 (And.intro Y201 (And.intro Y215 (Y218)))))))))))))))))))))))))))))))))))
  simp only [entryS, thawAL, thawA, thawAL_b, thawAL_tR, List.append_nil, List.nil_append, List.length_nil, Nat.add_zero]
  have hd := tRfacts x.1
  have hZ := laws_szEngine_ok x 1048576 hx (by decide) (by decide)
  by_cases hz : Enc.sz x 1048576 < 0
  · have hdz : decide (Enc.sz x 1048576 < 0) = true := decide_eq_true hz
    have hC1 := cx [] (hZ)
    have fy := And.intro nc4 (And.intro nc8 (And.intro wa (And.intro tn (And.intro hd (hdz)))))
    have hD1 := dx 10 [3, 1] [(0, 1)]
    refine goR ?_ ?_ ?_ ?_ ?_ ?_ ?_ ?_ ?_ ?_ ?_ ?_ ?_ ?_ ?_ ?_
    any_goals (first | exact True.intro | skip)
    all_goals (repeat (refine Wh.mk fun hcc => ?_))
    all_goals exact SW.ret (show RetQ _ _ _ _ _ _ _ from RetQ.y [0] [.bool true])
  have hdz : decide (Enc.sz x 1048576 < 0) = false := decide_eq_false hz
  have hl : Enc.lim 1048576 x := Enc.szLim x 1048576 (by omega) (by decide)
  have hT := laws_toEngine_ok x hl
  have hS := sUnheld_ok x hl
  have hI := iUnheld_ok x hl
  have hvl := unF_lim x hl (vW_lim x hl 32) _ (Nat.le_refl _)
  have hE := laws_eqSlotS_ok (unF x x.2.2.2.2.1.length) (unF x x.2.2.2.2.1.length) hvl
  have hEe := laws_eqEngine_ok x x hl
  rw [decide_eq_true rfl] at hE hEe
  have hM := markEngine_own x 1 hl (by decide) (by decide)
  have hkp := engN_pos x hl
  have hk : decide (engN x 1 < 0) = false := decide_eq_false (by omega)
  have hO := markSlotS_ok (unF x x.2.2.2.2.1.length) 1 hvl (by decide) (by decide)
  have hH := heldSlotS_ok (unF x x.2.2.2.2.1.length) 1 hvl (by decide) (by decide)
  have hr := thr_rng mkSlot 16777216 (by decide) (unF x x.2.2.2.2.1.length) 1 (fun y hy c => mkSlot_rng (hvl.2 y hy) c)
  have hq : decide ((thr mkSlot (unF x x.2.2.2.2.1.length) 1).2 < 0) = false := by simp; omega
  have hvn := unF_len x _ (Nat.le_refl _)
  generalize unF x x.2.2.2.2.1.length = V at *
  generalize engN x 1 = kk at *
  clear hr hvl hl hkp hx
  have hC1 := cx [] (hZ)
  have hC2 := cx [] (hT)
  have hC3 := cx [] (hS)
  have hC4 := cx [] (hI)
  have hC5 := cx [] (hE)
  have hC6 := cx [] (hEe)
  have hC7 := cx [.own 0] (hM)
  have hC8 := cx [.ios] (hO)
  have hC9 := cx [] (hH)
  have fy := And.intro nc4 (And.intro nc8 (And.intro wa (And.intro tn (And.intro hd (And.intro hdz (And.intro hk (hq)))))))
  have hD1 := dx 10 [3, 1] [(0, 1)]
  refine goR ?_ ?_ ?_ ?_ ?_ ?_ ?_ ?_ ?_ ?_ ?_ ?_ ?_ ?_ ?_ ?_
  any_goals (first | exact True.intro | skip)
  all_goals (repeat (refine Wh.mk fun hcc => ?_))
  all_goals exact SW.ret (show RetQ _ _ _ _ _ _ _ from RetQ.y [0] [.bool true])
end Q6
