/- This proves the statement FnExactView: for every engine, the program's View returns the slots that the reference's View returns, leaves its argument as it was, and returns memory of its own. -/
import Derived.Test.YtjodaapkfknfnaaXViewP1
import Derived.Test.YtjodaapkfknfnaaXViewP3
import Derived.Test.YtjodaapkfknfnaaXViewV5
import Derived.Test.YtjodaapkfknfnaaXViewP2
import Derived.Test.YtjodaapkfknfnaaXViewV6
import Derived.Test.YtjodaapkfknfnaaXViewV4
import Derived.Test.YtjodaapkfknfnaaRows
import Derived.ProofKit
set_option linter.all false

namespace Q6
open Go Go.Vm Go.Proofs
set_option maxHeartbeats 4000000
set_option synthInstance.maxSize 2000
set_option synthInstance.maxHeartbeats 400000
set_option maxRecDepth 10000
set_option linter.unusedSimpArgs false
set_option linter.unusedVariables false

set_option synthInstance.maxHeartbeats 4000000
set_option synthInstance.maxSize 20000
set_option maxHeartbeats 40000000
instance deRec_8 : DecidableEq (List ((Int × Int × Bool × Unit)) × Unit) := instDecidableEqProd
instance deRec_7 : DecidableEq (Int × List ((Int × Int × Bool × Unit)) × Unit) := instDecidableEqProd
instance deRec_6 : DecidableEq ((Bool × ((Int × (List Int) × (List Int) × Unit)) × Unit) × Int × List ((Int × Int × Bool × Unit)) × Unit) := instDecidableEqProd
instance deRec_5 : DecidableEq ((Bool × ((Int × (List Int) × (List Int) × Unit)) × Unit) × (Bool × ((Int × (List Int) × (List Int) × Unit)) × Unit) × Int × List ((Int × Int × Bool × Unit)) × Unit) := instDecidableEqProd
instance deRec_4 : DecidableEq (Int × (Bool × ((Int × (List Int) × (List Int) × Unit)) × Unit) × (Bool × ((Int × (List Int) × (List Int) × Unit)) × Unit) × Int × List ((Int × Int × Bool × Unit)) × Unit) := instDecidableEqProd
instance deRec_3 : DecidableEq (Int × Int × (Bool × ((Int × (List Int) × (List Int) × Unit)) × Unit) × (Bool × ((Int × (List Int) × (List Int) × Unit)) × Unit) × Int × List ((Int × Int × Bool × Unit)) × Unit) := instDecidableEqProd
instance deRec_2 : DecidableEq (Int × Int × Int × (Bool × ((Int × (List Int) × (List Int) × Unit)) × Unit) × (Bool × ((Int × (List Int) × (List Int) × Unit)) × Unit) × Int × List ((Int × Int × Bool × Unit)) × Unit) := instDecidableEqProd
instance deRec_1 : DecidableEq (Int × Int × Int × Int × (Bool × ((Int × (List Int) × (List Int) × Unit)) × Unit) × (Bool × ((Int × (List Int) × (List Int) × Unit)) × Unit) × Int × List ((Int × Int × Bool × Unit)) × Unit) := instDecidableEqProd
instance deRec_0 : DecidableEq (Int × Int × Int × Int × Int × (Bool × ((Int × (List Int) × (List Int) × Unit)) × Unit) × (Bool × ((Int × (List Int) × (List Int) × Unit)) × Unit) × Int × List ((Int × Int × Bool × Unit)) × Unit) := instDecidableEqProd
instance deObj : DecidableEq ((Int × (List Int) × (List Int) × Unit)) := inferInstance
instance deSlot : DecidableEq ((Bool × ((Int × (List Int) × (List Int) × Unit)) × Unit)) := inferInstance
instance deA4 : DecidableEq ((((Bool × ((Int × (List Int) × (List Int) × Unit)) × Unit)) × ((Bool × ((Int × (List Int) × (List Int) × Unit)) × Unit)) × ((Bool × ((Int × (List Int) × (List Int) × Unit)) × Unit)) × ((Bool × ((Int × (List Int) × (List Int) × Unit)) × Unit)) × Unit)) := instDecidableEqProd
instance dePage : DecidableEq ((Int × ((((Bool × ((Int × (List Int) × (List Int) × Unit)) × Unit)) × ((Bool × ((Int × (List Int) × (List Int) × Unit)) × Unit)) × ((Bool × ((Int × (List Int) × (List Int) × Unit)) × Unit)) × ((Bool × ((Int × (List Int) × (List Int) × Unit)) × Unit)) × Unit)) × Unit)) := instDecidableEqProd
instance deSeat : DecidableEq ((Int × ((Int × ((((Bool × ((Int × (List Int) × (List Int) × Unit)) × Unit)) × ((Bool × ((Int × (List Int) × (List Int) × Unit)) × Unit)) × ((Bool × ((Int × (List Int) × (List Int) × Unit)) × Unit)) × ((Bool × ((Int × (List Int) × (List Int) × Unit)) × Unit)) × Unit)) × Unit)) × Bool × Bool × Unit)) := instDecidableEqProd
abbrev Slot4T := (((Bool × ((Int × (List Int) × (List Int) × Unit)) × Unit)) × ((Bool × ((Int × (List Int) × (List Int) × Unit)) × Unit)) × ((Bool × ((Int × (List Int) × (List Int) × Unit)) × Unit)) × ((Bool × ((Int × (List Int) × (List Int) × Unit)) × Unit)) × Unit)
theorem laws_eqSlotA4_ok (x y : Slot4T) (hx : Enc.lim 1048576 x) : CallR Try.prog 186 [.nd [.nd [.bool x.1.1, .nd [.int .i64 x.1.2.1.1, .sl .b (x.1.2.1.2.1.map Enc.b), .sl .b (x.1.2.1.2.2.1.map Enc.b)]], .nd [.bool x.2.1.1, .nd [.int .i64 x.2.1.2.1.1, .sl .b (x.2.1.2.1.2.1.map Enc.b), .sl .b (x.2.1.2.1.2.2.1.map Enc.b)]], .nd [.bool x.2.2.1.1, .nd [.int .i64 x.2.2.1.2.1.1, .sl .b (x.2.2.1.2.1.2.1.map Enc.b), .sl .b (x.2.2.1.2.1.2.2.1.map Enc.b)]], .nd [.bool x.2.2.2.1.1, .nd [.int .i64 x.2.2.2.1.2.1.1, .sl .b (x.2.2.2.1.2.1.2.1.map Enc.b), .sl .b (x.2.2.2.1.2.1.2.2.1.map Enc.b)]]], .nd [.nd [.bool y.1.1, .nd [.int .i64 y.1.2.1.1, .sl .b (y.1.2.1.2.1.map Enc.b), .sl .b (y.1.2.1.2.2.1.map Enc.b)]], .nd [.bool y.2.1.1, .nd [.int .i64 y.2.1.2.1.1, .sl .b (y.2.1.2.1.2.1.map Enc.b), .sl .b (y.2.1.2.1.2.2.1.map Enc.b)]], .nd [.bool y.2.2.1.1, .nd [.int .i64 y.2.2.1.2.1.1, .sl .b (y.2.2.1.2.1.2.1.map Enc.b), .sl .b (y.2.2.1.2.1.2.2.1.map Enc.b)]], .nd [.bool y.2.2.2.1.1, .nd [.int .i64 y.2.2.2.1.2.1.1, .sl .b (y.2.2.2.1.2.1.2.1.map Enc.b), .sl .b (y.2.2.2.1.2.1.2.2.1.map Enc.b)]]]] [] (.bool (decide (x = y))) := by
  refine CallR.of_body (n := 18) (rs := [.tmp 4]) hY.ok Try.func186 rfl (by decide) rfl rfl rfl rfl (fun F => ?_)
  have fx := And.intro Y3 (And.intro Y4 (And.intro Y27 (And.intro Y35 (And.intro Y37 (Y84)))))
  obtain ⟨a, b, c, d, ⟨⟩⟩ := x
  obtain ⟨a', b', c', d', ⟨⟩⟩ := y
  have h1 := laws_eqSlot_ok a a' hx.1
  have h2 := laws_eqSlot_ok b b' hx.2.1
  have h3 := laws_eqSlot_ok c c' hx.2.2.1
  have h4 := laws_eqSlot_ok d d' hx.2.2.2.1
  rw [show decide ((a, b, c, d, ()) = (a', b', c', d', ())) = (decide (a = a') && (decide (b = b') && (decide (c = c') && decide (d = d')))) by simp]
  generalize decide (a = a') = p1 at *
  generalize decide (b = b') = p2 at *
  generalize decide (c = c') = p3 at *
  generalize decide (d = d') = p4 at *
  have hC1 := cx [] (h1)
  have hC2 := cx [] (h2)
  have hC3 := cx [] (h3)
  have hC4 := cx [] (h4)
  have fy := And.intro nc4 (And.intro nc8 (And.intro wa (tn)))
  refine goV ?_ ?_ ?_ ?_ ?_ ?_ ?_ ?_ ?_ ?_ ?_ ?_ ?_ ?_ ?_ ?_
  any_goals (first | exact True.intro | skip)
  all_goals (repeat (refine Wh.mk fun hcc => ?_))
  all_goals (first | rfl | ((try simp only [tupOf, fixEs]); (first | done | rfl | (simp_all []; done) | grind [])))
theorem laws_eqPage_ok (x y : PageT) (hx : Enc.lim 1048576 x) : CallR Try.prog 164 [.nd [.int .i64 x.1, .nd [.nd [.bool x.2.1.1.1, .nd [.int .i64 x.2.1.1.2.1.1, .sl .b (x.2.1.1.2.1.2.1.map Enc.b), .sl .b (x.2.1.1.2.1.2.2.1.map Enc.b)]], .nd [.bool x.2.1.2.1.1, .nd [.int .i64 x.2.1.2.1.2.1.1, .sl .b (x.2.1.2.1.2.1.2.1.map Enc.b), .sl .b (x.2.1.2.1.2.1.2.2.1.map Enc.b)]], .nd [.bool x.2.1.2.2.1.1, .nd [.int .i64 x.2.1.2.2.1.2.1.1, .sl .b (x.2.1.2.2.1.2.1.2.1.map Enc.b), .sl .b (x.2.1.2.2.1.2.1.2.2.1.map Enc.b)]], .nd [.bool x.2.1.2.2.2.1.1, .nd [.int .i64 x.2.1.2.2.2.1.2.1.1, .sl .b (x.2.1.2.2.2.1.2.1.2.1.map Enc.b), .sl .b (x.2.1.2.2.2.1.2.1.2.2.1.map Enc.b)]]]], .nd [.int .i64 y.1, .nd [.nd [.bool y.2.1.1.1, .nd [.int .i64 y.2.1.1.2.1.1, .sl .b (y.2.1.1.2.1.2.1.map Enc.b), .sl .b (y.2.1.1.2.1.2.2.1.map Enc.b)]], .nd [.bool y.2.1.2.1.1, .nd [.int .i64 y.2.1.2.1.2.1.1, .sl .b (y.2.1.2.1.2.1.2.1.map Enc.b), .sl .b (y.2.1.2.1.2.1.2.2.1.map Enc.b)]], .nd [.bool y.2.1.2.2.1.1, .nd [.int .i64 y.2.1.2.2.1.2.1.1, .sl .b (y.2.1.2.2.1.2.1.2.1.map Enc.b), .sl .b (y.2.1.2.2.1.2.1.2.2.1.map Enc.b)]], .nd [.bool y.2.1.2.2.2.1.1, .nd [.int .i64 y.2.1.2.2.2.1.2.1.1, .sl .b (y.2.1.2.2.2.1.2.1.2.1.map Enc.b), .sl .b (y.2.1.2.2.2.1.2.1.2.2.1.map Enc.b)]]]]] [] (.bool (decide (x = y))) := by
  refine CallR.of_body (n := 16) (rs := [.tmp 4]) hY.ok Try.func164 rfl (by decide) rfl rfl rfl rfl (fun F => ?_)
  have fx := And.intro Y1 (And.intro Y3 (And.intro Y4 (And.intro Y27 (And.intro Y35 (And.intro Y37 (And.intro Y84 (Y86)))))))
  obtain ⟨a, ⟨s1, s2, s3, s4, ⟨⟩⟩, ⟨⟩⟩ := x
  obtain ⟨a', ⟨t1, t2, t3, t4, ⟨⟩⟩, ⟨⟩⟩ := y
  have h1 := laws_eqSlotA4_ok (s1, s2, s3, s4, ()) (t1, t2, t3, t4, ()) hx.2.1
  rw [show decide ((a, (s1, s2, s3, s4, ()), ()) = (a', (t1, t2, t3, t4, ()), ())) = (decide (a = a') && decide ((s1, s2, s3, s4, ()) = (t1, t2, t3, t4, ()))) by simp]
  simp only at h1
  generalize decide ((s1, s2, s3, s4, ()) = (t1, t2, t3, t4, ())) = p1 at *
  have hne : (a != a') = !decide (a = a') := by by_cases h : a = a' <;> simp [h]
  generalize decide (a = a') = p2 at *
  clear hx
  have hC1 := cx [] (h1)
  have fy := hne
  refine goK ?_ ?_ ?_ ?_ ?_ ?_ ?_ ?_ ?_ ?_ ?_ ?_ ?_ ?_ ?_ ?_
  any_goals (first | exact True.intro | skip)
  all_goals (repeat (refine Wh.mk fun hcc => ?_))
  all_goals (first | rfl | ((try simp only [tupOf, fixEs]); (first | done | rfl | (simp_all []; done) | grind [])))
theorem laws_eqSeat_ok (x y : (Int × ((Int × ((((Bool × ((Int × (List Int) × (List Int) × Unit)) × Unit)) × ((Bool × ((Int × (List Int) × (List Int) × Unit)) × Unit)) × ((Bool × ((Int × (List Int) × (List Int) × Unit)) × Unit)) × ((Bool × ((Int × (List Int) × (List Int) × Unit)) × Unit)) × Unit)) × Unit)) × Bool × Bool × Unit)) (hx : Enc.lim 1048576 x) : CallR Try.prog 187 [.nd [.int .i64 x.1, .nd [.int .i64 x.2.1.1, .nd [.nd [.bool x.2.1.2.1.1.1, .nd [.int .i64 x.2.1.2.1.1.2.1.1, .sl .b (x.2.1.2.1.1.2.1.2.1.map Enc.b), .sl .b (x.2.1.2.1.1.2.1.2.2.1.map Enc.b)]], .nd [.bool x.2.1.2.1.2.1.1, .nd [.int .i64 x.2.1.2.1.2.1.2.1.1, .sl .b (x.2.1.2.1.2.1.2.1.2.1.map Enc.b), .sl .b (x.2.1.2.1.2.1.2.1.2.2.1.map Enc.b)]], .nd [.bool x.2.1.2.1.2.2.1.1, .nd [.int .i64 x.2.1.2.1.2.2.1.2.1.1, .sl .b (x.2.1.2.1.2.2.1.2.1.2.1.map Enc.b), .sl .b (x.2.1.2.1.2.2.1.2.1.2.2.1.map Enc.b)]], .nd [.bool x.2.1.2.1.2.2.2.1.1, .nd [.int .i64 x.2.1.2.1.2.2.2.1.2.1.1, .sl .b (x.2.1.2.1.2.2.2.1.2.1.2.1.map Enc.b), .sl .b (x.2.1.2.1.2.2.2.1.2.1.2.2.1.map Enc.b)]]]], .bool x.2.2.1, .bool x.2.2.2.1], .nd [.int .i64 y.1, .nd [.int .i64 y.2.1.1, .nd [.nd [.bool y.2.1.2.1.1.1, .nd [.int .i64 y.2.1.2.1.1.2.1.1, .sl .b (y.2.1.2.1.1.2.1.2.1.map Enc.b), .sl .b (y.2.1.2.1.1.2.1.2.2.1.map Enc.b)]], .nd [.bool y.2.1.2.1.2.1.1, .nd [.int .i64 y.2.1.2.1.2.1.2.1.1, .sl .b (y.2.1.2.1.2.1.2.1.2.1.map Enc.b), .sl .b (y.2.1.2.1.2.1.2.1.2.2.1.map Enc.b)]], .nd [.bool y.2.1.2.1.2.2.1.1, .nd [.int .i64 y.2.1.2.1.2.2.1.2.1.1, .sl .b (y.2.1.2.1.2.2.1.2.1.2.1.map Enc.b), .sl .b (y.2.1.2.1.2.2.1.2.1.2.2.1.map Enc.b)]], .nd [.bool y.2.1.2.1.2.2.2.1.1, .nd [.int .i64 y.2.1.2.1.2.2.2.1.2.1.1, .sl .b (y.2.1.2.1.2.2.2.1.2.1.2.1.map Enc.b), .sl .b (y.2.1.2.1.2.2.2.1.2.1.2.2.1.map Enc.b)]]]], .bool y.2.2.1, .bool y.2.2.2.1]] [] (.bool (decide (x = y))) := by
  refine CallR.of_body (n := 26) (rs := [.tmp 4]) hY.ok Try.func187 rfl (by decide) rfl rfl rfl rfl (fun F => ?_)
  have fx := And.intro Y1 (And.intro Y2 (And.intro Y3 (And.intro Y4 (And.intro Y27 (And.intro Y35 (And.intro Y37 (And.intro Y84 (And.intro Y86 (Y192)))))))))
  obtain ⟨x0, ⟨x10, ⟨x110, x111, x112, x113, ⟨⟩⟩, ⟨⟩⟩, x2, x3, ⟨⟩⟩ := x
  obtain ⟨y0, ⟨y10, ⟨y110, y111, y112, y113, ⟨⟩⟩, ⟨⟩⟩, y2, y3, ⟨⟩⟩ := y
  have key2 : decide ((x0, (x10, (x110, x111, x112, x113, ()), ()), x2, x3, ()) = (y0, (y10, (y110, y111, y112, y113, ()), ()), y2, y3, ())) = (decide (x0 = y0) && (decide ((x10, (x110, x111, x112, x113, ()), ()) = (y10, (y110, y111, y112, y113, ()), ())) && (decide (x2 = y2) && (decide (x3 = y3))))) := by
    rw [Bool.eq_iff_iff]
    simp only [Bool.and_eq_true, decide_eq_true_eq]
    exact (show ((x0, (x10, (x110, x111, x112, x113, ()), ()), x2, x3, ()) = (y0, (y10, (y110, y111, y112, y113, ()), ()), y2, y3, ())) ↔ (x0 = y0 ∧ (x10, (x110, x111, x112, x113, ()), ()) = (y10, (y110, y111, y112, y113, ()), ()) ∧ x2 = y2 ∧ x3 = y3) from ⟨fun h => ⟨congrArg (fun z : (Int × ((Int × ((((Bool × ((Int × (List Int) × (List Int) × Unit)) × Unit)) × ((Bool × ((Int × (List Int) × (List Int) × Unit)) × Unit)) × ((Bool × ((Int × (List Int) × (List Int) × Unit)) × Unit)) × ((Bool × ((Int × (List Int) × (List Int) × Unit)) × Unit)) × Unit)) × Unit)) × Bool × Bool × Unit) => z.1) h, congrArg (fun z : (Int × ((Int × ((((Bool × ((Int × (List Int) × (List Int) × Unit)) × Unit)) × ((Bool × ((Int × (List Int) × (List Int) × Unit)) × Unit)) × ((Bool × ((Int × (List Int) × (List Int) × Unit)) × Unit)) × ((Bool × ((Int × (List Int) × (List Int) × Unit)) × Unit)) × Unit)) × Unit)) × Bool × Bool × Unit) => z.2.1) h, congrArg (fun z : (Int × ((Int × ((((Bool × ((Int × (List Int) × (List Int) × Unit)) × Unit)) × ((Bool × ((Int × (List Int) × (List Int) × Unit)) × Unit)) × ((Bool × ((Int × (List Int) × (List Int) × Unit)) × Unit)) × ((Bool × ((Int × (List Int) × (List Int) × Unit)) × Unit)) × Unit)) × Unit)) × Bool × Bool × Unit) => z.2.2.1) h, congrArg (fun z : (Int × ((Int × ((((Bool × ((Int × (List Int) × (List Int) × Unit)) × Unit)) × ((Bool × ((Int × (List Int) × (List Int) × Unit)) × Unit)) × ((Bool × ((Int × (List Int) × (List Int) × Unit)) × Unit)) × ((Bool × ((Int × (List Int) × (List Int) × Unit)) × Unit)) × Unit)) × Unit)) × Bool × Bool × Unit) => z.2.2.2.1) h⟩, fun h => Prod.ext h.1 (Prod.ext h.2.1 (Prod.ext h.2.2.1 (Prod.ext h.2.2.2 rfl)))⟩)
  rw [key2]
  clear key2
  have e0 : (x0 != y0) = !decide (x0 = y0) := by cases h : decide (x0 = y0) <;> simp_all
  have e1 := laws_eqPage_ok ((x10, (x110, x111, x112, x113, ()), ())) ((y10, (y110, y111, y112, y113, ()), ())) hx.2.1
  try simp only at e1
  have e2 : (x2 == y2) = decide (x2 = y2) := by cases x2 <;> cases y2 <;> rfl
  have e3 : (x3 == y3) = decide (x3 = y3) := by cases x3 <;> cases y3 <;> rfl
  clear hx
  generalize decide (x0 = y0) = p0 at *
  generalize decide ((x10, (x110, x111, x112, x113, ()), ()) = (y10, (y110, y111, y112, y113, ()), ())) = p1 at *
  generalize decide (x2 = y2) = p2 at *
  generalize decide (x3 = y3) = p3 at *
  cases p0
  · skip
    have hC1 := cx [] (e1)
    have fy := And.intro e0 (And.intro e2 (e3))
    refine goR ?_ ?_ ?_ ?_ ?_ ?_ ?_ ?_ ?_ ?_ ?_ ?_ ?_ ?_ ?_ ?_
    any_goals (first | exact True.intro | skip)
    all_goals (repeat (refine Wh.mk fun hcc => ?_))
    all_goals exact SW.ret (show RetQ _ _ _ _ _ _ _ from RetQ.y [0] [.bool false])
  · skip
    cases p1
    · skip
      have hC1 := cx [] (e1)
      have fy := And.intro e0 (And.intro e2 (e3))
      refine goR ?_ ?_ ?_ ?_ ?_ ?_ ?_ ?_ ?_ ?_ ?_ ?_ ?_ ?_ ?_ ?_
      any_goals (first | exact True.intro | skip)
      all_goals (repeat (refine Wh.mk fun hcc => ?_))
      all_goals exact SW.ret (show RetQ _ _ _ _ _ _ _ from RetQ.y [0] [.bool false])
    · skip
      cases p2
      · skip
        have hC1 := cx [] (e1)
        have fy := And.intro e0 (And.intro e2 (e3))
        refine goR ?_ ?_ ?_ ?_ ?_ ?_ ?_ ?_ ?_ ?_ ?_ ?_ ?_ ?_ ?_ ?_
        any_goals (first | exact True.intro | skip)
        all_goals (repeat (refine Wh.mk fun hcc => ?_))
        all_goals exact SW.ret (show RetQ _ _ _ _ _ _ _ from RetQ.y [0] [.bool false])
      · skip
        cases p3
        · skip
          have hC1 := cx [] (e1)
          have fy := And.intro e0 (And.intro e2 (e3))
          refine goR ?_ ?_ ?_ ?_ ?_ ?_ ?_ ?_ ?_ ?_ ?_ ?_ ?_ ?_ ?_ ?_
          any_goals (first | exact True.intro | skip)
          all_goals (repeat (refine Wh.mk fun hcc => ?_))
          all_goals exact SW.ret (show RetQ _ _ _ _ _ _ _ from RetQ.y [0] [.bool false])
        · skip
          have hC1 := cx [] (e1)
          have fy := And.intro e0 (And.intro e2 (e3))
          refine goR ?_ ?_ ?_ ?_ ?_ ?_ ?_ ?_ ?_ ?_ ?_ ?_ ?_ ?_ ?_ ?_
          any_goals (first | exact True.intro | skip)
          all_goals (repeat (refine Wh.mk fun hcc => ?_))
          all_goals exact SW.ret (show RetQ _ _ _ _ _ _ _ from RetQ.y [0] [.bool true])
theorem laws_eqSeatS_ok (l m : List ((Int × ((Int × ((((Bool × ((Int × (List Int) × (List Int) × Unit)) × Unit)) × ((Bool × ((Int × (List Int) × (List Int) × Unit)) × Unit)) × ((Bool × ((Int × (List Int) × (List Int) × Unit)) × Unit)) × ((Bool × ((Int × (List Int) × (List Int) × Unit)) × Unit)) × Unit)) × Unit)) × Bool × Bool × Unit))) (hl : Enc.lim 1048576 l) : CallR Try.prog 165 [.sl .b (l.map Enc.b), .sl .b (m.map Enc.b)] [] (.bool (decide (l = m))) := by
  refine CallR.of_body (n := 27) (rs := [.tmp 4]) hY.ok Try.func165 rfl (by decide) rfl rfl rfl rfl (fun F => ?_)
  have fx := And.intro Y3 (And.intro Y4 (And.intro Y27 (And.intro Y35 (And.intro Y37 (And.intro Y84 (And.intro Y86 (And.intro Y88 (Y192))))))))
  have hl1 : l.length ≤ 1048576 := hl.1
  have fy := Nat.add_zero
  refine goS ?_
  refine SW.cond rfl (fun hc => ?_) (fun hc => ?_)
  · have hne : ¬ l = m := by intro e; subst e; simp at hc
    have fy := Nat.add_zero
    refine goK ?_ ?_ ?_ ?_ ?_ ?_ ?_ ?_ ?_ ?_ ?_ ?_ ?_ ?_ ?_ ?_
    any_goals (first | exact True.intro | skip)
    all_goals (repeat (refine Wh.mk fun hcc => ?_))
    simp [tupOf, fixEs, hne]
  have hlen : l.length = m.length := by have : (l.length : Int) = m.length := by simpa using hc
                                        omega
  refine SW.skip ?_
  simp only [thenS]
  have fy := Nat.add_zero
  refine goN ?_ ?_ ?_ ?_ ?_ ?_ ?_ ?_ ?_ ?_ ?_ ?_ ?_ ?_ ?_ ?_
  any_goals (first | exact True.intro | skip)
  skip
  refine SW.loop (fun i : Nat => ⟨[.sl .b (l.map Enc.b), .sl .b (m.map Enc.b), .undef, .undef, .undef, .int .i64 i, .undef, .undef, .undef, .undef, .undef, .undef, .undef, .undef, .undef, .undef, .undef, .undef, .undef, .undef, .undef, .undef, .undef, .undef, .undef, .undef, .undef], [[]]⟩)
    (fun n i => n = l.length - i ∧ i ≤ l.length ∧ ∀ j (h : j < l.length), j < i → l[j] = m[j]'(by omega)) (n := l.length) (x := 0) (Norm.to 0 rfl (by simp [weakL])) ⟨rfl, Nat.zero_le _, fun j _ h => absurd h (Nat.not_lt_zero _)⟩ ?_
  rintro n i ⟨hn, hi, hp⟩
  have fy := Nat.add_zero
  refine goS ?_
  refine SW.cond rfl (fun hc => ?_) (fun hc => ?_)
  · have hlt : i < l.length := by simpa using hc
    have hlt' : i < m.length := by omega
    have hgl : (l.map Enc.b)[i]? = some (.nd [.int .i64 l[i].1, .nd [.int .i64 l[i].2.1.1, .nd [.nd [.bool l[i].2.1.2.1.1.1, .nd [.int .i64 l[i].2.1.2.1.1.2.1.1, .sl .b (l[i].2.1.2.1.1.2.1.2.1.map Enc.b), .sl .b (l[i].2.1.2.1.1.2.1.2.2.1.map Enc.b)]], .nd [.bool l[i].2.1.2.1.2.1.1, .nd [.int .i64 l[i].2.1.2.1.2.1.2.1.1, .sl .b (l[i].2.1.2.1.2.1.2.1.2.1.map Enc.b), .sl .b (l[i].2.1.2.1.2.1.2.1.2.2.1.map Enc.b)]], .nd [.bool l[i].2.1.2.1.2.2.1.1, .nd [.int .i64 l[i].2.1.2.1.2.2.1.2.1.1, .sl .b (l[i].2.1.2.1.2.2.1.2.1.2.1.map Enc.b), .sl .b (l[i].2.1.2.1.2.2.1.2.1.2.2.1.map Enc.b)]], .nd [.bool l[i].2.1.2.1.2.2.2.1.1, .nd [.int .i64 l[i].2.1.2.1.2.2.2.1.2.1.1, .sl .b (l[i].2.1.2.1.2.2.2.1.2.1.2.1.map Enc.b), .sl .b (l[i].2.1.2.1.2.2.2.1.2.1.2.2.1.map Enc.b)]]]], .bool l[i].2.2.1, .bool l[i].2.2.2.1]) := map_get Enc.b l i hlt
    have hgm : (m.map Enc.b)[i]? = some (.nd [.int .i64 m[i].1, .nd [.int .i64 m[i].2.1.1, .nd [.nd [.bool m[i].2.1.2.1.1.1, .nd [.int .i64 m[i].2.1.2.1.1.2.1.1, .sl .b (m[i].2.1.2.1.1.2.1.2.1.map Enc.b), .sl .b (m[i].2.1.2.1.1.2.1.2.2.1.map Enc.b)]], .nd [.bool m[i].2.1.2.1.2.1.1, .nd [.int .i64 m[i].2.1.2.1.2.1.2.1.1, .sl .b (m[i].2.1.2.1.2.1.2.1.2.1.map Enc.b), .sl .b (m[i].2.1.2.1.2.1.2.1.2.2.1.map Enc.b)]], .nd [.bool m[i].2.1.2.1.2.2.1.1, .nd [.int .i64 m[i].2.1.2.1.2.2.1.2.1.1, .sl .b (m[i].2.1.2.1.2.2.1.2.1.2.1.map Enc.b), .sl .b (m[i].2.1.2.1.2.2.1.2.1.2.2.1.map Enc.b)]], .nd [.bool m[i].2.1.2.1.2.2.2.1.1, .nd [.int .i64 m[i].2.1.2.1.2.2.2.1.2.1.1, .sl .b (m[i].2.1.2.1.2.2.2.1.2.1.2.1.map Enc.b), .sl .b (m[i].2.1.2.1.2.2.2.1.2.1.2.2.1.map Enc.b)]]]], .bool m[i].2.2.1, .bool m[i].2.2.2.1]) := map_get Enc.b m i hlt'
    have hC1 := cx [] (laws_eqSeat_ok l[i] m[i] (hl.2 _ (List.getElem_mem hlt)))
    have fy := And.intro hgl (hgm)
    refine goK ?_ ?_ ?_ ?_ ?_ ?_ ?_ ?_ ?_ ?_ ?_ ?_ ?_ ?_ ?_ ?_
    any_goals (first | exact True.intro | skip)
    all_goals (repeat (refine Wh.mk fun hcc => ?_))
    · have hx := hcc
      have hne : ¬ l[i] = m[i] := by intro e; simp [e] at hx
      have hlm : ¬ l = m := by intro e; subst e; exact hne rfl
      simp [tupOf, fixEs, hlm]
    · have hx := hcc
      have hx' : l[i] = m[i] := by first | (simpa using hx; done) | (apply UInt8.toNat_inj.1; simp at hx; omega)
      refine ⟨n - 1, i + 1, by omega, ⟨by omega, by omega, fun j hj hji => ?_⟩, ?_⟩
      · by_cases he : j = i
        · subst he; exact hx'
        · exact hp j hj (by omega)
      · rw [wrap64 _ (by omega) (by omega)]
        first | exact Norm.to 0 rfl (by simp [weakL]) | exact Norm.to 1 rfl (by simp [weakL])
  · have hge : i = l.length := by
      have : ¬ i < l.length := by simpa using hc
      omega
    have hlm : l = m := List.ext_getElem hlen fun j h1 h2 => hp j h1 (by omega)
    have fy := Nat.add_zero
    refine goK ?_ ?_ ?_ ?_ ?_ ?_ ?_ ?_ ?_ ?_ ?_ ?_ ?_ ?_ ?_ ?_
    any_goals (first | exact True.intro | skip)
    all_goals (repeat (refine Wh.mk fun hcc => ?_))
    simp [tupOf, fixEs, hlm]
theorem laws_eqPool_ok (x y : ((List ((Int × ((Int × ((((Bool × ((Int × (List Int) × (List Int) × Unit)) × Unit)) × ((Bool × ((Int × (List Int) × (List Int) × Unit)) × Unit)) × ((Bool × ((Int × (List Int) × (List Int) × Unit)) × Unit)) × ((Bool × ((Int × (List Int) × (List Int) × Unit)) × Unit)) × Unit)) × Unit)) × Bool × Bool × Unit))) × Int × Unit)) (hx : Enc.lim 1048576 x) : CallR Try.prog 113 [.nd [.sl .b (x.1.map Enc.b), .int .i64 x.2.1], .nd [.sl .b (y.1.map Enc.b), .int .i64 y.2.1]] [] (.bool (decide (x = y))) := by
  refine CallR.of_body (n := 16) (rs := [.tmp 4]) hY.ok Try.func113 rfl (by decide) rfl rfl rfl rfl (fun F => ?_)
  have fx := And.intro Y1 (And.intro Y3 (And.intro Y4 (And.intro Y27 (And.intro Y35 (And.intro Y37 (And.intro Y84 (And.intro Y86 (And.intro Y88 (And.intro Y90 (Y192))))))))))
  have key : x = y ↔ (x.1 = y.1 ∧ x.2.1 = y.2.1) :=
    ⟨fun h => by subst h; simp, fun h => Prod.ext h.1 (Prod.ext h.2 rfl)⟩
  have hC1 := cx [] (laws_eqSeatS_ok x.1 y.1 hx.1)
  have fy := Nat.add_zero
  refine goK ?_ ?_ ?_ ?_ ?_ ?_ ?_ ?_ ?_ ?_ ?_ ?_ ?_ ?_ ?_ ?_
  any_goals (first | exact True.intro | skip)
  all_goals (repeat (refine Wh.mk fun hcc => ?_))
  all_goals simp only [tupOf, fixEs, key]
  all_goals simp_all
theorem laws_eqLive_ok (x y : (Int × Int × Bool × Unit)) (hx : Enc.lim 1048576 x) : CallR Try.prog 167 [.nd [.int .i64 x.1, .int .i64 x.2.1, .bool x.2.2.1], .nd [.int .i64 y.1, .int .i64 y.2.1, .bool y.2.2.1]] [] (.bool (decide (x = y))) := by
  refine CallR.of_body (n := 20) (rs := [.tmp 4]) hY.ok Try.func167 rfl (by decide) rfl rfl rfl rfl (fun F => ?_)
  have fx := And.intro Y1 (And.intro Y2 (And.intro Y3 (And.intro Y4 (Y197))))
  have key : x = y ↔ (x.1 = y.1 ∧ x.2.1 = y.2.1 ∧ x.2.2.1 = y.2.2.1) :=
    ⟨fun h => by subst h; simp, fun h => Prod.ext h.1 (Prod.ext h.2.1 (Prod.ext h.2.2 rfl))⟩
  have fy := Nat.add_zero
  refine goK ?_ ?_ ?_ ?_ ?_ ?_ ?_ ?_ ?_ ?_ ?_ ?_ ?_ ?_ ?_ ?_
  any_goals (first | exact True.intro | skip)
  all_goals (repeat (refine Wh.mk fun hcc => ?_))
  all_goals simp only [tupOf, fixEs, key]
  all_goals simp_all
theorem laws_eqLiveS_ok (l m : List ((Int × Int × Bool × Unit))) (hl : Enc.lim 1048576 l) : CallR Try.prog 115 [.sl .b (l.map Enc.b), .sl .b (m.map Enc.b)] [] (.bool (decide (l = m))) := by
  refine CallR.of_body (n := 27) (rs := [.tmp 4]) hY.ok Try.func115 rfl (by decide) rfl rfl rfl rfl (fun F => ?_)
  have fx := And.intro Y3 (And.intro Y4 (And.intro Y94 (Y197)))
  have hl1 : l.length ≤ 1048576 := hl.1
  have fy := Nat.add_zero
  refine goS ?_
  refine SW.cond rfl (fun hc => ?_) (fun hc => ?_)
  · have hne : ¬ l = m := by intro e; subst e; simp at hc
    have fy := Nat.add_zero
    refine goK ?_ ?_ ?_ ?_ ?_ ?_ ?_ ?_ ?_ ?_ ?_ ?_ ?_ ?_ ?_ ?_
    any_goals (first | exact True.intro | skip)
    all_goals (repeat (refine Wh.mk fun hcc => ?_))
    simp [tupOf, fixEs, hne]
  have hlen : l.length = m.length := by have : (l.length : Int) = m.length := by simpa using hc
                                        omega
  refine SW.skip ?_
  simp only [thenS]
  have fy := Nat.add_zero
  refine goN ?_ ?_ ?_ ?_ ?_ ?_ ?_ ?_ ?_ ?_ ?_ ?_ ?_ ?_ ?_ ?_
  any_goals (first | exact True.intro | skip)
  skip
  refine SW.loop (fun i : Nat => ⟨[.sl .b (l.map Enc.b), .sl .b (m.map Enc.b), .undef, .undef, .undef, .int .i64 i, .undef, .undef, .undef, .undef, .undef, .undef, .undef, .undef, .undef, .undef, .undef, .undef, .undef, .undef, .undef, .undef, .undef, .undef, .undef, .undef, .undef], [[]]⟩)
    (fun n i => n = l.length - i ∧ i ≤ l.length ∧ ∀ j (h : j < l.length), j < i → l[j] = m[j]'(by omega)) (n := l.length) (x := 0) (Norm.to 0 rfl (by simp [weakL])) ⟨rfl, Nat.zero_le _, fun j _ h => absurd h (Nat.not_lt_zero _)⟩ ?_
  rintro n i ⟨hn, hi, hp⟩
  have fy := Nat.add_zero
  refine goS ?_
  refine SW.cond rfl (fun hc => ?_) (fun hc => ?_)
  · have hlt : i < l.length := by simpa using hc
    have hlt' : i < m.length := by omega
    have hgl : (l.map Enc.b)[i]? = some (.nd [.int .i64 l[i].1, .int .i64 l[i].2.1, .bool l[i].2.2.1]) := map_get Enc.b l i hlt
    have hgm : (m.map Enc.b)[i]? = some (.nd [.int .i64 m[i].1, .int .i64 m[i].2.1, .bool m[i].2.2.1]) := map_get Enc.b m i hlt'
    have hC1 := cx [] (laws_eqLive_ok l[i] m[i] (hl.2 _ (List.getElem_mem hlt)))
    have fy := And.intro hgl (hgm)
    refine goK ?_ ?_ ?_ ?_ ?_ ?_ ?_ ?_ ?_ ?_ ?_ ?_ ?_ ?_ ?_ ?_
    any_goals (first | exact True.intro | skip)
    all_goals (repeat (refine Wh.mk fun hcc => ?_))
    · have hx := hcc
      have hne : ¬ l[i] = m[i] := by intro e; simp [e] at hx
      have hlm : ¬ l = m := by intro e; subst e; exact hne rfl
      simp [tupOf, fixEs, hlm]
    · have hx := hcc
      have hx' : l[i] = m[i] := by first | (simpa using hx; done) | (apply UInt8.toNat_inj.1; simp at hx; omega)
      refine ⟨n - 1, i + 1, by omega, ⟨by omega, by omega, fun j hj hji => ?_⟩, ?_⟩
      · by_cases he : j = i
        · subst he; exact hx'
        · exact hp j hj (by omega)
      · rw [wrap64 _ (by omega) (by omega)]
        first | exact Norm.to 0 rfl (by simp [weakL]) | exact Norm.to 1 rfl (by simp [weakL])
  · have hge : i = l.length := by
      have : ¬ i < l.length := by simpa using hc
      omega
    have hlm : l = m := List.ext_getElem hlen fun j h1 h2 => hp j h1 (by omega)
    have fy := Nat.add_zero
    refine goK ?_ ?_ ?_ ?_ ?_ ?_ ?_ ?_ ?_ ?_ ?_ ?_ ?_ ?_ ?_ ?_
    any_goals (first | exact True.intro | skip)
    all_goals (repeat (refine Wh.mk fun hcc => ?_))
    simp [tupOf, fixEs, hlm]
theorem laws_eqHold_ok (x y : (Int × Int × Unit)) (hx : Enc.lim 1048576 x) : CallR Try.prog 168 [.nd [.int .i64 x.1, .int .i64 x.2.1], .nd [.int .i64 y.1, .int .i64 y.2.1]] [] (.bool (decide (x = y))) := by
  refine CallR.of_body (n := 15) (rs := [.tmp 4]) hY.ok Try.func168 rfl (by decide) rfl rfl rfl rfl (fun F => ?_)
  have fx := And.intro Y1 (And.intro Y3 (And.intro Y4 (Y165)))
  have key : x = y ↔ (x.1 = y.1 ∧ x.2.1 = y.2.1) :=
    ⟨fun h => by subst h; simp, fun h => Prod.ext h.1 (Prod.ext h.2 rfl)⟩
  have fy := Nat.add_zero
  refine goK ?_ ?_ ?_ ?_ ?_ ?_ ?_ ?_ ?_ ?_ ?_ ?_ ?_ ?_ ?_ ?_
  any_goals (first | exact True.intro | skip)
  all_goals (repeat (refine Wh.mk fun hcc => ?_))
  all_goals simp only [tupOf, fixEs, key]
  all_goals simp_all
theorem laws_eqHoldS_ok (l m : List ((Int × Int × Unit))) (hl : Enc.lim 1048576 l) : CallR Try.prog 116 [.sl .b (l.map Enc.b), .sl .b (m.map Enc.b)] [] (.bool (decide (l = m))) := by
  refine CallR.of_body (n := 27) (rs := [.tmp 4]) hY.ok Try.func116 rfl (by decide) rfl rfl rfl rfl (fun F => ?_)
  have fx := And.intro Y3 (And.intro Y4 (And.intro Y95 (Y165)))
  have hl1 : l.length ≤ 1048576 := hl.1
  have fy := Nat.add_zero
  refine goS ?_
  refine SW.cond rfl (fun hc => ?_) (fun hc => ?_)
  · have hne : ¬ l = m := by intro e; subst e; simp at hc
    have fy := Nat.add_zero
    refine goK ?_ ?_ ?_ ?_ ?_ ?_ ?_ ?_ ?_ ?_ ?_ ?_ ?_ ?_ ?_ ?_
    any_goals (first | exact True.intro | skip)
    all_goals (repeat (refine Wh.mk fun hcc => ?_))
    simp [tupOf, fixEs, hne]
  have hlen : l.length = m.length := by have : (l.length : Int) = m.length := by simpa using hc
                                        omega
  refine SW.skip ?_
  simp only [thenS]
  have fy := Nat.add_zero
  refine goN ?_ ?_ ?_ ?_ ?_ ?_ ?_ ?_ ?_ ?_ ?_ ?_ ?_ ?_ ?_ ?_
  any_goals (first | exact True.intro | skip)
  skip
  refine SW.loop (fun i : Nat => ⟨[.sl .b (l.map Enc.b), .sl .b (m.map Enc.b), .undef, .undef, .undef, .int .i64 i, .undef, .undef, .undef, .undef, .undef, .undef, .undef, .undef, .undef, .undef, .undef, .undef, .undef, .undef, .undef, .undef, .undef, .undef, .undef, .undef, .undef], [[]]⟩)
    (fun n i => n = l.length - i ∧ i ≤ l.length ∧ ∀ j (h : j < l.length), j < i → l[j] = m[j]'(by omega)) (n := l.length) (x := 0) (Norm.to 0 rfl (by simp [weakL])) ⟨rfl, Nat.zero_le _, fun j _ h => absurd h (Nat.not_lt_zero _)⟩ ?_
  rintro n i ⟨hn, hi, hp⟩
  have fy := Nat.add_zero
  refine goS ?_
  refine SW.cond rfl (fun hc => ?_) (fun hc => ?_)
  · have hlt : i < l.length := by simpa using hc
    have hlt' : i < m.length := by omega
    have hgl : (l.map Enc.b)[i]? = some (.nd [.int .i64 l[i].1, .int .i64 l[i].2.1]) := map_get Enc.b l i hlt
    have hgm : (m.map Enc.b)[i]? = some (.nd [.int .i64 m[i].1, .int .i64 m[i].2.1]) := map_get Enc.b m i hlt'
    have hC1 := cx [] (laws_eqHold_ok l[i] m[i] (hl.2 _ (List.getElem_mem hlt)))
    have fy := And.intro hgl (hgm)
    refine goK ?_ ?_ ?_ ?_ ?_ ?_ ?_ ?_ ?_ ?_ ?_ ?_ ?_ ?_ ?_ ?_
    any_goals (first | exact True.intro | skip)
    all_goals (repeat (refine Wh.mk fun hcc => ?_))
    · have hx := hcc
      have hne : ¬ l[i] = m[i] := by intro e; simp [e] at hx
      have hlm : ¬ l = m := by intro e; subst e; exact hne rfl
      simp [tupOf, fixEs, hlm]
    · have hx := hcc
      have hx' : l[i] = m[i] := by first | (simpa using hx; done) | (apply UInt8.toNat_inj.1; simp at hx; omega)
      refine ⟨n - 1, i + 1, by omega, ⟨by omega, by omega, fun j hj hji => ?_⟩, ?_⟩
      · by_cases he : j = i
        · subst he; exact hx'
        · exact hp j hj (by omega)
      · rw [wrap64 _ (by omega) (by omega)]
        first | exact Norm.to 0 rfl (by simp [weakL]) | exact Norm.to 1 rfl (by simp [weakL])
  · have hge : i = l.length := by
      have : ¬ i < l.length := by simpa using hc
      omega
    have hlm : l = m := List.ext_getElem hlen fun j h1 h2 => hp j h1 (by omega)
    have fy := Nat.add_zero
    refine goK ?_ ?_ ?_ ?_ ?_ ?_ ?_ ?_ ?_ ?_ ?_ ?_ ?_ ?_ ?_ ?_
    any_goals (first | exact True.intro | skip)
    all_goals (repeat (refine Wh.mk fun hcc => ?_))
    simp [tupOf, fixEs, hlm]
theorem laws_eqRec_ok (x y : (Int × Int × Int × Int × Int × ((Bool × ((Int × (List Int) × (List Int) × Unit)) × Unit)) × ((Bool × ((Int × (List Int) × (List Int) × Unit)) × Unit)) × Int × (List ((Int × Int × Bool × Unit))) × Unit)) (hx : Enc.lim 1048576 x) : CallR Try.prog 188 [.nd [.int .i64 x.1, .int .i64 x.2.1, .int .i64 x.2.2.1, .int .i64 x.2.2.2.1, .int .i64 x.2.2.2.2.1, .nd [.bool x.2.2.2.2.2.1.1, .nd [.int .i64 x.2.2.2.2.2.1.2.1.1, .sl .b (x.2.2.2.2.2.1.2.1.2.1.map Enc.b), .sl .b (x.2.2.2.2.2.1.2.1.2.2.1.map Enc.b)]], .nd [.bool x.2.2.2.2.2.2.1.1, .nd [.int .i64 x.2.2.2.2.2.2.1.2.1.1, .sl .b (x.2.2.2.2.2.2.1.2.1.2.1.map Enc.b), .sl .b (x.2.2.2.2.2.2.1.2.1.2.2.1.map Enc.b)]], .int .i64 x.2.2.2.2.2.2.2.1, .sl .b (x.2.2.2.2.2.2.2.2.1.map Enc.b)], .nd [.int .i64 y.1, .int .i64 y.2.1, .int .i64 y.2.2.1, .int .i64 y.2.2.2.1, .int .i64 y.2.2.2.2.1, .nd [.bool y.2.2.2.2.2.1.1, .nd [.int .i64 y.2.2.2.2.2.1.2.1.1, .sl .b (y.2.2.2.2.2.1.2.1.2.1.map Enc.b), .sl .b (y.2.2.2.2.2.1.2.1.2.2.1.map Enc.b)]], .nd [.bool y.2.2.2.2.2.2.1.1, .nd [.int .i64 y.2.2.2.2.2.2.1.2.1.1, .sl .b (y.2.2.2.2.2.2.1.2.1.2.1.map Enc.b), .sl .b (y.2.2.2.2.2.2.1.2.1.2.2.1.map Enc.b)]], .int .i64 y.2.2.2.2.2.2.2.1, .sl .b (y.2.2.2.2.2.2.2.2.1.map Enc.b)]] [] (.bool (decide (x = y))) := by
  refine CallR.of_body (n := 53) (rs := [.tmp 4]) hY.ok Try.func188 rfl (by decide) rfl rfl rfl rfl (fun F => ?_)
  have fx := And.intro Y1 (And.intro Y2 (And.intro Y3 (And.intro Y4 (And.intro Y5 (And.intro Y6 (And.intro Y7 (And.intro Y8 (And.intro Y27 (And.intro Y35 (And.intro Y37 (And.intro Y94 (And.intro Y169 (Y197)))))))))))))
  obtain ⟨x0, x1, x2, x3, x4, x5, x6, x7, x8, ⟨⟩⟩ := x
  obtain ⟨y0, y1, y2, y3, y4, y5, y6, y7, y8, ⟨⟩⟩ := y
  have key2 : decide ((x0, x1, x2, x3, x4, x5, x6, x7, x8, ()) = (y0, y1, y2, y3, y4, y5, y6, y7, y8, ())) = (decide (x0 = y0) && (decide (x1 = y1) && (decide (x2 = y2) && (decide (x3 = y3) && (decide (x4 = y4) && (decide (x5 = y5) && (decide (x6 = y6) && (decide (x7 = y7) && (decide (x8 = y8)))))))))) := by
    rw [Bool.eq_iff_iff]
    simp only [Bool.and_eq_true, decide_eq_true_eq]
    exact (show ((x0, x1, x2, x3, x4, x5, x6, x7, x8, ()) = (y0, y1, y2, y3, y4, y5, y6, y7, y8, ())) ↔ (x0 = y0 ∧ x1 = y1 ∧ x2 = y2 ∧ x3 = y3 ∧ x4 = y4 ∧ x5 = y5 ∧ x6 = y6 ∧ x7 = y7 ∧ x8 = y8) from ⟨fun h => ⟨congrArg (fun z : (Int × Int × Int × Int × Int × ((Bool × ((Int × (List Int) × (List Int) × Unit)) × Unit)) × ((Bool × ((Int × (List Int) × (List Int) × Unit)) × Unit)) × Int × (List ((Int × Int × Bool × Unit))) × Unit) => z.1) h, congrArg (fun z : (Int × Int × Int × Int × Int × ((Bool × ((Int × (List Int) × (List Int) × Unit)) × Unit)) × ((Bool × ((Int × (List Int) × (List Int) × Unit)) × Unit)) × Int × (List ((Int × Int × Bool × Unit))) × Unit) => z.2.1) h, congrArg (fun z : (Int × Int × Int × Int × Int × ((Bool × ((Int × (List Int) × (List Int) × Unit)) × Unit)) × ((Bool × ((Int × (List Int) × (List Int) × Unit)) × Unit)) × Int × (List ((Int × Int × Bool × Unit))) × Unit) => z.2.2.1) h, congrArg (fun z : (Int × Int × Int × Int × Int × ((Bool × ((Int × (List Int) × (List Int) × Unit)) × Unit)) × ((Bool × ((Int × (List Int) × (List Int) × Unit)) × Unit)) × Int × (List ((Int × Int × Bool × Unit))) × Unit) => z.2.2.2.1) h, congrArg (fun z : (Int × Int × Int × Int × Int × ((Bool × ((Int × (List Int) × (List Int) × Unit)) × Unit)) × ((Bool × ((Int × (List Int) × (List Int) × Unit)) × Unit)) × Int × (List ((Int × Int × Bool × Unit))) × Unit) => z.2.2.2.2.1) h, congrArg (fun z : (Int × Int × Int × Int × Int × ((Bool × ((Int × (List Int) × (List Int) × Unit)) × Unit)) × ((Bool × ((Int × (List Int) × (List Int) × Unit)) × Unit)) × Int × (List ((Int × Int × Bool × Unit))) × Unit) => z.2.2.2.2.2.1) h, congrArg (fun z : (Int × Int × Int × Int × Int × ((Bool × ((Int × (List Int) × (List Int) × Unit)) × Unit)) × ((Bool × ((Int × (List Int) × (List Int) × Unit)) × Unit)) × Int × (List ((Int × Int × Bool × Unit))) × Unit) => z.2.2.2.2.2.2.1) h, congrArg (fun z : (Int × Int × Int × Int × Int × ((Bool × ((Int × (List Int) × (List Int) × Unit)) × Unit)) × ((Bool × ((Int × (List Int) × (List Int) × Unit)) × Unit)) × Int × (List ((Int × Int × Bool × Unit))) × Unit) => z.2.2.2.2.2.2.2.1) h, congrArg (fun z : (Int × Int × Int × Int × Int × ((Bool × ((Int × (List Int) × (List Int) × Unit)) × Unit)) × ((Bool × ((Int × (List Int) × (List Int) × Unit)) × Unit)) × Int × (List ((Int × Int × Bool × Unit))) × Unit) => z.2.2.2.2.2.2.2.2.1) h⟩, fun h => Prod.ext h.1 (Prod.ext h.2.1 (Prod.ext h.2.2.1 (Prod.ext h.2.2.2.1 (Prod.ext h.2.2.2.2.1 (Prod.ext h.2.2.2.2.2.1 (Prod.ext h.2.2.2.2.2.2.1 (Prod.ext h.2.2.2.2.2.2.2.1 (Prod.ext h.2.2.2.2.2.2.2.2 rfl))))))))⟩)
  rw [key2]
  clear key2
  have e0 : (x0 != y0) = !decide (x0 = y0) := by cases h : decide (x0 = y0) <;> simp_all
  have e1 : (x1 != y1) = !decide (x1 = y1) := by cases h : decide (x1 = y1) <;> simp_all
  have e2 : (x2 != y2) = !decide (x2 = y2) := by cases h : decide (x2 = y2) <;> simp_all
  have e3 : (x3 != y3) = !decide (x3 = y3) := by cases h : decide (x3 = y3) <;> simp_all
  have e4 : (x4 != y4) = !decide (x4 = y4) := by cases h : decide (x4 = y4) <;> simp_all
  have e5 := laws_eqSlot_ok x5 y5 hx.2.2.2.2.2.1
  try simp only at e5
  have e6 := laws_eqSlot_ok x6 y6 hx.2.2.2.2.2.2.1
  try simp only at e6
  have e7 : (x7 != y7) = !decide (x7 = y7) := by cases h : decide (x7 = y7) <;> simp_all
  have e8 := laws_eqLiveS_ok x8 y8 hx.2.2.2.2.2.2.2.2.1
  try simp only at e8
  clear hx
  generalize decide (x0 = y0) = p0 at *
  generalize decide (x1 = y1) = p1 at *
  generalize decide (x2 = y2) = p2 at *
  generalize decide (x3 = y3) = p3 at *
  generalize decide (x4 = y4) = p4 at *
  generalize decide (x5 = y5) = p5 at *
  generalize decide (x6 = y6) = p6 at *
  generalize decide (x7 = y7) = p7 at *
  generalize decide (x8 = y8) = p8 at *
  cases p0
  · skip
    have hC1 := cx [] (e5)
    have hC2 := cx [] (e6)
    have hC3 := cx [] (e8)
    have fy := And.intro e0 (And.intro e1 (And.intro e2 (And.intro e3 (And.intro e4 (e7)))))
    refine goR ?_ ?_ ?_ ?_ ?_ ?_ ?_ ?_ ?_ ?_ ?_ ?_ ?_ ?_ ?_ ?_
    any_goals (first | exact True.intro | skip)
    all_goals (repeat (refine Wh.mk fun hcc => ?_))
    all_goals exact SW.ret (show RetQ _ _ _ _ _ _ _ from RetQ.y [0] [.bool false])
  · skip
    cases p1
    · skip
      have hC1 := cx [] (e5)
      have hC2 := cx [] (e6)
      have hC3 := cx [] (e8)
      have fy := And.intro e0 (And.intro e1 (And.intro e2 (And.intro e3 (And.intro e4 (e7)))))
      refine goR ?_ ?_ ?_ ?_ ?_ ?_ ?_ ?_ ?_ ?_ ?_ ?_ ?_ ?_ ?_ ?_
      any_goals (first | exact True.intro | skip)
      all_goals (repeat (refine Wh.mk fun hcc => ?_))
      all_goals exact SW.ret (show RetQ _ _ _ _ _ _ _ from RetQ.y [0] [.bool false])
    · skip
      cases p2
      · skip
        have hC1 := cx [] (e5)
        have hC2 := cx [] (e6)
        have hC3 := cx [] (e8)
        have fy := And.intro e0 (And.intro e1 (And.intro e2 (And.intro e3 (And.intro e4 (e7)))))
        refine goR ?_ ?_ ?_ ?_ ?_ ?_ ?_ ?_ ?_ ?_ ?_ ?_ ?_ ?_ ?_ ?_
        any_goals (first | exact True.intro | skip)
        all_goals (repeat (refine Wh.mk fun hcc => ?_))
        all_goals exact SW.ret (show RetQ _ _ _ _ _ _ _ from RetQ.y [0] [.bool false])
      · skip
        cases p3
        · skip
          have hC1 := cx [] (e5)
          have hC2 := cx [] (e6)
          have hC3 := cx [] (e8)
          have fy := And.intro e0 (And.intro e1 (And.intro e2 (And.intro e3 (And.intro e4 (e7)))))
          refine goR ?_ ?_ ?_ ?_ ?_ ?_ ?_ ?_ ?_ ?_ ?_ ?_ ?_ ?_ ?_ ?_
          any_goals (first | exact True.intro | skip)
          all_goals (repeat (refine Wh.mk fun hcc => ?_))
          all_goals exact SW.ret (show RetQ _ _ _ _ _ _ _ from RetQ.y [0] [.bool false])
        · skip
          cases p4
          · skip
            have hC1 := cx [] (e5)
            have hC2 := cx [] (e6)
            have hC3 := cx [] (e8)
            have fy := And.intro e0 (And.intro e1 (And.intro e2 (And.intro e3 (And.intro e4 (e7)))))
            refine goR ?_ ?_ ?_ ?_ ?_ ?_ ?_ ?_ ?_ ?_ ?_ ?_ ?_ ?_ ?_ ?_
            any_goals (first | exact True.intro | skip)
            all_goals (repeat (refine Wh.mk fun hcc => ?_))
            all_goals exact SW.ret (show RetQ _ _ _ _ _ _ _ from RetQ.y [0] [.bool false])
          · skip
            cases p5
            · skip
              have hC1 := cx [] (e5)
              have hC2 := cx [] (e6)
              have hC3 := cx [] (e8)
              have fy := And.intro e0 (And.intro e1 (And.intro e2 (And.intro e3 (And.intro e4 (e7)))))
              refine goR ?_ ?_ ?_ ?_ ?_ ?_ ?_ ?_ ?_ ?_ ?_ ?_ ?_ ?_ ?_ ?_
              any_goals (first | exact True.intro | skip)
              all_goals (repeat (refine Wh.mk fun hcc => ?_))
              all_goals exact SW.ret (show RetQ _ _ _ _ _ _ _ from RetQ.y [0] [.bool false])
            · skip
              cases p6
              · skip
                have hC1 := cx [] (e5)
                have hC2 := cx [] (e6)
                have hC3 := cx [] (e8)
                have fy := And.intro e0 (And.intro e1 (And.intro e2 (And.intro e3 (And.intro e4 (e7)))))
                refine goR ?_ ?_ ?_ ?_ ?_ ?_ ?_ ?_ ?_ ?_ ?_ ?_ ?_ ?_ ?_ ?_
                any_goals (first | exact True.intro | skip)
                all_goals (repeat (refine Wh.mk fun hcc => ?_))
                all_goals exact SW.ret (show RetQ _ _ _ _ _ _ _ from RetQ.y [0] [.bool false])
              · skip
                cases p7
                · skip
                  have hC1 := cx [] (e5)
                  have hC2 := cx [] (e6)
                  have hC3 := cx [] (e8)
                  have fy := And.intro e0 (And.intro e1 (And.intro e2 (And.intro e3 (And.intro e4 (e7)))))
                  refine goR ?_ ?_ ?_ ?_ ?_ ?_ ?_ ?_ ?_ ?_ ?_ ?_ ?_ ?_ ?_ ?_
                  any_goals (first | exact True.intro | skip)
                  all_goals (repeat (refine Wh.mk fun hcc => ?_))
                  all_goals exact SW.ret (show RetQ _ _ _ _ _ _ _ from RetQ.y [0] [.bool false])
                · skip
                  cases p8
                  · skip
                    have hC1 := cx [] (e5)
                    have hC2 := cx [] (e6)
                    have hC3 := cx [] (e8)
                    have fy := And.intro e0 (And.intro e1 (And.intro e2 (And.intro e3 (And.intro e4 (e7)))))
                    refine goR ?_ ?_ ?_ ?_ ?_ ?_ ?_ ?_ ?_ ?_ ?_ ?_ ?_ ?_ ?_ ?_
                    any_goals (first | exact True.intro | skip)
                    all_goals (repeat (refine Wh.mk fun hcc => ?_))
                    all_goals exact SW.ret (show RetQ _ _ _ _ _ _ _ from RetQ.y [0] [.bool false])
                  · skip
                    have hC1 := cx [] (e5)
                    have hC2 := cx [] (e6)
                    have hC3 := cx [] (e8)
                    have fy := And.intro e0 (And.intro e1 (And.intro e2 (And.intro e3 (And.intro e4 (e7)))))
                    refine goR ?_ ?_ ?_ ?_ ?_ ?_ ?_ ?_ ?_ ?_ ?_ ?_ ?_ ?_ ?_ ?_
                    any_goals (first | exact True.intro | skip)
                    all_goals (repeat (refine Wh.mk fun hcc => ?_))
                    all_goals exact SW.ret (show RetQ _ _ _ _ _ _ _ from RetQ.y [0] [.bool true])
theorem laws_eqRecS_ok (l m : List ((Int × Int × Int × Int × Int × ((Bool × ((Int × (List Int) × (List Int) × Unit)) × Unit)) × ((Bool × ((Int × (List Int) × (List Int) × Unit)) × Unit)) × Int × (List ((Int × Int × Bool × Unit))) × Unit))) (hl : Enc.lim 1048576 l) : CallR Try.prog 166 [.sl .b (l.map Enc.b), .sl .b (m.map Enc.b)] [] (.bool (decide (l = m))) := by
  refine CallR.of_body (n := 27) (rs := [.tmp 4]) hY.ok Try.func166 rfl (by decide) rfl rfl rfl rfl (fun F => ?_)
  have fx := And.intro Y3 (And.intro Y4 (And.intro Y27 (And.intro Y35 (And.intro Y37 (And.intro Y91 (And.intro Y94 (And.intro Y169 (Y197))))))))
  have hl1 : l.length ≤ 1048576 := hl.1
  have fy := Nat.add_zero
  refine goS ?_
  refine SW.cond rfl (fun hc => ?_) (fun hc => ?_)
  · have hne : ¬ l = m := by intro e; subst e; simp at hc
    have fy := Nat.add_zero
    refine goK ?_ ?_ ?_ ?_ ?_ ?_ ?_ ?_ ?_ ?_ ?_ ?_ ?_ ?_ ?_ ?_
    any_goals (first | exact True.intro | skip)
    all_goals (repeat (refine Wh.mk fun hcc => ?_))
    simp [tupOf, fixEs, hne]
  have hlen : l.length = m.length := by have : (l.length : Int) = m.length := by simpa using hc
                                        omega
  refine SW.skip ?_
  simp only [thenS]
  have fy := Nat.add_zero
  refine goN ?_ ?_ ?_ ?_ ?_ ?_ ?_ ?_ ?_ ?_ ?_ ?_ ?_ ?_ ?_ ?_
  any_goals (first | exact True.intro | skip)
  skip
  refine SW.loop (fun i : Nat => ⟨[.sl .b (l.map Enc.b), .sl .b (m.map Enc.b), .undef, .undef, .undef, .int .i64 i, .undef, .undef, .undef, .undef, .undef, .undef, .undef, .undef, .undef, .undef, .undef, .undef, .undef, .undef, .undef, .undef, .undef, .undef, .undef, .undef, .undef], [[]]⟩)
    (fun n i => n = l.length - i ∧ i ≤ l.length ∧ ∀ j (h : j < l.length), j < i → l[j] = m[j]'(by omega)) (n := l.length) (x := 0) (Norm.to 0 rfl (by simp [weakL])) ⟨rfl, Nat.zero_le _, fun j _ h => absurd h (Nat.not_lt_zero _)⟩ ?_
  rintro n i ⟨hn, hi, hp⟩
  have fy := Nat.add_zero
  refine goS ?_
  refine SW.cond rfl (fun hc => ?_) (fun hc => ?_)
  · have hlt : i < l.length := by simpa using hc
    have hlt' : i < m.length := by omega
    have hgl : (l.map Enc.b)[i]? = some (.nd [.int .i64 l[i].1, .int .i64 l[i].2.1, .int .i64 l[i].2.2.1, .int .i64 l[i].2.2.2.1, .int .i64 l[i].2.2.2.2.1, .nd [.bool l[i].2.2.2.2.2.1.1, .nd [.int .i64 l[i].2.2.2.2.2.1.2.1.1, .sl .b (l[i].2.2.2.2.2.1.2.1.2.1.map Enc.b), .sl .b (l[i].2.2.2.2.2.1.2.1.2.2.1.map Enc.b)]], .nd [.bool l[i].2.2.2.2.2.2.1.1, .nd [.int .i64 l[i].2.2.2.2.2.2.1.2.1.1, .sl .b (l[i].2.2.2.2.2.2.1.2.1.2.1.map Enc.b), .sl .b (l[i].2.2.2.2.2.2.1.2.1.2.2.1.map Enc.b)]], .int .i64 l[i].2.2.2.2.2.2.2.1, .sl .b (l[i].2.2.2.2.2.2.2.2.1.map Enc.b)]) := map_get Enc.b l i hlt
    have hgm : (m.map Enc.b)[i]? = some (.nd [.int .i64 m[i].1, .int .i64 m[i].2.1, .int .i64 m[i].2.2.1, .int .i64 m[i].2.2.2.1, .int .i64 m[i].2.2.2.2.1, .nd [.bool m[i].2.2.2.2.2.1.1, .nd [.int .i64 m[i].2.2.2.2.2.1.2.1.1, .sl .b (m[i].2.2.2.2.2.1.2.1.2.1.map Enc.b), .sl .b (m[i].2.2.2.2.2.1.2.1.2.2.1.map Enc.b)]], .nd [.bool m[i].2.2.2.2.2.2.1.1, .nd [.int .i64 m[i].2.2.2.2.2.2.1.2.1.1, .sl .b (m[i].2.2.2.2.2.2.1.2.1.2.1.map Enc.b), .sl .b (m[i].2.2.2.2.2.2.1.2.1.2.2.1.map Enc.b)]], .int .i64 m[i].2.2.2.2.2.2.2.1, .sl .b (m[i].2.2.2.2.2.2.2.2.1.map Enc.b)]) := map_get Enc.b m i hlt'
    have hC1 := cx [] (laws_eqRec_ok l[i] m[i] (hl.2 _ (List.getElem_mem hlt)))
    have fy := And.intro hgl (hgm)
    refine goK ?_ ?_ ?_ ?_ ?_ ?_ ?_ ?_ ?_ ?_ ?_ ?_ ?_ ?_ ?_ ?_
    any_goals (first | exact True.intro | skip)
    all_goals (repeat (refine Wh.mk fun hcc => ?_))
    · have hx := hcc
      have hne : ¬ l[i] = m[i] := by intro e; simp [e] at hx
      have hlm : ¬ l = m := by intro e; subst e; exact hne rfl
      simp [tupOf, fixEs, hlm]
    · have hx := hcc
      have hx' : l[i] = m[i] := by first | (simpa using hx; done) | (apply UInt8.toNat_inj.1; simp at hx; omega)
      refine ⟨n - 1, i + 1, by omega, ⟨by omega, by omega, fun j hj hji => ?_⟩, ?_⟩
      · by_cases he : j = i
        · subst he; exact hx'
        · exact hp j hj (by omega)
      · rw [wrap64 _ (by omega) (by omega)]
        first | exact Norm.to 0 rfl (by simp [weakL]) | exact Norm.to 1 rfl (by simp [weakL])
  · have hge : i = l.length := by
      have : ¬ i < l.length := by simpa using hc
      omega
    have hlm : l = m := List.ext_getElem hlen fun j h1 h2 => hp j h1 (by omega)
    have fy := Nat.add_zero
    refine goK ?_ ?_ ?_ ?_ ?_ ?_ ?_ ?_ ?_ ?_ ?_ ?_ ?_ ?_ ?_ ?_
    any_goals (first | exact True.intro | skip)
    all_goals (repeat (refine Wh.mk fun hcc => ?_))
    simp [tupOf, fixEs, hlm]
theorem laws_eqLog_ok (x y : ((List ((Int × Int × Int × Int × Int × ((Bool × ((Int × (List Int) × (List Int) × Unit)) × Unit)) × ((Bool × ((Int × (List Int) × (List Int) × Unit)) × Unit)) × Int × (List ((Int × Int × Bool × Unit))) × Unit))) × Int × Unit)) (hx : Enc.lim 1048576 x) : CallR Try.prog 114 [.nd [.sl .b (x.1.map Enc.b), .int .i64 x.2.1], .nd [.sl .b (y.1.map Enc.b), .int .i64 y.2.1]] [] (.bool (decide (x = y))) := by
  refine CallR.of_body (n := 16) (rs := [.tmp 4]) hY.ok Try.func114 rfl (by decide) rfl rfl rfl rfl (fun F => ?_)
  have fx := And.intro Y1 (And.intro Y3 (And.intro Y4 (And.intro Y27 (And.intro Y35 (And.intro Y37 (And.intro Y91 (And.intro Y93 (And.intro Y94 (And.intro Y169 (Y197))))))))))
  have key : x = y ↔ (x.1 = y.1 ∧ x.2.1 = y.2.1) :=
    ⟨fun h => by subst h; simp, fun h => Prod.ext h.1 (Prod.ext h.2 rfl)⟩
  have hC1 := cx [] (laws_eqRecS_ok x.1 y.1 hx.1)
  have fy := Nat.add_zero
  refine goK ?_ ?_ ?_ ?_ ?_ ?_ ?_ ?_ ?_ ?_ ?_ ?_ ?_ ?_ ?_ ?_
  any_goals (first | exact True.intro | skip)
  all_goals (repeat (refine Wh.mk fun hcc => ?_))
  all_goals simp only [tupOf, fixEs, key]
  all_goals simp_all
end Q6

namespace Q6
open Go Go.Vm Go.Proofs
set_option maxHeartbeats 4000000
set_option synthInstance.maxSize 2000
set_option synthInstance.maxHeartbeats 400000
set_option maxRecDepth 10000
set_option linter.unusedSimpArgs false
set_option linter.unusedVariables false

set_option synthInstance.maxHeartbeats 4000000
set_option synthInstance.maxSize 20000
set_option maxHeartbeats 40000000
theorem laws_eqPageA8_ok (x y : (Arr 8 ((Int × ((((Bool × ((Int × (List Int) × (List Int) × Unit)) × Unit)) × ((Bool × ((Int × (List Int) × (List Int) × Unit)) × Unit)) × ((Bool × ((Int × (List Int) × (List Int) × Unit)) × Unit)) × ((Bool × ((Int × (List Int) × (List Int) × Unit)) × Unit)) × Unit)) × Unit)))) (hx : Enc.lim 1048576 x) : CallR Try.prog 112 [.nd (x.l.map Enc.b), .nd (y.l.map Enc.b)] [] (.bool (decide (x = y))) := by
  refine CallR.of_body (n := 18) (rs := [.tmp 4]) hY.ok Try.func112 rfl (by decide) (by simp [ioSizes, ioSz]) rfl rfl rfl (fun F => ?_)
  have fx := And.intro Y3 (And.intro Y4 (And.intro Y27 (And.intro Y35 (And.intro Y37 (And.intro Y84 (And.intro Y86 (Y87)))))))
  simp only [entryS, thawAL, thawA, thawAL_b, thawAL_tR, List.append_nil, List.nil_append, List.length_nil, Nat.add_zero]
  have hd := (tRfacts x).2.2.2.2
  have hd' := (tRfacts y).2.2.2.2
  obtain ⟨l, hl⟩ := x
  obtain ⟨m, hm⟩ := y
  simp only at hx hd hd' ⊢
  rw [show decide ((⟨l, hl⟩ : Arr 8 PgT) = ⟨m, hm⟩) = decide (l = m) from decide_eq_decide.2 ⟨fun h => congrArg Arr.l h, fun h => Arr.ext h⟩]
  have fy := And.intro nc4 (And.intro nc8 (And.intro wa (And.intro tn (And.intro hd (hd')))))
  refine goN ?_ ?_ ?_ ?_ ?_ ?_ ?_ ?_ ?_ ?_ ?_ ?_ ?_ ?_ ?_ ?_
  any_goals (first | exact True.intro | skip)
  skip
  refine SW.loop (fun i : Nat => ⟨[.undef, .undef, .ptr 1 0 [] 0, .ptr 2 0 [] 0, .undef, .int .i64 (i : Nat), .undef, .undef, .undef, .undef, .undef, .undef, .undef, .undef, .undef, .undef, .undef, .undef], [[], [.var (.nd (l.map Enc.b))], [.var (.nd (m.map Enc.b))]]⟩)
    (fun n i => n = 8 - i ∧ i ≤ 8 ∧ ∀ j (h : j < l.length), j < i → l[j] = m[j]'(by omega)) (n := 8) (x := 0) (Norm.to 0 rfl (by simp [weakL])) ⟨rfl, Nat.zero_le _, fun j _ h => absurd h (Nat.not_lt_zero _)⟩ ?_
  rintro n i ⟨hn, hi, hp⟩
  have fy := And.intro nc4 (And.intro nc8 (And.intro wa (tn)))
  refine goS ?_
  refine SW.cond rfl (fun hc => ?_) (fun hc => ?_)
  · have hlt8 : i < 8 := by simp at hc; omega
    have hlt : i < l.length := by omega
    have hlt' : i < m.length := by omega
    have hltI : (i : Int) < 8 := by omega
    have hgl : (l.map Enc.b)[i]? = some (.nd [.int .i64 l[i].1, .nd [.nd [.bool l[i].2.1.1.1, .nd [.int .i64 l[i].2.1.1.2.1.1, .sl .b (l[i].2.1.1.2.1.2.1.map Enc.b), .sl .b (l[i].2.1.1.2.1.2.2.1.map Enc.b)]], .nd [.bool l[i].2.1.2.1.1, .nd [.int .i64 l[i].2.1.2.1.2.1.1, .sl .b (l[i].2.1.2.1.2.1.2.1.map Enc.b), .sl .b (l[i].2.1.2.1.2.1.2.2.1.map Enc.b)]], .nd [.bool l[i].2.1.2.2.1.1, .nd [.int .i64 l[i].2.1.2.2.1.2.1.1, .sl .b (l[i].2.1.2.2.1.2.1.2.1.map Enc.b), .sl .b (l[i].2.1.2.2.1.2.1.2.2.1.map Enc.b)]], .nd [.bool l[i].2.1.2.2.2.1.1, .nd [.int .i64 l[i].2.1.2.2.2.1.2.1.1, .sl .b (l[i].2.1.2.2.2.1.2.1.2.1.map Enc.b), .sl .b (l[i].2.1.2.2.2.1.2.1.2.2.1.map Enc.b)]]]]) := map_get Enc.b l i hlt
    have hgm : (m.map Enc.b)[i]? = some (.nd [.int .i64 m[i].1, .nd [.nd [.bool m[i].2.1.1.1, .nd [.int .i64 m[i].2.1.1.2.1.1, .sl .b (m[i].2.1.1.2.1.2.1.map Enc.b), .sl .b (m[i].2.1.1.2.1.2.2.1.map Enc.b)]], .nd [.bool m[i].2.1.2.1.1, .nd [.int .i64 m[i].2.1.2.1.2.1.1, .sl .b (m[i].2.1.2.1.2.1.2.1.map Enc.b), .sl .b (m[i].2.1.2.1.2.1.2.2.1.map Enc.b)]], .nd [.bool m[i].2.1.2.2.1.1, .nd [.int .i64 m[i].2.1.2.2.1.2.1.1, .sl .b (m[i].2.1.2.2.1.2.1.2.1.map Enc.b), .sl .b (m[i].2.1.2.2.1.2.1.2.2.1.map Enc.b)]], .nd [.bool m[i].2.1.2.2.2.1.1, .nd [.int .i64 m[i].2.1.2.2.2.1.2.1.1, .sl .b (m[i].2.1.2.2.2.1.2.1.2.1.map Enc.b), .sl .b (m[i].2.1.2.2.2.1.2.1.2.2.1.map Enc.b)]]]]) := map_get Enc.b m i hlt'
    have hlm1 : (l.map (Enc.b : PgT → T)).length = 8 := by simp [hl]
    have hlm2 : (m.map (Enc.b : PgT → T)).length = 8 := by simp [hm]
    have hs1 : sizeL (List.take i (l.map (Enc.b : PgT → T))) = i * 17 := sizeL_takeb l i (by omega)
    have hs2 : sizeL (List.take i (m.map (Enc.b : PgT → T))) = i * 17 := sizeL_takeb m i (by omega)
    have e1 := laws_eqPage_ok l[i] m[i] (hx _ (List.getElem_mem hlt))
    by_cases he : l[i] = m[i]
    · rw [decide_eq_true he] at e1
      have hC1 := cx [] (e1)
      have fy := And.intro nc4 (And.intro nc8 (And.intro wa (And.intro tn (And.intro hgl (And.intro hgm (And.intro hlm1 (And.intro hlm2 (And.intro hs1 (And.intro hs2 (And.intro hltI (And.intro hlt8 (Nat.zero_add))))))))))))
      refine goR ?_ ?_ ?_ ?_ ?_ ?_ ?_ ?_ ?_ ?_ ?_ ?_ ?_ ?_ ?_ ?_
      any_goals (first | exact True.intro | skip)
      all_goals (repeat (refine Wh.mk fun hcc => ?_))
      refine ⟨n - 1, i + 1, by omega, ⟨by omega, by omega, fun j hj hji => ?_⟩, ?_⟩
      · by_cases hji' : j = i
        · subst hji'; exact he
        · exact hp j hj (by omega)
      · rw [wrap64 _ (by omega) (by omega)]
        first | exact Norm.to 0 rfl (by simp [weakL]) | exact Norm.to 1 rfl (by simp [weakL]) | exact Norm.to 2 rfl (by simp [weakL])
    · rw [decide_eq_false he] at e1
      have hC1 := cx [] (e1)
      have fy := And.intro nc4 (And.intro nc8 (And.intro wa (And.intro tn (And.intro hgl (And.intro hgm (And.intro hlm1 (And.intro hlm2 (And.intro hs1 (And.intro hs2 (And.intro hltI (And.intro hlt8 (Nat.zero_add))))))))))))
      refine goR ?_ ?_ ?_ ?_ ?_ ?_ ?_ ?_ ?_ ?_ ?_ ?_ ?_ ?_ ?_ ?_
      any_goals (first | exact True.intro | skip)
      all_goals (repeat (refine Wh.mk fun hcc => ?_))
      rw [decide_eq_false (show ¬ l = m from fun e => he (by subst e; rfl))]
      exact SW.ret (show RetQ _ _ _ _ _ _ _ from RetQ.y [0] [.bool false])
  · have hge : 8 ≤ i := by simp at hc; omega
    rw [decide_eq_true (show l = m from List.ext_getElem (by omega) fun j h1 h2 => hp j h1 (by omega))]
    have fy := And.intro nc4 (And.intro nc8 (And.intro wa (tn)))
    refine goR ?_ ?_ ?_ ?_ ?_ ?_ ?_ ?_ ?_ ?_ ?_ ?_ ?_ ?_ ?_ ?_
    any_goals (first | exact True.intro | skip)
    all_goals (repeat (refine Wh.mk fun hcc => ?_))
    exact SW.ret (show RetQ _ _ _ _ _ _ _ from RetQ.y [0] [.bool true])
theorem laws_eqEngine_ok (x y : (((Arr 8 ((Int × ((((Bool × ((Int × (List Int) × (List Int) × Unit)) × Unit)) × ((Bool × ((Int × (List Int) × (List Int) × Unit)) × Unit)) × ((Bool × ((Int × (List Int) × (List Int) × Unit)) × Unit)) × ((Bool × ((Int × (List Int) × (List Int) × Unit)) × Unit)) × Unit)) × Unit)))) × (((List ((Int × ((Int × ((((Bool × ((Int × (List Int) × (List Int) × Unit)) × Unit)) × ((Bool × ((Int × (List Int) × (List Int) × Unit)) × Unit)) × ((Bool × ((Int × (List Int) × (List Int) × Unit)) × Unit)) × ((Bool × ((Int × (List Int) × (List Int) × Unit)) × Unit)) × Unit)) × Unit)) × Bool × Bool × Unit))) × Int × Unit)) × (((List ((Int × Int × Int × Int × Int × ((Bool × ((Int × (List Int) × (List Int) × Unit)) × Unit)) × ((Bool × ((Int × (List Int) × (List Int) × Unit)) × Unit)) × Int × (List ((Int × Int × Bool × Unit))) × Unit))) × Int × Unit)) × (List ((Int × Int × Bool × Unit))) × (List ((Int × Int × Unit))) × Int × Bool × Unit)) (hx : Enc.lim 1048576 x) : CallR Try.prog 43 [.nd [.nd (x.1.l.map Enc.b), .nd [.sl .b (x.2.1.1.map Enc.b), .int .i64 x.2.1.2.1], .nd [.sl .b (x.2.2.1.1.map Enc.b), .int .i64 x.2.2.1.2.1], .sl .b (x.2.2.2.1.map Enc.b), .sl .b (x.2.2.2.2.1.map Enc.b), .int .i64 x.2.2.2.2.2.1, .bool x.2.2.2.2.2.2.1], .nd [.nd (y.1.l.map Enc.b), .nd [.sl .b (y.2.1.1.map Enc.b), .int .i64 y.2.1.2.1], .nd [.sl .b (y.2.2.1.1.map Enc.b), .int .i64 y.2.2.1.2.1], .sl .b (y.2.2.2.1.map Enc.b), .sl .b (y.2.2.2.2.1.map Enc.b), .int .i64 y.2.2.2.2.2.1, .bool y.2.2.2.2.2.2.1]] [] (.bool (decide (x = y))) := by
  refine CallR.of_body (n := 45) (rs := [.tmp 4]) hY.ok Try.func43 rfl (by decide) (by simp [ioSizes, ioSz]) rfl rfl rfl (fun F => ?_)
  have fx := And.intro Y1 (And.intro Y2 (And.intro Y3 (And.intro Y4 (And.intro Y5 (And.intro Y6 (And.intro Y27 (And.intro Y35 (And.intro Y37 (And.intro Y84 (And.intro Y86 (And.intro Y87 (And.intro Y88 (And.intro Y90 (And.intro Y91 (And.intro Y93 (And.intro Y94 (And.intro Y95 (And.intro Y97 (And.intro Y165 (And.intro Y169 (And.intro Y192 (Y197))))))))))))))))))))))
  simp only [entryS, thawAL, thawA, thawAL_b, thawAL_tR, List.append_nil, List.nil_append, List.length_nil, Nat.add_zero]
  have hd := (tRfacts x.1).2.2.2.2
  have hd2 := (tRfacts y.1).2.2.2.2
  obtain ⟨x0, x1, x2, x3, x4, x5, x6, ⟨⟩⟩ := x
  obtain ⟨y0, y1, y2, y3, y4, y5, y6, ⟨⟩⟩ := y
  have key2 : decide ((x0, x1, x2, x3, x4, x5, x6, ()) = (y0, y1, y2, y3, y4, y5, y6, ())) = (decide (x0 = y0) && (decide (x1 = y1) && (decide (x2 = y2) && (decide (x3 = y3) && (decide (x4 = y4) && (decide (x5 = y5) && (decide (x6 = y6)))))))) := by
    rw [Bool.eq_iff_iff]
    simp only [Bool.and_eq_true, decide_eq_true_eq]
    exact (show ((x0, x1, x2, x3, x4, x5, x6, ()) = (y0, y1, y2, y3, y4, y5, y6, ())) ↔ (x0 = y0 ∧ x1 = y1 ∧ x2 = y2 ∧ x3 = y3 ∧ x4 = y4 ∧ x5 = y5 ∧ x6 = y6) from ⟨fun h => ⟨congrArg (fun z : (((Arr 8 ((Int × ((((Bool × ((Int × (List Int) × (List Int) × Unit)) × Unit)) × ((Bool × ((Int × (List Int) × (List Int) × Unit)) × Unit)) × ((Bool × ((Int × (List Int) × (List Int) × Unit)) × Unit)) × ((Bool × ((Int × (List Int) × (List Int) × Unit)) × Unit)) × Unit)) × Unit)))) × (((List ((Int × ((Int × ((((Bool × ((Int × (List Int) × (List Int) × Unit)) × Unit)) × ((Bool × ((Int × (List Int) × (List Int) × Unit)) × Unit)) × ((Bool × ((Int × (List Int) × (List Int) × Unit)) × Unit)) × ((Bool × ((Int × (List Int) × (List Int) × Unit)) × Unit)) × Unit)) × Unit)) × Bool × Bool × Unit))) × Int × Unit)) × (((List ((Int × Int × Int × Int × Int × ((Bool × ((Int × (List Int) × (List Int) × Unit)) × Unit)) × ((Bool × ((Int × (List Int) × (List Int) × Unit)) × Unit)) × Int × (List ((Int × Int × Bool × Unit))) × Unit))) × Int × Unit)) × (List ((Int × Int × Bool × Unit))) × (List ((Int × Int × Unit))) × Int × Bool × Unit) => z.1) h, congrArg (fun z : (((Arr 8 ((Int × ((((Bool × ((Int × (List Int) × (List Int) × Unit)) × Unit)) × ((Bool × ((Int × (List Int) × (List Int) × Unit)) × Unit)) × ((Bool × ((Int × (List Int) × (List Int) × Unit)) × Unit)) × ((Bool × ((Int × (List Int) × (List Int) × Unit)) × Unit)) × Unit)) × Unit)))) × (((List ((Int × ((Int × ((((Bool × ((Int × (List Int) × (List Int) × Unit)) × Unit)) × ((Bool × ((Int × (List Int) × (List Int) × Unit)) × Unit)) × ((Bool × ((Int × (List Int) × (List Int) × Unit)) × Unit)) × ((Bool × ((Int × (List Int) × (List Int) × Unit)) × Unit)) × Unit)) × Unit)) × Bool × Bool × Unit))) × Int × Unit)) × (((List ((Int × Int × Int × Int × Int × ((Bool × ((Int × (List Int) × (List Int) × Unit)) × Unit)) × ((Bool × ((Int × (List Int) × (List Int) × Unit)) × Unit)) × Int × (List ((Int × Int × Bool × Unit))) × Unit))) × Int × Unit)) × (List ((Int × Int × Bool × Unit))) × (List ((Int × Int × Unit))) × Int × Bool × Unit) => z.2.1) h, congrArg (fun z : (((Arr 8 ((Int × ((((Bool × ((Int × (List Int) × (List Int) × Unit)) × Unit)) × ((Bool × ((Int × (List Int) × (List Int) × Unit)) × Unit)) × ((Bool × ((Int × (List Int) × (List Int) × Unit)) × Unit)) × ((Bool × ((Int × (List Int) × (List Int) × Unit)) × Unit)) × Unit)) × Unit)))) × (((List ((Int × ((Int × ((((Bool × ((Int × (List Int) × (List Int) × Unit)) × Unit)) × ((Bool × ((Int × (List Int) × (List Int) × Unit)) × Unit)) × ((Bool × ((Int × (List Int) × (List Int) × Unit)) × Unit)) × ((Bool × ((Int × (List Int) × (List Int) × Unit)) × Unit)) × Unit)) × Unit)) × Bool × Bool × Unit))) × Int × Unit)) × (((List ((Int × Int × Int × Int × Int × ((Bool × ((Int × (List Int) × (List Int) × Unit)) × Unit)) × ((Bool × ((Int × (List Int) × (List Int) × Unit)) × Unit)) × Int × (List ((Int × Int × Bool × Unit))) × Unit))) × Int × Unit)) × (List ((Int × Int × Bool × Unit))) × (List ((Int × Int × Unit))) × Int × Bool × Unit) => z.2.2.1) h, congrArg (fun z : (((Arr 8 ((Int × ((((Bool × ((Int × (List Int) × (List Int) × Unit)) × Unit)) × ((Bool × ((Int × (List Int) × (List Int) × Unit)) × Unit)) × ((Bool × ((Int × (List Int) × (List Int) × Unit)) × Unit)) × ((Bool × ((Int × (List Int) × (List Int) × Unit)) × Unit)) × Unit)) × Unit)))) × (((List ((Int × ((Int × ((((Bool × ((Int × (List Int) × (List Int) × Unit)) × Unit)) × ((Bool × ((Int × (List Int) × (List Int) × Unit)) × Unit)) × ((Bool × ((Int × (List Int) × (List Int) × Unit)) × Unit)) × ((Bool × ((Int × (List Int) × (List Int) × Unit)) × Unit)) × Unit)) × Unit)) × Bool × Bool × Unit))) × Int × Unit)) × (((List ((Int × Int × Int × Int × Int × ((Bool × ((Int × (List Int) × (List Int) × Unit)) × Unit)) × ((Bool × ((Int × (List Int) × (List Int) × Unit)) × Unit)) × Int × (List ((Int × Int × Bool × Unit))) × Unit))) × Int × Unit)) × (List ((Int × Int × Bool × Unit))) × (List ((Int × Int × Unit))) × Int × Bool × Unit) => z.2.2.2.1) h, congrArg (fun z : (((Arr 8 ((Int × ((((Bool × ((Int × (List Int) × (List Int) × Unit)) × Unit)) × ((Bool × ((Int × (List Int) × (List Int) × Unit)) × Unit)) × ((Bool × ((Int × (List Int) × (List Int) × Unit)) × Unit)) × ((Bool × ((Int × (List Int) × (List Int) × Unit)) × Unit)) × Unit)) × Unit)))) × (((List ((Int × ((Int × ((((Bool × ((Int × (List Int) × (List Int) × Unit)) × Unit)) × ((Bool × ((Int × (List Int) × (List Int) × Unit)) × Unit)) × ((Bool × ((Int × (List Int) × (List Int) × Unit)) × Unit)) × ((Bool × ((Int × (List Int) × (List Int) × Unit)) × Unit)) × Unit)) × Unit)) × Bool × Bool × Unit))) × Int × Unit)) × (((List ((Int × Int × Int × Int × Int × ((Bool × ((Int × (List Int) × (List Int) × Unit)) × Unit)) × ((Bool × ((Int × (List Int) × (List Int) × Unit)) × Unit)) × Int × (List ((Int × Int × Bool × Unit))) × Unit))) × Int × Unit)) × (List ((Int × Int × Bool × Unit))) × (List ((Int × Int × Unit))) × Int × Bool × Unit) => z.2.2.2.2.1) h, congrArg (fun z : (((Arr 8 ((Int × ((((Bool × ((Int × (List Int) × (List Int) × Unit)) × Unit)) × ((Bool × ((Int × (List Int) × (List Int) × Unit)) × Unit)) × ((Bool × ((Int × (List Int) × (List Int) × Unit)) × Unit)) × ((Bool × ((Int × (List Int) × (List Int) × Unit)) × Unit)) × Unit)) × Unit)))) × (((List ((Int × ((Int × ((((Bool × ((Int × (List Int) × (List Int) × Unit)) × Unit)) × ((Bool × ((Int × (List Int) × (List Int) × Unit)) × Unit)) × ((Bool × ((Int × (List Int) × (List Int) × Unit)) × Unit)) × ((Bool × ((Int × (List Int) × (List Int) × Unit)) × Unit)) × Unit)) × Unit)) × Bool × Bool × Unit))) × Int × Unit)) × (((List ((Int × Int × Int × Int × Int × ((Bool × ((Int × (List Int) × (List Int) × Unit)) × Unit)) × ((Bool × ((Int × (List Int) × (List Int) × Unit)) × Unit)) × Int × (List ((Int × Int × Bool × Unit))) × Unit))) × Int × Unit)) × (List ((Int × Int × Bool × Unit))) × (List ((Int × Int × Unit))) × Int × Bool × Unit) => z.2.2.2.2.2.1) h, congrArg (fun z : (((Arr 8 ((Int × ((((Bool × ((Int × (List Int) × (List Int) × Unit)) × Unit)) × ((Bool × ((Int × (List Int) × (List Int) × Unit)) × Unit)) × ((Bool × ((Int × (List Int) × (List Int) × Unit)) × Unit)) × ((Bool × ((Int × (List Int) × (List Int) × Unit)) × Unit)) × Unit)) × Unit)))) × (((List ((Int × ((Int × ((((Bool × ((Int × (List Int) × (List Int) × Unit)) × Unit)) × ((Bool × ((Int × (List Int) × (List Int) × Unit)) × Unit)) × ((Bool × ((Int × (List Int) × (List Int) × Unit)) × Unit)) × ((Bool × ((Int × (List Int) × (List Int) × Unit)) × Unit)) × Unit)) × Unit)) × Bool × Bool × Unit))) × Int × Unit)) × (((List ((Int × Int × Int × Int × Int × ((Bool × ((Int × (List Int) × (List Int) × Unit)) × Unit)) × ((Bool × ((Int × (List Int) × (List Int) × Unit)) × Unit)) × Int × (List ((Int × Int × Bool × Unit))) × Unit))) × Int × Unit)) × (List ((Int × Int × Bool × Unit))) × (List ((Int × Int × Unit))) × Int × Bool × Unit) => z.2.2.2.2.2.2.1) h⟩, fun h => Prod.ext h.1 (Prod.ext h.2.1 (Prod.ext h.2.2.1 (Prod.ext h.2.2.2.1 (Prod.ext h.2.2.2.2.1 (Prod.ext h.2.2.2.2.2.1 (Prod.ext h.2.2.2.2.2.2 rfl))))))⟩)
  rw [key2]
  clear key2
  have e0 := laws_eqPageA8_ok x0 y0 hx.1
  try simp only at e0
  have e1 := laws_eqPool_ok x1 y1 hx.2.1
  try simp only at e1
  have e2 := laws_eqLog_ok x2 y2 hx.2.2.1
  try simp only at e2
  have e3 := laws_eqLiveS_ok x3 y3 hx.2.2.2.1
  try simp only at e3
  have e4 := laws_eqHoldS_ok x4 y4 hx.2.2.2.2.1
  try simp only at e4
  have e5 : (x5 != y5) = !decide (x5 = y5) := by cases h : decide (x5 = y5) <;> simp_all
  have e6 : (x6 == y6) = decide (x6 = y6) := by cases x6 <;> cases y6 <;> rfl
  clear hx
  generalize decide (x0 = y0) = p0 at *
  generalize decide (x1 = y1) = p1 at *
  generalize decide (x2 = y2) = p2 at *
  generalize decide (x3 = y3) = p3 at *
  generalize decide (x4 = y4) = p4 at *
  generalize decide (x5 = y5) = p5 at *
  generalize decide (x6 = y6) = p6 at *
  cases p0
  · skip
    have hC1 := cx [] (e0)
    have hC2 := cx [] (e1)
    have hC3 := cx [] (e2)
    have hC4 := cx [] (e3)
    have hC5 := cx [] (e4)
    have fy := And.intro hd (And.intro hd2 (And.intro e5 (e6)))
    refine goR ?_ ?_ ?_ ?_ ?_ ?_ ?_ ?_ ?_ ?_ ?_ ?_ ?_ ?_ ?_ ?_
    any_goals (first | exact True.intro | skip)
    all_goals (repeat (refine Wh.mk fun hcc => ?_))
    all_goals exact SW.ret (show RetQ _ _ _ _ _ _ _ from RetQ.y [0] [.bool false])
  · skip
    cases p1
    · skip
      have hC1 := cx [] (e0)
      have hC2 := cx [] (e1)
      have hC3 := cx [] (e2)
      have hC4 := cx [] (e3)
      have hC5 := cx [] (e4)
      have fy := And.intro hd (And.intro hd2 (And.intro e5 (e6)))
      refine goR ?_ ?_ ?_ ?_ ?_ ?_ ?_ ?_ ?_ ?_ ?_ ?_ ?_ ?_ ?_ ?_
      any_goals (first | exact True.intro | skip)
      all_goals (repeat (refine Wh.mk fun hcc => ?_))
      all_goals exact SW.ret (show RetQ _ _ _ _ _ _ _ from RetQ.y [0] [.bool false])
    · skip
      cases p2
      · skip
        have hC1 := cx [] (e0)
        have hC2 := cx [] (e1)
        have hC3 := cx [] (e2)
        have hC4 := cx [] (e3)
        have hC5 := cx [] (e4)
        have fy := And.intro hd (And.intro hd2 (And.intro e5 (e6)))
        refine goR ?_ ?_ ?_ ?_ ?_ ?_ ?_ ?_ ?_ ?_ ?_ ?_ ?_ ?_ ?_ ?_
        any_goals (first | exact True.intro | skip)
        all_goals (repeat (refine Wh.mk fun hcc => ?_))
        all_goals exact SW.ret (show RetQ _ _ _ _ _ _ _ from RetQ.y [0] [.bool false])
      · skip
        cases p3
        · skip
          have hC1 := cx [] (e0)
          have hC2 := cx [] (e1)
          have hC3 := cx [] (e2)
          have hC4 := cx [] (e3)
          have hC5 := cx [] (e4)
          have fy := And.intro hd (And.intro hd2 (And.intro e5 (e6)))
          refine goR ?_ ?_ ?_ ?_ ?_ ?_ ?_ ?_ ?_ ?_ ?_ ?_ ?_ ?_ ?_ ?_
          any_goals (first | exact True.intro | skip)
          all_goals (repeat (refine Wh.mk fun hcc => ?_))
          all_goals exact SW.ret (show RetQ _ _ _ _ _ _ _ from RetQ.y [0] [.bool false])
        · skip
          cases p4
          · skip
            have hC1 := cx [] (e0)
            have hC2 := cx [] (e1)
            have hC3 := cx [] (e2)
            have hC4 := cx [] (e3)
            have hC5 := cx [] (e4)
            have fy := And.intro hd (And.intro hd2 (And.intro e5 (e6)))
            refine goR ?_ ?_ ?_ ?_ ?_ ?_ ?_ ?_ ?_ ?_ ?_ ?_ ?_ ?_ ?_ ?_
            any_goals (first | exact True.intro | skip)
            all_goals (repeat (refine Wh.mk fun hcc => ?_))
            all_goals exact SW.ret (show RetQ _ _ _ _ _ _ _ from RetQ.y [0] [.bool false])
          · skip
            cases p5
            · skip
              have hC1 := cx [] (e0)
              have hC2 := cx [] (e1)
              have hC3 := cx [] (e2)
              have hC4 := cx [] (e3)
              have hC5 := cx [] (e4)
              have fy := And.intro hd (And.intro hd2 (And.intro e5 (e6)))
              refine goR ?_ ?_ ?_ ?_ ?_ ?_ ?_ ?_ ?_ ?_ ?_ ?_ ?_ ?_ ?_ ?_
              any_goals (first | exact True.intro | skip)
              all_goals (repeat (refine Wh.mk fun hcc => ?_))
              all_goals exact SW.ret (show RetQ _ _ _ _ _ _ _ from RetQ.y [0] [.bool false])
            · skip
              cases p6
              · skip
                have hC1 := cx [] (e0)
                have hC2 := cx [] (e1)
                have hC3 := cx [] (e2)
                have hC4 := cx [] (e3)
                have hC5 := cx [] (e4)
                have fy := And.intro hd (And.intro hd2 (And.intro e5 (e6)))
                refine goR ?_ ?_ ?_ ?_ ?_ ?_ ?_ ?_ ?_ ?_ ?_ ?_ ?_ ?_ ?_ ?_
                any_goals (first | exact True.intro | skip)
                all_goals (repeat (refine Wh.mk fun hcc => ?_))
                all_goals exact SW.ret (show RetQ _ _ _ _ _ _ _ from RetQ.y [0] [.bool false])
              · skip
                have hC1 := cx [] (e0)
                have hC2 := cx [] (e1)
                have hC3 := cx [] (e2)
                have hC4 := cx [] (e3)
                have hC5 := cx [] (e4)
                have fy := And.intro hd (And.intro hd2 (And.intro e5 (e6)))
                refine goR ?_ ?_ ?_ ?_ ?_ ?_ ?_ ?_ ?_ ?_ ?_ ?_ ?_ ?_ ?_ ?_
                any_goals (first | exact True.intro | skip)
                all_goals (repeat (refine Wh.mk fun hcc => ?_))
                all_goals exact SW.ret (show RetQ _ _ _ _ _ _ _ from RetQ.y [0] [.bool true])
end Q6

namespace Q6
open Go Go.Vm Go.Proofs
set_option maxHeartbeats 4000000
set_option synthInstance.maxSize 2000
set_option synthInstance.maxHeartbeats 400000
set_option maxRecDepth 10000
set_option linter.unusedSimpArgs false
set_option linter.unusedVariables false

set_option synthInstance.maxHeartbeats 4000000
set_option synthInstance.maxSize 20000
set_option maxHeartbeats 40000000
theorem take_thr {α : Type} [Enc α] (f : α → Int → α × Int) (l : List α) (k : Int) : List.take l.length ((thr f l k).1.map (Enc.o : α → T)) = (thr f l k).1.map Enc.o := by
  rw [List.take_of_length_le]; simp [thr_len]
attribute [local simp] thr_len take_thr
theorem vW_lim (x : EngT) (hx : Enc.lim 1048576 x) (i : Nat) : Enc.lim 1048576 (vW x i) := by
  refine ⟨by rw [vW_len]; omega, fun b hb => ?_⟩
  obtain ⟨j, hj, rfl⟩ := List.getElem_of_mem hb
  rw [vW_at]
  rw [vW_len] at hj
  split
  · exact slAt_lim x (j / 4) (j % 4) (by omega) hx
  · exact ⟨trivial, ⟨trivial, ⟨Nat.zero_le _, fun y (h : y ∈ ([] : List Int)) => by cases h⟩, ⟨Nat.zero_le _, fun y (h : y ∈ ([] : List Int)) => by cases h⟩, trivial⟩, trivial⟩
theorem viewLaw_ok (x : (((Arr 8 ((Int × ((((Bool × ((Int × (List Int) × (List Int) × Unit)) × Unit)) × ((Bool × ((Int × (List Int) × (List Int) × Unit)) × Unit)) × ((Bool × ((Int × (List Int) × (List Int) × Unit)) × Unit)) × ((Bool × ((Int × (List Int) × (List Int) × Unit)) × Unit)) × Unit)) × Unit)))) × (((List ((Int × ((Int × ((((Bool × ((Int × (List Int) × (List Int) × Unit)) × Unit)) × ((Bool × ((Int × (List Int) × (List Int) × Unit)) × Unit)) × ((Bool × ((Int × (List Int) × (List Int) × Unit)) × Unit)) × ((Bool × ((Int × (List Int) × (List Int) × Unit)) × Unit)) × Unit)) × Unit)) × Bool × Bool × Unit))) × Int × Unit)) × (((List ((Int × Int × Int × Int × Int × ((Bool × ((Int × (List Int) × (List Int) × Unit)) × Unit)) × ((Bool × ((Int × (List Int) × (List Int) × Unit)) × Unit)) × Int × (List ((Int × Int × Bool × Unit))) × Unit))) × Int × Unit)) × (List ((Int × Int × Bool × Unit))) × (List ((Int × Int × Unit))) × Int × Bool × Unit)) (hx : Enc.lim maxLen x) : CallR Try.prog 8 [.nd [.nd (x.1.l.map Enc.b), .nd [.sl .b (x.2.1.1.map Enc.b), .int .i64 x.2.1.2.1], .nd [.sl .b (x.2.2.1.1.map Enc.b), .int .i64 x.2.2.1.2.1], .sl .b (x.2.2.2.1.map Enc.b), .sl .b (x.2.2.2.2.1.map Enc.b), .int .i64 x.2.2.2.2.2.1, .bool x.2.2.2.2.2.2.1]] [] (.bool true) := by
  refine CallR.of_body (n := 69) (rs := [.tmp 2]) hY.ok Try.func8 rfl (by decide) (by simp [ioSizes, ioSz]) rfl rfl rfl (fun F => ?_)
  have fx := And.intro Y3 (And.intro Y4 (And.intro Y24 (And.intro Y27 (And.intro Y35 (And.intro Y37 (And.intro Y65 (And.intro Y67 (And.intro Y68 (And.intro Y70 (And.intro Y71 (And.intro Y72 (And.intro Y74 (And.intro Y75 (And.intro Y77 (And.intro Y78 (And.intro Y79 (And.intro Y81 (And.intro Y84 (And.intro Y86 (And.intro Y87 (And.intro Y88 (And.intro Y90 (And.intro Y91 (And.intro Y93 (And.intro Y94 (And.intro Y95 (And.intro Y97 (And.intro Y165 (And.intro Y169 (And.intro Y192 (And.intro Y197 (And.intro Y199 (And.intro Y201 (And.intro Y215 (Y218)))))))))))))))))))))))))))))))))))
  simp only [entryS, thawAL, thawA, thawAL_b, thawAL_tR, List.append_nil, List.nil_append, List.length_nil, Nat.add_zero]
  have hd := tRfacts x.1
  have hZ := laws_szEngine_ok x 1048576 hx (by decide) (by decide)
  by_cases hz : Enc.sz x 1048576 < 0
  · have hdz : decide (Enc.sz x 1048576 < 0) = true := decide_eq_true hz
    have hC1 := cx [] (hZ)
    have fy := And.intro nc4 (And.intro nc8 (And.intro wa (And.intro tn (And.intro hd (hdz)))))
    have hD1 := dx 10 [3, 1] [(0, 1)]
    refine goR ?_ ?_ ?_ ?_ ?_ ?_ ?_ ?_ ?_ ?_ ?_ ?_ ?_ ?_ ?_ ?_
    any_goals (first | exact True.intro | skip)
    all_goals (repeat (refine Wh.mk fun hcc => ?_))
    all_goals exact SW.ret (show RetQ _ _ _ _ _ _ _ from RetQ.y [0] [.bool true])
  have hdz : decide (Enc.sz x 1048576 < 0) = false := decide_eq_false hz
  have hl : Enc.lim 1048576 x := Enc.szLim x 1048576 (by omega) (by decide)
  have hT := laws_toEngine_ok x hl
  have hS := sView_ok x hl
  have hI := iView_ok x hl
  have hvl := vW_lim x hl 32
  have hE := laws_eqSlotS_ok (vW x 32) (vW x 32) hvl
  have hEe := laws_eqEngine_ok x x hl
  rw [decide_eq_true rfl] at hE hEe
  have hM := markEngine_own x 1 hl (by decide) (by decide)
  have hkp := engN_pos x hl
  have hk : decide (engN x 1 < 0) = false := decide_eq_false (by omega)
  have hO := markSlotS_ok (vW x 32) 1 hvl (by decide) (by decide)
  have hH := heldSlotS_ok (vW x 32) 1 hvl (by decide) (by decide)
  have hr := thr_rng mkSlot 16777216 (by decide) (vW x 32) 1 (fun y hy c => mkSlot_rng (hvl.2 y hy) c)
  have hq : decide ((thr mkSlot (vW x 32) 1).2 < 0) = false := by simp; omega
  have hvn := vW_len x 32
  generalize vW x 32 = V at *
  generalize engN x 1 = kk at *
  clear hr hvl hl hkp hx
  have hC1 := cx [] (hZ)
  have hC2 := cx [] (hT)
  have hC3 := cx [] (hS)
  have hC4 := cx [] (hI)
  have hC5 := cx [] (hE)
  have hC6 := cx [] (hEe)
  have hC7 := cx [.own 0] (hM)
  have hC8 := cx [.ios] (hO)
  have hC9 := cx [] (hH)
  have fy := And.intro nc4 (And.intro nc8 (And.intro wa (And.intro tn (And.intro hd (And.intro hdz (And.intro hk (hq)))))))
  have hD1 := dx 10 [3, 1] [(0, 1)]
  refine goR ?_ ?_ ?_ ?_ ?_ ?_ ?_ ?_ ?_ ?_ ?_ ?_ ?_ ?_ ?_ ?_
  any_goals (first | exact True.intro | skip)
  all_goals (repeat (refine Wh.mk fun hcc => ?_))
  all_goals exact SW.ret (show RetQ _ _ _ _ _ _ _ from RetQ.y [0] [.bool true])
end Q6

namespace Q6
open Go Go.Vm Go.Proofs
set_option maxHeartbeats 4000000
set_option synthInstance.maxSize 2000
set_option synthInstance.maxHeartbeats 400000
set_option maxRecDepth 10000
set_option linter.unusedSimpArgs false
set_option linter.unusedVariables false

set_option synthInstance.maxHeartbeats 4000000
set_option synthInstance.maxSize 20000
set_option maxHeartbeats 40000000
theorem dec4_11 : Dec Y 11 4 (Bool) := dec_ok (by kernel_rfl)
theorem dec3_11 : Dec Y 11 3 (Int) := dec_ok (by kernel_rfl)
theorem dec79_11 : Dec Y 11 79 (List ((Int × Int × Unit))) := dec_ok (by kernel_rfl)
theorem dec78_11 : Dec Y 11 78 (List ((Int × Int × Bool × Unit))) := dec_ok (by kernel_rfl)
theorem dec77_11 : Dec Y 11 77 (((List ((Int × Int × Int × Int × Int × ((Bool × ((Int × (List Int) × (List Int) × Unit)) × Unit)) × ((Bool × ((Int × (List Int) × (List Int) × Unit)) × Unit)) × Int × (List ((Int × Int × Bool × Unit))) × Unit))) × Int × Unit)) := dec_ok (by kernel_rfl)
theorem dec3_10 : Dec Y 10 3 (Int) := dec_ok (by kernel_rfl)
theorem dec4_8 : Dec Y 8 4 (Bool) := dec_ok (by kernel_rfl)
theorem dec67_6 : Dec Y 6 67 ((Bool × ((Int × (List Int) × (List Int) × Unit)) × Unit)) := dec_ok (by kernel_rfl)
theorem dec68_7 : Dec Y 7 68 ((((Bool × ((Int × (List Int) × (List Int) × Unit)) × Unit)) × ((Bool × ((Int × (List Int) × (List Int) × Unit)) × Unit)) × ((Bool × ((Int × (List Int) × (List Int) × Unit)) × Unit)) × ((Bool × ((Int × (List Int) × (List Int) × Unit)) × Unit)) × Unit)) := dec_tup (by rw [Y68]) (decL_cons dec67_6 (decL_cons dec67_6 (decL_cons dec67_6 (decL_cons dec67_6 (decL_nil)))))
theorem dec3_7 : Dec Y 7 3 (Int) := dec_ok (by kernel_rfl)
theorem dec70_8 : Dec Y 8 70 ((Int × ((((Bool × ((Int × (List Int) × (List Int) × Unit)) × Unit)) × ((Bool × ((Int × (List Int) × (List Int) × Unit)) × Unit)) × ((Bool × ((Int × (List Int) × (List Int) × Unit)) × Unit)) × ((Bool × ((Int × (List Int) × (List Int) × Unit)) × Unit)) × Unit)) × Unit)) := dec_st (by rw [Y70]) (decL_cons dec3_7 (decL_cons dec68_7 (decL_nil)))
theorem dec3_8 : Dec Y 8 3 (Int) := dec_ok (by kernel_rfl)
theorem dec215_9 : Dec Y 9 215 ((Int × ((Int × ((((Bool × ((Int × (List Int) × (List Int) × Unit)) × Unit)) × ((Bool × ((Int × (List Int) × (List Int) × Unit)) × Unit)) × ((Bool × ((Int × (List Int) × (List Int) × Unit)) × Unit)) × ((Bool × ((Int × (List Int) × (List Int) × Unit)) × Unit)) × Unit)) × Unit)) × Bool × Bool × Unit)) := dec_st (by rw [Y215]) (decL_cons dec3_8 (decL_cons dec70_8 (decL_cons dec4_8 (decL_cons dec4_8 (decL_nil)))))
theorem dec72_10 : Dec Y 10 72 (List ((Int × ((Int × ((((Bool × ((Int × (List Int) × (List Int) × Unit)) × Unit)) × ((Bool × ((Int × (List Int) × (List Int) × Unit)) × Unit)) × ((Bool × ((Int × (List Int) × (List Int) × Unit)) × Unit)) × ((Bool × ((Int × (List Int) × (List Int) × Unit)) × Unit)) × Unit)) × Unit)) × Bool × Bool × Unit))) := dec_sl dec215_9 (by rw [Y72])
theorem dec74_11 : Dec Y 11 74 (((List ((Int × ((Int × ((((Bool × ((Int × (List Int) × (List Int) × Unit)) × Unit)) × ((Bool × ((Int × (List Int) × (List Int) × Unit)) × Unit)) × ((Bool × ((Int × (List Int) × (List Int) × Unit)) × Unit)) × ((Bool × ((Int × (List Int) × (List Int) × Unit)) × Unit)) × Unit)) × Unit)) × Bool × Bool × Unit))) × Int × Unit)) := dec_st (by rw [Y74]) (decL_cons dec72_10 (decL_cons dec3_10 (decL_nil)))
theorem dec67_8 : Dec Y 8 67 ((Bool × ((Int × (List Int) × (List Int) × Unit)) × Unit)) := dec_ok (by kernel_rfl)
theorem dec68_9 : Dec Y 9 68 ((((Bool × ((Int × (List Int) × (List Int) × Unit)) × Unit)) × ((Bool × ((Int × (List Int) × (List Int) × Unit)) × Unit)) × ((Bool × ((Int × (List Int) × (List Int) × Unit)) × Unit)) × ((Bool × ((Int × (List Int) × (List Int) × Unit)) × Unit)) × Unit)) := dec_tup (by rw [Y68]) (decL_cons dec67_8 (decL_cons dec67_8 (decL_cons dec67_8 (decL_cons dec67_8 (decL_nil)))))
theorem dec3_9 : Dec Y 9 3 (Int) := dec_ok (by kernel_rfl)
theorem dec70_10 : Dec Y 10 70 ((Int × ((((Bool × ((Int × (List Int) × (List Int) × Unit)) × Unit)) × ((Bool × ((Int × (List Int) × (List Int) × Unit)) × Unit)) × ((Bool × ((Int × (List Int) × (List Int) × Unit)) × Unit)) × ((Bool × ((Int × (List Int) × (List Int) × Unit)) × Unit)) × Unit)) × Unit)) := dec_st (by rw [Y70]) (decL_cons dec3_9 (decL_cons dec68_9 (decL_nil)))
theorem dec71_11 : Dec Y 11 71 ((Arr 8 ((Int × ((((Bool × ((Int × (List Int) × (List Int) × Unit)) × Unit)) × ((Bool × ((Int × (List Int) × (List Int) × Unit)) × Unit)) × ((Bool × ((Int × (List Int) × (List Int) × Unit)) × Unit)) × ((Bool × ((Int × (List Int) × (List Int) × Unit)) × Unit)) × Unit)) × Unit)))) := dec_arr dec70_10 (by rw [Y71])
theorem dec81_12 : Dec Y 12 81 ((((Arr 8 ((Int × ((((Bool × ((Int × (List Int) × (List Int) × Unit)) × Unit)) × ((Bool × ((Int × (List Int) × (List Int) × Unit)) × Unit)) × ((Bool × ((Int × (List Int) × (List Int) × Unit)) × Unit)) × ((Bool × ((Int × (List Int) × (List Int) × Unit)) × Unit)) × Unit)) × Unit)))) × (((List ((Int × ((Int × ((((Bool × ((Int × (List Int) × (List Int) × Unit)) × Unit)) × ((Bool × ((Int × (List Int) × (List Int) × Unit)) × Unit)) × ((Bool × ((Int × (List Int) × (List Int) × Unit)) × Unit)) × ((Bool × ((Int × (List Int) × (List Int) × Unit)) × Unit)) × Unit)) × Unit)) × Bool × Bool × Unit))) × Int × Unit)) × (((List ((Int × Int × Int × Int × Int × ((Bool × ((Int × (List Int) × (List Int) × Unit)) × Unit)) × ((Bool × ((Int × (List Int) × (List Int) × Unit)) × Unit)) × Int × (List ((Int × Int × Bool × Unit))) × Unit))) × Int × Unit)) × (List ((Int × Int × Bool × Unit))) × (List ((Int × Int × Unit))) × Int × Bool × Unit)) := dec_st (by rw [Y81]) (decL_cons dec71_11 (decL_cons dec74_11 (decL_cons dec77_11 (decL_cons dec78_11 (decL_cons dec79_11 (decL_cons dec3_11 (decL_cons dec4_11 (decL_nil))))))))
end Q6

namespace Q6.View
open Go Go.Vm Go.Proofs
set_option maxHeartbeats 4000000
set_option synthInstance.maxSize 2000
set_option synthInstance.maxHeartbeats 400000
set_option maxRecDepth 10000
set_option linter.unusedSimpArgs false
set_option linter.unusedVariables false

open Go.Proofs.Ytjodaapkfknfnaa
open Go.ChangeShapes Go.WideShapes Go.ChangeAt Go.RowKit
theorem own : ownKnob Try.prog.godebug = none := by kernel_rfl
theorem laidOut : laidOutB Try.prog = true := by kernel_rfl
theorem plain81 : plainT Y 12 81 = true := by kernel_rfl

set_option maxRecDepth 100000 in
theorem lifted (os : Os) (started : os.Started) (H : Type) (enc : TypeId × Value → H) :
    ReturnsInHanded {} Try.checked os 8 .any (Rows.fnExactViewSpec.pre6 enc Try.prog Try.f8 Rows.fnExactViewRow.domain false) (Rows.fnExactViewSpec.post enc Try.prog Try.f8 false true false false) := by
  refine returnsInHanded_of_change (C := Try.checked) own started (by kernel_rfl) Try.func8
    (ChangeSpec.witness6 (enc := enc) (C := Try.checked) false ⟨#[], #[.agg #[.int .i64 0, .bool false, .int .i64 0, .slice none 0 0, .slice none 0 0, .bool false, .int .i64 0, .slice none 0 0, .slice none 0 0, .bool false, .int .i64 0, .slice none 0 0, .slice none 0 0, .bool false, .int .i64 0, .slice none 0 0, .slice none 0 0, .int .i64 0, .bool false, .int .i64 0, .slice none 0 0, .slice none 0 0, .bool false, .int .i64 0, .slice none 0 0, .slice none 0 0, .bool false, .int .i64 0, .slice none 0 0, .slice none 0 0, .bool false, .int .i64 0, .slice none 0 0, .slice none 0 0, .int .i64 0, .bool false, .int .i64 0, .slice none 0 0, .slice none 0 0, .bool false, .int .i64 0, .slice none 0 0, .slice none 0 0, .bool false, .int .i64 0, .slice none 0 0, .slice none 0 0, .bool false, .int .i64 0, .slice none 0 0, .slice none 0 0, .int .i64 0, .bool false, .int .i64 0, .slice none 0 0, .slice none 0 0, .bool false, .int .i64 0, .slice none 0 0, .slice none 0 0, .bool false, .int .i64 0, .slice none 0 0, .slice none 0 0, .bool false, .int .i64 0, .slice none 0 0, .slice none 0 0, .int .i64 0, .bool false, .int .i64 0, .slice none 0 0, .slice none 0 0, .bool false, .int .i64 0, .slice none 0 0, .slice none 0 0, .bool false, .int .i64 0, .slice none 0 0, .slice none 0 0, .bool false, .int .i64 0, .slice none 0 0, .slice none 0 0, .int .i64 0, .bool false, .int .i64 0, .slice none 0 0, .slice none 0 0, .bool false, .int .i64 0, .slice none 0 0, .slice none 0 0, .bool false, .int .i64 0, .slice none 0 0, .slice none 0 0, .bool false, .int .i64 0, .slice none 0 0, .slice none 0 0, .int .i64 0, .bool false, .int .i64 0, .slice none 0 0, .slice none 0 0, .bool false, .int .i64 0, .slice none 0 0, .slice none 0 0, .bool false, .int .i64 0, .slice none 0 0, .slice none 0 0, .bool false, .int .i64 0, .slice none 0 0, .slice none 0 0, .int .i64 0, .bool false, .int .i64 0, .slice none 0 0, .slice none 0 0, .bool false, .int .i64 0, .slice none 0 0, .slice none 0 0, .bool false, .int .i64 0, .slice none 0 0, .slice none 0 0, .bool false, .int .i64 0, .slice none 0 0, .slice none 0 0, .slice none 0 0, .int .i64 0, .slice none 0 0, .int .i64 0, .slice none 0 0, .slice none 0 0, .int .i64 0, .bool false]], []⟩ 8 (by kernel_rfl) (by kernel_rfl) (by kernel_rfl) (by kernel_rfl)) ?_
  intro W base args ds gs before hval0 hW hcnd _
  have hval : ∀ (j : Nat) t v, Try.f8.params[j]? = some t → args[j]? = some v → Value.okWide Try.prog W .any base t v := hval0
  have hW' := hW
  obtain ⟨p, q, hA0, hV, rfl, _, _⟩ := hW
  have hA : DataW.TrodAll enc Try.prog W 0 (fun _ => true) true Try.f8.params.toList args.toList ds p := hA0
  have hV' : DataW.TrodVars enc Try.prog W (fun _ => true) [] gs q := hV
  obtain ⟨rfl, rfl⟩ := trodVars_none hV'
  rw [Try.params8] at hA hval
  have one := trodAll_one hA
  refine (calls_of hY 12 (by simp [plain81]) hA (fun j t v h1 h2 => hval j t v (by simpa using h1) (by simpa using h2)) ?_).mono ?_
  · intro us hu ht
    match us, hu with
    | [u0], _ =>
      obtain ⟨x0, rfl, hx0⟩ := dec81_12 u0 (ht 0 81 u0 rfl rfl)
      exact viewLaw_ok x0 hx0
  · rintro e W' ⟨rfl, h1, h2⟩
    obtain ⟨v, d, _, rfl, _⟩ := one
    exact ⟨_, rfl, post_true (tb := 4) laidOut (by rw [Try.params8]; exact of_decide_eq_true (by kernel_rfl)) rfl hW' rfl rfl rfl rfl (by kernel_rfl) h1 h2⟩

theorem fnExactView_holds : Rows.FnExactViewSaid :=
  OpenClaim.holds_of_wide 8 Try.f8 rfl rfl rfl rfl rfl rfl rfl ⟨rfl, rfl, rfl, rfl, rfl⟩ rfl rfl rfl rfl rfl (by kernel_rfl) Try.func8 (by kernel_rfl)
    (of_decide_eq_true (by kernel_rfl)) (by unfold Func.isWrapper; first | (rw [if_pos (by decide +kernel)]; kernel_rfl) | (rw [if_neg (by decide +kernel)]; exact ⟨rfl, rfl⟩))
    (fun os started H enc _ => lifted os started H enc)
end Q6.View

namespace Go.Proofs.Ytjodaapkfknfnaa
/-- This proves the statement FnExactView: for every engine, the program's View returns the slots that the reference's View returns, leaves its argument as it was, and returns memory of its own. -/
theorem fnExactView_holds : Rows.FnExactViewSaid := Q6.View.fnExactView_holds
#print axioms fnExactView_holds
end Go.Proofs.Ytjodaapkfknfnaa
