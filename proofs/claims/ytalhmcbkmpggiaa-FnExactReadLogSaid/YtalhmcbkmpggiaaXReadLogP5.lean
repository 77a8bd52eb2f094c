/- FnExactReadLog: the program's ReadLog returns what the reference's returns, for all arguments. -/
import Derived.Test.YtalhmcbkmpggiaaXReadLogP1
import Derived.Test.YtalhmcbkmpggiaaXReadLogP3
import Derived.Test.YtalhmcbkmpggiaaXReadLogP4
import Derived.Test.YtalhmcbkmpggiaaVm5
import Derived.Test.YtalhmcbkmpggiaaXReadLogP2
import Derived.Test.YtalhmcbkmpggiaaVm4
import Derived.Test.YtalhmcbkmpggiaaRows
import Derived.ProofKit
set_option linter.all false

namespace Q6
open Go Go.Vm Go.Proofs
set_option maxHeartbeats 4000000
set_option synthInstance.maxSize 2000
set_option synthInstance.maxHeartbeats 400000
set_option maxRecDepth 10000
set_option linter.unusedSimpArgs false
set_option linter.unusedVariables false

open Go.By
abbrev LogT := ((List ((Int × Int × Int × Int × Int × ((Bool × ((Int × (List Int) × (List Int) × Unit)) × Unit)) × ((Bool × ((Int × (List Int) × (List Int) × Unit)) × Unit)) × Int × (List ((Int × Int × Bool × Unit))) × Unit))) × Int × Unit)

def rlI (l : List UInt8) : Nat → List RecT → Nat → List RecT × Nat
  | 0, acc, a => (acc, a)
  | n + 1, acc, a => if (decide ((unfI l a).2.2 = 0) && ((grecI (unfI l a).1).2 && decide ((grecI (unfI l a).1).1.1 = (acc.length : Int) + 1))) = true then rlI l n (acc ++ [(grecI (unfI l a).1).1]) (unfI l a).2.1 else (acc, a)
def rlS (l : List UInt8) : Nat → List RecT → Nat → List RecT × Nat
  | 0, acc, a => (acc, a)
  | n + 1, acc, a => if (decide ((unfS l a).2.2 = 0) && ((grecS (unfS l a).1).2 && decide ((grecS (unfS l a).1).1.1 = (acc.length : Int) + 1))) = true then rlS l n (acc ++ [(grecS (unfS l a).1).1]) (unfS l a).2.1 else (acc, a)
def rlogI (l : List UInt8) : LogT × Nat := (((rlI l 4000 [] 0).1, ((rlI l 4000 [] 0).1.length : Int), ()), (rlI l 4000 [] 0).2)
def rlogS (l : List UInt8) : LogT × Nat := (((rlS l 4000 [] 0).1, ((rlS l 4000 [] 0).1.length : Int), ()), (rlS l 4000 [] 0).2)

theorem rlogI_ok (l : List UInt8) (hl : l.length ≤ 1048576) : CallR Try.prog 50 [.sl .b (l.map Enc.b)] [] (.tup [.nd [.ow 15 ((((rlogI l).1).1).map Enc.o), .int .i64 (((rlogI l).1).2.1)], .int .i64 ((rlogI l).2 : Nat)]) := by
  refine CallR.of_body (n := 56) (rs := [.cell 2 68, .tmp 3]) hY.ok Try.func50 rfl (by decide) rfl rfl rfl rfl (fun F => ?_)
  have fx := And.intro Y1 (And.intro Y2 (And.intro Y3 (And.intro Y4 (And.intro Y5 (And.intro Y24 (And.intro Y34 (And.intro Y36 (And.intro Y38 (And.intro Y39 (And.intro Y41 (And.intro Y66 (And.intro Y68 (Y91)))))))))))))
  have fy := Nat.add_zero
  refine goN ?_ ?_ ?_ ?_ ?_ ?_ ?_ ?_ ?_ ?_ ?_ ?_ ?_ ?_ ?_ ?_
  any_goals (first | exact True.intro | skip)
  skip
  unfold rlogI
  generalize hT0 : rlI l 4000 [] 0 = T0
  refine SW.loop (fun x : List RecT × Nat => ⟨[.sl .b (l.map Enc.b), .undef, .ptr 1 0 [] 0, .undef, .ptr 2 0 [] 0, .int .i64 (x.2 : Nat), .undef, .undef, .undef, .undef, .undef, .undef, .undef, .undef, .undef, .undef, .undef, .undef, .undef, .undef, .undef, .undef, .undef, .undef, .undef, .undef, .undef, .undef, .undef, .undef, .undef, .undef, .undef, .undef, .undef, .undef, .undef, .undef, .undef, .undef, .undef, .undef, .undef, .undef, .undef, .undef, .undef, .undef, .undef, .undef, .undef, .undef, .undef, .undef, .undef, .undef], [[], [.var (.nd [.nils 15, .int .i64 0])], [.var (.nd [.ref 3 0 0 x.1.length, .int .i64 0])], [.arr 15 (x.1.map Enc.o) false]]⟩)
    (fun N x => N = 4000 - x.1.length ∧ x.1.length ≤ 4000 ∧ x.2 ≤ l.length ∧ rlI l (4000 - x.1.length) x.1 x.2 = T0) (n := 4000) (x := ([], 0)) ?_ ⟨rfl, by decide, Nat.zero_le _, hT0⟩ ?_
  · skip
    refine Norm.trans (Norm.forget (u := .nd [.ow 15 [], .int .i64 0]) 2 0 rfl (.inr ⟨_, rfl, ⟨_, _, rfl, .inr (.inr rfl), ⟨_, _, rfl, rfl, rfl⟩⟩⟩)) ?_
    simp only [Heap.put, List.getElem?_cons_zero, List.getElem?_cons_succ, List.set_cons_succ, List.set_cons_zero]
    refine Norm.trans (Norm.expelVar 2 0 rfl) ?_
    simp only [Heap.put, List.getElem?_cons_zero, List.getElem?_cons_succ, List.set_cons_succ, List.set_cons_zero, thawA, thawAL, List.length_cons, List.length_nil, Nat.reduceAdd, List.nil_append, List.append_nil, List.cons_append, Nat.zero_add]
    exact Norm.re [0, 1, 2, 3] (by decide) rfl (by first | (simp only [eq_self, heapFits, rowFits, obFits, List.getElem?_cons_zero, List.getElem?_cons_succ, renL_o, renL_b, true_and, and_true, and_self]; done) | simp [-List.map_append, heapFits, rowFits, obFits, T.ren, renL]) (by simp [tmFits, T.ren])
  rintro N ⟨acc, a⟩ ⟨hN, hi, ha, hT⟩
  clear hT0
  simp only at hN hi ha hT ⊢
  have fy := Nat.add_zero
  refine goS ?_
  refine SW.cond rfl (fun hc => ?_) (fun hc => ?_)
  · have hlt : acc.length < 4000 := by simp at hc; omega
    rw [show 4000 - acc.length = (4000 - (acc.length + 1)) + 1 by omega, rlI] at hT
    have hU := unframeI_ok l a hl ha
    have hle := unfI_le l a ha
    have hG := grecI_ok (unfI l a).1 (by omega)
    generalize unfI l a = u at *
    obtain ⟨bd, e, c⟩ := u
    simp only at hU hle hG hT
    generalize grecI bd = g at *
    obtain ⟨⟨x1, x2, x3, x4, x5, ⟨p', ⟨u', A, B, ⟨⟩⟩, ⟨⟩⟩, ⟨q', ⟨v', C, D, ⟨⟩⟩, ⟨⟩⟩, x8, E, ⟨⟩⟩, ok⟩ := g
    simp only at hG hT
    have hcn : (c != 0) = !decide (c = 0) := by by_cases h : c = 0 <;> simp [h]
    have hwx : IntKind.i64.wrap ((acc.length : Int) + 1) = (acc.length : Int) + 1 := wrap64 _ (by omega) (by omega)
    have hxn : (x1 != (acc.length : Int) + 1) = !decide (x1 = (acc.length : Int) + 1) := by by_cases h : x1 = (acc.length : Int) + 1 <;> simp [h]
    have hx1 : decide (x1 = (acc.length : Int) + 1) = true → x1 = (acc.length : Int) + 1 := fun h => of_decide_eq_true h
    generalize decide (c = 0) = p at *
    generalize decide (x1 = (acc.length : Int) + 1) = q at *
    cases p
    · skip
      simp only [Bool.false_and, Bool.and_false, Bool.true_and, Bool.and_self, Bool.false_eq_true, if_false] at hT
      subst hT
      clear hle hx1
      have hC1 := cx [] (hU)
      have hC2 := cx [] (hG)
      have fy := And.intro hcn (And.intro hwx (hxn))
      refine goR ?_ ?_ ?_ ?_ ?_ ?_ ?_ ?_ ?_ ?_ ?_ ?_ ?_ ?_ ?_ ?_
      any_goals (first | exact True.intro | skip)
      all_goals (repeat (refine Wh.mk fun hcc => ?_))
      all_goals exact SW.ret (show RetQ _ _ _ _ _ _ _ from RetQ.y [0, 0] [.nd [.ow 15 (acc.map Enc.o), .int .i64 (acc.length : Nat)], .int .i64 (a : Nat)])
    · cases ok
      · skip
        simp only [Bool.false_and, Bool.and_false, Bool.true_and, Bool.and_self, Bool.false_eq_true, if_false] at hT
        subst hT
        clear hle hx1
        have hC1 := cx [] (hU)
        have hC2 := cx [] (hG)
        have fy := And.intro hcn (And.intro hwx (hxn))
        refine goR ?_ ?_ ?_ ?_ ?_ ?_ ?_ ?_ ?_ ?_ ?_ ?_ ?_ ?_ ?_ ?_
        any_goals (first | exact True.intro | skip)
        all_goals (repeat (refine Wh.mk fun hcc => ?_))
        all_goals exact SW.ret (show RetQ _ _ _ _ _ _ _ from RetQ.y [0, 0] [.nd [.ow 15 (acc.map Enc.o), .int .i64 (acc.length : Nat)], .int .i64 (a : Nat)])
      · cases q
        · skip
          simp only [Bool.false_and, Bool.and_false, Bool.true_and, Bool.and_self, Bool.false_eq_true, if_false] at hT
          subst hT
          clear hle hx1
          have hC1 := cx [] (hU)
          have hC2 := cx [] (hG)
          have fy := And.intro hcn (And.intro hwx (hxn))
          refine goR ?_ ?_ ?_ ?_ ?_ ?_ ?_ ?_ ?_ ?_ ?_ ?_ ?_ ?_ ?_ ?_
          any_goals (first | exact True.intro | skip)
          all_goals (repeat (refine Wh.mk fun hcc => ?_))
          all_goals exact SW.ret (show RetQ _ _ _ _ _ _ _ from RetQ.y [0, 0] [.nd [.ow 15 (acc.map Enc.o), .int .i64 (acc.length : Nat)], .int .i64 (a : Nat)])
        · simp only [Bool.and_self, if_true] at hT
          have hb1 := fun (own_ e1_ : Nat) => build1 (Y := Y) (own := own_) (v := .nd [.int .i64 x1, .int .i64 x2, .int .i64 x3, .int .i64 x4, .int .i64 x5, .nd [.bool p', .nd [.int .i64 u', .ref e1_ 0 0 A.length, .ref e1_ 1 0 B.length]], .nd [.bool q', .nd [.int .i64 v', .ref e1_ 2 0 C.length, .ref e1_ 3 0 D.length]], .int .i64 x8, .ref e1_ 4 0 E.length]) (t := 66) Y66 Y41 rfl (by decide) rfl rfl rfl
          have hap := (fun (e1_ own_ e_ j_ e2_ j2_ : Nat) (H_ : Heap) (q1 : H_.at e_ j_ = some (.arr 15 (acc.map Enc.o) false)) (q2 : H_.at e2_ j2_ = some (.arr 15 [.nd [.int .i64 x1, .int .i64 x2, .int .i64 x3, .int .i64 x4, .int .i64 x5, .nd [.bool p', .nd [.int .i64 u', .ref e1_ 0 0 A.length, .ref e1_ 1 0 B.length]], .nd [.bool q', .nd [.int .i64 v', .ref e1_ 2 0 C.length, .ref e1_ 3 0 D.length]], .int .i64 x8, .ref e1_ 4 0 E.length]] false)) => append_run1 (Y := Y) (own := own_) (t := 66) (u := 66) (e := e_) (j := j_) (off := 0) (n := acc.length) (e2 := e2_) (j2 := j2_) (x := .nd [.int .i64 x1, .int .i64 x2, .int .i64 x3, .int .i64 x4, .int .i64 x5, .nd [.bool p', .nd [.int .i64 u', .ref e1_ 0 0 A.length, .ref e1_ 1 0 B.length]], .nd [.bool q', .nd [.int .i64 v', .ref e1_ 2 0 C.length, .ref e1_ 3 0 D.length]], .int .i64 x8, .ref e1_ 4 0 E.length]) (H := H_) Y66 Y66 Y41 rfl (by decide) q1 q2 (by simp) (by omega) rfl rfl) 5
          simp only [List.drop_zero, take_map_len] at hap
          have hC1 := cx [] (hU)
          have hC2 := cx [] (hG)
          have fy := And.intro hcn (And.intro hwx (And.intro hxn (And.intro hap (hb1))))
          refine goR ?_ ?_ ?_ ?_ ?_ ?_ ?_ ?_ ?_ ?_ ?_ ?_ ?_ ?_ ?_ ?_
          any_goals (first | exact True.intro | skip)
          all_goals (repeat (refine Wh.mk fun hcc => ?_))
          refine ⟨N - 1, (acc ++ [(x1, x2, x3, x4, x5, (p', (u', A, B, ()), ()), (q', (v', C, D, ()), ()), x8, E, ())], e), by omega, ⟨by simp only [List.length_append, List.length_cons, List.length_nil]; omega, by simp only [List.length_append, List.length_cons, List.length_nil]; omega, hle.2, by simp only [List.length_append, List.length_cons, List.length_nil]; exact hT⟩, ?_⟩
          have hset : ∀ Z : T, ((acc.map Enc.o : List T) ++ ([.nd [.int .i64 x1, .int .i64 x2, .int .i64 x3, .int .i64 x4, .int .i64 x5, .nd [.bool p', .nd [.int .i64 u', .ref 5 0 0 A.length, .ref 5 1 0 B.length]], .nd [.bool q', .nd [.int .i64 v', .ref 5 2 0 C.length, .ref 5 3 0 D.length]], .int .i64 x8, .ref 5 4 0 E.length]] : List T)).set acc.length Z = acc.map Enc.o ++ [Z] := fun Z => by rw [List.set_append_right _ _ (by simp)]; simp
          have hk : ((acc.map Enc.o : List T) ++ ([.nd [.int .i64 x1, .int .i64 x2, .int .i64 x3, .int .i64 x4, .int .i64 x5, .nd [.bool p', .nd [.int .i64 u', .ref 5 0 0 A.length, .ref 5 1 0 B.length]], .nd [.bool q', .nd [.int .i64 v', .ref 5 2 0 C.length, .ref 5 3 0 D.length]], .int .i64 x8, .ref 5 4 0 E.length]] : List T))[acc.length]? = some (.nd [.int .i64 x1, .int .i64 x2, .int .i64 x3, .int .i64 x4, .int .i64 x5, .nd [.bool p', .nd [.int .i64 u', .ref 5 0 0 A.length, .ref 5 1 0 B.length]], .nd [.bool q', .nd [.int .i64 v', .ref 5 2 0 C.length, .ref 5 3 0 D.length]], .int .i64 x8, .ref 5 4 0 E.length]) := by rw [List.getElem?_append_right (by simp)]; simp
          refine Norm.trans (Norm.soakArr 8 0 acc.length rfl hk) ?_
          simp only [soakS, soakL, Heap.at, Heap.put, List.getElem?_cons_zero, List.getElem?_cons_succ, List.set_cons_zero, List.set_cons_succ, List.length_map, and_self, if_true, hset]
          refine Norm.re [0, 1, 2, 8] (by decide) rfl ?_ (by simp [tmFits, T.ren])
          rw [show (acc ++ [(x1, x2, x3, x4, x5, (p', (u', A, B, ()), ()), (q', (v', C, D, ()), ()), x8, E, ())] : List RecT).map Enc.o = acc.map Enc.o ++ [Enc.o ((x1, x2, x3, x4, x5, (p', (u', A, B, ()), ()), (q', (v', C, D, ()), ()), x8, E, ()) : RecT)] by rw [List.map_append]; rfl]
          skip
          simp [heapFits, rowFits, obFits, T.ren, renL, renL_app, renL_o]
          all_goals rfl
  · have hge : acc.length = 4000 := by
      have : ¬ acc.length < 4000 := by simp at hc; omega
      omega
    rw [hge, Nat.sub_self] at hT
    simp only [rlI] at hT
    subst hT
    have fy := Nat.add_zero
    refine goR ?_ ?_ ?_ ?_ ?_ ?_ ?_ ?_ ?_ ?_ ?_ ?_ ?_ ?_ ?_ ?_
    any_goals (first | exact True.intro | skip)
    all_goals (repeat (refine Wh.mk fun hcc => ?_))
    all_goals exact SW.ret (show RetQ _ _ _ _ _ _ _ from RetQ.y [0, 0] [.nd [.ow 15 (acc.map Enc.o), .int .i64 (acc.length : Nat)], .int .i64 (a : Nat)])
theorem rlogS_ok (l : List UInt8) (hl : l.length ≤ 1048576) : CallR Try.prog 49 [.sl .b (l.map Enc.b)] [] (.tup [.nd [.ow 15 ((((rlogS l).1).1).map Enc.o), .int .i64 (((rlogS l).1).2.1)], .int .i64 ((rlogS l).2 : Nat)]) := by
  refine CallR.of_body (n := 56) (rs := [.cell 2 68, .tmp 3]) hY.ok Try.func49 rfl (by decide) rfl rfl rfl rfl (fun F => ?_)
  have fx := And.intro Y1 (And.intro Y2 (And.intro Y3 (And.intro Y4 (And.intro Y5 (And.intro Y24 (And.intro Y34 (And.intro Y36 (And.intro Y38 (And.intro Y39 (And.intro Y41 (And.intro Y66 (And.intro Y68 (Y91)))))))))))))
  have fy := Nat.add_zero
  refine goN ?_ ?_ ?_ ?_ ?_ ?_ ?_ ?_ ?_ ?_ ?_ ?_ ?_ ?_ ?_ ?_
  any_goals (first | exact True.intro | skip)
  skip
  unfold rlogS
  generalize hT0 : rlS l 4000 [] 0 = T0
  refine SW.loop (fun x : List RecT × Nat => ⟨[.sl .b (l.map Enc.b), .undef, .ptr 1 0 [] 0, .undef, .ptr 2 0 [] 0, .int .i64 (x.2 : Nat), .undef, .undef, .undef, .undef, .undef, .undef, .undef, .undef, .undef, .undef, .undef, .undef, .undef, .undef, .undef, .undef, .undef, .undef, .undef, .undef, .undef, .undef, .undef, .undef, .undef, .undef, .undef, .undef, .undef, .undef, .undef, .undef, .undef, .undef, .undef, .undef, .undef, .undef, .undef, .undef, .undef, .undef, .undef, .undef, .undef, .undef, .undef, .undef, .undef, .undef], [[], [.var (.nd [.nils 15, .int .i64 0])], [.var (.nd [.ref 3 0 0 x.1.length, .int .i64 0])], [.arr 15 (x.1.map Enc.o) false]]⟩)
    (fun N x => N = 4000 - x.1.length ∧ x.1.length ≤ 4000 ∧ x.2 ≤ l.length ∧ rlS l (4000 - x.1.length) x.1 x.2 = T0) (n := 4000) (x := ([], 0)) ?_ ⟨rfl, by decide, Nat.zero_le _, hT0⟩ ?_
  · skip
    refine Norm.trans (Norm.forget (u := .nd [.ow 15 [], .int .i64 0]) 2 0 rfl (.inr ⟨_, rfl, ⟨_, _, rfl, .inr (.inr rfl), ⟨_, _, rfl, rfl, rfl⟩⟩⟩)) ?_
    simp only [Heap.put, List.getElem?_cons_zero, List.getElem?_cons_succ, List.set_cons_succ, List.set_cons_zero]
    refine Norm.trans (Norm.expelVar 2 0 rfl) ?_
    simp only [Heap.put, List.getElem?_cons_zero, List.getElem?_cons_succ, List.set_cons_succ, List.set_cons_zero, thawA, thawAL, List.length_cons, List.length_nil, Nat.reduceAdd, List.nil_append, List.append_nil, List.cons_append, Nat.zero_add]
    exact Norm.re [0, 1, 2, 3] (by decide) rfl (by first | (simp only [eq_self, heapFits, rowFits, obFits, List.getElem?_cons_zero, List.getElem?_cons_succ, renL_o, renL_b, true_and, and_true, and_self]; done) | simp [-List.map_append, heapFits, rowFits, obFits, T.ren, renL]) (by simp [tmFits, T.ren])
  rintro N ⟨acc, a⟩ ⟨hN, hi, ha, hT⟩
  clear hT0
  simp only at hN hi ha hT ⊢
  have fy := Nat.add_zero
  refine goS ?_
  refine SW.cond rfl (fun hc => ?_) (fun hc => ?_)
  · have hlt : acc.length < 4000 := by simp at hc; omega
    rw [show 4000 - acc.length = (4000 - (acc.length + 1)) + 1 by omega, rlS] at hT
    have hU := unframeS_ok l a hl ha
    have hle := unfS_le l a ha
    have hG := grecS_ok (unfS l a).1 (by omega)
    generalize unfS l a = u at *
    obtain ⟨bd, e, c⟩ := u
    simp only at hU hle hG hT
    generalize grecS bd = g at *
    obtain ⟨⟨x1, x2, x3, x4, x5, ⟨p', ⟨u', A, B, ⟨⟩⟩, ⟨⟩⟩, ⟨q', ⟨v', C, D, ⟨⟩⟩, ⟨⟩⟩, x8, E, ⟨⟩⟩, ok⟩ := g
    simp only at hG hT
    have hcn : (c != 0) = !decide (c = 0) := by by_cases h : c = 0 <;> simp [h]
    have hwx : IntKind.i64.wrap ((acc.length : Int) + 1) = (acc.length : Int) + 1 := wrap64 _ (by omega) (by omega)
    have hxn : (x1 != (acc.length : Int) + 1) = !decide (x1 = (acc.length : Int) + 1) := by by_cases h : x1 = (acc.length : Int) + 1 <;> simp [h]
    have hx1 : decide (x1 = (acc.length : Int) + 1) = true → x1 = (acc.length : Int) + 1 := fun h => of_decide_eq_true h
    generalize decide (c = 0) = p at *
    generalize decide (x1 = (acc.length : Int) + 1) = q at *
    cases p
    · skip
      simp only [Bool.false_and, Bool.and_false, Bool.true_and, Bool.and_self, Bool.false_eq_true, if_false] at hT
      subst hT
      clear hle hx1
      have hC1 := cx [] (hU)
      have hC2 := cx [] (hG)
      have fy := And.intro hcn (And.intro hwx (hxn))
      refine goR ?_ ?_ ?_ ?_ ?_ ?_ ?_ ?_ ?_ ?_ ?_ ?_ ?_ ?_ ?_ ?_
      any_goals (first | exact True.intro | skip)
      all_goals (repeat (refine Wh.mk fun hcc => ?_))
      all_goals exact SW.ret (show RetQ _ _ _ _ _ _ _ from RetQ.y [0, 0] [.nd [.ow 15 (acc.map Enc.o), .int .i64 (acc.length : Nat)], .int .i64 (a : Nat)])
    · cases ok
      · skip
        simp only [Bool.false_and, Bool.and_false, Bool.true_and, Bool.and_self, Bool.false_eq_true, if_false] at hT
        subst hT
        clear hle hx1
        have hC1 := cx [] (hU)
        have hC2 := cx [] (hG)
        have fy := And.intro hcn (And.intro hwx (hxn))
        refine goR ?_ ?_ ?_ ?_ ?_ ?_ ?_ ?_ ?_ ?_ ?_ ?_ ?_ ?_ ?_ ?_
        any_goals (first | exact True.intro | skip)
        all_goals (repeat (refine Wh.mk fun hcc => ?_))
        all_goals exact SW.ret (show RetQ _ _ _ _ _ _ _ from RetQ.y [0, 0] [.nd [.ow 15 (acc.map Enc.o), .int .i64 (acc.length : Nat)], .int .i64 (a : Nat)])
      · cases q
        · skip
          simp only [Bool.false_and, Bool.and_false, Bool.true_and, Bool.and_self, Bool.false_eq_true, if_false] at hT
          subst hT
          clear hle hx1
          have hC1 := cx [] (hU)
          have hC2 := cx [] (hG)
          have fy := And.intro hcn (And.intro hwx (hxn))
          refine goR ?_ ?_ ?_ ?_ ?_ ?_ ?_ ?_ ?_ ?_ ?_ ?_ ?_ ?_ ?_ ?_
          any_goals (first | exact True.intro | skip)
          all_goals (repeat (refine Wh.mk fun hcc => ?_))
          all_goals exact SW.ret (show RetQ _ _ _ _ _ _ _ from RetQ.y [0, 0] [.nd [.ow 15 (acc.map Enc.o), .int .i64 (acc.length : Nat)], .int .i64 (a : Nat)])
        · simp only [Bool.and_self, if_true] at hT
          have hb1 := fun (own_ e1_ : Nat) => build1 (Y := Y) (own := own_) (v := .nd [.int .i64 x1, .int .i64 x2, .int .i64 x3, .int .i64 x4, .int .i64 x5, .nd [.bool p', .nd [.int .i64 u', .ref e1_ 0 0 A.length, .ref e1_ 1 0 B.length]], .nd [.bool q', .nd [.int .i64 v', .ref e1_ 2 0 C.length, .ref e1_ 3 0 D.length]], .int .i64 x8, .ref e1_ 4 0 E.length]) (t := 66) Y66 Y41 rfl (by decide) rfl rfl rfl
          have hap := (fun (e1_ own_ e_ j_ e2_ j2_ : Nat) (H_ : Heap) (q1 : H_.at e_ j_ = some (.arr 15 (acc.map Enc.o) false)) (q2 : H_.at e2_ j2_ = some (.arr 15 [.nd [.int .i64 x1, .int .i64 x2, .int .i64 x3, .int .i64 x4, .int .i64 x5, .nd [.bool p', .nd [.int .i64 u', .ref e1_ 0 0 A.length, .ref e1_ 1 0 B.length]], .nd [.bool q', .nd [.int .i64 v', .ref e1_ 2 0 C.length, .ref e1_ 3 0 D.length]], .int .i64 x8, .ref e1_ 4 0 E.length]] false)) => append_run1 (Y := Y) (own := own_) (t := 66) (u := 66) (e := e_) (j := j_) (off := 0) (n := acc.length) (e2 := e2_) (j2 := j2_) (x := .nd [.int .i64 x1, .int .i64 x2, .int .i64 x3, .int .i64 x4, .int .i64 x5, .nd [.bool p', .nd [.int .i64 u', .ref e1_ 0 0 A.length, .ref e1_ 1 0 B.length]], .nd [.bool q', .nd [.int .i64 v', .ref e1_ 2 0 C.length, .ref e1_ 3 0 D.length]], .int .i64 x8, .ref e1_ 4 0 E.length]) (H := H_) Y66 Y66 Y41 rfl (by decide) q1 q2 (by simp) (by omega) rfl rfl) 5
          simp only [List.drop_zero, take_map_len] at hap
          have hC1 := cx [] (hU)
          have hC2 := cx [] (hG)
          have fy := And.intro hcn (And.intro hwx (And.intro hxn (And.intro hap (hb1))))
          refine goR ?_ ?_ ?_ ?_ ?_ ?_ ?_ ?_ ?_ ?_ ?_ ?_ ?_ ?_ ?_ ?_
          any_goals (first | exact True.intro | skip)
          all_goals (repeat (refine Wh.mk fun hcc => ?_))
          refine ⟨N - 1, (acc ++ [(x1, x2, x3, x4, x5, (p', (u', A, B, ()), ()), (q', (v', C, D, ()), ()), x8, E, ())], e), by omega, ⟨by simp only [List.length_append, List.length_cons, List.length_nil]; omega, by simp only [List.length_append, List.length_cons, List.length_nil]; omega, hle.2, by simp only [List.length_append, List.length_cons, List.length_nil]; exact hT⟩, ?_⟩
          have hset : ∀ Z : T, ((acc.map Enc.o : List T) ++ ([.nd [.int .i64 x1, .int .i64 x2, .int .i64 x3, .int .i64 x4, .int .i64 x5, .nd [.bool p', .nd [.int .i64 u', .ref 5 0 0 A.length, .ref 5 1 0 B.length]], .nd [.bool q', .nd [.int .i64 v', .ref 5 2 0 C.length, .ref 5 3 0 D.length]], .int .i64 x8, .ref 5 4 0 E.length]] : List T)).set acc.length Z = acc.map Enc.o ++ [Z] := fun Z => by rw [List.set_append_right _ _ (by simp)]; simp
          have hk : ((acc.map Enc.o : List T) ++ ([.nd [.int .i64 x1, .int .i64 x2, .int .i64 x3, .int .i64 x4, .int .i64 x5, .nd [.bool p', .nd [.int .i64 u', .ref 5 0 0 A.length, .ref 5 1 0 B.length]], .nd [.bool q', .nd [.int .i64 v', .ref 5 2 0 C.length, .ref 5 3 0 D.length]], .int .i64 x8, .ref 5 4 0 E.length]] : List T))[acc.length]? = some (.nd [.int .i64 x1, .int .i64 x2, .int .i64 x3, .int .i64 x4, .int .i64 x5, .nd [.bool p', .nd [.int .i64 u', .ref 5 0 0 A.length, .ref 5 1 0 B.length]], .nd [.bool q', .nd [.int .i64 v', .ref 5 2 0 C.length, .ref 5 3 0 D.length]], .int .i64 x8, .ref 5 4 0 E.length]) := by rw [List.getElem?_append_right (by simp)]; simp
          refine Norm.trans (Norm.soakArr 8 0 acc.length rfl hk) ?_
          simp only [soakS, soakL, Heap.at, Heap.put, List.getElem?_cons_zero, List.getElem?_cons_succ, List.set_cons_zero, List.set_cons_succ, List.length_map, and_self, if_true, hset]
          refine Norm.re [0, 1, 2, 8] (by decide) rfl ?_ (by simp [tmFits, T.ren])
          rw [show (acc ++ [(x1, x2, x3, x4, x5, (p', (u', A, B, ()), ()), (q', (v', C, D, ()), ()), x8, E, ())] : List RecT).map Enc.o = acc.map Enc.o ++ [Enc.o ((x1, x2, x3, x4, x5, (p', (u', A, B, ()), ()), (q', (v', C, D, ()), ()), x8, E, ()) : RecT)] by rw [List.map_append]; rfl]
          skip
          simp [heapFits, rowFits, obFits, T.ren, renL, renL_app, renL_o]
          all_goals rfl
  · have hge : acc.length = 4000 := by
      have : ¬ acc.length < 4000 := by simp at hc; omega
      omega
    rw [hge, Nat.sub_self] at hT
    simp only [rlS] at hT
    subst hT
    have fy := Nat.add_zero
    refine goR ?_ ?_ ?_ ?_ ?_ ?_ ?_ ?_ ?_ ?_ ?_ ?_ ?_ ?_ ?_ ?_
    any_goals (first | exact True.intro | skip)
    all_goals (repeat (refine Wh.mk fun hcc => ?_))
    all_goals exact SW.ret (show RetQ _ _ _ _ _ _ _ from RetQ.y [0, 0] [.nd [.ow 15 (acc.map Enc.o), .int .i64 (acc.length : Nat)], .int .i64 (a : Nat)])
end Q6

namespace Q6
open Go Go.Vm Go.Proofs
set_option maxHeartbeats 4000000
set_option synthInstance.maxSize 2000
set_option synthInstance.maxHeartbeats 400000
set_option maxRecDepth 10000
set_option linter.unusedSimpArgs false
set_option linter.unusedVariables false

open Go.By

def frameL (l : List UInt8) : List UInt8 := putI l.length ++ l ++ four (crc l)
theorem frameL_len (l : List UInt8) : (frameL l).length ≤ l.length + 10 := by
  have := putI_len l.length
  unfold frameL; simp only [List.length_append, four_len]; omega

theorem sFrame_ok (l : List UInt8) (hl : l.length ≤ 1048576) : CallR Try.prog 64 [.sl .b (l.map Enc.b)] [] (.ow 1 ((frameL l).map Enc.o)) := by
  refine CallR.of_body (n := 15) (rs := [.tmp 2]) hY.ok Try.func64 rfl (by decide) rfl rfl rfl rfl (fun F => ?_)
  have fx := And.intro Y3 (And.intro Y5 (Y24))
  have hP := PutInt_ok [] (l.length : Int) (Nat.zero_le _)
  have hS := specCrc_ok l hl
  have hF4 := l1Four_ok (crc l)
  have hpl := putI_len l.length
  have hfl := four_len (crc l)
  unfold frameL
  simp only [List.nil_append] at hP
  generalize crc l = c at *
  generalize four c = FF at *
  generalize putI l.length = PP at *
  have hap1 := fun (own_ e_ j_ : Nat) (H_ : Heap) (q1 : H_.at e_ j_ = some (.arr 1 ((PP).map Enc.o) false)) => append_runB (Y := Y) (own := own_) (t := 24) (u := 24) (e := e_) (j := j_) (off := 0) (n := (PP).length) (g := .b) (l := PP) (m := l) (H := H_) Y24 Y24 Y5 rfl (by decide) q1 (by rw [List.drop_zero]; exact List.take_of_length_le (by simp)) (by simp) (by omega) rfl rfl
  have hap2 := fun (own_ e_ j_ e2_ j2_ : Nat) (H_ : Heap) (q1 : H_.at e_ j_ = some (.arr 1 ((PP ++ l).map Enc.o) false)) (q2 : H_.at e2_ j2_ = some (.arr 1 ((FF).map Enc.o) false)) => append_runR (Y := Y) (own := own_) (t := 24) (u := 24) (e := e_) (j := j_) (off := 0) (n := PP.length + l.length) (e2 := e2_) (j2 := j2_) (l := PP ++ l) (m := FF) (H := H_) Y24 Y24 Y5 rfl (by decide) q1 q2 (by rw [List.drop_zero]; exact List.take_of_length_le (by simp)) (by simp) (by omega) rfl rfl
  have hC1 := cx [] (hP)
  have hC2 := cx [] (hS)
  have hC3 := cx [] (hF4)
  have fy := And.intro bs0_24 (And.intro hap1 (hap2))
  refine goR ?_ ?_ ?_ ?_ ?_ ?_ ?_ ?_ ?_ ?_ ?_ ?_ ?_ ?_ ?_ ?_
  any_goals (first | exact True.intro | skip)
  all_goals (repeat (refine Wh.mk fun hcc => ?_))
  have hZ : PP.length + l.length + FF.length = (PP ++ l ++ FF).length := by simp [Nat.add_assoc]
  rw [hZ]
  generalize PP ++ l ++ FF = Z
  exact SW.ret (show RetQ _ _ _ _ _ _ _ from RetQ.y [1] [.ow 1 (Z.map Enc.o)])
theorem growBytes_ok (n : Nat) (hn : n ≤ 1048576) : CallR Try.prog 165 [.nils 0, .int .i64 (n : Nat)] [] (.ow 1 []) := by
  refine CallR.of_body (n := 27) (rs := [.tmp 4]) hY.ok Try.func165 rfl (by decide) rfl rfl rfl rfl (fun F => ?_)
  have fx := And.intro Y3 (And.intro Y4 (And.intro Y5 (And.intro Y9 (And.intro Y20 (Y24)))))
  have hneg : decide ((n : Int) < 0) = false := by simp
  have hw : IntKind.i64.wrap (n : Int) = n := wrap64 _ (by omega) (by omega)
  have hn30 : (n : Int) ≤ 2 ^ 30 := by omega
  have hn0 : (0 : Int) ≤ n := Int.natCast_nonneg n
  have hsn : ∀ es, sliceM Y 24 (.nils es) none (some (.int .i64 0)) none = .pure { v := .nils es } := fun es => by simp [sliceM, Y24, loF, hiF]
  have hsr := fun (e j n : Nat) (f : List T) (H : Heap) (q1 : H.at e j = some (.arr 1 f false)) => show (sliceM Y 24 (.ref e j 0 n) none (some (.int .i64 0)) none).run H = some { v := .ref e j 0 0 } by simp [sliceM, Y24, Y5, loF, hiF, RM.run, q1]
  cases hz : decide ((n : Int) > 0)
  · skip
    have fy := And.intro hneg (And.intro hw (And.intro hz (And.intro Int.sub_zero (Int.sub_self))))
    refine goR ?_ ?_ ?_ ?_ ?_ ?_ ?_ ?_ ?_ ?_ ?_ ?_ ?_ ?_ ?_ ?_
    any_goals (first | exact True.intro | skip)
    all_goals (repeat (refine Wh.mk fun hcc => ?_))
    all_goals exact SW.ret (show RetQ _ _ _ _ _ _ _ from RetQ.y [1] [.ow 1 []])
  · skip
    have fy := And.intro hneg (And.intro hw (And.intro hz (And.intro hn30 (And.intro hn0 (And.intro hsn (And.intro hsr (And.intro Int.sub_zero (Int.sub_self))))))))
    refine goR ?_ ?_ ?_ ?_ ?_ ?_ ?_ ?_ ?_ ?_ ?_ ?_ ?_ ?_ ?_ ?_
    any_goals (first | exact True.intro | skip)
    all_goals (repeat (refine Wh.mk fun hcc => ?_))
    refine SW.norm (Norm.trunc 1 0 0 rfl) ?_
    simp only [Heap.put, List.take_zero, List.getElem?_cons_succ, List.getElem?_cons_zero, List.set_cons_succ, List.set_cons_zero]
    exact SW.ret (show RetQ _ _ _ _ _ _ _ from RetQ.y [1] [.ow 1 []])
def lenS (ls : List (List UInt8)) : Nat := (ls.map List.length).sum
theorem lenS_take : ∀ (ls : List (List UInt8)) (i : Nat) (h : i < ls.length), lenS (ls.take (i + 1)) = lenS (ls.take i) + ls[i].length
  | [], i, h => absurd h (Nat.not_lt_zero _)
  | x :: ls, 0, h => by simp [lenS]
  | x :: ls, i + 1, h => by
    have := lenS_take ls i (by simpa using h)
    simp only [lenS, List.take_succ_cons, List.map_cons, List.sum_cons, List.getElem_cons_succ] at this ⊢; omega
theorem lenS_le : ∀ (ls : List (List UInt8)) (i : Nat), lenS (ls.take i) ≤ lenS ls
  | [], i => by simp [lenS]
  | x :: ls, 0 => by simp [lenS]
  | x :: ls, i + 1 => by
    have := lenS_le ls i
    simp only [lenS, List.take_succ_cons, List.map_cons, List.sum_cons] at this ⊢; omega
theorem flat_take : ∀ (ls : List (List UInt8)) (i : Nat) (h : i < ls.length), (ls.take (i + 1)).flatten = (ls.take i).flatten ++ ls[i]
  | [], i, h => absurd h (Nat.not_lt_zero _)
  | x :: ls, 0, h => by simp
  | x :: ls, i + 1, h => by
    have := flat_take ls i (by simpa using h)
    simp only [List.take_succ_cons, List.flatten_cons, List.getElem_cons_succ, this, List.append_assoc]
theorem flat_len (ls : List (List UInt8)) (i : Nat) : (ls.take i).flatten.length = lenS (ls.take i) := by unfold lenS; simp [List.length_flatten]
theorem concat_ok (ls : List (List UInt8)) (hn : ls.length ≤ 1048576) (hs : lenS ls ≤ 1048576) : CallR Try.prog 134 [.sl .b (ls.map Enc.b)] [] (.ow 1 (ls.flatten.map Enc.o)) := by
  refine CallR.of_body (n := 36) (rs := [.tmp 2]) hY.ok Try.func134 rfl (by decide) rfl rfl rfl rfl (fun F => ?_)
  have fx := And.intro Y3 (And.intro Y4 (And.intro Y5 (And.intro Y9 (And.intro Y20 (And.intro Y24 (Y157))))))
  have fy := Nat.add_zero
  refine goN ?_ ?_ ?_ ?_ ?_ ?_ ?_ ?_ ?_ ?_ ?_ ?_ ?_ ?_ ?_ ?_
  any_goals (first | exact True.intro | skip)
  skip
  refine SW.loop (fun i : Nat => ⟨[.sl .b (ls.map Enc.b), .undef, .undef, .int .i64 (lenS (ls.take i) : Nat), .undef, .undef, .undef, .undef, .undef, .sl .b (ls.map Enc.b), .int .i64 (ls.length : Nat), .int .i64 (i : Nat), .undef, .undef, .undef, .undef, .undef, .undef, .undef, .undef, .undef, .undef, .undef, .undef, .undef, .undef, .undef, .undef, .undef, .undef, .undef, .undef, .undef, .undef, .undef, .undef], [[]]⟩)
    (fun N i => N = ls.length - i ∧ i ≤ ls.length) (n := ls.length) (x := 0) (Norm.to 0 rfl (by simp [weakL, lenS])) ⟨rfl, Nat.zero_le _⟩ ?_
  rintro N i ⟨hN, hi⟩
  have fy := Nat.add_zero
  refine goS ?_
  refine SW.cond rfl (fun hc => ?_) (fun hc => ?_)
  · have hlt : i < ls.length := by simp at hc; omega
    have hgl : (ls.map Enc.b)[i]? = some (T.sl .b (ls[i].map Enc.b)) := map_get Enc.b ls i hlt
    have h1 := lenS_take ls i hlt
    have h2 := lenS_le ls (i + 1)
    generalize ls[i] = x at *
    generalize lenS (List.take i ls) = m at *
    have hwi : IntKind.i64.wrap ((i : Int) + 1) = ((i + 1 : Nat) : Int) := by rw [wrap64 _ (by omega) (by omega)]; omega
    have hwm : IntKind.i64.wrap ((m : Int) + (x.length : Int)) = ((m + x.length : Nat) : Int) := by rw [wrap64 _ (by omega) (by omega)]; omega
    have hneg : decide (((m + x.length : Nat) : Int) < 0) = false := by simp; omega
    have fy := And.intro hgl (And.intro hwi (And.intro hwm (hneg)))
    refine goR ?_ ?_ ?_ ?_ ?_ ?_ ?_ ?_ ?_ ?_ ?_ ?_ ?_ ?_ ?_ ?_
    any_goals (first | exact True.intro | skip)
    all_goals (repeat (refine Wh.mk fun hcc => ?_))
    refine ⟨N - 1, i + 1, by omega, ⟨by omega, by omega⟩, ?_⟩
    rw [h1]
    exact Norm.to 0 rfl (by simp [weakL])
  · have hge : i = ls.length := by
      have : ¬ i < ls.length := by simp at hc; omega
      omega
    subst hge
    rw [List.take_length]
    have hG := growBytes_ok (lenS ls) hs
    have hC1 := cx [.nl] (hG)
    have fy := Nat.add_zero
    refine goN ?_ ?_ ?_ ?_ ?_ ?_ ?_ ?_ ?_ ?_ ?_ ?_ ?_ ?_ ?_ ?_
    any_goals (first | exact True.intro | skip)
    skip
    refine SW.loop (fun i : Nat => ⟨[.undef, .undef, .undef, .undef, .undef, .undef, .ref 1 0 0 (lenS (ls.take i)), .undef, .undef, .undef, .undef, .undef, .undef, .undef, .undef, .undef, .undef, .undef, .undef, .undef, .undef, .undef, .undef, .undef, .undef, .sl .b (ls.map Enc.b), .int .i64 (ls.length : Nat), .int .i64 (i : Nat), .undef, .undef, .undef, .undef, .undef, .undef, .undef, .undef], [[], [.arr 1 ((ls.take i).flatten.map Enc.o) false]]⟩)
      (fun N i => N = ls.length - i ∧ i ≤ ls.length) (n := ls.length) (x := 0) ?_ ⟨rfl, Nat.zero_le _⟩ ?_
    · exact Norm.re [0, 1] (by decide) rfl (by simp [-List.map_append, heapFits, rowFits, obFits, T.ren, renL]) (by simp [tmFits, T.ren, lenS])
    rintro N i ⟨hN, hi⟩
    have fy := Nat.add_zero
    refine goS ?_
    refine SW.cond rfl (fun hc => ?_) (fun hc => ?_)
    · have hlt : i < ls.length := by simp at hc; omega
      have hgl : (ls.map Enc.b)[i]? = some (T.sl .b (ls[i].map Enc.b)) := map_get Enc.b ls i hlt
      have h1 := lenS_take ls i hlt
      have h2 := lenS_le ls (i + 1)
      have h3 := flat_take ls i hlt
      have h4 := flat_len ls i
      generalize ls[i] = x at *
      generalize lenS (List.take i ls) = m at *
      generalize (List.take i ls).flatten = acc at *
      subst h4
      have hwi : IntKind.i64.wrap ((i : Int) + 1) = ((i + 1 : Nat) : Int) := by rw [wrap64 _ (by omega) (by omega)]; omega
      have hap := fun (own_ e_ j_ : Nat) (H_ : Heap) (q1 : H_.at e_ j_ = some (.arr 1 ((acc).map Enc.o) false)) => append_runB (Y := Y) (own := own_) (t := 24) (u := 24) (e := e_) (j := j_) (off := 0) (n := (acc).length) (g := .b) (l := acc) (m := x) (H := H_) Y24 Y24 Y5 rfl (by decide) q1 (by rw [List.drop_zero]; exact List.take_of_length_le (by simp)) (by simp) (by omega) rfl rfl
      have fy := And.intro hgl (And.intro hwi (hap))
      refine goR ?_ ?_ ?_ ?_ ?_ ?_ ?_ ?_ ?_ ?_ ?_ ?_ ?_ ?_ ?_ ?_
      any_goals (first | exact True.intro | skip)
      all_goals (repeat (refine Wh.mk fun hcc => ?_))
      refine ⟨N - 1, i + 1, by omega, ⟨by omega, by omega⟩, ?_⟩
      rw [h1, h3]
      exact Norm.re [0, 2] (by decide) rfl (by first | (simp only [eq_self, heapFits, rowFits, obFits, List.getElem?_cons_zero, List.getElem?_cons_succ, renL_o, renL_b, true_and, and_true, and_self]; done) | simp [-List.map_append, heapFits, rowFits, obFits, T.ren, renL]) (by simp [tmFits, T.ren])
    · have hge : i = ls.length := by
        have : ¬ i < ls.length := by simp at hc; omega
        omega
      subst hge
      have h4 := flat_len ls ls.length
      rw [List.take_length] at h4 ⊢
      rw [← h4]
      generalize ls.flatten = Z
      have fy := Nat.add_zero
      refine goR ?_ ?_ ?_ ?_ ?_ ?_ ?_ ?_ ?_ ?_ ?_ ?_ ?_ ?_ ?_ ?_
      any_goals (first | exact True.intro | skip)
      all_goals (repeat (refine Wh.mk fun hcc => ?_))
      exact SW.ret (show RetQ _ _ _ _ _ _ _ from RetQ.y [1] [.ow 1 (Z.map Enc.o)])
theorem build3 {Y : TypeId → TyI} {own t el by' : Nat} {k : Ty} {a b c : T} (h1 : Y t = ⟨.sl el, 1, 24⟩) (h2 : Y el = ⟨k, 1, by'⟩) (h3 : k.isFn = false)
    (hs : setAll (plAr 1) (List.replicate 3 (zeroT Y 9 el)) [(0, a), (1, b), (2, c)] = some [a, b, c]) :
    buildSliceM Y own t 3 [(0, a), (1, b), (2, c)] = .pure { v := .ref own 0 0 3, news := [.arr 1 [a, b, c] false] } := by
  simp only [buildSliceM, h1, h2, h3]
  rw [if_pos ⟨by decide, by decide, trivial⟩, hs]
theorem iFrame_ok (l : List UInt8) (hl : l.length ≤ 1048576 - 10) : CallR Try.prog 70 [.sl .b (l.map Enc.b)] [] (.ow 1 ((frameL l).map Enc.o)) := by
  refine CallR.of_body (n := 11) (rs := [.tmp 2]) hY.ok Try.func70 rfl (by decide) rfl rfl rfl rfl (fun F => ?_)
  have fx := And.intro Y1 (And.intro Y2 (And.intro Y3 (And.intro Y5 (And.intro Y24 (Y157)))))
  have hP := putInt_ok [] (l.length : Int) (Nat.zero_le _)
  have hS := sumBytes_ok l (by omega)
  have hpl := putI_len l.length
  have hfl := four_len (crc l)
  unfold frameL
  simp only [List.nil_append] at hP
  generalize crc l = c at *
  generalize four c = FF at *
  generalize putI l.length = PP at *
  have hC0 := concat_ok [PP, l, FF] (by simp) (by unfold lenS; simp; omega)
  rw [show [PP, l, FF].flatten = PP ++ l ++ FF by simp] at hC0
  generalize PP ++ l ++ FF = Z at *
  have hC : CallR Try.prog 134 [.sl .b [.sl .b (PP.map Enc.b), .sl .b (l.map Enc.b), .sl .b (FF.map Enc.b)]] [] (.ow 1 (Z.map Enc.o)) := hC0
  have hb3 := fun own => build3 (Y := Y) (own := own) (t := 157) (a := .ref 1 0 0 PP.length) (b := .sl .b (l.map Enc.b)) (c := .ref 2 0 0 FF.length) Y157 Y24 rfl rfl
  have hC1 := cx [.own 1] (hP)
  have hC2 := cx [] (hS)
  have hC3 := cx [] (hC)
  have fy := hb3
  refine goR ?_ ?_ ?_ ?_ ?_ ?_ ?_ ?_ ?_ ?_ ?_ ?_ ?_ ?_ ?_ ?_
  any_goals (first | exact True.intro | skip)
  all_goals (repeat (refine Wh.mk fun hcc => ?_))
  exact SW.ret (show RetQ _ _ _ _ _ _ _ from RetQ.y [1] [.ow 1 (Z.map Enc.o)])
end Q6

namespace Q6
open Go Go.Vm Go.By
set_option linter.unusedSimpArgs false

/-! ### frames: the plain law -/
theorem grpR_ends (l : List UInt8) (a : Nat) (h : (grpR l a).2.2.2 = true) : (getR l a).2.2 = false := by
  unfold grpR at h
  simp only at h
  have h1 := grp_endsF _ _ _ _ h
  have h2 := grp_dec (l.drop a) 0 0 (by decide)
  unfold getR
  cases hd : dec (l.drop a) 0 0 with
  | none => rfl
  | some x => rw [(h2.1 x hd).2.2] at h1; cases h1
theorem unf_eq (l : List UInt8) (a : Nat) (h : (unfI l a).2.2 = 0 ∨ (unfS l a).2.2 = 0) : unfI l a = unfS l a := by
  have he := grpR_ends l a
  unfold unfI unfS at *
  cases hok : (getR l a).2.2 with
  | false =>
    rw [hok] at h
    exfalso
    rcases h with h | h
    · split at h
      · cases h
      · simp at h
    · cases hb : endsB l a <;> rw [hb] at h <;> simp at h
  | true =>
    cases hg : (grpR l a).2.2.2 with
    | true => rw [he hg] at hok; cases hok
    | false => simp
/-- what a good frame is -/
theorem unfS_good {l : List UInt8} {a : Nat} (ha : a ≤ l.length) (h : (unfS l a).2.2 = 0) :
    l.drop a = frameL (unfS l a).1 ++ l.drop (unfS l a).2.1 ∧ okN ((unfS l a).1.length : Int) = true ∧ (unfS l a).2.1 ≤ l.length := by
  refine ⟨?_, ?_, (unfS_le l a ha).2⟩
  rotate_left
  · have := (unfS_le l a ha).1
    have h2 : (unfS l a).1.length ≤ 1000000000000 := by
      unfold unfS at *
      split
      · simp
      · split
        · simp
        · have hr := getR_okN l a
          unfold unfK bodyOf
          split
          · simp
          · split
            · simp only [List.length_take]; omega
            · simp
    exact okN_iff.2 ⟨by unfold M12; omega, by unfold M12; omega⟩
  · unfold unfS at h ⊢
    split at h
    · cases h
    · rename_i h1
      split at h
      · cases h
      · rename_i h2
        rw [if_neg h1, if_neg h2]
        simp only [Bool.or_eq_true, Bool.not_eq_true', decide_eq_true_eq, not_or, Bool.not_eq_false] at h2
        obtain ⟨hok, hn⟩ := h2
        have hr := getR_okN l a
        have hgood := @oneR_good l (a, false) ha
        have hone : oneR l (a, false) = ((getR l a).1, (getR l a).2.1, false) := by unfold oneR; simp [hok]
        have hgl := getR_le l a ha
        rw [hone] at hgood
        obtain ⟨_, _, hd⟩ := hgood rfl
        simp only at hd
        generalize (getR l a).1 = n at *
        generalize (getR l a).2.1 = e at *
        unfold unfK at h ⊢
        split at h
        · cases h
        · rename_i h3
          split at h
          · rename_i h4
            rw [if_neg h3, if_pos h4]
            simp only
            have h4 := of_decide_eq_true h4
            obtain ⟨N, rfl⟩ : ∃ N : Nat, n = (N : Int) := ⟨n.toNat, by omega⟩
            rw [Int.toNat_natCast] at h4 ⊢
            have hbl : (bodyOf l e N).length = N := by unfold bodyOf; rw [List.length_take, List.length_drop]; omega
            unfold frameL
            rw [hbl, hd]
            simp only [List.append_assoc]
            congr 1
            rw [h4]
            have e1 : l.drop e = bodyOf l e N ++ l.drop (e + N) := by
              unfold bodyOf; conv => lhs; rw [← List.take_append_drop N (l.drop e)]
              rw [List.drop_drop]
            have e2 : l.drop (e + N) = (l.drop (e + N)).take 4 ++ l.drop (e + N + 4) := by
              conv => lhs; rw [← List.take_append_drop 4 (l.drop (e + N))]
              rw [List.drop_drop]
            rw [e1]
            congr 1
          · cases h
theorem frame_inj {x y r q : List UInt8} (hx : okN (x.length : Int) = true) (hy : okN (y.length : Int) = true) (h : frameL x ++ r = frameL y ++ q) : x = y ∧ r = q := by
  unfold frameL at h
  simp only [List.append_assoc] at h
  obtain ⟨h1, h2⟩ := put_inj hx hy h
  have hl : x.length = y.length := by omega
  obtain ⟨h3, h4⟩ := List.append_inj h2 hl
  subst h3
  exact ⟨rfl, (List.append_cancel_left_eq _ _ _).mp h4⟩

end Q6

namespace Q6
open Go Go.Vm Go.Proofs
set_option maxHeartbeats 4000000
set_option synthInstance.maxSize 2000
set_option synthInstance.maxHeartbeats 400000
set_option maxRecDepth 10000
set_option linter.unusedSimpArgs false
set_option linter.unusedVariables false

def mkRec (x : (Int × Int × Int × Int × Int × ((Bool × ((Int × (List Int) × (List Int) × Unit)) × Unit)) × ((Bool × ((Int × (List Int) × (List Int) × Unit)) × Unit)) × Int × (List ((Int × Int × Bool × Unit))) × Unit)) (c : Int) : ((Int × Int × Int × Int × Int × ((Bool × ((Int × (List Int) × (List Int) × Unit)) × Unit)) × ((Bool × ((Int × (List Int) × (List Int) × Unit)) × Unit)) × Int × (List ((Int × Int × Bool × Unit))) × Unit)) × Int := (((c), (c + 1), (c + 1 + 1), (c + 1 + 1 + 1), (c + 1 + 1 + 1 + 1), ((Int.tmod (c + 1 + 1 + 1 + 1 + 1) 3 == 0), ((c + 1 + 1 + 1 + 1 + 1 + 1), marksG id x.2.2.2.2.2.1.2.1.2.1.length (c + 1 + 1 + 1 + 1 + 1 + 1 + 1), marksG id x.2.2.2.2.2.1.2.1.2.2.1.length (c + 1 + 1 + 1 + 1 + 1 + 1 + 1 + x.2.2.2.2.2.1.2.1.2.1.length), ()), ()), ((Int.tmod (c + 1 + 1 + 1 + 1 + 1 + 1 + 1 + x.2.2.2.2.2.1.2.1.2.1.length + x.2.2.2.2.2.1.2.1.2.2.1.length) 3 == 0), ((c + 1 + 1 + 1 + 1 + 1 + 1 + 1 + x.2.2.2.2.2.1.2.1.2.1.length + x.2.2.2.2.2.1.2.1.2.2.1.length + 1), marksG id x.2.2.2.2.2.2.1.2.1.2.1.length (c + 1 + 1 + 1 + 1 + 1 + 1 + 1 + x.2.2.2.2.2.1.2.1.2.1.length + x.2.2.2.2.2.1.2.1.2.2.1.length + 1 + 1), marksG id x.2.2.2.2.2.2.1.2.1.2.2.1.length (c + 1 + 1 + 1 + 1 + 1 + 1 + 1 + x.2.2.2.2.2.1.2.1.2.1.length + x.2.2.2.2.2.1.2.1.2.2.1.length + 1 + 1 + x.2.2.2.2.2.2.1.2.1.2.1.length), ()), ()), (c + 1 + 1 + 1 + 1 + 1 + 1 + 1 + x.2.2.2.2.2.1.2.1.2.1.length + x.2.2.2.2.2.1.2.1.2.2.1.length + 1 + 1 + x.2.2.2.2.2.2.1.2.1.2.1.length + x.2.2.2.2.2.2.1.2.1.2.2.1.length), marksG (lvM (c + 1 + 1 + 1 + 1 + 1 + 1 + 1 + x.2.2.2.2.2.1.2.1.2.1.length + x.2.2.2.2.2.1.2.1.2.2.1.length + 1 + 1 + x.2.2.2.2.2.2.1.2.1.2.1.length + x.2.2.2.2.2.2.1.2.1.2.2.1.length + 1)) x.2.2.2.2.2.2.2.2.1.length 0, ()), c + 1 + 1 + 1 + 1 + 1 + 1 + 1 + x.2.2.2.2.2.1.2.1.2.1.length + x.2.2.2.2.2.1.2.1.2.2.1.length + 1 + 1 + x.2.2.2.2.2.2.1.2.1.2.1.length + x.2.2.2.2.2.2.1.2.1.2.2.1.length + 1 + 3 * x.2.2.2.2.2.2.2.2.1.length)
theorem mkRec_rng {x : (Int × Int × Int × Int × Int × ((Bool × ((Int × (List Int) × (List Int) × Unit)) × Unit)) × ((Bool × ((Int × (List Int) × (List Int) × Unit)) × Unit)) × Int × (List ((Int × Int × Bool × Unit))) × Unit)} (hx : Enc.lim 1048576 x) (c : Int) : c ≤ (mkRec x c).2 ∧ (mkRec x c).2 ≤ c + 16777216 := by
  have q7 : x.2.2.2.2.2.1.2.1.2.1.length ≤ 1048576 := hx.2.2.2.2.2.1.2.1.2.1.1
  have q8 : x.2.2.2.2.2.1.2.1.2.2.1.length ≤ 1048576 := hx.2.2.2.2.2.1.2.1.2.2.1.1
  have q11 : x.2.2.2.2.2.2.1.2.1.2.1.length ≤ 1048576 := hx.2.2.2.2.2.2.1.2.1.2.1.1
  have q12 : x.2.2.2.2.2.2.1.2.1.2.2.1.length ≤ 1048576 := hx.2.2.2.2.2.2.1.2.1.2.2.1.1
  have q14 : x.2.2.2.2.2.2.2.2.1.length ≤ 1048576 := hx.2.2.2.2.2.2.2.2.1.1
  unfold mkRec
  simp only
  omega
theorem markRecS_ok (l : List ((Int × Int × Int × Int × Int × ((Bool × ((Int × (List Int) × (List Int) × Unit)) × Unit)) × ((Bool × ((Int × (List Int) × (List Int) × Unit)) × Unit)) × Int × (List ((Int × Int × Bool × Unit))) × Unit))) (k : Int) (hl : Enc.lim 1048576 l) (h0 : 0 ≤ k) (h1 : k ≤ 281474976710656) : CallR Try.prog 121 [.io (.tup [.ow 15 (l.map Enc.o)]), .int .i64 k] [.tup [.ow 15 ((thr mkRec l k).1.map Enc.o)]] (.int .i64 (thr mkRec l k).2) := by
  refine CallR.of_body (n := 136) (rs := [.tmp 4]) hY.ok Try.func121 rfl (by decide) rfl rfl rfl rfl (fun F => ?_)
  have fx := And.intro Y1 (And.intro Y2 (And.intro Y3 (And.intro Y4 (And.intro Y5 (And.intro Y6 (And.intro Y7 (And.intro Y8 (And.intro Y34 (And.intro Y36 (And.intro Y38 (And.intro Y39 (And.intro Y41 (And.intro Y66 (Y91))))))))))))))
  have hl1 : l.length ≤ 1048576 := hl.1
  have hgrow : ∀ x ∈ l, ∀ c, c ≤ (mkRec x c).2 ∧ (mkRec x c).2 ≤ c + 16777216 := fun x hx c => mkRec_rng (hl.2 x hx) c
  have fy := Nat.add_zero
  refine goN ?_ ?_ ?_ ?_ ?_ ?_ ?_ ?_ ?_ ?_ ?_ ?_ ?_ ?_ ?_ ?_
  any_goals (first | exact True.intro | skip)
  skip
  refine SW.loop (fun i : Nat => ⟨[.ref 0 0 0 l.length, .int .i64 (thr mkRec (l.take i) k).2, .undef, .undef, .undef, .int .i64 (i : Nat), .undef, .undef, .undef, .undef, .undef, .undef, .undef, .undef, .undef, .undef, .undef, .undef, .undef, .undef, .undef, .undef, .undef, .undef, .undef, .undef, .undef, .undef, .undef, .undef, .undef, .undef, .undef, .undef, .undef, .undef, .undef, .undef, .undef, .undef, .undef, .undef, .undef, .undef, .undef, .undef, .undef, .undef, .undef, .undef, .undef, .undef, .undef, .undef, .undef, .undef, .undef, .undef, .undef, .undef, .undef, .undef, .undef, .undef, .undef, .undef, .undef, .undef, .undef, .undef, .undef, .undef, .undef, .undef, .undef, .undef, .undef, .undef, .undef, .undef, .undef, .undef, .undef, .undef, .undef, .undef, .undef, .undef, .undef, .undef, .undef, .undef, .undef, .undef, .undef, .undef, .undef, .undef, .undef, .undef, .undef, .undef, .undef, .undef, .undef, .undef, .undef, .undef, .undef, .undef, .undef, .undef, .undef, .undef, .undef, .undef, .undef, .undef, .undef, .undef, .undef, .undef, .undef, .undef, .undef, .undef, .undef, .undef, .undef, .undef, .undef, .undef, .undef, .undef, .undef, .undef], [[.arr 15 ((mixT mkRec l k i).map Enc.o) false]]⟩)
    (fun N i => N = l.length - i ∧ i ≤ l.length) (n := l.length) (x := 0) ?_ ⟨rfl, Nat.zero_le _⟩ ?_
  · rw [mixT_zero]
    simp only [List.take_zero, thr]
    exact Norm.re [0] (by decide) rfl (by first | (simp only [eq_self, heapFits, rowFits, obFits, List.getElem?_cons_zero, List.getElem?_cons_succ, renL_o, renL_b, true_and, and_true, and_self]; done) | simp [-List.map_append, heapFits, rowFits, obFits, T.ren, renL]) (by simp [tmFits, T.ren])
  rintro N i ⟨hn, hi⟩
  have hml := mixT_len mkRec l k i hi
  have fy := Nat.add_zero
  refine goS ?_
  refine SW.cond rfl (fun hc => ?_) (fun hc => ?_)
  · have hlt : i < l.length := by simp at hc; omega
    have hltI : (i : Int) < (l.length : Int) := by omega
    have hr := thr_rng mkRec 16777216 (by decide) (l.take i) k (fun x hx => hgrow x (List.mem_of_mem_take hx))
    rw [List.length_take, Nat.min_eq_left hi] at hr
    have hb : (i : Int) * 16777216 ≤ 1048576 * 16777216 := by omega
    have hg : ((mixT mkRec l k i).map Enc.o)[i]? = some (.nd [.int .i64 l[i].1, .int .i64 l[i].2.1, .int .i64 l[i].2.2.1, .int .i64 l[i].2.2.2.1, .int .i64 l[i].2.2.2.2.1, .nd [.bool l[i].2.2.2.2.2.1.1, .nd [.int .i64 l[i].2.2.2.2.2.1.2.1.1, .ow 1 (l[i].2.2.2.2.2.1.2.1.2.1.map Enc.o), .ow 1 (l[i].2.2.2.2.2.1.2.1.2.2.1.map Enc.o)]], .nd [.bool l[i].2.2.2.2.2.2.1.1, .nd [.int .i64 l[i].2.2.2.2.2.2.1.2.1.1, .ow 1 (l[i].2.2.2.2.2.2.1.2.1.2.1.map Enc.o), .ow 1 (l[i].2.2.2.2.2.2.1.2.1.2.2.1.map Enc.o)]], .int .i64 l[i].2.2.2.2.2.2.2.1, .ow 3 (l[i].2.2.2.2.2.2.2.2.1.map Enc.o)]) := by rw [map_get Enc.o _ i (by rw [hml]; exact hlt), mixT_get mkRec l k i hlt]; rfl
    have hs := mixT_set mkRec l k i hlt
    have hk2 : (thr mkRec (l.take (i + 1)) k).2 = (mkRec l[i] (thr mkRec (l.take i) k).2).2 := by rw [thr_succ mkRec l k i hlt]
    have hli := hl.2 l[i] (List.getElem_mem hlt)
    clear hgrow hl
    generalize l[i] = x at *
    generalize mixT mkRec l k i = m at *
    generalize (thr mkRec (l.take i) k).2 = c at *
    have hgs : ∀ X : T, ((m.map Enc.o).set i X)[i]? = some X := fun X => List.getElem?_set_self (by rw [List.length_map, hml]; exact hlt)
    have hw0 : IntKind.i64.wrap (c + 1) = c + 1 := wrap64 _ (by omega) (by omega)
    have hw1 : IntKind.i64.wrap (c + 1 + 1) = c + 1 + 1 := wrap64 _ (by omega) (by omega)
    have hw2 : IntKind.i64.wrap (c + 1 + 1 + 1) = c + 1 + 1 + 1 := wrap64 _ (by omega) (by omega)
    have hw3 : IntKind.i64.wrap (c + 1 + 1 + 1 + 1) = c + 1 + 1 + 1 + 1 := wrap64 _ (by omega) (by omega)
    have hw4 : IntKind.i64.wrap (c + 1 + 1 + 1 + 1 + 1) = c + 1 + 1 + 1 + 1 + 1 := wrap64 _ (by omega) (by omega)
    have hw5 : IntKind.i64.wrap (c + 1 + 1 + 1 + 1 + 1 + 1) = c + 1 + 1 + 1 + 1 + 1 + 1 := wrap64 _ (by omega) (by omega)
    have hw6 : IntKind.i64.wrap (c + 1 + 1 + 1 + 1 + 1 + 1 + 1) = c + 1 + 1 + 1 + 1 + 1 + 1 + 1 := wrap64 _ (by omega) (by omega)
    have q7 : x.2.2.2.2.2.1.2.1.2.1.length ≤ 1048576 := hli.2.2.2.2.2.1.2.1.2.1.1
    have m7 := markInt_ok x.2.2.2.2.2.1.2.1.2.1 (c + 1 + 1 + 1 + 1 + 1 + 1 + 1) q7 (by omega) (by omega)
    have q8 : x.2.2.2.2.2.1.2.1.2.2.1.length ≤ 1048576 := hli.2.2.2.2.2.1.2.1.2.2.1.1
    have m8 := markInt_ok x.2.2.2.2.2.1.2.1.2.2.1 (c + 1 + 1 + 1 + 1 + 1 + 1 + 1 + x.2.2.2.2.2.1.2.1.2.1.length) q8 (by omega) (by omega)
    have hw9 : IntKind.i64.wrap (c + 1 + 1 + 1 + 1 + 1 + 1 + 1 + x.2.2.2.2.2.1.2.1.2.1.length + x.2.2.2.2.2.1.2.1.2.2.1.length + 1) = c + 1 + 1 + 1 + 1 + 1 + 1 + 1 + x.2.2.2.2.2.1.2.1.2.1.length + x.2.2.2.2.2.1.2.1.2.2.1.length + 1 := wrap64 _ (by omega) (by omega)
    have hw10 : IntKind.i64.wrap (c + 1 + 1 + 1 + 1 + 1 + 1 + 1 + x.2.2.2.2.2.1.2.1.2.1.length + x.2.2.2.2.2.1.2.1.2.2.1.length + 1 + 1) = c + 1 + 1 + 1 + 1 + 1 + 1 + 1 + x.2.2.2.2.2.1.2.1.2.1.length + x.2.2.2.2.2.1.2.1.2.2.1.length + 1 + 1 := wrap64 _ (by omega) (by omega)
    have q11 : x.2.2.2.2.2.2.1.2.1.2.1.length ≤ 1048576 := hli.2.2.2.2.2.2.1.2.1.2.1.1
    have m11 := markInt_ok x.2.2.2.2.2.2.1.2.1.2.1 (c + 1 + 1 + 1 + 1 + 1 + 1 + 1 + x.2.2.2.2.2.1.2.1.2.1.length + x.2.2.2.2.2.1.2.1.2.2.1.length + 1 + 1) q11 (by omega) (by omega)
    have q12 : x.2.2.2.2.2.2.1.2.1.2.2.1.length ≤ 1048576 := hli.2.2.2.2.2.2.1.2.1.2.2.1.1
    have m12 := markInt_ok x.2.2.2.2.2.2.1.2.1.2.2.1 (c + 1 + 1 + 1 + 1 + 1 + 1 + 1 + x.2.2.2.2.2.1.2.1.2.1.length + x.2.2.2.2.2.1.2.1.2.2.1.length + 1 + 1 + x.2.2.2.2.2.2.1.2.1.2.1.length) q12 (by omega) (by omega)
    have hw13 : IntKind.i64.wrap (c + 1 + 1 + 1 + 1 + 1 + 1 + 1 + x.2.2.2.2.2.1.2.1.2.1.length + x.2.2.2.2.2.1.2.1.2.2.1.length + 1 + 1 + x.2.2.2.2.2.2.1.2.1.2.1.length + x.2.2.2.2.2.2.1.2.1.2.2.1.length + 1) = c + 1 + 1 + 1 + 1 + 1 + 1 + 1 + x.2.2.2.2.2.1.2.1.2.1.length + x.2.2.2.2.2.1.2.1.2.2.1.length + 1 + 1 + x.2.2.2.2.2.2.1.2.1.2.1.length + x.2.2.2.2.2.2.1.2.1.2.2.1.length + 1 := wrap64 _ (by omega) (by omega)
    have q14 : x.2.2.2.2.2.2.2.2.1.length ≤ 1048576 := hli.2.2.2.2.2.2.2.2.1.1
    have m14 := markLive_ok x.2.2.2.2.2.2.2.2.1 (c + 1 + 1 + 1 + 1 + 1 + 1 + 1 + x.2.2.2.2.2.1.2.1.2.1.length + x.2.2.2.2.2.1.2.1.2.2.1.length + 1 + 1 + x.2.2.2.2.2.2.1.2.1.2.1.length + x.2.2.2.2.2.2.1.2.1.2.2.1.length + 1) q14 (by omega) (by omega)
    have hwi : IntKind.i64.wrap ((i : Int) + 1) = ((i + 1 : Nat) : Int) := by rw [wrap64 _ (by omega) (by omega)]; omega
    refine SW.norm (Norm.expel 0 0 i rfl hg) ?_
    simp only [thawA, thawAL, Heap.put, List.set_set, List.length_cons, List.length_nil, Nat.zero_add, Nat.add_zero, List.getElem?_cons_zero, List.set_cons_zero, List.cons_append, List.nil_append, List.length_map, Nat.reduceAdd]
    have hC1 := cx [.ios] (m7)
    have hC2 := cx [.ios] (m8)
    have hC3 := cx [.ios] (m11)
    have hC4 := cx [.ios] (m12)
    have hC5 := cx [.ios] (m14)
    have fy := And.intro hw0 (And.intro hw1 (And.intro hw2 (And.intro hw3 (And.intro hw4 (And.intro hw5 (And.intro hw6 (And.intro hw9 (And.intro hw10 (And.intro hw13 (And.intro hwi (And.intro hgs (And.intro hltI (And.intro ((((((((((((((@List.set_set T)))))))))))))) (And.intro Nat.zero_add (Int.toNat_natCast)))))))))))))))
    refine goN ?_ ?_ ?_ ?_ ?_ ?_ ?_ ?_ ?_ ?_ ?_ ?_ ?_ ?_ ?_ ?_
    any_goals (first | exact True.intro | skip)
    skip
    refine ⟨N - 1, i + 1, by omega, ⟨by omega, by omega⟩, ?_⟩
    rw [hk2, ← hs]
    refine Norm.trans (Norm.soakArr 0 0 i rfl (hgs _)) ?_
    refine Norm.re [0] (by decide) rfl ?_ (by simp [tmFits, T.ren, mkRec])
    simp only [soakS, soakL, Heap.at, Heap.put, List.getElem?_cons_zero, List.getElem?_cons_succ, List.set_cons_zero, List.set_cons_succ, List.length_map, marks_len, marksG_len, thr_len, and_self, if_true, List.set_set, heapFits, rowFits, obFits, renL_o, true_and, and_true]
    rw [List.map_set]; rfl
  · have hge : i = l.length := by
      have : ¬ i < l.length := by simp at hc; omega
      omega
    subst hge
    rw [mixT_all, List.take_length]
    have fy := Nat.add_zero
    refine goR ?_ ?_ ?_ ?_ ?_ ?_ ?_ ?_ ?_ ?_ ?_ ?_ ?_ ?_ ?_ ?_
    any_goals (first | exact True.intro | skip)
    all_goals (repeat (refine Wh.mk fun hcc => ?_))
    all_goals exact SW.ret (show RetQ _ _ _ _ _ _ _ from RetQ.y [0] [.int .i64 (thr mkRec l k).2])
theorem heldRecS_ok (l : List ((Int × Int × Int × Int × Int × ((Bool × ((Int × (List Int) × (List Int) × Unit)) × Unit)) × ((Bool × ((Int × (List Int) × (List Int) × Unit)) × Unit)) × Int × (List ((Int × Int × Bool × Unit))) × Unit))) (k : Int) (hl : Enc.lim 1048576 l) (h0 : 0 ≤ k) (h1 : k ≤ 281474976710656) : CallR Try.prog 122 [.sl .b ((thr mkRec l k).1.map Enc.b), .int .i64 k] [] (.int .i64 (thr mkRec l k).2) := by
  refine CallR.of_body (n := 166) (rs := [.tmp 4]) hY.ok Try.func122 rfl (by decide) rfl rfl rfl rfl (fun F => ?_)
  have fx := And.intro Y1 (And.intro Y2 (And.intro Y3 (And.intro Y4 (And.intro Y5 (And.intro Y6 (And.intro Y7 (And.intro Y8 (And.intro Y34 (And.intro Y36 (And.intro Y38 (And.intro Y39 (And.intro Y41 (And.intro Y66 (Y91))))))))))))))
  have hl1 : l.length ≤ 1048576 := hl.1
  have hgrow : ∀ x ∈ l, ∀ c, c ≤ (mkRec x c).2 ∧ (mkRec x c).2 ≤ c + 16777216 := fun x hx c => mkRec_rng (hl.2 x hx) c
  have htl := thr_len mkRec l k
  have fy := htl
  refine goN ?_ ?_ ?_ ?_ ?_ ?_ ?_ ?_ ?_ ?_ ?_ ?_ ?_ ?_ ?_ ?_
  any_goals (first | exact True.intro | skip)
  skip
  refine SW.loop (fun i : Nat => ⟨[.sl .b ((thr mkRec l k).1.map Enc.b), .int .i64 (thr mkRec (l.take i) k).2, .undef, .undef, .undef, .int .i64 (i : Nat), .undef, .undef, .undef, .undef, .undef, .undef, .undef, .undef, .undef, .undef, .undef, .undef, .undef, .undef, .undef, .undef, .undef, .undef, .undef, .undef, .undef, .undef, .undef, .undef, .undef, .undef, .undef, .undef, .undef, .undef, .undef, .undef, .undef, .undef, .undef, .undef, .undef, .undef, .undef, .undef, .undef, .undef, .undef, .undef, .undef, .undef, .undef, .undef, .undef, .undef, .undef, .undef, .undef, .undef, .undef, .undef, .undef, .undef, .undef, .undef, .undef, .undef, .undef, .undef, .undef, .undef, .undef, .undef, .undef, .undef, .undef, .undef, .undef, .undef, .undef, .undef, .undef, .undef, .undef, .undef, .undef, .undef, .undef, .undef, .undef, .undef, .undef, .undef, .undef, .undef, .undef, .undef, .undef, .undef, .undef, .undef, .undef, .undef, .undef, .undef, .undef, .undef, .undef, .undef, .undef, .undef, .undef, .undef, .undef, .undef, .undef, .undef, .undef, .undef, .undef, .undef, .undef, .undef, .undef, .undef, .undef, .undef, .undef, .undef, .undef, .undef, .undef, .undef, .undef, .undef, .undef, .undef, .undef, .undef, .undef, .undef, .undef, .undef, .undef, .undef, .undef, .undef, .undef, .undef, .undef, .undef, .undef, .undef, .undef, .undef, .undef, .undef, .undef, .undef, .undef, .undef, .undef, .undef, .undef, .undef], [[]]⟩)
    (fun N i => N = l.length - i ∧ i ≤ l.length) (n := l.length) (x := 0) (Norm.to 0 rfl (by simp [weakL, thr])) ⟨rfl, Nat.zero_le _⟩ ?_
  rintro N i ⟨hn, hi⟩
  have fy := htl
  refine goS ?_
  refine SW.cond rfl (fun hc => ?_) (fun hc => ?_)
  · have hlt : i < l.length := by simp at hc; omega
    have hr := thr_rng mkRec 16777216 (by decide) (l.take i) k (fun x hx => hgrow x (List.mem_of_mem_take hx))
    rw [List.length_take, Nat.min_eq_left hi] at hr
    have hb : (i : Int) * 16777216 ≤ 1048576 * 16777216 := by omega
    have hg : ((thr mkRec l k).1.map Enc.b)[i]? = some (Enc.b (mkRec l[i] (thr mkRec (l.take i) k).2).1) := by rw [map_get Enc.b _ i (by rw [htl]; exact hlt), thr_get mkRec l k i hlt]
    have hk2 : (thr mkRec (l.take (i + 1)) k).2 = (mkRec l[i] (thr mkRec (l.take i) k).2).2 := by rw [thr_succ mkRec l k i hlt]
    have hli := hl.2 l[i] (List.getElem_mem hlt)
    clear hgrow hl
    generalize l[i] = x at *
    generalize (thr mkRec l k).1 = L at *
    generalize (thr mkRec (l.take i) k).2 = c at *
    have hg' : (L.map Enc.b)[i]? = some (.nd [.int .i64 (c), .int .i64 (c + 1), .int .i64 (c + 1 + 1), .int .i64 (c + 1 + 1 + 1), .int .i64 (c + 1 + 1 + 1 + 1), .nd [.bool (Int.tmod (c + 1 + 1 + 1 + 1 + 1) 3 == 0), .nd [.int .i64 (c + 1 + 1 + 1 + 1 + 1 + 1), .sl .b ((marksG id x.2.2.2.2.2.1.2.1.2.1.length (c + 1 + 1 + 1 + 1 + 1 + 1 + 1)).map Enc.b), .sl .b ((marksG id x.2.2.2.2.2.1.2.1.2.2.1.length (c + 1 + 1 + 1 + 1 + 1 + 1 + 1 + x.2.2.2.2.2.1.2.1.2.1.length)).map Enc.b)]], .nd [.bool (Int.tmod (c + 1 + 1 + 1 + 1 + 1 + 1 + 1 + x.2.2.2.2.2.1.2.1.2.1.length + x.2.2.2.2.2.1.2.1.2.2.1.length) 3 == 0), .nd [.int .i64 (c + 1 + 1 + 1 + 1 + 1 + 1 + 1 + x.2.2.2.2.2.1.2.1.2.1.length + x.2.2.2.2.2.1.2.1.2.2.1.length + 1), .sl .b ((marksG id x.2.2.2.2.2.2.1.2.1.2.1.length (c + 1 + 1 + 1 + 1 + 1 + 1 + 1 + x.2.2.2.2.2.1.2.1.2.1.length + x.2.2.2.2.2.1.2.1.2.2.1.length + 1 + 1)).map Enc.b), .sl .b ((marksG id x.2.2.2.2.2.2.1.2.1.2.2.1.length (c + 1 + 1 + 1 + 1 + 1 + 1 + 1 + x.2.2.2.2.2.1.2.1.2.1.length + x.2.2.2.2.2.1.2.1.2.2.1.length + 1 + 1 + x.2.2.2.2.2.2.1.2.1.2.1.length)).map Enc.b)]], .int .i64 (c + 1 + 1 + 1 + 1 + 1 + 1 + 1 + x.2.2.2.2.2.1.2.1.2.1.length + x.2.2.2.2.2.1.2.1.2.2.1.length + 1 + 1 + x.2.2.2.2.2.2.1.2.1.2.1.length + x.2.2.2.2.2.2.1.2.1.2.2.1.length), .sl .b ((marksG (lvM (c + 1 + 1 + 1 + 1 + 1 + 1 + 1 + x.2.2.2.2.2.1.2.1.2.1.length + x.2.2.2.2.2.1.2.1.2.2.1.length + 1 + 1 + x.2.2.2.2.2.2.1.2.1.2.1.length + x.2.2.2.2.2.2.1.2.1.2.2.1.length + 1)) x.2.2.2.2.2.2.2.2.1.length 0).map Enc.b)]) := hg
    clear hg
    have hw0 : IntKind.i64.wrap (c + 1) = c + 1 := wrap64 _ (by omega) (by omega)
    have hw1 : IntKind.i64.wrap (c + 1 + 1) = c + 1 + 1 := wrap64 _ (by omega) (by omega)
    have hw2 : IntKind.i64.wrap (c + 1 + 1 + 1) = c + 1 + 1 + 1 := wrap64 _ (by omega) (by omega)
    have hw3 : IntKind.i64.wrap (c + 1 + 1 + 1 + 1) = c + 1 + 1 + 1 + 1 := wrap64 _ (by omega) (by omega)
    have hw4 : IntKind.i64.wrap (c + 1 + 1 + 1 + 1 + 1) = c + 1 + 1 + 1 + 1 + 1 := wrap64 _ (by omega) (by omega)
    have hw5 : IntKind.i64.wrap (c + 1 + 1 + 1 + 1 + 1 + 1) = c + 1 + 1 + 1 + 1 + 1 + 1 := wrap64 _ (by omega) (by omega)
    have hw6 : IntKind.i64.wrap (c + 1 + 1 + 1 + 1 + 1 + 1 + 1) = c + 1 + 1 + 1 + 1 + 1 + 1 + 1 := wrap64 _ (by omega) (by omega)
    have q7 : x.2.2.2.2.2.1.2.1.2.1.length ≤ 1048576 := hli.2.2.2.2.2.1.2.1.2.1.1
    have m7 := heldInt_ok x.2.2.2.2.2.1.2.1.2.1.length (c + 1 + 1 + 1 + 1 + 1 + 1 + 1) q7 (by omega) (by omega)
    have hz7 : decide (c + 1 + 1 + 1 + 1 + 1 + 1 + 1 + (x.2.2.2.2.2.1.2.1.2.1.length : Int) < 0) = false := by simp; omega
    have q8 : x.2.2.2.2.2.1.2.1.2.2.1.length ≤ 1048576 := hli.2.2.2.2.2.1.2.1.2.2.1.1
    have m8 := heldInt_ok x.2.2.2.2.2.1.2.1.2.2.1.length (c + 1 + 1 + 1 + 1 + 1 + 1 + 1 + x.2.2.2.2.2.1.2.1.2.1.length) q8 (by omega) (by omega)
    have hz8 : decide (c + 1 + 1 + 1 + 1 + 1 + 1 + 1 + x.2.2.2.2.2.1.2.1.2.1.length + (x.2.2.2.2.2.1.2.1.2.2.1.length : Int) < 0) = false := by simp; omega
    have hw9 : IntKind.i64.wrap (c + 1 + 1 + 1 + 1 + 1 + 1 + 1 + x.2.2.2.2.2.1.2.1.2.1.length + x.2.2.2.2.2.1.2.1.2.2.1.length + 1) = c + 1 + 1 + 1 + 1 + 1 + 1 + 1 + x.2.2.2.2.2.1.2.1.2.1.length + x.2.2.2.2.2.1.2.1.2.2.1.length + 1 := wrap64 _ (by omega) (by omega)
    have hw10 : IntKind.i64.wrap (c + 1 + 1 + 1 + 1 + 1 + 1 + 1 + x.2.2.2.2.2.1.2.1.2.1.length + x.2.2.2.2.2.1.2.1.2.2.1.length + 1 + 1) = c + 1 + 1 + 1 + 1 + 1 + 1 + 1 + x.2.2.2.2.2.1.2.1.2.1.length + x.2.2.2.2.2.1.2.1.2.2.1.length + 1 + 1 := wrap64 _ (by omega) (by omega)
    have q11 : x.2.2.2.2.2.2.1.2.1.2.1.length ≤ 1048576 := hli.2.2.2.2.2.2.1.2.1.2.1.1
    have m11 := heldInt_ok x.2.2.2.2.2.2.1.2.1.2.1.length (c + 1 + 1 + 1 + 1 + 1 + 1 + 1 + x.2.2.2.2.2.1.2.1.2.1.length + x.2.2.2.2.2.1.2.1.2.2.1.length + 1 + 1) q11 (by omega) (by omega)
    have hz11 : decide (c + 1 + 1 + 1 + 1 + 1 + 1 + 1 + x.2.2.2.2.2.1.2.1.2.1.length + x.2.2.2.2.2.1.2.1.2.2.1.length + 1 + 1 + (x.2.2.2.2.2.2.1.2.1.2.1.length : Int) < 0) = false := by simp; omega
    have q12 : x.2.2.2.2.2.2.1.2.1.2.2.1.length ≤ 1048576 := hli.2.2.2.2.2.2.1.2.1.2.2.1.1
    have m12 := heldInt_ok x.2.2.2.2.2.2.1.2.1.2.2.1.length (c + 1 + 1 + 1 + 1 + 1 + 1 + 1 + x.2.2.2.2.2.1.2.1.2.1.length + x.2.2.2.2.2.1.2.1.2.2.1.length + 1 + 1 + x.2.2.2.2.2.2.1.2.1.2.1.length) q12 (by omega) (by omega)
    have hz12 : decide (c + 1 + 1 + 1 + 1 + 1 + 1 + 1 + x.2.2.2.2.2.1.2.1.2.1.length + x.2.2.2.2.2.1.2.1.2.2.1.length + 1 + 1 + x.2.2.2.2.2.2.1.2.1.2.1.length + (x.2.2.2.2.2.2.1.2.1.2.2.1.length : Int) < 0) = false := by simp; omega
    have hw13 : IntKind.i64.wrap (c + 1 + 1 + 1 + 1 + 1 + 1 + 1 + x.2.2.2.2.2.1.2.1.2.1.length + x.2.2.2.2.2.1.2.1.2.2.1.length + 1 + 1 + x.2.2.2.2.2.2.1.2.1.2.1.length + x.2.2.2.2.2.2.1.2.1.2.2.1.length + 1) = c + 1 + 1 + 1 + 1 + 1 + 1 + 1 + x.2.2.2.2.2.1.2.1.2.1.length + x.2.2.2.2.2.1.2.1.2.2.1.length + 1 + 1 + x.2.2.2.2.2.2.1.2.1.2.1.length + x.2.2.2.2.2.2.1.2.1.2.2.1.length + 1 := wrap64 _ (by omega) (by omega)
    have q14 : x.2.2.2.2.2.2.2.2.1.length ≤ 1048576 := hli.2.2.2.2.2.2.2.2.1.1
    have m14 := heldLive_ok x.2.2.2.2.2.2.2.2.1.length (c + 1 + 1 + 1 + 1 + 1 + 1 + 1 + x.2.2.2.2.2.1.2.1.2.1.length + x.2.2.2.2.2.1.2.1.2.2.1.length + 1 + 1 + x.2.2.2.2.2.2.1.2.1.2.1.length + x.2.2.2.2.2.2.1.2.1.2.2.1.length + 1) q14 (by omega) (by omega)
    have hz14 : decide (c + 1 + 1 + 1 + 1 + 1 + 1 + 1 + x.2.2.2.2.2.1.2.1.2.1.length + x.2.2.2.2.2.1.2.1.2.2.1.length + 1 + 1 + x.2.2.2.2.2.2.1.2.1.2.1.length + x.2.2.2.2.2.2.1.2.1.2.2.1.length + 1 + (3 * x.2.2.2.2.2.2.2.2.1.length : Int) < 0) = false := by simp; omega
    have hwi : IntKind.i64.wrap ((i : Int) + 1) = ((i + 1 : Nat) : Int) := by rw [wrap64 _ (by omega) (by omega)]; omega
    have hC1 := cx [] (m7)
    have hC2 := cx [] (m8)
    have hC3 := cx [] (m11)
    have hC4 := cx [] (m12)
    have hC5 := cx [] (m14)
    have fy := And.intro hg' (And.intro htl (And.intro hw0 (And.intro hw1 (And.intro hw2 (And.intro hw3 (And.intro hw4 (And.intro hw5 (And.intro hw6 (And.intro hz7 (And.intro hz8 (And.intro hw9 (And.intro hw10 (And.intro hz11 (And.intro hz12 (And.intro hw13 (And.intro hz14 (And.intro hwi (And.intro Nat.zero_add (Int.toNat_natCast)))))))))))))))))))
    refine goR ?_ ?_ ?_ ?_ ?_ ?_ ?_ ?_ ?_ ?_ ?_ ?_ ?_ ?_ ?_ ?_
    any_goals (first | exact True.intro | skip)
    all_goals (repeat (refine Wh.mk fun hcc => ?_))
    all_goals first | (exfalso; simp at hcc; done) | skip
    refine ⟨N - 1, i + 1, by omega, ⟨by omega, by omega⟩, ?_⟩
    rw [hk2]
    exact Norm.re [0] (by decide) rfl (by first | (simp only [eq_self, heapFits, rowFits, obFits, List.getElem?_cons_zero, List.getElem?_cons_succ, renL_o, renL_b, true_and, and_true, and_self]; done) | simp [-List.map_append, heapFits, rowFits, obFits, T.ren, renL]) (by simp [tmFits, T.ren, mkRec])
  · have hge : i = l.length := by
      have : ¬ i < l.length := by simp at hc; omega
      omega
    subst hge
    rw [List.take_length]
    have fy := htl
    refine goK ?_ ?_ ?_ ?_ ?_ ?_ ?_ ?_ ?_ ?_ ?_ ?_ ?_ ?_ ?_ ?_
    any_goals (first | exact True.intro | skip)
    all_goals (repeat (refine Wh.mk fun hcc => ?_))
    all_goals simp [tupOf, fixEs]
end Q6

namespace Q6
open Go Go.Vm Go.Proofs
set_option maxHeartbeats 4000000
set_option synthInstance.maxSize 2000
set_option synthInstance.maxHeartbeats 400000
set_option maxRecDepth 10000
set_option linter.unusedSimpArgs false
set_option linter.unusedVariables false

theorem laws_toIntS_ok (l : List Int) (hl : Enc.lim 1048576 l) : CallR Try.prog 163 [.sl .b (l.map Enc.b)] [] (.ow 1 (l.map Enc.o)) := by
  refine CallR.of_body (n := 22) (rs := [.tmp 2]) hY.ok Try.func163 rfl (by decide) rfl rfl rfl rfl (fun F => ?_)
  have fx := And.intro Y3 (And.intro Y4 (Y34))
  have hl1 : l.length ≤ 1048576 := hl.1
  have fy := (fun u1 => mk_fill u1 34 l hl.1 (.int .i64 0) 1 8 _ Y34 Y3 rfl rfl (by decide))
  refine goN ?_ ?_ ?_ ?_ ?_ ?_ ?_ ?_ ?_ ?_ ?_ ?_ ?_ ?_ ?_ ?_
  any_goals (first | exact True.intro | skip)
  skip
  refine SW.loop (fun i : Nat => ⟨[.sl .b (l.map Enc.b), .undef, .undef, .ref 1 0 0 l.length, .int .i64 i, .undef, .undef, .undef, .undef, .undef, .undef, .undef, .undef, .undef, .undef, .undef, .undef, .undef, .undef, .undef, .undef, .undef], [[], [.arr 1 (fillG (.int .i64 0) l i) false]]⟩)
    (fun n i => n = l.length - i ∧ i ≤ l.length) (n := l.length) (x := 0) (Norm.to 0 rfl (by simp [weakL])) ⟨rfl, Nat.zero_le _⟩ ?_
  rintro n i ⟨hn, hi⟩
  have fy := Nat.add_zero
  refine goS ?_
  refine SW.cond rfl (fun hc => ?_) (fun hc => ?_)
  · have hlt : i < l.length := by simpa using hc
    have hltI : (i : Int) < (l.length : Int) := by omega
    have hg : (l.map Enc.b)[i]? = some (.int .i64 l[i]) := map_get Enc.b l i hlt
    have hf : (fillG (.int .i64 0) l i)[i]? = some (.int .i64 0) := fill_get _ l i hlt
    have hfl : (fillG (.int .i64 0) l i).length = l.length := fill_len _ l i hi
    have fy := And.intro hg (And.intro hf (And.intro hfl (And.intro hltI (Nat.zero_add))))
    refine goR ?_ ?_ ?_ ?_ ?_ ?_ ?_ ?_ ?_ ?_ ?_ ?_ ?_ ?_ ?_ ?_
    any_goals (first | exact True.intro | skip)
    all_goals (repeat (refine Wh.mk fun hcc => ?_))
    refine ⟨n - 1, i + 1, by omega, ⟨by omega, by omega⟩, ?_⟩
    rw [wrap64 _ (by omega) (by omega)]
    refine Norm.trans (Norm.fill (l := l) 1 0 rfl hlt (by first | rfl | (simp [soakS, soakL, Heap.at, Heap.put]; rfl))) ?_
    refine Norm.re [0, 1] (by decide) rfl ?_ (by simp [tmFits, T.ren])
    first | (simp [heapFits, rowFits, obFits, soakS, soakL, Heap.at, Heap.put]; exact renL_fill _ _ _ _ rfl) | exact ⟨trivial, ⟨rfl, rfl, renL_fill _ _ _ _ rfl⟩, trivial⟩
  · have hge : i = l.length := by
      have : ¬ i < l.length := by simpa using hc
      omega
    subst hge
    have fy := Nat.add_zero
    refine goR ?_ ?_ ?_ ?_ ?_ ?_ ?_ ?_ ?_ ?_ ?_ ?_ ?_ ?_ ?_ ?_
    any_goals (first | exact True.intro | skip)
    all_goals (repeat (refine Wh.mk fun hcc => ?_))
    refine SW.ret (show RetQ _ _ _ _ _ _ _ from ⟨.inr rfl, [.ref 1 0 0 l.length], [1], [.ow 1 (l.map Enc.o)], [[], [.gone]], ⟨rfl, ?_, rfl, ?_, rfl, rfl⟩⟩)
    · simp [pass1, modeOf, giveS, Heap.at, Heap.put, fill_all, fixEs, ioAt, ioAtT, ioKs, ioKT, ioM, ioT, T.cel, T.clo, T.cloA, cloAL]
    · simp [cloL, T.clo, T.clP, clPL]
theorem laws_toByteS_ok (l : List UInt8) (hl : Enc.lim 1048576 l) : CallR Try.prog 38 [.sl .b (l.map Enc.b)] [] (.ow 1 (l.map Enc.o)) := by
  refine CallR.of_body (n := 22) (rs := [.tmp 2]) hY.ok Try.func38 rfl (by decide) rfl rfl rfl rfl (fun F => ?_)
  have fx := And.intro Y3 (And.intro Y4 (And.intro Y5 (Y24)))
  have hl1 : l.length ≤ 1048576 := hl.1
  have fy := (fun u1 => mk_fill u1 24 l hl.1 (.int .u8 0) 1 1 _ Y24 Y5 rfl rfl (by decide))
  refine goN ?_ ?_ ?_ ?_ ?_ ?_ ?_ ?_ ?_ ?_ ?_ ?_ ?_ ?_ ?_ ?_
  any_goals (first | exact True.intro | skip)
  skip
  refine SW.loop (fun i : Nat => ⟨[.sl .b (l.map Enc.b), .undef, .undef, .ref 1 0 0 l.length, .int .i64 i, .undef, .undef, .undef, .undef, .undef, .undef, .undef, .undef, .undef, .undef, .undef, .undef, .undef, .undef, .undef, .undef, .undef], [[], [.arr 1 (fillG (.int .u8 0) l i) false]]⟩)
    (fun n i => n = l.length - i ∧ i ≤ l.length) (n := l.length) (x := 0) (Norm.to 0 rfl (by simp [weakL])) ⟨rfl, Nat.zero_le _⟩ ?_
  rintro n i ⟨hn, hi⟩
  have fy := Nat.add_zero
  refine goS ?_
  refine SW.cond rfl (fun hc => ?_) (fun hc => ?_)
  · have hlt : i < l.length := by simpa using hc
    have hltI : (i : Int) < (l.length : Int) := by omega
    have hg : (l.map Enc.b)[i]? = some (.int .u8 (l[i].toNat : Int)) := map_get Enc.b l i hlt
    have hf : (fillG (.int .u8 0) l i)[i]? = some (.int .u8 0) := fill_get _ l i hlt
    have hfl : (fillG (.int .u8 0) l i).length = l.length := fill_len _ l i hi
    have fy := And.intro hg (And.intro hf (And.intro hfl (And.intro hltI (Nat.zero_add))))
    refine goR ?_ ?_ ?_ ?_ ?_ ?_ ?_ ?_ ?_ ?_ ?_ ?_ ?_ ?_ ?_ ?_
    any_goals (first | exact True.intro | skip)
    all_goals (repeat (refine Wh.mk fun hcc => ?_))
    refine ⟨n - 1, i + 1, by omega, ⟨by omega, by omega⟩, ?_⟩
    rw [wrap64 _ (by omega) (by omega)]
    refine Norm.trans (Norm.fill (l := l) 1 0 rfl hlt (by first | rfl | (simp [soakS, soakL, Heap.at, Heap.put]; rfl))) ?_
    refine Norm.re [0, 1] (by decide) rfl ?_ (by simp [tmFits, T.ren])
    first | (simp [heapFits, rowFits, obFits, soakS, soakL, Heap.at, Heap.put]; exact renL_fill _ _ _ _ rfl) | exact ⟨trivial, ⟨rfl, rfl, renL_fill _ _ _ _ rfl⟩, trivial⟩
  · have hge : i = l.length := by
      have : ¬ i < l.length := by simpa using hc
      omega
    subst hge
    have fy := Nat.add_zero
    refine goR ?_ ?_ ?_ ?_ ?_ ?_ ?_ ?_ ?_ ?_ ?_ ?_ ?_ ?_ ?_ ?_
    any_goals (first | exact True.intro | skip)
    all_goals (repeat (refine Wh.mk fun hcc => ?_))
    refine SW.ret (show RetQ _ _ _ _ _ _ _ from ⟨.inr rfl, [.ref 1 0 0 l.length], [1], [.ow 1 (l.map Enc.o)], [[], [.gone]], ⟨rfl, ?_, rfl, ?_, rfl, rfl⟩⟩)
    · simp [pass1, modeOf, giveS, Heap.at, Heap.put, fill_all, fixEs, ioAt, ioAtT, ioKs, ioKT, ioM, ioT, T.cel, T.clo, T.cloA, cloAL]
    · simp [cloL, T.clo, T.clP, clPL]
theorem laws_toObj_ok (x : (Int × (List Int) × (List Int) × Unit)) (hx : Enc.lim 1048576 x) : CallR Try.prog 131 [.nd [.int .i64 x.1, .sl .b (x.2.1.map Enc.b), .sl .b (x.2.2.1.map Enc.b)]] [] (.nd [.int .i64 x.1, .ow 1 (x.2.1.map Enc.o), .ow 1 (x.2.2.1.map Enc.o)]) := by
  refine CallR.of_body (n := 16) (rs := [.cell 2 36]) hY.ok Try.func131 rfl (by decide) rfl rfl rfl rfl (fun F => ?_)
  have fx := And.intro Y1 (And.intro Y2 (And.intro Y3 (And.intro Y34 (And.intro Y36 (Y77)))))
  have hC1 := cx [] (laws_toIntS_ok x.2.1 hx.2.1)
  have hC2 := cx [] (laws_toIntS_ok x.2.2.1 hx.2.2.1)
  have fy := Nat.add_zero
  refine goR ?_ ?_ ?_ ?_ ?_ ?_ ?_ ?_ ?_ ?_ ?_ ?_ ?_ ?_ ?_ ?_
  any_goals (first | exact True.intro | skip)
  all_goals (repeat (refine Wh.mk fun hcc => ?_))
  refine SW.ret (show RetQ _ _ _ _ _ _ _ from ⟨.inr rfl, _, [0], [.nd [.int .i64 x.1, .ow 1 (x.2.1.map Enc.o), .ow 1 (x.2.2.1.map Enc.o)]], ?_, ⟨rfl, ?_, rfl, ?_, rfl, rfl⟩⟩)
  rotate_left
  · first | rfl | (simp [pass1, modeOf, giveS, giveSL, Heap.at, Heap.put, fixEs, ioAt, ioAtT, ioKs, ioKT, ioM, ioT, T.cel, T.clo, cloL, T.cloA, cloAL]; rfl)
  · first | rfl | simp [cloL, T.clo, T.clP, clPL]
theorem laws_toSlot_ok (x : (Bool × ((Int × (List Int) × (List Int) × Unit)) × Unit)) (hx : Enc.lim 1048576 x) : CallR Try.prog 65 [.nd [.bool x.1, .nd [.int .i64 x.2.1.1, .sl .b (x.2.1.2.1.map Enc.b), .sl .b (x.2.1.2.2.1.map Enc.b)]]] [] (.nd [.bool x.1, .nd [.int .i64 x.2.1.1, .ow 1 (x.2.1.2.1.map Enc.o), .ow 1 (x.2.1.2.2.1.map Enc.o)]]) := by
  refine CallR.of_body (n := 12) (rs := [.cell 2 38]) hY.ok Try.func65 rfl (by decide) rfl rfl rfl rfl (fun F => ?_)
  have fx := And.intro Y1 (And.intro Y3 (And.intro Y4 (And.intro Y34 (And.intro Y36 (And.intro Y38 (And.intro Y77 (Y79)))))))
  have hC1 := cx [] (laws_toObj_ok x.2.1 hx.2.1)
  have fy := Nat.add_zero
  refine goR ?_ ?_ ?_ ?_ ?_ ?_ ?_ ?_ ?_ ?_ ?_ ?_ ?_ ?_ ?_ ?_
  any_goals (first | exact True.intro | skip)
  all_goals (repeat (refine Wh.mk fun hcc => ?_))
  refine SW.ret (show RetQ _ _ _ _ _ _ _ from ⟨.inr rfl, _, [0], [.nd [.bool x.1, .nd [.int .i64 x.2.1.1, .ow 1 (x.2.1.2.1.map Enc.o), .ow 1 (x.2.1.2.2.1.map Enc.o)]]], ?_, ⟨rfl, ?_, rfl, ?_, rfl, rfl⟩⟩)
  rotate_left
  · first | rfl | (simp [pass1, modeOf, giveS, giveSL, Heap.at, Heap.put, fixEs, ioAt, ioAtT, ioKs, ioKT, ioM, ioT, T.cel, T.clo, cloL, T.cloA, cloAL]; rfl)
  · first | rfl | simp [cloL, T.clo, T.clP, clPL]
theorem laws_toSlotS_ok (l : List ((Bool × ((Int × (List Int) × (List Int) × Unit)) × Unit))) (hl : Enc.lim 1048576 l) : CallR Try.prog 13 [.sl .b (l.map Enc.b)] [] (.ow 4 (l.map Enc.o)) := by
  refine CallR.of_body (n := 23) (rs := [.tmp 2]) hY.ok Try.func13 rfl (by decide) rfl rfl rfl rfl (fun F => ?_)
  have fx := And.intro Y3 (And.intro Y4 (And.intro Y22 (And.intro Y26 (And.intro Y34 (And.intro Y36 (And.intro Y38 (And.intro Y77 (Y79))))))))
  have hl1 : l.length ≤ 1048576 := hl.1
  have fy := (fun u1 => mk_fill u1 26 l hl.1 (.nd [.bool false, .nd [.int .i64 0, .nils 1, .nils 1]]) 4 64 _ Y26 Y38 rfl rfl (by decide))
  refine goN ?_ ?_ ?_ ?_ ?_ ?_ ?_ ?_ ?_ ?_ ?_ ?_ ?_ ?_ ?_ ?_
  any_goals (first | exact True.intro | skip)
  skip
  refine SW.loop (fun i : Nat => ⟨[.sl .b (l.map Enc.b), .undef, .undef, .ref 1 0 0 l.length, .int .i64 i, .undef, .undef, .undef, .undef, .undef, .undef, .undef, .undef, .undef, .undef, .undef, .undef, .undef, .undef, .undef, .undef, .undef, .undef], [[], [.arr 4 (fillG (.nd [.bool false, .nd [.int .i64 0, .nils 1, .nils 1]]) l i) false]]⟩)
    (fun n i => n = l.length - i ∧ i ≤ l.length) (n := l.length) (x := 0) (Norm.to 0 rfl (by simp [weakL])) ⟨rfl, Nat.zero_le _⟩ ?_
  rintro n i ⟨hn, hi⟩
  have fy := Nat.add_zero
  refine goS ?_
  refine SW.cond rfl (fun hc => ?_) (fun hc => ?_)
  · have hlt : i < l.length := by simpa using hc
    have hltI : (i : Int) < (l.length : Int) := by omega
    have hg : (l.map Enc.b)[i]? = some (.nd [.bool l[i].1, .nd [.int .i64 l[i].2.1.1, .sl .b (l[i].2.1.2.1.map Enc.b), .sl .b (l[i].2.1.2.2.1.map Enc.b)]]) := map_get Enc.b l i hlt
    have hf : (fillG (.nd [.bool false, .nd [.int .i64 0, .nils 1, .nils 1]]) l i)[i]? = some (.nd [.bool false, .nd [.int .i64 0, .nils 1, .nils 1]]) := fill_get _ l i hlt
    have hfl : (fillG (.nd [.bool false, .nd [.int .i64 0, .nils 1, .nils 1]]) l i).length = l.length := fill_len _ l i hi
    have hC1 := cx [] (laws_toSlot_ok l[i] (hl.2 _ (List.getElem_mem hlt)))
    have fy := And.intro hg (And.intro hf (And.intro hfl (And.intro hltI (Nat.zero_add))))
    refine goR ?_ ?_ ?_ ?_ ?_ ?_ ?_ ?_ ?_ ?_ ?_ ?_ ?_ ?_ ?_ ?_
    any_goals (first | exact True.intro | skip)
    all_goals (repeat (refine Wh.mk fun hcc => ?_))
    refine ⟨n - 1, i + 1, by omega, ⟨by omega, by omega⟩, ?_⟩
    rw [wrap64 _ (by omega) (by omega)]
    refine Norm.trans (Norm.fill (l := l) 1 0 rfl hlt (by first | rfl | (simp [soakS, soakL, Heap.at, Heap.put]; rfl))) ?_
    refine Norm.re [0, 1] (by decide) rfl ?_ (by simp [tmFits, T.ren])
    first | (simp [heapFits, rowFits, obFits, soakS, soakL, Heap.at, Heap.put]; exact renL_fill _ _ _ _ rfl) | exact ⟨trivial, ⟨rfl, rfl, renL_fill _ _ _ _ rfl⟩, trivial⟩
  · have hge : i = l.length := by
      have : ¬ i < l.length := by simpa using hc
      omega
    subst hge
    have fy := Nat.add_zero
    refine goR ?_ ?_ ?_ ?_ ?_ ?_ ?_ ?_ ?_ ?_ ?_ ?_ ?_ ?_ ?_ ?_
    any_goals (first | exact True.intro | skip)
    all_goals (repeat (refine Wh.mk fun hcc => ?_))
    refine SW.ret (show RetQ _ _ _ _ _ _ _ from ⟨.inr rfl, [.ref 1 0 0 l.length], [4], [.ow 4 (l.map Enc.o)], [[], [.gone]], ⟨rfl, ?_, rfl, ?_, rfl, rfl⟩⟩)
    · simp [pass1, modeOf, giveS, Heap.at, Heap.put, fill_all, fixEs, ioAt, ioAtT, ioKs, ioKT, ioM, ioT, T.cel, T.clo, T.cloA, cloAL]
    · simp [cloL, T.clo, T.clP, clPL]
end Q6

namespace Q6
open Go Go.Vm Go.Proofs
set_option maxHeartbeats 4000000
set_option synthInstance.maxSize 2000
set_option synthInstance.maxHeartbeats 400000
set_option maxRecDepth 10000
set_option linter.unusedSimpArgs false
set_option linter.unusedVariables false

set_option synthInstance.maxHeartbeats 4000000
set_option synthInstance.maxSize 20000
theorem laws_eqRecS_ok (l m : List ((Int × Int × Int × Int × Int × ((Bool × ((Int × (List Int) × (List Int) × Unit)) × Unit)) × ((Bool × ((Int × (List Int) × (List Int) × Unit)) × Unit)) × Int × (List ((Int × Int × Bool × Unit))) × Unit))) (hl : Enc.lim 1048576 l) : CallR Try.prog 120 [.sl .b (l.map Enc.b), .sl .b (m.map Enc.b)] [] (.bool (decide (l = m))) := by
  refine CallR.of_body (n := 27) (rs := [.tmp 4]) hY.ok Try.func120 rfl (by decide) rfl rfl rfl rfl (fun F => ?_)
  have fx := And.intro Y3 (And.intro Y4 (And.intro Y34 (And.intro Y36 (And.intro Y38 (And.intro Y39 (And.intro Y41 (And.intro Y66 (Y91))))))))
  have hl1 : l.length ≤ 1048576 := hl.1
  have fy := Nat.add_zero
  refine goS ?_
  refine SW.cond rfl (fun hc => ?_) (fun hc => ?_)
  · have hne : ¬ l = m := by intro e; subst e; simp at hc
    have fy := Nat.add_zero
    refine goK ?_ ?_ ?_ ?_ ?_ ?_ ?_ ?_ ?_ ?_ ?_ ?_ ?_ ?_ ?_ ?_
    any_goals (first | exact True.intro | skip)
    all_goals (repeat (refine Wh.mk fun hcc => ?_))
    simp [tupOf, fixEs, hne]
  have hlen : l.length = m.length := by have : (l.length : Int) = m.length := by simpa using hc
                                        omega
  refine SW.skip ?_
  simp only [thenS]
  have fy := Nat.add_zero
  refine goN ?_ ?_ ?_ ?_ ?_ ?_ ?_ ?_ ?_ ?_ ?_ ?_ ?_ ?_ ?_ ?_
  any_goals (first | exact True.intro | skip)
  skip
  refine SW.loop (fun i : Nat => ⟨[.sl .b (l.map Enc.b), .sl .b (m.map Enc.b), .undef, .undef, .undef, .int .i64 i, .undef, .undef, .undef, .undef, .undef, .undef, .undef, .undef, .undef, .undef, .undef, .undef, .undef, .undef, .undef, .undef, .undef, .undef, .undef, .undef, .undef], [[]]⟩)
    (fun n i => n = l.length - i ∧ i ≤ l.length ∧ ∀ j (h : j < l.length), j < i → l[j] = m[j]'(by omega)) (n := l.length) (x := 0) (Norm.to 0 rfl (by simp [weakL])) ⟨rfl, Nat.zero_le _, fun j _ h => absurd h (Nat.not_lt_zero _)⟩ ?_
  rintro n i ⟨hn, hi, hp⟩
  have fy := Nat.add_zero
  refine goS ?_
  refine SW.cond rfl (fun hc => ?_) (fun hc => ?_)
  · have hlt : i < l.length := by simpa using hc
    have hlt' : i < m.length := by omega
    have hgl : (l.map Enc.b)[i]? = some (.nd [.int .i64 l[i].1, .int .i64 l[i].2.1, .int .i64 l[i].2.2.1, .int .i64 l[i].2.2.2.1, .int .i64 l[i].2.2.2.2.1, .nd [.bool l[i].2.2.2.2.2.1.1, .nd [.int .i64 l[i].2.2.2.2.2.1.2.1.1, .sl .b (l[i].2.2.2.2.2.1.2.1.2.1.map Enc.b), .sl .b (l[i].2.2.2.2.2.1.2.1.2.2.1.map Enc.b)]], .nd [.bool l[i].2.2.2.2.2.2.1.1, .nd [.int .i64 l[i].2.2.2.2.2.2.1.2.1.1, .sl .b (l[i].2.2.2.2.2.2.1.2.1.2.1.map Enc.b), .sl .b (l[i].2.2.2.2.2.2.1.2.1.2.2.1.map Enc.b)]], .int .i64 l[i].2.2.2.2.2.2.2.1, .sl .b (l[i].2.2.2.2.2.2.2.2.1.map Enc.b)]) := map_get Enc.b l i hlt
    have hgm : (m.map Enc.b)[i]? = some (.nd [.int .i64 m[i].1, .int .i64 m[i].2.1, .int .i64 m[i].2.2.1, .int .i64 m[i].2.2.2.1, .int .i64 m[i].2.2.2.2.1, .nd [.bool m[i].2.2.2.2.2.1.1, .nd [.int .i64 m[i].2.2.2.2.2.1.2.1.1, .sl .b (m[i].2.2.2.2.2.1.2.1.2.1.map Enc.b), .sl .b (m[i].2.2.2.2.2.1.2.1.2.2.1.map Enc.b)]], .nd [.bool m[i].2.2.2.2.2.2.1.1, .nd [.int .i64 m[i].2.2.2.2.2.2.1.2.1.1, .sl .b (m[i].2.2.2.2.2.2.1.2.1.2.1.map Enc.b), .sl .b (m[i].2.2.2.2.2.2.1.2.1.2.2.1.map Enc.b)]], .int .i64 m[i].2.2.2.2.2.2.2.1, .sl .b (m[i].2.2.2.2.2.2.2.2.1.map Enc.b)]) := map_get Enc.b m i hlt'
    have hC1 := cx [] (eqRec_ok l[i] m[i] (hl.2 _ (List.getElem_mem hlt)))
    have fy := And.intro hgl (hgm)
    refine goK ?_ ?_ ?_ ?_ ?_ ?_ ?_ ?_ ?_ ?_ ?_ ?_ ?_ ?_ ?_ ?_
    any_goals (first | exact True.intro | skip)
    all_goals (repeat (refine Wh.mk fun hcc => ?_))
    · have hx := hcc
      have hne : ¬ l[i] = m[i] := by intro e; simp [e] at hx
      have hlm : ¬ l = m := by intro e; subst e; exact hne rfl
      simp [tupOf, fixEs, hlm]
    · have hx := hcc
      have hx' : l[i] = m[i] := by first | (simpa using hx; done) | (apply UInt8.toNat_inj.1; simp at hx; omega)
      refine ⟨n - 1, i + 1, by omega, ⟨by omega, by omega, fun j hj hji => ?_⟩, ?_⟩
      · by_cases he : j = i
        · subst he; exact hx'
        · exact hp j hj (by omega)
      · rw [wrap64 _ (by omega) (by omega)]
        first | exact Norm.to 0 rfl (by simp [weakL]) | exact Norm.to 1 rfl (by simp [weakL])
  · have hge : i = l.length := by
      have : ¬ i < l.length := by simpa using hc
      omega
    have hlm : l = m := List.ext_getElem hlen fun j h1 h2 => hp j h1 (by omega)
    have fy := Nat.add_zero
    refine goK ?_ ?_ ?_ ?_ ?_ ?_ ?_ ?_ ?_ ?_ ?_ ?_ ?_ ?_ ?_ ?_
    any_goals (first | exact True.intro | skip)
    all_goals (repeat (refine Wh.mk fun hcc => ?_))
    simp [tupOf, fixEs, hlm]
theorem eqLog_ok (x y : LogT) (hx : Enc.lim 1048576 x) : CallR Try.prog 51 [.nd [.sl .b (x.1.map Enc.b), .int .i64 x.2.1], .nd [.sl .b (y.1.map Enc.b), .int .i64 y.2.1]] [] (.bool (decide (x = y))) := by
  refine CallR.of_body (n := 16) (rs := [.tmp 4]) hY.ok Try.func51 rfl (by decide) rfl rfl rfl rfl (fun F => ?_)
  have fx := And.intro Y1 (And.intro Y3 (And.intro Y4 (And.intro Y34 (And.intro Y36 (And.intro Y38 (And.intro Y39 (And.intro Y41 (And.intro Y66 (And.intro Y68 (Y91))))))))))
  obtain ⟨a, b, ⟨⟩⟩ := x
  obtain ⟨a', b', ⟨⟩⟩ := y
  have h1 := laws_eqRecS_ok a a' hx.1
  rw [show decide ((a, b, ()) = (a', b', ())) = (decide (a = a') && decide (b = b')) by simp]
  have hne : (b != b') = !decide (b = b') := by by_cases h : b = b' <;> simp [h]
  generalize decide (a = a') = p1 at *
  generalize decide (b = b') = p2 at *
  clear hx
  have hC1 := cx [] (h1)
  have fy := hne
  refine goK ?_ ?_ ?_ ?_ ?_ ?_ ?_ ?_ ?_ ?_ ?_ ?_ ?_ ?_ ?_ ?_
  any_goals (first | exact True.intro | skip)
  all_goals (repeat (refine Wh.mk fun hcc => ?_))
  all_goals (first | rfl | ((try simp only [tupOf, fixEs]); (first | done | rfl | (simp_all []; done) | grind [])))
theorem markLog_ok (x : LogT) (k : Int) (hx : Enc.lim 1048576 x) (h0 : 0 ≤ k) (h1 : k ≤ 281474976710656) : CallR Try.prog 52 [.nd [.io (.tup [.ow 15 (x.1.map Enc.o)]), .int .i64 x.2.1], .int .i64 k] [.tup [.ow 15 ((thr mkRec x.1 k).1.map Enc.o)]] (.int .i64 (thr mkRec x.1 k).2) := by
  refine CallR.of_body (n := 10) (rs := [.tmp 4]) hY.ok Try.func52 rfl (by decide) rfl rfl rfl rfl (fun F => ?_)
  have fx := And.intro Y3 (And.intro Y4 (And.intro Y34 (And.intro Y36 (And.intro Y38 (And.intro Y39 (And.intro Y41 (And.intro Y66 (And.intro Y68 (Y91)))))))))
  obtain ⟨a, b, ⟨⟩⟩ := x
  have hm := markRecS_ok a k hx.1 h0 h1
  simp only
  have hC1 := cx [.ios] (hm)
  have fy := Nat.add_zero
  refine goR ?_ ?_ ?_ ?_ ?_ ?_ ?_ ?_ ?_ ?_ ?_ ?_ ?_ ?_ ?_ ?_
  any_goals (first | exact True.intro | skip)
  all_goals (repeat (refine Wh.mk fun hcc => ?_))
  all_goals exact SW.ret (show RetQ _ _ _ _ _ _ _ from RetQ.y [0] [.int .i64 (thr mkRec a k).2])
theorem heldLog_ok (x : LogT) (k : Int) (hx : Enc.lim 1048576 x) (h0 : 0 ≤ k) (h1 : k ≤ 281474976710656) : CallR Try.prog 53 [.nd [.sl .b ((thr mkRec x.1 k).1.map Enc.b), .int .i64 x.2.1], .int .i64 k] [] (.int .i64 (thr mkRec x.1 k).2) := by
  refine CallR.of_body (n := 12) (rs := [.tmp 4]) hY.ok Try.func53 rfl (by decide) rfl rfl rfl rfl (fun F => ?_)
  have fx := And.intro Y3 (And.intro Y4 (And.intro Y34 (And.intro Y36 (And.intro Y38 (And.intro Y39 (And.intro Y41 (And.intro Y66 (And.intro Y68 (Y91)))))))))
  obtain ⟨a, b, ⟨⟩⟩ := x
  have hm := heldRecS_ok a k hx.1 h0 h1
  have hr := thr_rng mkRec 16777216 (by decide) a k (fun x hx' c => mkRec_rng (hx.1.2 x hx') c)
  have hk : decide ((thr mkRec a k).2 < 0) = false := by simp; omega
  simp only at hm ⊢
  generalize thr mkRec a k = tm at *
  have hC1 := cx [] (hm)
  have fy := hk
  refine goK ?_ ?_ ?_ ?_ ?_ ?_ ?_ ?_ ?_ ?_ ?_ ?_ ?_ ?_ ?_ ?_
  any_goals (first | exact True.intro | skip)
  all_goals (repeat (refine Wh.mk fun hcc => ?_))
  all_goals simp [tupOf, fixEs]
open Go.By

theorem rl_eq (l : List UInt8) : ∀ (n : Nat) (acc : List RecT) (a : Nat), rlI l n acc a = rlS l n acc a
  | 0, acc, a => rfl
  | n + 1, acc, a => by
    unfold rlI rlS
    by_cases hI : (unfI l a).2.2 = 0
    · have h := unf_eq l a (.inl hI)
      rw [h, grec_eq, rl_eq l n]
    · by_cases hS : (unfS l a).2.2 = 0
      · exact absurd (by rw [unf_eq l a (.inr hS)]; exact hS) hI
      · simp [hI, hS]
theorem rlog_eq (l : List UInt8) : rlogI l = rlogS l := by
  unfold rlogI rlogS
  rw [rl_eq]
theorem rl_lim (l : List UInt8) : ∀ (n : Nat) (acc : List RecT) (a : Nat), (∀ x ∈ acc, Enc.lim 1048576 x) → (∀ x ∈ (rlI l n acc a).1, Enc.lim 1048576 x) ∧ (rlI l n acc a).1.length ≤ acc.length + n
  | 0, acc, a, h => ⟨h, Nat.le_refl _⟩
  | n + 1, acc, a, h => by
    unfold rlI
    split
    · have ih := rl_lim l n (acc ++ [(grecI (unfI l a).1).1]) (unfI l a).2.1 (fun x hx => by
        rcases List.mem_append.1 hx with hx | hx
        · exact h x hx
        · simp only [List.mem_singleton] at hx; subst hx; exact grec_lim _)
      refine ⟨ih.1, Nat.le_trans ih.2 ?_⟩
      rw [List.length_append]; simp; omega
    · exact ⟨h, by simp only; omega⟩
theorem rlog_lim (l : List UInt8) : Enc.lim 1048576 (rlogI l).1 := by
  obtain ⟨h1, h2⟩ := rl_lim l 4000 [] 0 (by simp)
  unfold rlogI
  exact ⟨⟨by simp only [List.length_nil] at h2; simp only; omega, h1⟩, trivial, trivial⟩

theorem take_thr {α : Type} [Enc α] (f : α → Int → α × Int) (l : List α) (k : Int) : List.take l.length ((thr f l k).1.map (Enc.o : α → T)) = (thr f l k).1.map Enc.o := by
  rw [List.take_of_length_le]; simp [thr_len]
attribute [local simp] thr_len take_thr
theorem readLogLaw_ok (l : List UInt8) (hl : Enc.lim maxLen l) : CallR Try.prog 9 [.sl .b (l.map Enc.b)] [] (.bool true) := by
  refine CallR.of_body (n := 93) (rs := [.tmp 2]) hY.ok Try.func9 rfl (by decide) rfl rfl rfl rfl (fun F => ?_)
  have fx := And.intro Y1 (And.intro Y3 (And.intro Y4 (And.intro Y5 (And.intro Y24 (And.intro Y34 (And.intro Y36 (And.intro Y38 (And.intro Y39 (And.intro Y41 (And.intro Y66 (And.intro Y68 (Y91))))))))))))
  by_cases hb : l.length > 1048576
  · have hd : decide ((l.length : Int) > 1048576) = true := by simp; omega
    have fy := hd
    refine goK ?_ ?_ ?_ ?_ ?_ ?_ ?_ ?_ ?_ ?_ ?_ ?_ ?_ ?_ ?_ ?_
    any_goals (first | exact True.intro | skip)
    all_goals (repeat (refine Wh.mk fun hcc => ?_))
    all_goals rfl
  have hd : decide ((l.length : Int) > 1048576) = false := by simp; omega
  have hf : Enc.lim 1048576 l := ⟨by omega, fun _ _ => trivial⟩
  have hl1 : l.length ≤ 1048576 := by omega
  have hT := laws_toByteS_ok l hf
  have hS := rlogS_ok l hl1
  rw [← rlog_eq] at hS
  have hI := rlogI_ok l hl1
  have hx := rlog_lim l
  generalize rlogI l = R at *
  obtain ⟨⟨rs, sure, ⟨⟩⟩, a⟩ := R
  have hE := eqLog_ok (rs, sure, ()) (rs, sure, ()) hx
  have hE2 := laws_eqByteS_ok l l hf
  rw [decide_eq_true rfl] at hE hE2
  have hM := markByte_ok l 1 hl1 (by decide) (by decide)
  have hk0 : decide (1 + (l.length : Int) < 0) = false := by simp; omega
  have hO := markLog_ok (rs, sure, ()) 1 hx (by decide) (by decide)
  have hH := heldLog_ok (rs, sure, ()) 1 hx (by decide) (by decide)
  have hr := thr_rng mkRec 16777216 (by decide) rs 1 (fun x hx' c => mkRec_rng (hx.1.2 x hx') c)
  have hq0 : decide ((thr mkRec rs 1).2 < 0) = false := by simp; omega
  simp only at hS hI hE hO hH
  clear hx hf hl hb hr
  have hC1 := cx [] (hT)
  have hC2 := cx [] (hS)
  have hC3 := cx [] (hI)
  have hC4 := cx [] (hE)
  have hC5 := cx [] (hE2)
  have hC6 := cx [.ios] (hM)
  have hC7 := cx [.iov] (hO)
  have hC8 := cx [] (hH)
  have fy := And.intro hd (And.intro hk0 (hq0))
  refine goK ?_ ?_ ?_ ?_ ?_ ?_ ?_ ?_ ?_ ?_ ?_ ?_ ?_ ?_ ?_ ?_
  any_goals (first | exact True.intro | skip)
  all_goals (repeat (refine Wh.mk fun hcc => ?_))
  all_goals first | rfl | (exfalso; simp at hcc; done)
end Q6

namespace Q6.ReadLog
open Go Go.Vm Go.Proofs
set_option maxHeartbeats 4000000
set_option synthInstance.maxSize 2000
set_option synthInstance.maxHeartbeats 400000
set_option maxRecDepth 10000
set_option linter.unusedSimpArgs false
set_option linter.unusedVariables false

open Go.Proofs.Ytalhmcbkmpggiaa
open Go.ChangeShapes Go.WideShapes Go.ChangeAt Go.RowKit
theorem own : ownKnob Try.prog.godebug = none := by kernel_rfl
theorem laidOut : laidOutB Try.prog = true := by kernel_rfl
theorem plain24 : plainT Y 12 24 = true := by kernel_rfl

set_option maxRecDepth 100000 in
theorem lifted (os : Os) (started : os.Started) (H : Type) (enc : TypeId × Value → H) :
    ReturnsInHanded {} Try.checked os 9 .any (Rows.fnExactReadLogSpec.pre6 enc Try.prog Try.f9 Rows.fnExactReadLogRow.domain false) (Rows.fnExactReadLogSpec.post enc Try.prog Try.f9 false true false false) := by
  refine returnsInHanded_of_change (C := Try.checked) own started (by kernel_rfl) Try.func9
    (ChangeSpec.witness6 (enc := enc) (C := Try.checked) false ⟨#[], #[.slice none 0 0], []⟩ 8 (by kernel_rfl) (by kernel_rfl) (by kernel_rfl) (by kernel_rfl)) ?_
  intro W base args ds gs before hval0 hW hcnd _
  have hval : ∀ (j : Nat) t v, Try.f9.params[j]? = some t → args[j]? = some v → Value.okWide Try.prog W .any base t v := hval0
  have hW' := hW
  obtain ⟨p, q, hA0, hV, rfl, _, _⟩ := hW
  have hA : DataW.TrodAll enc Try.prog W 0 (fun _ => true) true Try.f9.params.toList args.toList ds p := hA0
  have hV' : DataW.TrodVars enc Try.prog W (fun _ => true) [] gs q := hV
  obtain ⟨rfl, rfl⟩ := trodVars_none hV'
  rw [Try.params9] at hA hval
  have one := trodAll_one hA
  refine (calls_of hY 12 (by simp [plain24]) hA (fun j t v h1 h2 => hval j t v (by simpa using h1) (by simpa using h2)) ?_).mono ?_
  · intro us hu ht
    match us, hu with
    | [u0], _ =>
      obtain ⟨x0, rfl, hx0⟩ := Enc.dec (α := List UInt8) Y 12 24 u0 (by kernel_rfl) (ht 0 24 u0 rfl rfl)
      exact readLogLaw_ok x0 hx0
  · rintro e W' ⟨rfl, h1, h2⟩
    obtain ⟨v, d, _, rfl, _⟩ := one
    exact ⟨_, rfl, post_true (tb := 4) laidOut (by rw [Try.params9]; exact of_decide_eq_true (by kernel_rfl)) rfl hW' rfl rfl rfl rfl (by kernel_rfl) h1 h2⟩

theorem fnExactReadLog_holds : Rows.FnExactReadLogSaid :=
  OpenClaim.holds_of_wide 9 Try.f9 rfl rfl rfl rfl rfl rfl rfl ⟨rfl, rfl, rfl, rfl, rfl⟩ rfl rfl rfl rfl rfl (by kernel_rfl) Try.func9 (by kernel_rfl)
    (of_decide_eq_true (by kernel_rfl)) (by unfold Func.isWrapper; first | (rw [if_pos (by decide +kernel)]; kernel_rfl) | (rw [if_neg (by decide +kernel)]; exact ⟨rfl, rfl⟩))
    (fun os started H enc _ => lifted os started H enc)
end Q6.ReadLog

namespace Go.Proofs.Ytalhmcbkmpggiaa
/-- FnExactReadLog: the program's ReadLog returns what the reference's returns, for all arguments. -/
theorem fnExactReadLog_holds : Rows.FnExactReadLogSaid := Q6.ReadLog.fnExactReadLog_holds
#print axioms fnExactReadLog_holds
end Go.Proofs.Ytalhmcbkmpggiaa
