/- FnExactGetPage: the program's GetPage returns what the reference's returns, for all arguments. -/
import Derived.Test.YtalhmcbkmpggiaaXGetPageP1
import Derived.Test.YtalhmcbkmpggiaaXGetPageP4
import Derived.Test.YtalhmcbkmpggiaaVm5
import Derived.Test.YtalhmcbkmpggiaaVm4
import Derived.Test.YtalhmcbkmpggiaaRows
import Derived.ProofKit
set_option linter.all false

namespace Q6
open Go Go.Vm Go.Proofs
set_option maxHeartbeats 4000000
set_option synthInstance.maxSize 2000
set_option synthInstance.maxHeartbeats 400000
set_option maxRecDepth 10000
set_option linter.unusedSimpArgs false
set_option linter.unusedVariables false

open Go.By

theorem frz_bytes : ∀ l : List UInt8, frzL (l.map Enc.o) = l.map Enc.b
  | [] => rfl
  | x :: l => by simp only [List.map_cons, frzL, frz_bytes l]; rfl
theorem frz_all (l : List UInt8) : frzL (((l.map Enc.o).drop 0).take l.length) = l.map Enc.b := by
  rw [List.drop_zero, List.take_of_length_le (by simp), frz_bytes]
def page0 : PageT := (0, (slot0', slot0', slot0', slot0', ()), ())
def pageEnd (x : PageT) (b : Bool) : PageT × Bool := if b = true then (x, true) else (page0, false)
def pgI (b : List UInt8) : PageT × Bool :=
  let a := oneR b (0, false); let s1 := slotI b a.2; let s2 := slotI b s1.2; let s3 := slotI b s2.2; let s4 := slotI b s3.2
  pageEnd (a.1, (s1.1, s2.1, s3.1, s4.1, ()), ()) ((!s4.2.2 && decide (s4.2.1 = b.length)) && pageB (a.1, (s1.1, s2.1, s3.1, s4.1, ()), ()))
def gpgI (l : List UInt8) : PageT × Bool := if (decide ((unfI l 0).2.2 = 0) && decide ((unfI l 0).2.1 = l.length)) = true then pgI (unfI l 0).1 else (page0, false)
def pgS (l b : List UInt8) : PageT × Bool :=
  let a := oneR b (0, false); let s1 := slotS b a.2; let s2 := slotS b s1.2; let s3 := slotS b s2.2; let s4 := slotS b s3.2
  pageEnd (a.1, (s1.1, s2.1, s3.1, s4.1, ()), ()) (!s4.2.2 && (pageB (a.1, (s1.1, s2.1, s3.1, s4.1, ()), ()) && decide (putPage (a.1, (s1.1, s2.1, s3.1, s4.1, ()), ()) = l)))
def gpgS (l : List UInt8) : PageT × Bool := if (decide ((unfS l 0).2.2 = 0) && decide ((unfS l 0).2.1 = l.length)) = true then pgS l (unfS l 0).1 else (page0, false)
theorem frameL_len2 (l : List UInt8) : (frameL l).length ≤ l.length + 10 := frameL_len l

theorem gpgI_ok (l : List UInt8) (hl : l.length ≤ 1048576) : CallR Try.prog 32 [.sl .b (l.map Enc.b)] [] (.tup [.nd [.int .i64 (((gpgI l).1).1), .nd [.nd [.bool (((((gpgI l).1).2.1).1).1), .nd [.int .i64 ((((((gpgI l).1).2.1).1).2.1).1), .ow 1 (((((((gpgI l).1).2.1).1).2.1).2.1).map Enc.o), .ow 1 (((((((gpgI l).1).2.1).1).2.1).2.2.1).map Enc.o)]], .nd [.bool (((((gpgI l).1).2.1).2.1).1), .nd [.int .i64 ((((((gpgI l).1).2.1).2.1).2.1).1), .ow 1 (((((((gpgI l).1).2.1).2.1).2.1).2.1).map Enc.o), .ow 1 (((((((gpgI l).1).2.1).2.1).2.1).2.2.1).map Enc.o)]], .nd [.bool (((((gpgI l).1).2.1).2.2.1).1), .nd [.int .i64 ((((((gpgI l).1).2.1).2.2.1).2.1).1), .ow 1 (((((((gpgI l).1).2.1).2.2.1).2.1).2.1).map Enc.o), .ow 1 (((((((gpgI l).1).2.1).2.2.1).2.1).2.2.1).map Enc.o)]], .nd [.bool (((((gpgI l).1).2.1).2.2.2.1).1), .nd [.int .i64 ((((((gpgI l).1).2.1).2.2.2.1).2.1).1), .ow 1 (((((((gpgI l).1).2.1).2.2.2.1).2.1).2.1).map Enc.o), .ow 1 (((((((gpgI l).1).2.1).2.2.2.1).2.1).2.2.1).map Enc.o)]]]], .bool (gpgI l).2]) := by
  refine CallR.of_body (n := 50) (rs := [.cell 2 49, .tmp 3]) hY.ok Try.func32 rfl (by decide) rfl rfl rfl rfl (fun F => ?_)
  have fx := And.intro Y1 (And.intro Y2 (And.intro Y3 (And.intro Y4 (And.intro Y5 (And.intro Y24 (And.intro Y34 (And.intro Y36 (And.intro Y38 (And.intro Y47 (And.intro Y49 (And.intro Y97 (Y99))))))))))))
  have hU0 := unframeI_ok l 0 hl (Nat.zero_le _)
  have hle := unfI_le l 0 (Nat.zero_le _)
  unfold gpgI
  generalize unfI l 0 = u at *
  obtain ⟨bd, e, c⟩ := u
  simp only at hU0 hle ⊢
  have hU : CallR Try.prog 97 [.sl .b (l.map Enc.b), .int .i64 0] [] (.tup [.ow 1 (bd.map Enc.o), .int .i64 (e : Nat), .int .i64 c]) := hU0
  clear hU0
  have hcn : (c != 0) = !decide (c = 0) := by by_cases h : c = 0 <;> simp [h]
  have hen : ((e : Int) != (l.length : Int)) = !decide (e = l.length) := by by_cases h : e = l.length <;> simp [h]; omega
  generalize decide (c = 0) = p at *
  generalize decide (e = l.length) = q at *
  cases p
  · cases q
    · simp only [Bool.and_self, Bool.false_and, Bool.and_false, Bool.false_eq_true, if_false, if_true]
      unfold page0 slot0'
      have hC1 := cx [] (hU)
      have fy := And.intro hcn (hen)
      refine goU ?_ ?_ ?_ ?_ ?_ ?_ ?_ ?_ ?_ ?_ ?_ ?_ ?_ ?_ ?_ ?_
      any_goals (first | exact True.intro | skip)
      all_goals (repeat (refine Wh.mk fun hcc => ?_))
      all_goals exact SW.ret (show RetQ _ _ _ _ _ _ _ from RetQ.y [0, 0] [.nd [.int .i64 0, .nd [.nd [.bool false, .nd [.int .i64 0, .ow 1 [], .ow 1 []]], .nd [.bool false, .nd [.int .i64 0, .ow 1 [], .ow 1 []]], .nd [.bool false, .nd [.int .i64 0, .ow 1 [], .ow 1 []]], .nd [.bool false, .nd [.int .i64 0, .ow 1 [], .ow 1 []]]]], .bool false])
    · simp only [Bool.and_self, Bool.false_and, Bool.and_false, Bool.false_eq_true, if_false, if_true]
      unfold page0 slot0'
      have hC1 := cx [] (hU)
      have fy := And.intro hcn (hen)
      refine goU ?_ ?_ ?_ ?_ ?_ ?_ ?_ ?_ ?_ ?_ ?_ ?_ ?_ ?_ ?_ ?_
      any_goals (first | exact True.intro | skip)
      all_goals (repeat (refine Wh.mk fun hcc => ?_))
      all_goals exact SW.ret (show RetQ _ _ _ _ _ _ _ from RetQ.y [0, 0] [.nd [.int .i64 0, .nd [.nd [.bool false, .nd [.int .i64 0, .ow 1 [], .ow 1 []]], .nd [.bool false, .nd [.int .i64 0, .ow 1 [], .ow 1 []]], .nd [.bool false, .nd [.int .i64 0, .ow 1 [], .ow 1 []]], .nd [.bool false, .nd [.int .i64 0, .ow 1 [], .ow 1 []]]]], .bool false])
  · cases q
    · simp only [Bool.and_self, Bool.false_and, Bool.and_false, Bool.false_eq_true, if_false, if_true]
      unfold page0 slot0'
      have hC1 := cx [] (hU)
      have fy := And.intro hcn (hen)
      refine goU ?_ ?_ ?_ ?_ ?_ ?_ ?_ ?_ ?_ ?_ ?_ ?_ ?_ ?_ ?_ ?_
      any_goals (first | exact True.intro | skip)
      all_goals (repeat (refine Wh.mk fun hcc => ?_))
      all_goals exact SW.ret (show RetQ _ _ _ _ _ _ _ from RetQ.y [0, 0] [.nd [.int .i64 0, .nd [.nd [.bool false, .nd [.int .i64 0, .ow 1 [], .ow 1 []]], .nd [.bool false, .nd [.int .i64 0, .ow 1 [], .ow 1 []]], .nd [.bool false, .nd [.int .i64 0, .ow 1 [], .ow 1 []]], .nd [.bool false, .nd [.int .i64 0, .ow 1 [], .ow 1 []]]]], .bool false])
    · simp only [Bool.and_self, Bool.false_and, Bool.and_false, Bool.false_eq_true, if_false, if_true]
      have hb := Nat.le_trans hle.1 hl
      clear hle
      unfold pgI
      simp only
      have h1 : CallR Try.prog 85 [.io (.nd [.sl .s (bd.map Enc.b), .int .i64 0, .bool false])] [.nd [.sl .s (bd.map Enc.b), .int .i64 ((oneR bd (0, false)).2.1 : Nat), .bool (oneR bd (0, false)).2.2]] (.int .i64 (oneR bd (0, false)).1) := one_s bd (0, false) hb (Nat.zero_le _)
      have e1 := oneR_le bd (0, false) (Nat.zero_le _)
      generalize oneR bd (0, false) = a at *
      have h2 := implSlot_s bd a.2 hb e1
      have e2 := slotI_le bd a.2 e1
      have l1 := slotI_lim bd a.2
      generalize slotI bd a.2 = s1 at *
      have h3 := implSlot_s bd s1.2 hb e2
      have e3 := slotI_le bd s1.2 e2
      have l2 := slotI_lim bd s1.2
      generalize slotI bd s1.2 = s2 at *
      have h4 := implSlot_s bd s2.2 hb e3
      have e4 := slotI_le bd s2.2 e3
      have l3 := slotI_lim bd s2.2
      generalize slotI bd s2.2 = s3 at *
      have h5 := implSlot_s bd s3.2 hb e4
      have e5 := slotI_le bd s3.2 e4
      have l4 := slotI_lim bd s3.2
      generalize slotI bd s3.2 = s4 at *
      have hx : Enc.lim 1048576 ((a.1, (s1.1, s2.1, s3.1, s4.1, ()), ()) : PageT) := ⟨trivial, ⟨⟨trivial, ⟨trivial, ⟨by simp only; omega, fun _ _ => trivial⟩, ⟨by simp only; omega, fun _ _ => trivial⟩, trivial⟩, trivial⟩, ⟨trivial, ⟨trivial, ⟨by simp only; omega, fun _ _ => trivial⟩, ⟨by simp only; omega, fun _ _ => trivial⟩, trivial⟩, trivial⟩, ⟨trivial, ⟨trivial, ⟨by simp only; omega, fun _ _ => trivial⟩, ⟨by simp only; omega, fun _ _ => trivial⟩, trivial⟩, trivial⟩, ⟨trivial, ⟨trivial, ⟨by simp only; omega, fun _ _ => trivial⟩, ⟨by simp only; omega, fun _ _ => trivial⟩, trivial⟩, trivial⟩, trivial⟩, trivial⟩
      have hD := done_ok bd s4.2
      have hP := implPageOk_ok (a.1, (s1.1, s2.1, s3.1, s4.1, ()), ()) hx
      simp only at hP
      generalize pageB (a.1, (s1.1, s2.1, s3.1, s4.1, ()), ()) = b at *
      generalize (!s4.2.2 && decide (s4.2.1 = bd.length)) = d at *
      clear hx
      unfold pageEnd page0 slot0'
      cases d <;> cases b
      · skip
        simp only [Bool.and_self, Bool.false_and, Bool.and_false, Bool.true_and, Bool.not_true, Bool.not_false, Bool.false_eq_true, if_false, if_true]
        have hC1 := cx [] (hU)
        have fy := And.intro hcn (hen)
        refine goN ?_ ?_ ?_ ?_ ?_ ?_ ?_ ?_ ?_ ?_ ?_ ?_ ?_ ?_ ?_ ?_
        any_goals (first | exact True.intro | skip)
        skip
        refine SW.cond rfl (fun hcc => absurd hcc (by decide)) (fun hcc => ?_)
        refine SW.norm (Norm.frz 4 2 0 rfl rfl (by simp)) ?_
        rw [frz_all]
        simp only [List.set_cons_succ, List.set_cons_zero, Heap.put, List.getElem?_cons_succ, List.getElem?_cons_zero]
        have hC1 := cx [.io] (h1)
        have hC2 := cx [.io] (h2)
        have hC3 := cx [.io] (h3)
        have hC4 := cx [.io] (h4)
        have hC5 := cx [.io] (h5)
        have hC6 := cx [] (hD)
        have hC7 := cx [] (hP)
        have fy := And.intro nc4 (And.intro nc8 (And.intro wa (tn)))
        refine goU ?_ ?_ ?_ ?_ ?_ ?_ ?_ ?_ ?_ ?_ ?_ ?_ ?_ ?_ ?_ ?_
        any_goals (first | exact True.intro | skip)
        all_goals (repeat (refine Wh.mk fun hcc => ?_))
        all_goals exact SW.ret (show RetQ _ _ _ _ _ _ _ from RetQ.y [0, 0] [.nd [.int .i64 0, .nd [.nd [.bool false, .nd [.int .i64 0, .ow 1 [], .ow 1 []]], .nd [.bool false, .nd [.int .i64 0, .ow 1 [], .ow 1 []]], .nd [.bool false, .nd [.int .i64 0, .ow 1 [], .ow 1 []]], .nd [.bool false, .nd [.int .i64 0, .ow 1 [], .ow 1 []]]]], .bool false])
      · skip
        simp only [Bool.and_self, Bool.false_and, Bool.and_false, Bool.true_and, Bool.not_true, Bool.not_false, Bool.false_eq_true, if_false, if_true]
        have hC1 := cx [] (hU)
        have fy := And.intro hcn (hen)
        refine goN ?_ ?_ ?_ ?_ ?_ ?_ ?_ ?_ ?_ ?_ ?_ ?_ ?_ ?_ ?_ ?_
        any_goals (first | exact True.intro | skip)
        skip
        refine SW.cond rfl (fun hcc => absurd hcc (by decide)) (fun hcc => ?_)
        refine SW.norm (Norm.frz 4 2 0 rfl rfl (by simp)) ?_
        rw [frz_all]
        simp only [List.set_cons_succ, List.set_cons_zero, Heap.put, List.getElem?_cons_succ, List.getElem?_cons_zero]
        have hC1 := cx [.io] (h1)
        have hC2 := cx [.io] (h2)
        have hC3 := cx [.io] (h3)
        have hC4 := cx [.io] (h4)
        have hC5 := cx [.io] (h5)
        have hC6 := cx [] (hD)
        have hC7 := cx [] (hP)
        have fy := And.intro nc4 (And.intro nc8 (And.intro wa (tn)))
        refine goU ?_ ?_ ?_ ?_ ?_ ?_ ?_ ?_ ?_ ?_ ?_ ?_ ?_ ?_ ?_ ?_
        any_goals (first | exact True.intro | skip)
        all_goals (repeat (refine Wh.mk fun hcc => ?_))
        all_goals exact SW.ret (show RetQ _ _ _ _ _ _ _ from RetQ.y [0, 0] [.nd [.int .i64 0, .nd [.nd [.bool false, .nd [.int .i64 0, .ow 1 [], .ow 1 []]], .nd [.bool false, .nd [.int .i64 0, .ow 1 [], .ow 1 []]], .nd [.bool false, .nd [.int .i64 0, .ow 1 [], .ow 1 []]], .nd [.bool false, .nd [.int .i64 0, .ow 1 [], .ow 1 []]]]], .bool false])
      · skip
        simp only [Bool.and_self, Bool.false_and, Bool.and_false, Bool.true_and, Bool.not_true, Bool.not_false, Bool.false_eq_true, if_false, if_true]
        have hC1 := cx [] (hU)
        have fy := And.intro hcn (hen)
        refine goN ?_ ?_ ?_ ?_ ?_ ?_ ?_ ?_ ?_ ?_ ?_ ?_ ?_ ?_ ?_ ?_
        any_goals (first | exact True.intro | skip)
        skip
        refine SW.cond rfl (fun hcc => absurd hcc (by decide)) (fun hcc => ?_)
        refine SW.norm (Norm.frz 4 2 0 rfl rfl (by simp)) ?_
        rw [frz_all]
        simp only [List.set_cons_succ, List.set_cons_zero, Heap.put, List.getElem?_cons_succ, List.getElem?_cons_zero]
        have hC1 := cx [.io] (h1)
        have hC2 := cx [.io] (h2)
        have hC3 := cx [.io] (h3)
        have hC4 := cx [.io] (h4)
        have hC5 := cx [.io] (h5)
        have hC6 := cx [] (hD)
        have hC7 := cx [] (hP)
        have fy := And.intro nc4 (And.intro nc8 (And.intro wa (tn)))
        refine goU ?_ ?_ ?_ ?_ ?_ ?_ ?_ ?_ ?_ ?_ ?_ ?_ ?_ ?_ ?_ ?_
        any_goals (first | exact True.intro | skip)
        all_goals (repeat (refine Wh.mk fun hcc => ?_))
        all_goals exact SW.ret (show RetQ _ _ _ _ _ _ _ from RetQ.y [0, 0] [.nd [.int .i64 0, .nd [.nd [.bool false, .nd [.int .i64 0, .ow 1 [], .ow 1 []]], .nd [.bool false, .nd [.int .i64 0, .ow 1 [], .ow 1 []]], .nd [.bool false, .nd [.int .i64 0, .ow 1 [], .ow 1 []]], .nd [.bool false, .nd [.int .i64 0, .ow 1 [], .ow 1 []]]]], .bool false])
      · skip
        simp only [Bool.and_self, Bool.false_and, Bool.and_false, Bool.true_and, Bool.not_true, Bool.not_false, Bool.false_eq_true, if_false, if_true]
        have hC1 := cx [] (hU)
        have fy := And.intro hcn (hen)
        refine goN ?_ ?_ ?_ ?_ ?_ ?_ ?_ ?_ ?_ ?_ ?_ ?_ ?_ ?_ ?_ ?_
        any_goals (first | exact True.intro | skip)
        skip
        refine SW.cond rfl (fun hcc => absurd hcc (by decide)) (fun hcc => ?_)
        refine SW.norm (Norm.frz 4 2 0 rfl rfl (by simp)) ?_
        rw [frz_all]
        simp only [List.set_cons_succ, List.set_cons_zero, Heap.put, List.getElem?_cons_succ, List.getElem?_cons_zero]
        have hC1 := cx [.io] (h1)
        have hC2 := cx [.io] (h2)
        have hC3 := cx [.io] (h3)
        have hC4 := cx [.io] (h4)
        have hC5 := cx [.io] (h5)
        have hC6 := cx [] (hD)
        have hC7 := cx [] (hP)
        have fy := And.intro nc4 (And.intro nc8 (And.intro wa (tn)))
        refine goU ?_ ?_ ?_ ?_ ?_ ?_ ?_ ?_ ?_ ?_ ?_ ?_ ?_ ?_ ?_ ?_
        any_goals (first | exact True.intro | skip)
        all_goals (repeat (refine Wh.mk fun hcc => ?_))
        all_goals exact SW.ret (show RetQ _ _ _ _ _ _ _ from RetQ.y [0, 0] [.nd [.int .i64 a.1, .nd [.nd [.bool s1.1.1, .nd [.int .i64 s1.1.2.1.1, .ow 1 (s1.1.2.1.2.1.map Enc.o), .ow 1 (s1.1.2.1.2.2.1.map Enc.o)]], .nd [.bool s2.1.1, .nd [.int .i64 s2.1.2.1.1, .ow 1 (s2.1.2.1.2.1.map Enc.o), .ow 1 (s2.1.2.1.2.2.1.map Enc.o)]], .nd [.bool s3.1.1, .nd [.int .i64 s3.1.2.1.1, .ow 1 (s3.1.2.1.2.1.map Enc.o), .ow 1 (s3.1.2.1.2.2.1.map Enc.o)]], .nd [.bool s4.1.1, .nd [.int .i64 s4.1.2.1.1, .ow 1 (s4.1.2.1.2.1.map Enc.o), .ow 1 (s4.1.2.1.2.2.1.map Enc.o)]]]], .bool true])
theorem gpgS_ok (l : List UInt8) (hl : l.length ≤ 1048576) : CallR Try.prog 37 [.sl .b (l.map Enc.b)] [] (.tup [.nd [.int .i64 (((gpgS l).1).1), .nd [.nd [.bool (((((gpgS l).1).2.1).1).1), .nd [.int .i64 ((((((gpgS l).1).2.1).1).2.1).1), .ow 1 (((((((gpgS l).1).2.1).1).2.1).2.1).map Enc.o), .ow 1 (((((((gpgS l).1).2.1).1).2.1).2.2.1).map Enc.o)]], .nd [.bool (((((gpgS l).1).2.1).2.1).1), .nd [.int .i64 ((((((gpgS l).1).2.1).2.1).2.1).1), .ow 1 (((((((gpgS l).1).2.1).2.1).2.1).2.1).map Enc.o), .ow 1 (((((((gpgS l).1).2.1).2.1).2.1).2.2.1).map Enc.o)]], .nd [.bool (((((gpgS l).1).2.1).2.2.1).1), .nd [.int .i64 ((((((gpgS l).1).2.1).2.2.1).2.1).1), .ow 1 (((((((gpgS l).1).2.1).2.2.1).2.1).2.1).map Enc.o), .ow 1 (((((((gpgS l).1).2.1).2.2.1).2.1).2.2.1).map Enc.o)]], .nd [.bool (((((gpgS l).1).2.1).2.2.2.1).1), .nd [.int .i64 ((((((gpgS l).1).2.1).2.2.2.1).2.1).1), .ow 1 (((((((gpgS l).1).2.1).2.2.2.1).2.1).2.1).map Enc.o), .ow 1 (((((((gpgS l).1).2.1).2.2.2.1).2.1).2.2.1).map Enc.o)]]]], .bool (gpgS l).2]) := by
  refine CallR.of_body (n := 58) (rs := [.cell 2 49, .tmp 3]) hY.ok Try.func37 rfl (by decide) rfl rfl rfl rfl (fun F => ?_)
  have fx := And.intro Y1 (And.intro Y2 (And.intro Y3 (And.intro Y4 (And.intro Y5 (And.intro Y24 (And.intro Y34 (And.intro Y36 (And.intro Y38 (And.intro Y47 (And.intro Y49 (And.intro Y115 (Y117))))))))))))
  have hU0 := unframeS_ok l 0 hl (Nat.zero_le _)
  have hle := unfS_le l 0 (Nat.zero_le _)
  unfold gpgS
  generalize unfS l 0 = u at *
  obtain ⟨bd, e, c⟩ := u
  simp only at hU0 hle ⊢
  have hU : CallR Try.prog 103 [.sl .b (l.map Enc.b), .int .i64 0] [] (.tup [.ow 1 (bd.map Enc.o), .int .i64 (e : Nat), .int .i64 c]) := hU0
  clear hU0
  have hcn : (c != 0) = !decide (c = 0) := by by_cases h : c = 0 <;> simp [h]
  have hen : ((e : Int) != (l.length : Int)) = !decide (e = l.length) := by by_cases h : e = l.length <;> simp [h]; omega
  generalize decide (c = 0) = p at *
  generalize decide (e = l.length) = q at *
  cases p
  · cases q
    · simp only [Bool.and_self, Bool.false_and, Bool.and_false, Bool.false_eq_true, if_false, if_true]
      unfold page0 slot0'
      have hC1 := cx [] (hU)
      have fy := And.intro hcn (hen)
      refine goU ?_ ?_ ?_ ?_ ?_ ?_ ?_ ?_ ?_ ?_ ?_ ?_ ?_ ?_ ?_ ?_
      any_goals (first | exact True.intro | skip)
      all_goals (repeat (refine Wh.mk fun hcc => ?_))
      all_goals exact SW.ret (show RetQ _ _ _ _ _ _ _ from RetQ.y [0, 0] [.nd [.int .i64 0, .nd [.nd [.bool false, .nd [.int .i64 0, .ow 1 [], .ow 1 []]], .nd [.bool false, .nd [.int .i64 0, .ow 1 [], .ow 1 []]], .nd [.bool false, .nd [.int .i64 0, .ow 1 [], .ow 1 []]], .nd [.bool false, .nd [.int .i64 0, .ow 1 [], .ow 1 []]]]], .bool false])
    · simp only [Bool.and_self, Bool.false_and, Bool.and_false, Bool.false_eq_true, if_false, if_true]
      unfold page0 slot0'
      have hC1 := cx [] (hU)
      have fy := And.intro hcn (hen)
      refine goU ?_ ?_ ?_ ?_ ?_ ?_ ?_ ?_ ?_ ?_ ?_ ?_ ?_ ?_ ?_ ?_
      any_goals (first | exact True.intro | skip)
      all_goals (repeat (refine Wh.mk fun hcc => ?_))
      all_goals exact SW.ret (show RetQ _ _ _ _ _ _ _ from RetQ.y [0, 0] [.nd [.int .i64 0, .nd [.nd [.bool false, .nd [.int .i64 0, .ow 1 [], .ow 1 []]], .nd [.bool false, .nd [.int .i64 0, .ow 1 [], .ow 1 []]], .nd [.bool false, .nd [.int .i64 0, .ow 1 [], .ow 1 []]], .nd [.bool false, .nd [.int .i64 0, .ow 1 [], .ow 1 []]]]], .bool false])
  · cases q
    · simp only [Bool.and_self, Bool.false_and, Bool.and_false, Bool.false_eq_true, if_false, if_true]
      unfold page0 slot0'
      have hC1 := cx [] (hU)
      have fy := And.intro hcn (hen)
      refine goU ?_ ?_ ?_ ?_ ?_ ?_ ?_ ?_ ?_ ?_ ?_ ?_ ?_ ?_ ?_ ?_
      any_goals (first | exact True.intro | skip)
      all_goals (repeat (refine Wh.mk fun hcc => ?_))
      all_goals exact SW.ret (show RetQ _ _ _ _ _ _ _ from RetQ.y [0, 0] [.nd [.int .i64 0, .nd [.nd [.bool false, .nd [.int .i64 0, .ow 1 [], .ow 1 []]], .nd [.bool false, .nd [.int .i64 0, .ow 1 [], .ow 1 []]], .nd [.bool false, .nd [.int .i64 0, .ow 1 [], .ow 1 []]], .nd [.bool false, .nd [.int .i64 0, .ow 1 [], .ow 1 []]]]], .bool false])
    · simp only [Bool.and_self, Bool.false_and, Bool.and_false, Bool.false_eq_true, if_false, if_true]
      have hb := Nat.le_trans hle.1 hl
      clear hle
      unfold pgS
      simp only
      have h1 : CallR Try.prog 104 [.io (.nd [.sl .s (bd.map Enc.b), .int .i64 0, .bool false])] [.nd [.sl .s (bd.map Enc.b), .int .i64 ((oneR bd (0, false)).2.1 : Nat), .bool (oneR bd (0, false)).2.2]] (.int .i64 (oneR bd (0, false)).1) := next_s bd (0, false) hb (Nat.zero_le _)
      have e1 := oneR_le bd (0, false) (Nat.zero_le _)
      generalize oneR bd (0, false) = a at *
      have h2 := specSlot_s bd a.2 hb e1
      have e2 := slotS_le bd a.2 e1
      have l1 := slotS_lim bd a.2
      generalize slotS bd a.2 = s1 at *
      have h3 := specSlot_s bd s1.2 hb e2
      have e3 := slotS_le bd s1.2 e2
      have l2 := slotS_lim bd s1.2
      generalize slotS bd s1.2 = s2 at *
      have h4 := specSlot_s bd s2.2 hb e3
      have e4 := slotS_le bd s2.2 e3
      have l3 := slotS_lim bd s2.2
      generalize slotS bd s2.2 = s3 at *
      have h5 := specSlot_s bd s3.2 hb e4
      have e5 := slotS_le bd s3.2 e4
      have l4 := slotS_lim bd s3.2
      generalize slotS bd s3.2 = s4 at *
      have hx : Enc.lim 1048576 ((a.1, (s1.1, s2.1, s3.1, s4.1, ()), ()) : PageT) := ⟨trivial, ⟨⟨trivial, ⟨trivial, ⟨by simp only; omega, fun _ _ => trivial⟩, ⟨by simp only; omega, fun _ _ => trivial⟩, trivial⟩, trivial⟩, ⟨trivial, ⟨trivial, ⟨by simp only; omega, fun _ _ => trivial⟩, ⟨by simp only; omega, fun _ _ => trivial⟩, trivial⟩, trivial⟩, ⟨trivial, ⟨trivial, ⟨by simp only; omega, fun _ _ => trivial⟩, ⟨by simp only; omega, fun _ _ => trivial⟩, trivial⟩, trivial⟩, ⟨trivial, ⟨trivial, ⟨by simp only; omega, fun _ _ => trivial⟩, ⟨by simp only; omega, fun _ _ => trivial⟩, trivial⟩, trivial⟩, trivial⟩, trivial⟩
      have hP := specPageOk_ok (a.1, (s1.1, s2.1, s3.1, s4.1, ()), ()) hx
      have hPy := sPutPage_y (a.1, (s1.1, s2.1, s3.1, s4.1, ()), ()) hx
      have hpl : pageB ((a.1, (s1.1, s2.1, s3.1, s4.1, ()), ()) : PageT) = true → (putPage (a.1, (s1.1, s2.1, s3.1, s4.1, ()), ())).length ≤ 1048576 := fun h => by have := putSls_len h; have := frameL_len (putSls (a.1, (s1.1, s2.1, s3.1, s4.1, ()), ())); unfold putPage; omega
      simp only at hP hPy
      generalize pageB (a.1, (s1.1, s2.1, s3.1, s4.1, ()), ()) = b at *
      generalize putPage (a.1, (s1.1, s2.1, s3.1, s4.1, ()), ()) = PP at *
      generalize hbad : s4.2.2 = d at *
      clear hx
      unfold pageEnd page0 slot0'
      cases d
      rotate_left
      · clear hPy
        simp only [Bool.and_self, Bool.false_and, Bool.and_false, Bool.true_and, Bool.not_true, Bool.not_false, Bool.false_eq_true, if_false, if_true]
        have hC1 := cx [] (hU)
        have fy := And.intro hcn (hen)
        refine goN ?_ ?_ ?_ ?_ ?_ ?_ ?_ ?_ ?_ ?_ ?_ ?_ ?_ ?_ ?_ ?_
        any_goals (first | exact True.intro | skip)
        skip
        refine SW.cond rfl (fun hcc => absurd hcc (by decide)) (fun hcc => ?_)
        refine SW.norm (Norm.frz 4 2 0 rfl rfl (by simp)) ?_
        rw [frz_all]
        simp only [List.set_cons_succ, List.set_cons_zero, Heap.put, List.getElem?_cons_succ, List.getElem?_cons_zero]
        have hC1 := cx [.io] (h1)
        have hC2 := cx [.io] (h2)
        have hC3 := cx [.io] (h3)
        have hC4 := cx [.io] (h4)
        have hC5 := cx [.io] (h5)
        have hC6 := cx [] (hP)
        have fy := And.intro nc4 (And.intro nc8 (And.intro wa (tn)))
        refine goU ?_ ?_ ?_ ?_ ?_ ?_ ?_ ?_ ?_ ?_ ?_ ?_ ?_ ?_ ?_ ?_
        any_goals (first | exact True.intro | skip)
        all_goals (repeat (refine Wh.mk fun hcc => ?_))
        all_goals exact SW.ret (show RetQ _ _ _ _ _ _ _ from RetQ.y [0, 0] [.nd [.int .i64 0, .nd [.nd [.bool false, .nd [.int .i64 0, .ow 1 [], .ow 1 []]], .nd [.bool false, .nd [.int .i64 0, .ow 1 [], .ow 1 []]], .nd [.bool false, .nd [.int .i64 0, .ow 1 [], .ow 1 []]], .nd [.bool false, .nd [.int .i64 0, .ow 1 [], .ow 1 []]]]], .bool false])
      · cases b
        · clear hPy
          simp only [Bool.and_self, Bool.false_and, Bool.and_false, Bool.true_and, Bool.not_true, Bool.not_false, Bool.false_eq_true, if_false, if_true]
          have hC1 := cx [] (hU)
          have fy := And.intro hcn (hen)
          refine goN ?_ ?_ ?_ ?_ ?_ ?_ ?_ ?_ ?_ ?_ ?_ ?_ ?_ ?_ ?_ ?_
          any_goals (first | exact True.intro | skip)
          skip
          refine SW.cond rfl (fun hcc => absurd hcc (by decide)) (fun hcc => ?_)
          refine SW.norm (Norm.frz 4 2 0 rfl rfl (by simp)) ?_
          rw [frz_all]
          simp only [List.set_cons_succ, List.set_cons_zero, Heap.put, List.getElem?_cons_succ, List.getElem?_cons_zero]
          have hC1 := cx [.io] (h1)
          have hC2 := cx [.io] (h2)
          have hC3 := cx [.io] (h3)
          have hC4 := cx [.io] (h4)
          have hC5 := cx [.io] (h5)
          have hC6 := cx [] (hP)
          have fy := And.intro nc4 (And.intro nc8 (And.intro wa (tn)))
          refine goU ?_ ?_ ?_ ?_ ?_ ?_ ?_ ?_ ?_ ?_ ?_ ?_ ?_ ?_ ?_ ?_
          any_goals (first | exact True.intro | skip)
          all_goals (repeat (refine Wh.mk fun hcc => ?_))
          all_goals exact SW.ret (show RetQ _ _ _ _ _ _ _ from RetQ.y [0, 0] [.nd [.int .i64 0, .nd [.nd [.bool false, .nd [.int .i64 0, .ow 1 [], .ow 1 []]], .nd [.bool false, .nd [.int .i64 0, .ow 1 [], .ow 1 []]], .nd [.bool false, .nd [.int .i64 0, .ow 1 [], .ow 1 []]], .nd [.bool false, .nd [.int .i64 0, .ow 1 [], .ow 1 []]]]], .bool false])
        · have hPP := hPy rfl
          have hpl2 := hpl rfl
          have hE := spec_l2Same_ok PP l ⟨hpl2, fun _ _ => trivial⟩
          generalize decide (PP = l) = e' at *
          cases e'
          · skip
            simp only [Bool.and_self, Bool.false_and, Bool.and_false, Bool.true_and, Bool.not_true, Bool.not_false, Bool.false_eq_true, if_false, if_true]
            have hC1 := cx [] (hU)
            have fy := And.intro hcn (hen)
            refine goN ?_ ?_ ?_ ?_ ?_ ?_ ?_ ?_ ?_ ?_ ?_ ?_ ?_ ?_ ?_ ?_
            any_goals (first | exact True.intro | skip)
            skip
            refine SW.cond rfl (fun hcc => absurd hcc (by decide)) (fun hcc => ?_)
            refine SW.norm (Norm.frz 4 2 0 rfl rfl (by simp)) ?_
            rw [frz_all]
            simp only [List.set_cons_succ, List.set_cons_zero, Heap.put, List.getElem?_cons_succ, List.getElem?_cons_zero]
            have hC1 := cx [.io] (h1)
            have hC2 := cx [.io] (h2)
            have hC3 := cx [.io] (h3)
            have hC4 := cx [.io] (h4)
            have hC5 := cx [.io] (h5)
            have hC6 := cx [] (hP)
            have hC7 := cx [] (hPP)
            have hC8 := cx [] (hE)
            have fy := And.intro nc4 (And.intro nc8 (And.intro wa (tn)))
            refine goU ?_ ?_ ?_ ?_ ?_ ?_ ?_ ?_ ?_ ?_ ?_ ?_ ?_ ?_ ?_ ?_
            any_goals (first | exact True.intro | skip)
            all_goals (repeat (refine Wh.mk fun hcc => ?_))
            all_goals exact SW.ret (show RetQ _ _ _ _ _ _ _ from RetQ.y [0, 0] [.nd [.int .i64 0, .nd [.nd [.bool false, .nd [.int .i64 0, .ow 1 [], .ow 1 []]], .nd [.bool false, .nd [.int .i64 0, .ow 1 [], .ow 1 []]], .nd [.bool false, .nd [.int .i64 0, .ow 1 [], .ow 1 []]], .nd [.bool false, .nd [.int .i64 0, .ow 1 [], .ow 1 []]]]], .bool false])
          · skip
            simp only [Bool.and_self, Bool.false_and, Bool.and_false, Bool.true_and, Bool.not_true, Bool.not_false, Bool.false_eq_true, if_false, if_true]
            have hC1 := cx [] (hU)
            have fy := And.intro hcn (hen)
            refine goN ?_ ?_ ?_ ?_ ?_ ?_ ?_ ?_ ?_ ?_ ?_ ?_ ?_ ?_ ?_ ?_
            any_goals (first | exact True.intro | skip)
            skip
            refine SW.cond rfl (fun hcc => absurd hcc (by decide)) (fun hcc => ?_)
            refine SW.norm (Norm.frz 4 2 0 rfl rfl (by simp)) ?_
            rw [frz_all]
            simp only [List.set_cons_succ, List.set_cons_zero, Heap.put, List.getElem?_cons_succ, List.getElem?_cons_zero]
            have hC1 := cx [.io] (h1)
            have hC2 := cx [.io] (h2)
            have hC3 := cx [.io] (h3)
            have hC4 := cx [.io] (h4)
            have hC5 := cx [.io] (h5)
            have hC6 := cx [] (hP)
            have hC7 := cx [] (hPP)
            have hC8 := cx [] (hE)
            have fy := And.intro nc4 (And.intro nc8 (And.intro wa (tn)))
            refine goU ?_ ?_ ?_ ?_ ?_ ?_ ?_ ?_ ?_ ?_ ?_ ?_ ?_ ?_ ?_ ?_
            any_goals (first | exact True.intro | skip)
            all_goals (repeat (refine Wh.mk fun hcc => ?_))
            all_goals exact SW.ret (show RetQ _ _ _ _ _ _ _ from RetQ.y [0, 0] [.nd [.int .i64 a.1, .nd [.nd [.bool s1.1.1, .nd [.int .i64 s1.1.2.1.1, .ow 1 (s1.1.2.1.2.1.map Enc.o), .ow 1 (s1.1.2.1.2.2.1.map Enc.o)]], .nd [.bool s2.1.1, .nd [.int .i64 s2.1.2.1.1, .ow 1 (s2.1.2.1.2.1.map Enc.o), .ow 1 (s2.1.2.1.2.2.1.map Enc.o)]], .nd [.bool s3.1.1, .nd [.int .i64 s3.1.2.1.1, .ow 1 (s3.1.2.1.2.1.map Enc.o), .ow 1 (s3.1.2.1.2.2.1.map Enc.o)]], .nd [.bool s4.1.1, .nd [.int .i64 s4.1.2.1.1, .ow 1 (s4.1.2.1.2.1.map Enc.o), .ow 1 (s4.1.2.1.2.2.1.map Enc.o)]]]], .bool true])
end Q6

namespace Q6
open Go Go.Vm Go.By
set_option linter.unusedSimpArgs false

/-! ### records: the plain law of reading -/
theorem gobI_true {l : List UInt8} (h : (gobI l).2 = true) : putObj (gobI l).1 = l ∧ objB (gobI l).1 = true := by
  rw [gob_eq] at h ⊢
  unfold gobS at h ⊢
  simp only at h ⊢
  split at h
  · rename_i hc
    rw [if_pos hc]
    simp only [Bool.and_eq_true, decide_eq_true_eq] at hc
    exact ⟨hc.2, hc.1.2⟩
  · cases h
theorem manyR_good {l : List UInt8} {most : Int} {s : RS} (h : (manyR l most s).2.2 = false) : manyR l most s = oneR l s ∧ 0 ≤ (oneR l s).1 ∧ (oneR l s).1 ≤ most := by
  unfold manyR at h ⊢
  split at h
  · rename_i hr; rw [if_pos hr]; exact ⟨rfl, hr⟩
  · cases h
theorem manyR_one {l : List UInt8} {most : Int} {s : RS} (h : 0 ≤ (oneR l s).1 ∧ (oneR l s).1 ≤ most) : manyR l most s = oneR l s := by unfold manyR; rw [if_pos h]
theorem slotI_good {l : List UInt8} {s : RS} (ha : s.1 ≤ l.length) (h : (slotI l s).2.2 = false) :
    s.2 = false ∧ slotS l s = slotI l s ∧ l.drop s.1 = putSl (slotI l s).1 ++ l.drop (slotI l s).2.1 := by
  have hg := @oneR_good l s ha
  have hle := oneR_le l s ha
  have hS : slotS l s = slotS l s := rfl
  conv at hS => rhs; unfold slotS
  simp only at hS
  unfold slotI at h ⊢
  simp only at h ⊢
  split at h
  · rename_i h1
    have hb : (manyR l l.length s).2.2 = false := h
    obtain ⟨e, h2, h3⟩ := manyR_good hb
    rw [if_pos h1]
    rw [e] at h1 hb ⊢
    obtain ⟨g1, g2, g3⟩ := hg hb
    have h0 : (oneR l s).1 = 0 := by rw [hb] at h1; simpa using h1
    refine ⟨g1, ?_, ?_⟩
    · rw [hS, if_pos h1]
    · rw [g3, h0]; rfl
  · rename_i h1
    split at h
    · cases h
    · rename_i h2
      split at h
      · rename_i h3
        have hb : (manyR l l.length s).2.2 = false := by
          cases hx : (manyR l l.length s).2.2 with
          | false => rfl
          | true => rw [hx] at h1; simp at h1
        obtain ⟨e, h4, h5⟩ := manyR_good hb
        rw [if_neg h1, if_neg h2, if_pos h3]
        rw [e] at h1 h2 h3 hb ⊢
        obtain ⟨g1, g2, g3⟩ := hg hb
        generalize oneR l s = a at *
        obtain ⟨n, at', bad⟩ := a
        simp only at *
        obtain ⟨N, rfl⟩ : ∃ N : Nat, n = (N : Int) := ⟨n.toNat, by omega⟩
        rw [Int.toNat_natCast] at h3 ⊢
        obtain ⟨k1, k2⟩ := gobI_true h3
        have hlen : ((l.drop at').take N).length = N := by rw [List.length_take, List.length_drop]; omega
        refine ⟨g1, ?_, ?_⟩
        · rw [hS, if_neg h1, if_neg (by simp only [Bool.or_eq_true, decide_eq_true_eq, not_or]; omega), Int.toNat_natCast, ← gob_eq, h3]; rfl
        · rw [g3]
          unfold putSl
          simp only [if_true]
          rw [k1, hlen, List.append_assoc]
          congr 1
          conv => lhs; rw [← List.take_append_drop N (l.drop at')]
          rw [List.drop_drop]
      · cases h
theorem slotI_bad {l : List UInt8} {s : RS} (h : s.2 = true) : (slotI l s).2.2 = true := by
  have hm : manyR l l.length s = (0, s.1, true) := by unfold manyR; rw [oneR_bad l s h]; simp
  unfold slotI; simp only; rw [hm]; simp
theorem slotS_bad {l : List UInt8} {s : RS} (h : s.2 = true) : (slotS l s).2.2 = true := by
  unfold slotS; simp only; rw [oneR_bad l s h]; simp
theorem slotS_good {l : List UInt8} {s : RS} (ha : s.1 ≤ l.length) (h : (slotS l s).2.2 = false) : slotI l s = slotS l s := by
  have hle := oneR_le l s ha
  have hI : slotI l s = slotI l s := rfl
  conv at hI => rhs; unfold slotI
  simp only at hI
  unfold slotS at h ⊢
  simp only at h ⊢
  split at h
  · rename_i h1
    have hb : (oneR l s).2.2 = false := h
    have h0 : (oneR l s).1 = 0 := by rw [hb] at h1; simpa using h1
    have e : manyR l l.length s = oneR l s := manyR_one ⟨by omega, by omega⟩
    rw [hI, e, if_pos h1, if_pos h1]
  · rename_i h1
    split at h
    · cases h
    · rename_i h2
      simp only [Bool.or_eq_true, decide_eq_true_eq, not_or] at h2
      have hgb : (gobS ((l.drop (oneR l s).2.1).take (oneR l s).1.toNat)).2 = true := by simpa using h
      have e : manyR l l.length s = oneR l s := manyR_one ⟨by omega, by omega⟩
      have h2' : ¬ (decide ((oneR l s).1 < 0) || decide ((oneR l s).1 > (l.length : Int) - ((oneR l s).2.1 : Nat))) = true := by
        simp only [Bool.or_eq_true, decide_eq_true_eq, not_or]; exact h2
      rw [hI, e, if_neg h1, if_neg h2.2, gob_eq, if_pos hgb, if_neg h1, if_neg h2', hgb]
      rfl
theorem flagN_of {c : Int} (h0 : 0 ≤ c) (h1 : c ≤ 1) : flagN (decide (c = 1)) = c := by
  unfold flagN
  by_cases h : c = 1
  · simp [h]
  · have : c = 0 := by omega
    simp [this]
theorem liveI_good {l : List UInt8} {s : RS} (ha : s.1 ≤ l.length) (h : (liveI l s).2.2 = false) :
    s.2 = false ∧ liveS l s = liveI l s ∧ l.drop s.1 = putLv (liveI l s).1 ++ l.drop (liveI l s).2.1 := by
  have hL : liveI l s = (((oneR l s).1, (oneR l (oneR l s).2).1, decide ((manyR l 1 (oneR l (oneR l s).2).2).1 = 1), ()), (manyR l 1 (oneR l (oneR l s).2).2).2) := rfl
  have hS : liveS l s = (((oneR l s).1, (oneR l (oneR l s).2).1, decide ((oneR l (oneR l (oneR l s).2).2).1 = 1), ()), (oneR l (oneR l (oneR l s).2).2).2) := rfl
  have e1 := oneR_le l s ha
  have e2 := oneR_le l (oneR l s).2 e1
  have g1 := @oneR_good l s ha
  have g2 := @oneR_good l (oneR l s).2 e1
  have g3 := @oneR_good l (oneR l (oneR l s).2).2 e2
  rw [hL] at h ⊢
  simp only at h
  obtain ⟨m1, m2, m3⟩ := manyR_good h
  rw [m1] at h ⊢
  obtain ⟨c1, c2, c3⟩ := g3 h
  obtain ⟨b1, b2, b3⟩ := g2 c1
  obtain ⟨a1, a2, a3⟩ := g1 b1
  refine ⟨a1, hS, ?_⟩
  rw [a3, b3, c3]
  unfold putLv
  simp only
  rw [flagN_of m2 m3]
  simp only [List.append_assoc]
theorem livesI_good {l : List UInt8} : ∀ (n : Nat) {s : RS}, s.1 ≤ l.length → (livesI l n s).2.2 = false →
    s.2 = false ∧ livesS l n s = livesI l n s ∧ l.drop s.1 = (livesI l n s).1.flatMap putLv ++ l.drop (livesI l n s).2.1
  | 0, s, ha, h => ⟨h, rfl, rfl⟩
  | n + 1, s, ha, h => by
    simp only [livesI] at h ⊢
    obtain ⟨h1, h2, h3⟩ := livesI_good n (liveI_le l s ha) h
    obtain ⟨g1, g2, g3⟩ := liveI_good ha h1
    refine ⟨g1, ?_, ?_⟩
    · unfold livesS; rw [if_neg (by rw [g1]; simp), g2, h2]
    · rw [g3, h3]; simp only [List.flatMap_cons, List.append_assoc]
theorem livesS_start {l : List UInt8} : ∀ (n : Nat) {s : RS}, (livesS l n s).2.2 = false → s.2 = false
  | 0, s, h => h
  | n + 1, s, h => by
    cases hs : s.2 with
    | false => rfl
    | true => rw [livesS_bad l _ s hs] at h; rw [hs] at h; exact h
theorem put_inj {a b : Int} {x y : List UInt8} (ha : okN a = true) (hb : okN b = true) (h : putI a ++ x = putI b ++ y) : a = b ∧ x = y := by
  have h1 := pI_put a ha x
  rw [h, pI_put b hb y] at h1
  simp only [Option.some.injEq, Prod.mk.injEq] at h1
  exact ⟨h1.1.symm, h1.2.symm⟩
theorem okN_small {n : Int} (h0 : 0 ≤ n) (h1 : n ≤ 1000) : okN n = true := okN_iff.2 ⟨by unfold M12; omega, by unfold M12; omega⟩
theorem flagN_rng (b : Bool) : 0 ≤ flagN b ∧ flagN b ≤ 1 := by cases b <;> simp [flagN]
theorem livesS_good {l : List UInt8} : ∀ (n : Nat) {s : RS} {r : List UInt8}, s.1 ≤ l.length → (livesS l n s).2.2 = false → l.drop s.1 = (livesS l n s).1.flatMap putLv ++ r → livesI l n s = livesS l n s
  | 0, s, r, ha, h, hd => rfl
  | n + 1, s, r, ha, h, hd => by
    have hs := livesS_start _ h
    have hn : ¬ s.2 = true := by rw [hs]; simp
    have hS : liveS l s = (((oneR l s).1, (oneR l (oneR l s).2).1, decide ((oneR l (oneR l (oneR l s).2).2).1 = 1), ()), (oneR l (oneR l (oneR l s).2).2).2) := rfl
    have hL : liveI l s = (((oneR l s).1, (oneR l (oneR l s).2).1, decide ((manyR l 1 (oneR l (oneR l s).2).2).1 = 1), ()), (manyR l 1 (oneR l (oneR l s).2).2).2) := rfl
    have e1 := oneR_le l s ha
    have e2 := oneR_le l (oneR l s).2 e1
    have e3 := oneR_le l (oneR l (oneR l s).2).2 e2
    have g1 := @oneR_good l s ha
    have g2 := @oneR_good l (oneR l s).2 e1
    have g3 := @oneR_good l (oneR l (oneR l s).2).2 e2
    unfold livesS at h hd ⊢
    rw [if_neg hn] at h hd ⊢
    simp only at h hd ⊢
    have hb := livesS_start n h
    rw [hS] at hb
    obtain ⟨c1, c2, c3⟩ := g3 hb
    obtain ⟨b1, b2, b3⟩ := g2 c1
    obtain ⟨a1, a2, a3⟩ := g1 b1
    rw [List.flatMap_cons, List.append_assoc] at hd
    have hq : (liveS l s).1 = ((oneR l s).1, (oneR l (oneR l s).2).1, decide ((oneR l (oneR l (oneR l s).2).2).1 = 1), ()) := rfl
    rw [hq] at hd
    have hput : ∀ (a b : Int) (c : Bool), putLv (a, b, c, ()) = putI a ++ putI b ++ putI (flagN c) := fun _ _ _ => rfl
    rw [hput] at hd
    simp only [List.append_assoc] at hd
    rw [a3] at hd
    have d1 := (put_inj a2 a2 hd).2
    rw [b3] at d1
    have d2 := (put_inj b2 b2 d1).2
    rw [c3] at d2
    have hf := flagN_rng (decide ((oneR l (oneR l (oneR l s).2).2).1 = 1))
    obtain ⟨d3, d4⟩ := put_inj c2 (okN_small hf.1 (by omega)) d2
    have hm : manyR l 1 (oneR l (oneR l s).2).2 = oneR l (oneR l (oneR l s).2).2 := manyR_one ⟨by rw [d3]; exact hf.1, by rw [d3]; exact hf.2⟩
    have hLS : liveI l s = liveS l s := by rw [hL, hS, hm]
    have ih := livesS_good n (s := (liveS l s).2) e3 h d4
    simp only [livesI]
    rw [hLS, ih]

theorem okN_txs {x : RecT} (h : recB x = true) : okN (x.2.2.2.2.2.2.2.2.1.length : Int) = true := okN_small (Int.natCast_nonneg _) (by have := recB_txs h; omega)
theorem grec_eq (l : List UInt8) : grecI l = grecS l := by
  unfold grecI grecS
  simp only
  have g1 := @oneR_good l (0, false) (Nat.zero_le _)
  have e1 := oneR_le l (0, false) (Nat.zero_le _)
  generalize oneR l (0, false) = a1 at *
  have g2 := @oneR_good l a1.2 e1
  have e2 := oneR_le l a1.2 e1
  generalize oneR l a1.2 = a2 at *
  have g3 := @oneR_good l a2.2 e2
  have e3 := oneR_le l a2.2 e2
  generalize oneR l a2.2 = a3 at *
  have g4 := @oneR_good l a3.2 e3
  have e4 := oneR_le l a3.2 e3
  generalize oneR l a3.2 = a4 at *
  have g5 := @oneR_good l a4.2 e4
  have e5 := oneR_le l a4.2 e4
  generalize oneR l a4.2 = a5 at *
  have g6 := @oneR_good l a5.2 e5
  have e6 := oneR_le l a5.2 e5
  generalize oneR l a5.2 = a6 at *
  have hsix : a6.2.2 = false → l = putI a1.1 ++ (putI a2.1 ++ (putI a3.1 ++ (putI a4.1 ++ (putI a5.1 ++ (putI a6.1 ++ l.drop a6.2.1))))) := fun h => by
    obtain ⟨h6, _, d6⟩ := g6 h
    obtain ⟨h5, _, d5⟩ := g5 h6
    obtain ⟨h4, _, d4⟩ := g4 h5
    obtain ⟨h3, _, d3⟩ := g3 h4
    obtain ⟨h2, _, d2⟩ := g2 h3
    obtain ⟨_, _, d1⟩ := g1 h2
    rw [← d6, ← d5, ← d4, ← d3, ← d2, ← d1, List.drop_zero]
  have f7 := slotI_le l a6.2 e6
  have f8 := slotI_le l (slotI l a6.2).2 f7
  have f9 := manyR_le l 20 (slotI l (slotI l a6.2).2).2 f8
  cases hT : (livesI l (manyR l 20 (slotI l (slotI l a6.2).2).2).1.toNat (manyR l 20 (slotI l (slotI l a6.2).2).2).2).2.2 with
  | false =>
    obtain ⟨t1, t2, t3⟩ := livesI_good _ f9 hT
    have f10 := livesI_le l (manyR l 20 (slotI l (slotI l a6.2).2).2).1.toNat (manyR l 20 (slotI l (slotI l a6.2).2).2).2 f9
    obtain ⟨m1, m2, m3⟩ := manyR_good t1
    rw [m1] at t1 t2 t3 hT f10 ⊢
    obtain ⟨k1, k2, k3⟩ := oneR_good f8 t1
    obtain ⟨s1, s2, s3⟩ := slotI_good f7 k1
    obtain ⟨u1, u2, u3⟩ := slotI_good e6 s1
    have hl := hsix u1
    rw [u2, s2, show min (oneR l (slotI l (slotI l a6.2).2).2).1.toNat 30 = (oneR l (slotI l (slotI l a6.2).2).2).1.toNat by omega, t2]
    have hlen := livesI_len l (oneR l (slotI l (slotI l a6.2).2).2).1.toNat (oneR l (slotI l (slotI l a6.2).2).2).2
    rw [u3, s3, k3, t3] at hl
    clear t2 t3 m1 k3 s2 s3 u2 u3
    generalize livesI l (oneR l (slotI l (slotI l a6.2).2).2).1.toNat (oneR l (slotI l (slotI l a6.2).2).2).2 = T at *
    have hN : (oneR l (slotI l (slotI l a6.2).2).2).1 = (T.1.length : Int) := by rw [hlen]; omega
    rw [hN] at hl
    clear hN hlen k2 m2 m3
    unfold grecK grecKS
    rw [hT]
    have hp : decide (putRec (a1.1, a2.1, a3.1, a4.1, a5.1, (slotI l a6.2).1, (slotI l (slotI l a6.2).2).1, a6.1, T.1, ()) = l) = decide (T.2.1 = l.length) := by
      have hl2 : l = putRec (a1.1, a2.1, a3.1, a4.1, a5.1, (slotI l a6.2).1, (slotI l (slotI l a6.2).2).1, a6.1, T.1, ()) ++ l.drop T.2.1 := by
        refine hl.trans ?_
        unfold putRec recNs
        simp only [List.flatMap_cons, List.flatMap_nil, List.append_nil, List.append_assoc]
      generalize putRec _ = p at hl2 ⊢
      generalize T.2.1 = a at *
      have hlen := congrArg List.length hl2
      rw [List.length_append, List.length_drop] at hlen
      by_cases h : a = l.length
      · subst h
        rw [List.drop_length, List.append_nil] at hl2
        simp [hl2]
      · have : ¬ p = l := by
          intro e; rw [e] at hlen; omega
        simp [h, this]
    rw [hp]
    simp only [Bool.not_false, Bool.true_and]
    rw [Bool.and_comm]
  | true =>
    have f7' := slotS_le l a6.2 e6
    have f8' := slotS_le l (slotS l a6.2).2 f7'
    have f9' := oneR_le l (slotS l (slotS l a6.2).2).2 f8'
    unfold grecK grecKS
    rw [hT]
    simp only [Bool.not_true, Bool.false_and]
    have key : (!(livesS l (min (oneR l (slotS l (slotS l a6.2).2).2).1.toNat 30) (oneR l (slotS l (slotS l a6.2).2).2).2).2.2 &&
        (recB (a1.1, a2.1, a3.1, a4.1, a5.1, (slotS l a6.2).1, (slotS l (slotS l a6.2).2).1, a6.1, (livesS l (min (oneR l (slotS l (slotS l a6.2).2).2).1.toNat 30) (oneR l (slotS l (slotS l a6.2).2).2).2).1, ()) &&
        decide (putRec (a1.1, a2.1, a3.1, a4.1, a5.1, (slotS l a6.2).1, (slotS l (slotS l a6.2).2).1, a6.1, (livesS l (min (oneR l (slotS l (slotS l a6.2).2).2).1.toNat 30) (oneR l (slotS l (slotS l a6.2).2).2).2).1, ()) = l))) = false := by
      cases hx : (!(livesS l (min (oneR l (slotS l (slotS l a6.2).2).2).1.toNat 30) (oneR l (slotS l (slotS l a6.2).2).2).2).2.2 &&
        (recB (a1.1, a2.1, a3.1, a4.1, a5.1, (slotS l a6.2).1, (slotS l (slotS l a6.2).2).1, a6.1, (livesS l (min (oneR l (slotS l (slotS l a6.2).2).2).1.toNat 30) (oneR l (slotS l (slotS l a6.2).2).2).2).1, ()) &&
        decide (putRec (a1.1, a2.1, a3.1, a4.1, a5.1, (slotS l a6.2).1, (slotS l (slotS l a6.2).2).1, a6.1, (livesS l (min (oneR l (slotS l (slotS l a6.2).2).2).1.toNat 30) (oneR l (slotS l (slotS l a6.2).2).2).2).1, ()) = l))) with
      | false => rfl
      | true =>
        exfalso
        simp only [Bool.and_eq_true, Bool.not_eq_true', decide_eq_true_eq] at hx
        obtain ⟨q1, q2, q3⟩ := hx
        have p1 := livesS_start _ q1
        obtain ⟨k1, k2, k3⟩ := oneR_good f8' p1
        have w2 := slotS_good f7' k1
        obtain ⟨z1, _, z3⟩ := slotI_good f7' (by rw [w2]; exact k1)
        have w1 := slotS_good e6 z1
        obtain ⟨y1, _, y3⟩ := slotI_good e6 (by rw [w1]; exact z1)
        have hl := hsix y1
        rw [w1] at y3
        rw [w2] at z3
        rw [y3, z3, k3] at hl
        have q4 := q3.trans hl
        unfold putRec recNs at q4
        simp only [List.flatMap_cons, List.flatMap_nil, List.append_nil, List.append_assoc, List.append_cancel_left_eq] at q4
        obtain ⟨d1, d2⟩ := put_inj (okN_txs q2) k2 q4
        have h20 := recB_txs q2
        simp only at d1 h20
        have hm20 : manyR l 20 (slotS l (slotS l a6.2).2).2 = oneR l (slotS l (slotS l a6.2).2).2 := manyR_one ⟨by omega, by omega⟩
        rw [w1, w2, hm20] at hT
        have hmin : min (oneR l (slotS l (slotS l a6.2).2).2).1.toNat 30 = (oneR l (slotS l (slotS l a6.2).2).2).1.toNat := by omega
        rw [hmin] at q1 d2
        rw [livesS_good _ (r := []) f9' q1 (by rw [← d2, List.append_nil])] at hT
        rw [q1] at hT; cases hT
    rw [key]
    rfl
end Q6

namespace Q6
open Go Go.Vm Go.By
set_option linter.unusedSimpArgs false

/-! ### frames: the plain law -/
theorem grpR_ends (l : List UInt8) (a : Nat) (h : (grpR l a).2.2.2 = true) : (getR l a).2.2 = false := by
  unfold grpR at h
  simp only at h
  have h1 := grp_endsF _ _ _ _ h
  have h2 := grp_dec (l.drop a) 0 0 (by decide)
  unfold getR
  cases hd : dec (l.drop a) 0 0 with
  | none => rfl
  | some x => rw [(h2.1 x hd).2.2] at h1; cases h1
theorem unf_eq (l : List UInt8) (a : Nat) (h : (unfI l a).2.2 = 0 ∨ (unfS l a).2.2 = 0) : unfI l a = unfS l a := by
  have he := grpR_ends l a
  unfold unfI unfS at *
  cases hok : (getR l a).2.2 with
  | false =>
    rw [hok] at h
    exfalso
    rcases h with h | h
    · split at h
      · cases h
      · simp at h
    · cases hb : endsB l a <;> rw [hb] at h <;> simp at h
  | true =>
    cases hg : (grpR l a).2.2.2 with
    | true => rw [he hg] at hok; cases hok
    | false => simp
/-- what a good frame is -/
theorem unfS_good {l : List UInt8} {a : Nat} (ha : a ≤ l.length) (h : (unfS l a).2.2 = 0) :
    l.drop a = frameL (unfS l a).1 ++ l.drop (unfS l a).2.1 ∧ okN ((unfS l a).1.length : Int) = true ∧ (unfS l a).2.1 ≤ l.length := by
  refine ⟨?_, ?_, (unfS_le l a ha).2⟩
  rotate_left
  · have := (unfS_le l a ha).1
    have h2 : (unfS l a).1.length ≤ 1000000000000 := by
      unfold unfS at *
      split
      · simp
      · split
        · simp
        · have hr := getR_okN l a
          unfold unfK bodyOf
          split
          · simp
          · split
            · simp only [List.length_take]; omega
            · simp
    exact okN_iff.2 ⟨by unfold M12; omega, by unfold M12; omega⟩
  · unfold unfS at h ⊢
    split at h
    · cases h
    · rename_i h1
      split at h
      · cases h
      · rename_i h2
        rw [if_neg h1, if_neg h2]
        simp only [Bool.or_eq_true, Bool.not_eq_true', decide_eq_true_eq, not_or, Bool.not_eq_false] at h2
        obtain ⟨hok, hn⟩ := h2
        have hr := getR_okN l a
        have hgood := @oneR_good l (a, false) ha
        have hone : oneR l (a, false) = ((getR l a).1, (getR l a).2.1, false) := by unfold oneR; simp [hok]
        have hgl := getR_le l a ha
        rw [hone] at hgood
        obtain ⟨_, _, hd⟩ := hgood rfl
        simp only at hd
        generalize (getR l a).1 = n at *
        generalize (getR l a).2.1 = e at *
        unfold unfK at h ⊢
        split at h
        · cases h
        · rename_i h3
          split at h
          · rename_i h4
            rw [if_neg h3, if_pos h4]
            simp only
            have h4 := of_decide_eq_true h4
            obtain ⟨N, rfl⟩ : ∃ N : Nat, n = (N : Int) := ⟨n.toNat, by omega⟩
            rw [Int.toNat_natCast] at h4 ⊢
            have hbl : (bodyOf l e N).length = N := by unfold bodyOf; rw [List.length_take, List.length_drop]; omega
            unfold frameL
            rw [hbl, hd]
            simp only [List.append_assoc]
            congr 1
            rw [h4]
            have e1 : l.drop e = bodyOf l e N ++ l.drop (e + N) := by
              unfold bodyOf; conv => lhs; rw [← List.take_append_drop N (l.drop e)]
              rw [List.drop_drop]
            have e2 : l.drop (e + N) = (l.drop (e + N)).take 4 ++ l.drop (e + N + 4) := by
              conv => lhs; rw [← List.take_append_drop 4 (l.drop (e + N))]
              rw [List.drop_drop]
            rw [e1]
            congr 1
          · cases h
theorem frame_inj {x y r q : List UInt8} (hx : okN (x.length : Int) = true) (hy : okN (y.length : Int) = true) (h : frameL x ++ r = frameL y ++ q) : x = y ∧ r = q := by
  unfold frameL at h
  simp only [List.append_assoc] at h
  obtain ⟨h1, h2⟩ := put_inj hx hy h
  have hl : x.length = y.length := by omega
  obtain ⟨h3, h4⟩ := List.append_inj h2 hl
  subst h3
  exact ⟨rfl, (List.append_cancel_left_eq _ _ _).mp h4⟩

/-! ### pages -/
theorem okN_342 {x : PageT} (h : pageB x = true) : okN ((putSls x).length : Int) = true := by
  have := putSls_len h
  exact okN_iff.2 ⟨by unfold M12; omega, by unfold M12; omega⟩
theorem pg_eq (b : List UInt8) (hb : okN (b.length : Int) = true) : pgI b = pgS (frameL b) b := by
  unfold pgI pgS
  simp only
  have g1 := @oneR_good b (0, false) (Nat.zero_le _)
  have e1 := oneR_le b (0, false) (Nat.zero_le _)
  generalize oneR b (0, false) = a at *
  have e2 := slotI_le b a.2 e1
  have e3 := slotI_le b (slotI b a.2).2 e2
  have e4 := slotI_le b (slotI b (slotI b a.2).2).2 e3
  have e5 := slotI_le b (slotI b (slotI b (slotI b a.2).2).2).2 e4
  cases hT : (slotI b (slotI b (slotI b (slotI b a.2).2).2).2).2.2 with
  | false =>
    obtain ⟨k1, k2, k3⟩ := slotI_good e4 hT
    obtain ⟨l1, l2, l3⟩ := slotI_good e3 k1
    obtain ⟨m1, m2, m3⟩ := slotI_good e2 l1
    obtain ⟨n1, n2, n3⟩ := slotI_good e1 m1
    obtain ⟨p1, p2, p3⟩ := g1 n1
    rw [n2, m2, l2, k2]
    rw [List.drop_zero, n3, m3, l3, k3] at p3
    clear k2 k3 l1 l2 l3 m1 m2 m3 n2 n3 k1
    generalize slotI b (slotI b (slotI b (slotI b a.2).2).2).2 = s4 at *
    generalize slotI b (slotI b (slotI b a.2).2).2 = s3 at *
    generalize slotI b (slotI b a.2).2 = s2 at *
    generalize slotI b a.2 = s1 at *
    rw [hT]
    have hl : b = putSls (a.1, (s1.1, s2.1, s3.1, s4.1, ()), ()) ++ b.drop s4.2.1 := by
      unfold putSls; simp only [List.append_assoc]; exact p3
    cases hp : pageB (a.1, (s1.1, s2.1, s3.1, s4.1, ()), ()) with
    | false => simp
    | true =>
      have ho := okN_342 hp
      generalize (a.1, (s1.1, s2.1, s3.1, s4.1, ()), ()) = x at *
      have : decide (putPage x = frameL b) = decide (s4.2.1 = b.length) := by
        unfold putPage
        by_cases h : s4.2.1 = b.length
        · rw [h, List.drop_length, List.append_nil] at hl
          simp [h, ← hl]
        · have hne : ¬ frameL (putSls x) = frameL b := by
            intro hf
            have := (frame_inj ho hb (r := []) (q := []) (by rw [hf])).1
            have hlen := congrArg List.length hl
            rw [List.length_append, List.length_drop, this] at hlen
            omega
          simp [h, hne]
      rw [this]
      simp
  | true =>
    have f2 := slotS_le b a.2 e1
    have f3 := slotS_le b (slotS b a.2).2 f2
    have f4 := slotS_le b (slotS b (slotS b a.2).2).2 f3
    have key : (slotS b (slotS b (slotS b (slotS b a.2).2).2).2).2.2 = true := by
      cases hx : (slotS b (slotS b (slotS b (slotS b a.2).2).2).2).2.2 with
      | true => rfl
      | false =>
        exfalso
        have w4 := slotS_good f4 hx
        obtain ⟨x3, _, _⟩ := slotI_good f4 (by rw [w4]; exact hx)
        have w3 := slotS_good f3 x3
        obtain ⟨x2, _, _⟩ := slotI_good f3 (by rw [w3]; exact x3)
        have w2 := slotS_good f2 x2
        obtain ⟨x1, _, _⟩ := slotI_good f2 (by rw [w2]; exact x2)
        have w1 := slotS_good e1 x1
        rw [w1, w2, w3, w4, hx] at hT; cases hT
    rw [key]
    simp [pageEnd]
theorem gpg_eq (l : List UInt8) : gpgI l = gpgS l := by
  unfold gpgI gpgS
  by_cases hI : (unfI l 0).2.2 = 0
  · have h := unf_eq l 0 (.inl hI)
    rw [h] at hI ⊢
    obtain ⟨h1, h2, h3⟩ := unfS_good (Nat.zero_le _) hI
    by_cases he : (unfS l 0).2.1 = l.length
    · rw [he, List.drop_length, List.append_nil, List.drop_zero] at h1
      simp only [hI, he, decide_true, Bool.and_self, if_true]
      rw [pg_eq _ h2]
      conv => rhs; rw [h1]
      rw [← h1]
    · simp [hI, he]
  · by_cases hS : (unfS l 0).2.2 = 0
    · exact absurd (by rw [unf_eq l 0 (.inr hS)]; exact hS) hI
    · simp [hI, hS]
end Q6

namespace Q6
open Go Go.Vm Go.Proofs
set_option maxHeartbeats 4000000
set_option synthInstance.maxSize 2000
set_option synthInstance.maxHeartbeats 400000
set_option maxRecDepth 10000
set_option linter.unusedSimpArgs false
set_option linter.unusedVariables false

theorem markByte_ok (l : List UInt8) (k : Int) (hl : l.length ≤ 1048576) (h0 : 0 ≤ k) (h1 : k ≤ 1125899906842624) : CallR Try.prog 18 [.io (.tup [.ow 1 (l.map Enc.o)]), .int .i64 k] [.tup [.ow 1 ((marksG byt l.length k).map Enc.o)]] (.int .i64 (k + l.length)) := by
  refine CallR.of_body (n := 20) (rs := [.tmp 4]) hY.ok Try.func18 rfl (by decide) rfl rfl rfl rfl (fun F => ?_)
  have fx := And.intro Y3 (And.intro Y4 (And.intro Y5 (Y24)))
  have fy := Nat.add_zero
  refine goN ?_ ?_ ?_ ?_ ?_ ?_ ?_ ?_ ?_ ?_ ?_ ?_ ?_ ?_ ?_ ?_
  any_goals (first | exact True.intro | skip)
  skip
  refine SW.loop (fun i : Nat => ⟨[.ref 0 0 0 l.length, .int .i64 (k + (i : Nat)), .undef, .undef, .undef, .int .i64 i, .undef, .undef, .undef, .undef, .undef, .undef, .undef, .undef, .undef, .undef, .undef, .undef, .undef, .undef], [[.arr 1 ((mixG byt l k i).map Enc.o) false]]⟩)
    (fun n i => n = l.length - i ∧ i ≤ l.length) (n := l.length) (x := 0) (Norm.re [0] (by decide) rfl (by simp [heapFits, rowFits, obFits, mixG_zero]) (by simp [tmFits, T.ren])) ⟨rfl, Nat.zero_le _⟩ ?_
  rintro n i ⟨hn, hi⟩
  have fy := Nat.add_zero
  refine goS ?_
  refine SW.cond rfl (fun hc => ?_) (fun hc => ?_)
  · have hlt : i < l.length := by simp at hc; omega
    have hltI : (i : Int) < (l.length : Int) := by omega
    have hg : ((mixG byt l k i).map Enc.o)[i]? = some (.int .u8 (l[i].toNat : Int)) := mixG_get byt l k i hlt
    have hs : ((mixG byt l k i).map Enc.o).set i (.int .u8 ((byt (k + (i : Nat))).toNat : Int)) = (mixG byt l k (i + 1)).map Enc.o := mixG_set byt l k i hlt
    have fy := And.intro hg (And.intro hs (And.intro hltI (And.intro Nat.zero_add (Int.toNat_natCast))))
    refine goR ?_ ?_ ?_ ?_ ?_ ?_ ?_ ?_ ?_ ?_ ?_ ?_ ?_ ?_ ?_ ?_
    any_goals (first | exact True.intro | skip)
    all_goals (repeat (refine Wh.mk fun hcc => ?_))
    refine ⟨n - 1, i + 1, by omega, ⟨by omega, by omega⟩, ?_⟩
    rw [wrap64 _ (by omega) (by omega), wrap64 _ (by omega) (by omega), show k + (i : Int) + 1 = k + ((i + 1 : Nat) : Int) by omega]
    exact Norm.re [0] (by decide) rfl (by simp only [eq_self, heapFits, rowFits, obFits, List.getElem?_cons_zero, List.getElem?_cons_succ, renL_o, renL_b, true_and, and_true, and_self]) (by simp [tmFits, T.ren])
  · have hge : i = l.length := by
      have : ¬ i < l.length := by simp at hc; omega
      omega
    subst hge
    rw [mixG_all]
    have fy := Nat.add_zero
    refine goR ?_ ?_ ?_ ?_ ?_ ?_ ?_ ?_ ?_ ?_ ?_ ?_ ?_ ?_ ?_ ?_
    any_goals (first | exact True.intro | skip)
    all_goals (repeat (refine Wh.mk fun hcc => ?_))
    refine SW.ret (show RetQ _ _ _ _ _ _ _ from ⟨.inr rfl, _, [0], [.int .i64 (k + l.length)], ?_, ⟨rfl, ?_, rfl, rfl, ?_, rfl⟩⟩)
    rotate_left
    · (simp [-List.map_set, -List.map_append, pass1, modeOf, giveS, giveSL, Heap.at, Heap.put, fixEs, ioAt, ioAtT, ioKs, ioKT, ioM, ioT, thawA, thawAL, T.asArr, T.cel, T.clo, cloL, T.cloA, cloAL]; rfl)
    · simp [cloOL, T.cloO, T.asArr]
theorem heldByte_ok (n : Nat) (k : Int) (hl : n ≤ 1048576) (h0 : 0 ≤ k) (h1 : k ≤ 1125899906842624) : CallR Try.prog 19 [.sl .b ((marksG byt n k).map Enc.b), .int .i64 k] [] (.int .i64 (k + n)) := by
  refine CallR.of_body (n := 22) (rs := [.tmp 4]) hY.ok Try.func19 rfl (by decide) rfl rfl rfl rfl (fun F => ?_)
  have fx := And.intro Y3 (And.intro Y4 (And.intro Y5 (Y24)))
  have fy := Nat.add_zero
  refine goN ?_ ?_ ?_ ?_ ?_ ?_ ?_ ?_ ?_ ?_ ?_ ?_ ?_ ?_ ?_ ?_
  any_goals (first | exact True.intro | skip)
  skip
  refine SW.loop (fun i : Nat => ⟨[.sl .b ((marksG byt n k).map Enc.b), .int .i64 (k + (i : Nat)), .undef, .undef, .undef, .int .i64 i, .undef, .undef, .undef, .undef, .undef, .undef, .undef, .undef, .undef, .undef, .undef, .undef, .undef, .undef, .undef, .undef], [[]]⟩)
    (fun N i => N = n - i ∧ i ≤ n) (n := n) (x := 0) (Norm.to 0 rfl (by simp [weakL])) ⟨rfl, Nat.zero_le _⟩ ?_
  rintro N i ⟨hn, hi⟩
  have fy := Nat.add_zero
  refine goS ?_
  refine SW.cond rfl (fun hc => ?_) (fun hc => ?_)
  · have hlt : i < n := by simp at hc; omega
    have hg : ((marksG byt n k).map Enc.b)[i]? = some (.int .u8 ((byt (k + (i : Nat))).toNat : Int)) := by rw [map_get Enc.b _ i (by rw [marksG_len]; exact hlt), marksG_get byt n k i hlt]; rfl
    have fy := And.intro hg (And.intro Nat.zero_add (Int.toNat_natCast))
    refine goR ?_ ?_ ?_ ?_ ?_ ?_ ?_ ?_ ?_ ?_ ?_ ?_ ?_ ?_ ?_ ?_
    any_goals (first | exact True.intro | skip)
    all_goals (repeat (refine Wh.mk fun hcc => ?_))
    all_goals first | (exfalso; simp at hcc; done) | skip
    refine ⟨N - 1, i + 1, by omega, ⟨by omega, by omega⟩, ?_⟩
    rw [wrap64 _ (by omega) (by omega), wrap64 _ (by omega) (by omega), show k + (i : Int) + 1 = k + ((i + 1 : Nat) : Int) by omega]
    exact Norm.to 0 rfl (by simp [weakL])
  · have hge : i = n := by
      have : ¬ i < n := by simp at hc; omega
      omega
    subst hge
    have fy := Nat.add_zero
    refine goK ?_ ?_ ?_ ?_ ?_ ?_ ?_ ?_ ?_ ?_ ?_ ?_ ?_ ?_ ?_ ?_
    any_goals (first | exact True.intro | skip)
    all_goals (repeat (refine Wh.mk fun hcc => ?_))
    simp [tupOf, fixEs]
end Q6

namespace Q6
open Go Go.Vm Go.Proofs
set_option maxHeartbeats 4000000
set_option synthInstance.maxSize 2000
set_option synthInstance.maxHeartbeats 400000
set_option maxRecDepth 10000
set_option linter.unusedSimpArgs false
set_option linter.unusedVariables false

theorem laws_toIntS_ok (l : List Int) (hl : Enc.lim 1048576 l) : CallR Try.prog 163 [.sl .b (l.map Enc.b)] [] (.ow 1 (l.map Enc.o)) := by
  refine CallR.of_body (n := 22) (rs := [.tmp 2]) hY.ok Try.func163 rfl (by decide) rfl rfl rfl rfl (fun F => ?_)
  have fx := And.intro Y3 (And.intro Y4 (Y34))
  have hl1 : l.length ≤ 1048576 := hl.1
  have fy := (fun u1 => mk_fill u1 34 l hl.1 (.int .i64 0) 1 8 _ Y34 Y3 rfl rfl (by decide))
  refine goN ?_ ?_ ?_ ?_ ?_ ?_ ?_ ?_ ?_ ?_ ?_ ?_ ?_ ?_ ?_ ?_
  any_goals (first | exact True.intro | skip)
  skip
  refine SW.loop (fun i : Nat => ⟨[.sl .b (l.map Enc.b), .undef, .undef, .ref 1 0 0 l.length, .int .i64 i, .undef, .undef, .undef, .undef, .undef, .undef, .undef, .undef, .undef, .undef, .undef, .undef, .undef, .undef, .undef, .undef, .undef], [[], [.arr 1 (fillG (.int .i64 0) l i) false]]⟩)
    (fun n i => n = l.length - i ∧ i ≤ l.length) (n := l.length) (x := 0) (Norm.to 0 rfl (by simp [weakL])) ⟨rfl, Nat.zero_le _⟩ ?_
  rintro n i ⟨hn, hi⟩
  have fy := Nat.add_zero
  refine goS ?_
  refine SW.cond rfl (fun hc => ?_) (fun hc => ?_)
  · have hlt : i < l.length := by simpa using hc
    have hltI : (i : Int) < (l.length : Int) := by omega
    have hg : (l.map Enc.b)[i]? = some (.int .i64 l[i]) := map_get Enc.b l i hlt
    have hf : (fillG (.int .i64 0) l i)[i]? = some (.int .i64 0) := fill_get _ l i hlt
    have hfl : (fillG (.int .i64 0) l i).length = l.length := fill_len _ l i hi
    have fy := And.intro hg (And.intro hf (And.intro hfl (And.intro hltI (Nat.zero_add))))
    refine goR ?_ ?_ ?_ ?_ ?_ ?_ ?_ ?_ ?_ ?_ ?_ ?_ ?_ ?_ ?_ ?_
    any_goals (first | exact True.intro | skip)
    all_goals (repeat (refine Wh.mk fun hcc => ?_))
    refine ⟨n - 1, i + 1, by omega, ⟨by omega, by omega⟩, ?_⟩
    rw [wrap64 _ (by omega) (by omega)]
    refine Norm.trans (Norm.fill (l := l) 1 0 rfl hlt (by first | rfl | (simp [soakS, soakL, Heap.at, Heap.put]; rfl))) ?_
    refine Norm.re [0, 1] (by decide) rfl ?_ (by simp [tmFits, T.ren])
    first | (simp [heapFits, rowFits, obFits, soakS, soakL, Heap.at, Heap.put]; exact renL_fill _ _ _ _ rfl) | exact ⟨trivial, ⟨rfl, rfl, renL_fill _ _ _ _ rfl⟩, trivial⟩
  · have hge : i = l.length := by
      have : ¬ i < l.length := by simpa using hc
      omega
    subst hge
    have fy := Nat.add_zero
    refine goR ?_ ?_ ?_ ?_ ?_ ?_ ?_ ?_ ?_ ?_ ?_ ?_ ?_ ?_ ?_ ?_
    any_goals (first | exact True.intro | skip)
    all_goals (repeat (refine Wh.mk fun hcc => ?_))
    refine SW.ret (show RetQ _ _ _ _ _ _ _ from ⟨.inr rfl, [.ref 1 0 0 l.length], [1], [.ow 1 (l.map Enc.o)], [[], [.gone]], ⟨rfl, ?_, rfl, ?_, rfl, rfl⟩⟩)
    · simp [pass1, modeOf, giveS, Heap.at, Heap.put, fill_all, fixEs, ioAt, ioAtT, ioKs, ioKT, ioM, ioT, T.cel, T.clo, T.cloA, cloAL]
    · simp [cloL, T.clo, T.clP, clPL]
theorem laws_toByteS_ok (l : List UInt8) (hl : Enc.lim 1048576 l) : CallR Try.prog 38 [.sl .b (l.map Enc.b)] [] (.ow 1 (l.map Enc.o)) := by
  refine CallR.of_body (n := 22) (rs := [.tmp 2]) hY.ok Try.func38 rfl (by decide) rfl rfl rfl rfl (fun F => ?_)
  have fx := And.intro Y3 (And.intro Y4 (And.intro Y5 (Y24)))
  have hl1 : l.length ≤ 1048576 := hl.1
  have fy := (fun u1 => mk_fill u1 24 l hl.1 (.int .u8 0) 1 1 _ Y24 Y5 rfl rfl (by decide))
  refine goN ?_ ?_ ?_ ?_ ?_ ?_ ?_ ?_ ?_ ?_ ?_ ?_ ?_ ?_ ?_ ?_
  any_goals (first | exact True.intro | skip)
  skip
  refine SW.loop (fun i : Nat => ⟨[.sl .b (l.map Enc.b), .undef, .undef, .ref 1 0 0 l.length, .int .i64 i, .undef, .undef, .undef, .undef, .undef, .undef, .undef, .undef, .undef, .undef, .undef, .undef, .undef, .undef, .undef, .undef, .undef], [[], [.arr 1 (fillG (.int .u8 0) l i) false]]⟩)
    (fun n i => n = l.length - i ∧ i ≤ l.length) (n := l.length) (x := 0) (Norm.to 0 rfl (by simp [weakL])) ⟨rfl, Nat.zero_le _⟩ ?_
  rintro n i ⟨hn, hi⟩
  have fy := Nat.add_zero
  refine goS ?_
  refine SW.cond rfl (fun hc => ?_) (fun hc => ?_)
  · have hlt : i < l.length := by simpa using hc
    have hltI : (i : Int) < (l.length : Int) := by omega
    have hg : (l.map Enc.b)[i]? = some (.int .u8 (l[i].toNat : Int)) := map_get Enc.b l i hlt
    have hf : (fillG (.int .u8 0) l i)[i]? = some (.int .u8 0) := fill_get _ l i hlt
    have hfl : (fillG (.int .u8 0) l i).length = l.length := fill_len _ l i hi
    have fy := And.intro hg (And.intro hf (And.intro hfl (And.intro hltI (Nat.zero_add))))
    refine goR ?_ ?_ ?_ ?_ ?_ ?_ ?_ ?_ ?_ ?_ ?_ ?_ ?_ ?_ ?_ ?_
    any_goals (first | exact True.intro | skip)
    all_goals (repeat (refine Wh.mk fun hcc => ?_))
    refine ⟨n - 1, i + 1, by omega, ⟨by omega, by omega⟩, ?_⟩
    rw [wrap64 _ (by omega) (by omega)]
    refine Norm.trans (Norm.fill (l := l) 1 0 rfl hlt (by first | rfl | (simp [soakS, soakL, Heap.at, Heap.put]; rfl))) ?_
    refine Norm.re [0, 1] (by decide) rfl ?_ (by simp [tmFits, T.ren])
    first | (simp [heapFits, rowFits, obFits, soakS, soakL, Heap.at, Heap.put]; exact renL_fill _ _ _ _ rfl) | exact ⟨trivial, ⟨rfl, rfl, renL_fill _ _ _ _ rfl⟩, trivial⟩
  · have hge : i = l.length := by
      have : ¬ i < l.length := by simpa using hc
      omega
    subst hge
    have fy := Nat.add_zero
    refine goR ?_ ?_ ?_ ?_ ?_ ?_ ?_ ?_ ?_ ?_ ?_ ?_ ?_ ?_ ?_ ?_
    any_goals (first | exact True.intro | skip)
    all_goals (repeat (refine Wh.mk fun hcc => ?_))
    refine SW.ret (show RetQ _ _ _ _ _ _ _ from ⟨.inr rfl, [.ref 1 0 0 l.length], [1], [.ow 1 (l.map Enc.o)], [[], [.gone]], ⟨rfl, ?_, rfl, ?_, rfl, rfl⟩⟩)
    · simp [pass1, modeOf, giveS, Heap.at, Heap.put, fill_all, fixEs, ioAt, ioAtT, ioKs, ioKT, ioM, ioT, T.cel, T.clo, T.cloA, cloAL]
    · simp [cloL, T.clo, T.clP, clPL]
theorem laws_toObj_ok (x : (Int × (List Int) × (List Int) × Unit)) (hx : Enc.lim 1048576 x) : CallR Try.prog 131 [.nd [.int .i64 x.1, .sl .b (x.2.1.map Enc.b), .sl .b (x.2.2.1.map Enc.b)]] [] (.nd [.int .i64 x.1, .ow 1 (x.2.1.map Enc.o), .ow 1 (x.2.2.1.map Enc.o)]) := by
  refine CallR.of_body (n := 16) (rs := [.cell 2 36]) hY.ok Try.func131 rfl (by decide) rfl rfl rfl rfl (fun F => ?_)
  have fx := And.intro Y1 (And.intro Y2 (And.intro Y3 (And.intro Y34 (And.intro Y36 (Y77)))))
  have hC1 := cx [] (laws_toIntS_ok x.2.1 hx.2.1)
  have hC2 := cx [] (laws_toIntS_ok x.2.2.1 hx.2.2.1)
  have fy := Nat.add_zero
  refine goR ?_ ?_ ?_ ?_ ?_ ?_ ?_ ?_ ?_ ?_ ?_ ?_ ?_ ?_ ?_ ?_
  any_goals (first | exact True.intro | skip)
  all_goals (repeat (refine Wh.mk fun hcc => ?_))
  refine SW.ret (show RetQ _ _ _ _ _ _ _ from ⟨.inr rfl, _, [0], [.nd [.int .i64 x.1, .ow 1 (x.2.1.map Enc.o), .ow 1 (x.2.2.1.map Enc.o)]], ?_, ⟨rfl, ?_, rfl, ?_, rfl, rfl⟩⟩)
  rotate_left
  · first | rfl | (simp [pass1, modeOf, giveS, giveSL, Heap.at, Heap.put, fixEs, ioAt, ioAtT, ioKs, ioKT, ioM, ioT, T.cel, T.clo, cloL, T.cloA, cloAL]; rfl)
  · first | rfl | simp [cloL, T.clo, T.clP, clPL]
theorem laws_toSlot_ok (x : (Bool × ((Int × (List Int) × (List Int) × Unit)) × Unit)) (hx : Enc.lim 1048576 x) : CallR Try.prog 65 [.nd [.bool x.1, .nd [.int .i64 x.2.1.1, .sl .b (x.2.1.2.1.map Enc.b), .sl .b (x.2.1.2.2.1.map Enc.b)]]] [] (.nd [.bool x.1, .nd [.int .i64 x.2.1.1, .ow 1 (x.2.1.2.1.map Enc.o), .ow 1 (x.2.1.2.2.1.map Enc.o)]]) := by
  refine CallR.of_body (n := 12) (rs := [.cell 2 38]) hY.ok Try.func65 rfl (by decide) rfl rfl rfl rfl (fun F => ?_)
  have fx := And.intro Y1 (And.intro Y3 (And.intro Y4 (And.intro Y34 (And.intro Y36 (And.intro Y38 (And.intro Y77 (Y79)))))))
  have hC1 := cx [] (laws_toObj_ok x.2.1 hx.2.1)
  have fy := Nat.add_zero
  refine goR ?_ ?_ ?_ ?_ ?_ ?_ ?_ ?_ ?_ ?_ ?_ ?_ ?_ ?_ ?_ ?_
  any_goals (first | exact True.intro | skip)
  all_goals (repeat (refine Wh.mk fun hcc => ?_))
  refine SW.ret (show RetQ _ _ _ _ _ _ _ from ⟨.inr rfl, _, [0], [.nd [.bool x.1, .nd [.int .i64 x.2.1.1, .ow 1 (x.2.1.2.1.map Enc.o), .ow 1 (x.2.1.2.2.1.map Enc.o)]]], ?_, ⟨rfl, ?_, rfl, ?_, rfl, rfl⟩⟩)
  rotate_left
  · first | rfl | (simp [pass1, modeOf, giveS, giveSL, Heap.at, Heap.put, fixEs, ioAt, ioAtT, ioKs, ioKT, ioM, ioT, T.cel, T.clo, cloL, T.cloA, cloAL]; rfl)
  · first | rfl | simp [cloL, T.clo, T.clP, clPL]
theorem laws_toSlotS_ok (l : List ((Bool × ((Int × (List Int) × (List Int) × Unit)) × Unit))) (hl : Enc.lim 1048576 l) : CallR Try.prog 13 [.sl .b (l.map Enc.b)] [] (.ow 4 (l.map Enc.o)) := by
  refine CallR.of_body (n := 23) (rs := [.tmp 2]) hY.ok Try.func13 rfl (by decide) rfl rfl rfl rfl (fun F => ?_)
  have fx := And.intro Y3 (And.intro Y4 (And.intro Y22 (And.intro Y26 (And.intro Y34 (And.intro Y36 (And.intro Y38 (And.intro Y77 (Y79))))))))
  have hl1 : l.length ≤ 1048576 := hl.1
  have fy := (fun u1 => mk_fill u1 26 l hl.1 (.nd [.bool false, .nd [.int .i64 0, .nils 1, .nils 1]]) 4 64 _ Y26 Y38 rfl rfl (by decide))
  refine goN ?_ ?_ ?_ ?_ ?_ ?_ ?_ ?_ ?_ ?_ ?_ ?_ ?_ ?_ ?_ ?_
  any_goals (first | exact True.intro | skip)
  skip
  refine SW.loop (fun i : Nat => ⟨[.sl .b (l.map Enc.b), .undef, .undef, .ref 1 0 0 l.length, .int .i64 i, .undef, .undef, .undef, .undef, .undef, .undef, .undef, .undef, .undef, .undef, .undef, .undef, .undef, .undef, .undef, .undef, .undef, .undef], [[], [.arr 4 (fillG (.nd [.bool false, .nd [.int .i64 0, .nils 1, .nils 1]]) l i) false]]⟩)
    (fun n i => n = l.length - i ∧ i ≤ l.length) (n := l.length) (x := 0) (Norm.to 0 rfl (by simp [weakL])) ⟨rfl, Nat.zero_le _⟩ ?_
  rintro n i ⟨hn, hi⟩
  have fy := Nat.add_zero
  refine goS ?_
  refine SW.cond rfl (fun hc => ?_) (fun hc => ?_)
  · have hlt : i < l.length := by simpa using hc
    have hltI : (i : Int) < (l.length : Int) := by omega
    have hg : (l.map Enc.b)[i]? = some (.nd [.bool l[i].1, .nd [.int .i64 l[i].2.1.1, .sl .b (l[i].2.1.2.1.map Enc.b), .sl .b (l[i].2.1.2.2.1.map Enc.b)]]) := map_get Enc.b l i hlt
    have hf : (fillG (.nd [.bool false, .nd [.int .i64 0, .nils 1, .nils 1]]) l i)[i]? = some (.nd [.bool false, .nd [.int .i64 0, .nils 1, .nils 1]]) := fill_get _ l i hlt
    have hfl : (fillG (.nd [.bool false, .nd [.int .i64 0, .nils 1, .nils 1]]) l i).length = l.length := fill_len _ l i hi
    have hC1 := cx [] (laws_toSlot_ok l[i] (hl.2 _ (List.getElem_mem hlt)))
    have fy := And.intro hg (And.intro hf (And.intro hfl (And.intro hltI (Nat.zero_add))))
    refine goR ?_ ?_ ?_ ?_ ?_ ?_ ?_ ?_ ?_ ?_ ?_ ?_ ?_ ?_ ?_ ?_
    any_goals (first | exact True.intro | skip)
    all_goals (repeat (refine Wh.mk fun hcc => ?_))
    refine ⟨n - 1, i + 1, by omega, ⟨by omega, by omega⟩, ?_⟩
    rw [wrap64 _ (by omega) (by omega)]
    refine Norm.trans (Norm.fill (l := l) 1 0 rfl hlt (by first | rfl | (simp [soakS, soakL, Heap.at, Heap.put]; rfl))) ?_
    refine Norm.re [0, 1] (by decide) rfl ?_ (by simp [tmFits, T.ren])
    first | (simp [heapFits, rowFits, obFits, soakS, soakL, Heap.at, Heap.put]; exact renL_fill _ _ _ _ rfl) | exact ⟨trivial, ⟨rfl, rfl, renL_fill _ _ _ _ rfl⟩, trivial⟩
  · have hge : i = l.length := by
      have : ¬ i < l.length := by simpa using hc
      omega
    subst hge
    have fy := Nat.add_zero
    refine goR ?_ ?_ ?_ ?_ ?_ ?_ ?_ ?_ ?_ ?_ ?_ ?_ ?_ ?_ ?_ ?_
    any_goals (first | exact True.intro | skip)
    all_goals (repeat (refine Wh.mk fun hcc => ?_))
    refine SW.ret (show RetQ _ _ _ _ _ _ _ from ⟨.inr rfl, [.ref 1 0 0 l.length], [4], [.ow 4 (l.map Enc.o)], [[], [.gone]], ⟨rfl, ?_, rfl, ?_, rfl, rfl⟩⟩)
    · simp [pass1, modeOf, giveS, Heap.at, Heap.put, fill_all, fixEs, ioAt, ioAtT, ioKs, ioKT, ioM, ioT, T.cel, T.clo, T.cloA, cloAL]
    · simp [cloL, T.clo, T.clP, clPL]
end Q6

namespace Q6
open Go Go.Vm Go.Proofs
set_option maxHeartbeats 4000000
set_option synthInstance.maxSize 2000
set_option synthInstance.maxHeartbeats 400000
set_option maxRecDepth 10000
set_option linter.unusedSimpArgs false
set_option linter.unusedVariables false

open Go.By

theorem gpg_lim (l : List UInt8) : Enc.lim 1048576 (gpgI l).1 := by
  have hs : ∀ b s, Enc.lim 1048576 (slotI b s).1 := fun b s => ⟨trivial, ⟨trivial, ⟨by have := (slotI_lim b s).1; omega, fun _ _ => trivial⟩, ⟨by have := (slotI_lim b s).2; omega, fun _ _ => trivial⟩, trivial⟩, trivial⟩
  have h0 : Enc.lim 1048576 slot0' := ⟨trivial, ⟨trivial, ⟨Nat.zero_le _, fun _ _ => trivial⟩, ⟨Nat.zero_le _, fun _ _ => trivial⟩, trivial⟩, trivial⟩
  have hz : Enc.lim 1048576 page0 := ⟨trivial, ⟨h0, h0, h0, h0, trivial⟩, trivial⟩
  unfold gpgI pgI
  simp only
  unfold pageEnd
  split
  · split
    · exact ⟨trivial, ⟨hs _ _, hs _ _, hs _ _, hs _ _, trivial⟩, trivial⟩
    · exact hz
  · exact hz

set_option synthInstance.maxHeartbeats 4000000
set_option synthInstance.maxSize 20000
theorem getPageLaw_ok (l : List UInt8) (hl : Enc.lim maxLen l) : CallR Try.prog 6 [.sl .b (l.map Enc.b)] [] (.bool true) := by
  refine CallR.of_body (n := 93) (rs := [.tmp 2]) hY.ok Try.func6 rfl (by decide) rfl rfl rfl rfl (fun F => ?_)
  have fx := And.intro Y1 (And.intro Y3 (And.intro Y4 (And.intro Y5 (And.intro Y24 (And.intro Y34 (And.intro Y36 (And.intro Y38 (And.intro Y47 (Y49)))))))))
  by_cases hb : l.length > 1048576
  · have hd : decide ((l.length : Int) > 1048576) = true := by simp; omega
    have fy := hd
    refine goK ?_ ?_ ?_ ?_ ?_ ?_ ?_ ?_ ?_ ?_ ?_ ?_ ?_ ?_ ?_ ?_
    any_goals (first | exact True.intro | skip)
    all_goals (repeat (refine Wh.mk fun hcc => ?_))
    all_goals rfl
  have hd : decide ((l.length : Int) > 1048576) = false := by simp; omega
  have hf : Enc.lim 1048576 l := ⟨by omega, fun _ _ => trivial⟩
  have hl1 : l.length ≤ 1048576 := by omega
  have hT := laws_toByteS_ok l hf
  have hS := gpgS_ok l hl1
  rw [← gpg_eq] at hS
  have hI := gpgI_ok l hl1
  have hx := gpg_lim l
  generalize gpgI l = R at *
  obtain ⟨⟨lsn, ⟨⟨p1, ⟨u1, A1, B1, ⟨⟩⟩, ⟨⟩⟩, ⟨p2, ⟨u2, A2, B2, ⟨⟩⟩, ⟨⟩⟩, ⟨p3, ⟨u3, A3, B3, ⟨⟩⟩, ⟨⟩⟩, ⟨p4, ⟨u4, A4, B4, ⟨⟩⟩, ⟨⟩⟩, ⟨⟩⟩, ⟨⟩⟩, b⟩ := R
  have hE := eqPage_ok (lsn, ((p1, (u1, A1, B1, ()), ()), (p2, (u2, A2, B2, ()), ()), (p3, (u3, A3, B3, ()), ()), (p4, (u4, A4, B4, ()), ()), ()), ()) (lsn, ((p1, (u1, A1, B1, ()), ()), (p2, (u2, A2, B2, ()), ()), (p3, (u3, A3, B3, ()), ()), (p4, (u4, A4, B4, ()), ()), ()), ()) hx
  have hE2 := laws_eqByteS_ok l l hf
  rw [decide_eq_true rfl] at hE hE2
  have hM := markByte_ok l 1 hl1 (by decide) (by decide)
  have hk0 : decide (1 + (l.length : Int) < 0) = false := by simp; omega
  have hO := markPage_ok (lsn, ((p1, (u1, A1, B1, ()), ()), (p2, (u2, A2, B2, ()), ()), (p3, (u3, A3, B3, ()), ()), (p4, (u4, A4, B4, ()), ()), ()), ()) 1 hx (by decide) (by decide)
  have hH := heldPage_ok lsn p1 p2 p3 p4 u1 u2 u3 u4 A1.length B1.length A2.length B2.length A3.length B3.length A4.length B4.length 1 hx.2.1.1.2.1.2.1.1 hx.2.1.1.2.1.2.2.1.1 hx.2.1.2.1.2.1.2.1.1 hx.2.1.2.1.2.1.2.2.1.1 hx.2.1.2.2.1.2.1.2.1.1 hx.2.1.2.2.1.2.1.2.2.1.1 hx.2.1.2.2.2.1.2.1.2.1.1 hx.2.1.2.2.2.1.2.1.2.2.1.1 (by decide) (by decide)
  simp only at hS hI hE hO
  have hq0 : decide (1 + (A1.length : Int) + (B1.length : Int) + (A2.length : Int) + (B2.length : Int) + (A3.length : Int) + (B3.length : Int) + (A4.length : Int) + (B4.length : Int) < 0) = false := by simp; omega
  clear hx hf hl hb
  have hC1 := cx [] (hT)
  have hC2 := cx [] (hS)
  have hC3 := cx [] (hI)
  have hC4 := cx [] (hE)
  have hC5 := cx [] (hE2)
  have hC6 := cx [.ios] (hM)
  have hC7 := cx [.iov] (hO)
  have hC8 := cx [] (hH)
  have fy := And.intro hd (And.intro hk0 (hq0))
  refine goK ?_ ?_ ?_ ?_ ?_ ?_ ?_ ?_ ?_ ?_ ?_ ?_ ?_ ?_ ?_ ?_
  any_goals (first | exact True.intro | skip)
  all_goals (repeat (refine Wh.mk fun hcc => ?_))
  all_goals first | rfl | (exfalso; simp at hcc; done)
end Q6

namespace Q6.GetPage
open Go Go.Vm Go.Proofs
set_option maxHeartbeats 4000000
set_option synthInstance.maxSize 2000
set_option synthInstance.maxHeartbeats 400000
set_option maxRecDepth 10000
set_option linter.unusedSimpArgs false
set_option linter.unusedVariables false

open Go.Proofs.Ytalhmcbkmpggiaa
open Go.ChangeShapes Go.WideShapes Go.ChangeAt Go.RowKit
theorem own : ownKnob Try.prog.godebug = none := by kernel_rfl
theorem laidOut : laidOutB Try.prog = true := by kernel_rfl
theorem plain24 : plainT Y 12 24 = true := by kernel_rfl

set_option maxRecDepth 100000 in
theorem lifted (os : Os) (started : os.Started) (H : Type) (enc : TypeId × Value → H) :
    ReturnsInHanded {} Try.checked os 6 .any (Rows.fnExactGetPageSpec.pre6 enc Try.prog Try.f6 Rows.fnExactGetPageRow.domain false) (Rows.fnExactGetPageSpec.post enc Try.prog Try.f6 false true false false) := by
  refine returnsInHanded_of_change (C := Try.checked) own started (by kernel_rfl) Try.func6
    (ChangeSpec.witness6 (enc := enc) (C := Try.checked) false ⟨#[], #[.slice none 0 0], []⟩ 8 (by kernel_rfl) (by kernel_rfl) (by kernel_rfl) (by kernel_rfl)) ?_
  intro W base args ds gs before hval0 hW hcnd _
  have hval : ∀ (j : Nat) t v, Try.f6.params[j]? = some t → args[j]? = some v → Value.okWide Try.prog W .any base t v := hval0
  have hW' := hW
  obtain ⟨p, q, hA0, hV, rfl, _, _⟩ := hW
  have hA : DataW.TrodAll enc Try.prog W 0 (fun _ => true) true Try.f6.params.toList args.toList ds p := hA0
  have hV' : DataW.TrodVars enc Try.prog W (fun _ => true) [] gs q := hV
  obtain ⟨rfl, rfl⟩ := trodVars_none hV'
  rw [Try.params6] at hA hval
  have one := trodAll_one hA
  refine (calls_of hY 12 (by simp [plain24]) hA (fun j t v h1 h2 => hval j t v (by simpa using h1) (by simpa using h2)) ?_).mono ?_
  · intro us hu ht
    match us, hu with
    | [u0], _ =>
      obtain ⟨x0, rfl, hx0⟩ := Enc.dec (α := List UInt8) Y 12 24 u0 (by kernel_rfl) (ht 0 24 u0 rfl rfl)
      exact getPageLaw_ok x0 hx0
  · rintro e W' ⟨rfl, h1, h2⟩
    obtain ⟨v, d, _, rfl, _⟩ := one
    exact ⟨_, rfl, post_true (tb := 4) laidOut (by rw [Try.params6]; exact of_decide_eq_true (by kernel_rfl)) rfl hW' rfl rfl rfl rfl (by kernel_rfl) h1 h2⟩

theorem fnExactGetPage_holds : Rows.FnExactGetPageSaid :=
  OpenClaim.holds_of_wide 6 Try.f6 rfl rfl rfl rfl rfl rfl rfl ⟨rfl, rfl, rfl, rfl, rfl⟩ rfl rfl rfl rfl rfl (by kernel_rfl) Try.func6 (by kernel_rfl)
    (of_decide_eq_true (by kernel_rfl)) (by unfold Func.isWrapper; first | (rw [if_pos (by decide +kernel)]; kernel_rfl) | (rw [if_neg (by decide +kernel)]; exact ⟨rfl, rfl⟩))
    (fun os started H enc _ => lifted os started H enc)
end Q6.GetPage

namespace Go.Proofs.Ytalhmcbkmpggiaa
/-- FnExactGetPage: the program's GetPage returns what the reference's returns, for all arguments. -/
theorem fnExactGetPage_holds : Rows.FnExactGetPageSaid := Q6.GetPage.fnExactGetPage_holds
#print axioms fnExactGetPage_holds
end Go.Proofs.Ytalhmcbkmpggiaa
