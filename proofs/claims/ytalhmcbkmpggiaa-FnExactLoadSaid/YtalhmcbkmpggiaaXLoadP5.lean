/- Shows what the parts of the program do that the claim reaches: a machine of values over the model, and the contracts of functions, for all arguments within the lengths that each theorem names. -/
import Derived.Test.YtalhmcbkmpggiaaXLoadP1
import Derived.Test.YtalhmcbkmpggiaaXLoadP4
import Derived.Test.YtalhmcbkmpggiaaXLoadV5
import Derived.Test.YtalhmcbkmpggiaaXLoadP2
set_option linter.all false

namespace Q6
open Go Go.Vm Go.Proofs
set_option maxHeartbeats 4000000
set_option synthInstance.maxSize 2000
set_option synthInstance.maxHeartbeats 400000
set_option maxRecDepth 10000
set_option linter.unusedSimpArgs false
set_option linter.unusedVariables false

open Go.By

theorem frz_bytes : ∀ l : List UInt8, frzL (l.map Enc.o) = l.map Enc.b
  | [] => rfl
  | x :: l => by simp only [List.map_cons, frzL, frz_bytes l]; rfl
theorem frz_all (l : List UInt8) : frzL (((l.map Enc.o).drop 0).take l.length) = l.map Enc.b := by
  rw [List.drop_zero, List.take_of_length_le (by simp), frz_bytes]
def page0 : PageT := (0, (slot0', slot0', slot0', slot0', ()), ())
def pageEnd (x : PageT) (b : Bool) : PageT × Bool := if b = true then (x, true) else (page0, false)
def pgI (b : List UInt8) : PageT × Bool :=
  let a := oneR b (0, false); let s1 := slotI b a.2; let s2 := slotI b s1.2; let s3 := slotI b s2.2; let s4 := slotI b s3.2
  pageEnd (a.1, (s1.1, s2.1, s3.1, s4.1, ()), ()) ((!s4.2.2 && decide (s4.2.1 = b.length)) && pageB (a.1, (s1.1, s2.1, s3.1, s4.1, ()), ()))
def gpgI (l : List UInt8) : PageT × Bool := if (decide ((unfI l 0).2.2 = 0) && decide ((unfI l 0).2.1 = l.length)) = true then pgI (unfI l 0).1 else (page0, false)
def pgS (l b : List UInt8) : PageT × Bool :=
  let a := oneR b (0, false); let s1 := slotS b a.2; let s2 := slotS b s1.2; let s3 := slotS b s2.2; let s4 := slotS b s3.2
  pageEnd (a.1, (s1.1, s2.1, s3.1, s4.1, ()), ()) (!s4.2.2 && (pageB (a.1, (s1.1, s2.1, s3.1, s4.1, ()), ()) && decide (putPage (a.1, (s1.1, s2.1, s3.1, s4.1, ()), ()) = l)))
def gpgS (l : List UInt8) : PageT × Bool := if (decide ((unfS l 0).2.2 = 0) && decide ((unfS l 0).2.1 = l.length)) = true then pgS l (unfS l 0).1 else (page0, false)
theorem frameL_len2 (l : List UInt8) : (frameL l).length ≤ l.length + 10 := frameL_len l

theorem gpgI_ok (l : List UInt8) (hl : l.length ≤ 1048576) : CallR Try.prog 32 [.sl .b (l.map Enc.b)] [] (.tup [.nd [.int .i64 (((gpgI l).1).1), .nd [.nd [.bool (((((gpgI l).1).2.1).1).1), .nd [.int .i64 ((((((gpgI l).1).2.1).1).2.1).1), .ow 1 (((((((gpgI l).1).2.1).1).2.1).2.1).map Enc.o), .ow 1 (((((((gpgI l).1).2.1).1).2.1).2.2.1).map Enc.o)]], .nd [.bool (((((gpgI l).1).2.1).2.1).1), .nd [.int .i64 ((((((gpgI l).1).2.1).2.1).2.1).1), .ow 1 (((((((gpgI l).1).2.1).2.1).2.1).2.1).map Enc.o), .ow 1 (((((((gpgI l).1).2.1).2.1).2.1).2.2.1).map Enc.o)]], .nd [.bool (((((gpgI l).1).2.1).2.2.1).1), .nd [.int .i64 ((((((gpgI l).1).2.1).2.2.1).2.1).1), .ow 1 (((((((gpgI l).1).2.1).2.2.1).2.1).2.1).map Enc.o), .ow 1 (((((((gpgI l).1).2.1).2.2.1).2.1).2.2.1).map Enc.o)]], .nd [.bool (((((gpgI l).1).2.1).2.2.2.1).1), .nd [.int .i64 ((((((gpgI l).1).2.1).2.2.2.1).2.1).1), .ow 1 (((((((gpgI l).1).2.1).2.2.2.1).2.1).2.1).map Enc.o), .ow 1 (((((((gpgI l).1).2.1).2.2.2.1).2.1).2.2.1).map Enc.o)]]]], .bool (gpgI l).2]) := by
  refine CallR.of_body (n := 50) (rs := [.cell 2 49, .tmp 3]) hY.ok Try.func32 rfl (by decide) rfl rfl rfl rfl (fun F => ?_)
  have fx := And.intro Y1 (And.intro Y2 (And.intro Y3 (And.intro Y4 (And.intro Y5 (And.intro Y24 (And.intro Y34 (And.intro Y36 (And.intro Y38 (And.intro Y47 (And.intro Y49 (And.intro Y97 (Y99))))))))))))
  have hU0 := unframeI_ok l 0 hl (Nat.zero_le _)
  have hle := unfI_le l 0 (Nat.zero_le _)
  unfold gpgI
  generalize unfI l 0 = u at *
  obtain ⟨bd, e, c⟩ := u
  simp only at hU0 hle ⊢
  have hU : CallR Try.prog 97 [.sl .b (l.map Enc.b), .int .i64 0] [] (.tup [.ow 1 (bd.map Enc.o), .int .i64 (e : Nat), .int .i64 c]) := hU0
  clear hU0
  have hcn : (c != 0) = !decide (c = 0) := by by_cases h : c = 0 <;> simp [h]
  have hen : ((e : Int) != (l.length : Int)) = !decide (e = l.length) := by by_cases h : e = l.length <;> simp [h]; omega
  generalize decide (c = 0) = p at *
  generalize decide (e = l.length) = q at *
  cases p
  · cases q
    · simp only [Bool.and_self, Bool.false_and, Bool.and_false, Bool.false_eq_true, if_false, if_true]
      unfold page0 slot0'
      have hC1 := cx [] (hU)
      have fy := And.intro hcn (hen)
      refine goU ?_ ?_ ?_ ?_ ?_ ?_ ?_ ?_ ?_ ?_ ?_ ?_ ?_ ?_ ?_ ?_
      any_goals (first | exact True.intro | skip)
      all_goals (repeat (refine Wh.mk fun hcc => ?_))
      all_goals exact SW.ret (show RetQ _ _ _ _ _ _ _ from RetQ.y [0, 0] [.nd [.int .i64 0, .nd [.nd [.bool false, .nd [.int .i64 0, .ow 1 [], .ow 1 []]], .nd [.bool false, .nd [.int .i64 0, .ow 1 [], .ow 1 []]], .nd [.bool false, .nd [.int .i64 0, .ow 1 [], .ow 1 []]], .nd [.bool false, .nd [.int .i64 0, .ow 1 [], .ow 1 []]]]], .bool false])
    · simp only [Bool.and_self, Bool.false_and, Bool.and_false, Bool.false_eq_true, if_false, if_true]
      unfold page0 slot0'
      have hC1 := cx [] (hU)
      have fy := And.intro hcn (hen)
      refine goU ?_ ?_ ?_ ?_ ?_ ?_ ?_ ?_ ?_ ?_ ?_ ?_ ?_ ?_ ?_ ?_
      any_goals (first | exact True.intro | skip)
      all_goals (repeat (refine Wh.mk fun hcc => ?_))
      all_goals exact SW.ret (show RetQ _ _ _ _ _ _ _ from RetQ.y [0, 0] [.nd [.int .i64 0, .nd [.nd [.bool false, .nd [.int .i64 0, .ow 1 [], .ow 1 []]], .nd [.bool false, .nd [.int .i64 0, .ow 1 [], .ow 1 []]], .nd [.bool false, .nd [.int .i64 0, .ow 1 [], .ow 1 []]], .nd [.bool false, .nd [.int .i64 0, .ow 1 [], .ow 1 []]]]], .bool false])
  · cases q
    · simp only [Bool.and_self, Bool.false_and, Bool.and_false, Bool.false_eq_true, if_false, if_true]
      unfold page0 slot0'
      have hC1 := cx [] (hU)
      have fy := And.intro hcn (hen)
      refine goU ?_ ?_ ?_ ?_ ?_ ?_ ?_ ?_ ?_ ?_ ?_ ?_ ?_ ?_ ?_ ?_
      any_goals (first | exact True.intro | skip)
      all_goals (repeat (refine Wh.mk fun hcc => ?_))
      all_goals exact SW.ret (show RetQ _ _ _ _ _ _ _ from RetQ.y [0, 0] [.nd [.int .i64 0, .nd [.nd [.bool false, .nd [.int .i64 0, .ow 1 [], .ow 1 []]], .nd [.bool false, .nd [.int .i64 0, .ow 1 [], .ow 1 []]], .nd [.bool false, .nd [.int .i64 0, .ow 1 [], .ow 1 []]], .nd [.bool false, .nd [.int .i64 0, .ow 1 [], .ow 1 []]]]], .bool false])
    · simp only [Bool.and_self, Bool.false_and, Bool.and_false, Bool.false_eq_true, if_false, if_true]
      have hb := Nat.le_trans hle.1 hl
      clear hle
      unfold pgI
      simp only
      have h1 : CallR Try.prog 85 [.io (.nd [.sl .s (bd.map Enc.b), .int .i64 0, .bool false])] [.nd [.sl .s (bd.map Enc.b), .int .i64 ((oneR bd (0, false)).2.1 : Nat), .bool (oneR bd (0, false)).2.2]] (.int .i64 (oneR bd (0, false)).1) := one_s bd (0, false) hb (Nat.zero_le _)
      have e1 := oneR_le bd (0, false) (Nat.zero_le _)
      generalize oneR bd (0, false) = a at *
      have h2 := implSlot_s bd a.2 hb e1
      have e2 := slotI_le bd a.2 e1
      have l1 := slotI_lim bd a.2
      generalize slotI bd a.2 = s1 at *
      have h3 := implSlot_s bd s1.2 hb e2
      have e3 := slotI_le bd s1.2 e2
      have l2 := slotI_lim bd s1.2
      generalize slotI bd s1.2 = s2 at *
      have h4 := implSlot_s bd s2.2 hb e3
      have e4 := slotI_le bd s2.2 e3
      have l3 := slotI_lim bd s2.2
      generalize slotI bd s2.2 = s3 at *
      have h5 := implSlot_s bd s3.2 hb e4
      have e5 := slotI_le bd s3.2 e4
      have l4 := slotI_lim bd s3.2
      generalize slotI bd s3.2 = s4 at *
      have hx : Enc.lim 1048576 ((a.1, (s1.1, s2.1, s3.1, s4.1, ()), ()) : PageT) := ⟨trivial, ⟨⟨trivial, ⟨trivial, ⟨by simp only; omega, fun _ _ => trivial⟩, ⟨by simp only; omega, fun _ _ => trivial⟩, trivial⟩, trivial⟩, ⟨trivial, ⟨trivial, ⟨by simp only; omega, fun _ _ => trivial⟩, ⟨by simp only; omega, fun _ _ => trivial⟩, trivial⟩, trivial⟩, ⟨trivial, ⟨trivial, ⟨by simp only; omega, fun _ _ => trivial⟩, ⟨by simp only; omega, fun _ _ => trivial⟩, trivial⟩, trivial⟩, ⟨trivial, ⟨trivial, ⟨by simp only; omega, fun _ _ => trivial⟩, ⟨by simp only; omega, fun _ _ => trivial⟩, trivial⟩, trivial⟩, trivial⟩, trivial⟩
      have hD := done_ok bd s4.2
      have hP := implPageOk_ok (a.1, (s1.1, s2.1, s3.1, s4.1, ()), ()) hx
      simp only at hP
      generalize pageB (a.1, (s1.1, s2.1, s3.1, s4.1, ()), ()) = b at *
      generalize (!s4.2.2 && decide (s4.2.1 = bd.length)) = d at *
      clear hx
      unfold pageEnd page0 slot0'
      cases d <;> cases b
      · skip
        simp only [Bool.and_self, Bool.false_and, Bool.and_false, Bool.true_and, Bool.not_true, Bool.not_false, Bool.false_eq_true, if_false, if_true]
        have hC1 := cx [] (hU)
        have fy := And.intro hcn (hen)
        refine goN ?_ ?_ ?_ ?_ ?_ ?_ ?_ ?_ ?_ ?_ ?_ ?_ ?_ ?_ ?_ ?_
        any_goals (first | exact True.intro | skip)
        skip
        refine SW.cond rfl (fun hcc => absurd hcc (by decide)) (fun hcc => ?_)
        refine SW.norm (Norm.frz 4 2 0 rfl rfl (by simp)) ?_
        rw [frz_all]
        simp only [List.set_cons_succ, List.set_cons_zero, Heap.put, List.getElem?_cons_succ, List.getElem?_cons_zero]
        have hC1 := cx [.io] (h1)
        have hC2 := cx [.io] (h2)
        have hC3 := cx [.io] (h3)
        have hC4 := cx [.io] (h4)
        have hC5 := cx [.io] (h5)
        have hC6 := cx [] (hD)
        have hC7 := cx [] (hP)
        have fy := And.intro nc4 (And.intro nc8 (And.intro wa (tn)))
        refine goU ?_ ?_ ?_ ?_ ?_ ?_ ?_ ?_ ?_ ?_ ?_ ?_ ?_ ?_ ?_ ?_
        any_goals (first | exact True.intro | skip)
        all_goals (repeat (refine Wh.mk fun hcc => ?_))
        all_goals exact SW.ret (show RetQ _ _ _ _ _ _ _ from RetQ.y [0, 0] [.nd [.int .i64 0, .nd [.nd [.bool false, .nd [.int .i64 0, .ow 1 [], .ow 1 []]], .nd [.bool false, .nd [.int .i64 0, .ow 1 [], .ow 1 []]], .nd [.bool false, .nd [.int .i64 0, .ow 1 [], .ow 1 []]], .nd [.bool false, .nd [.int .i64 0, .ow 1 [], .ow 1 []]]]], .bool false])
      · skip
        simp only [Bool.and_self, Bool.false_and, Bool.and_false, Bool.true_and, Bool.not_true, Bool.not_false, Bool.false_eq_true, if_false, if_true]
        have hC1 := cx [] (hU)
        have fy := And.intro hcn (hen)
        refine goN ?_ ?_ ?_ ?_ ?_ ?_ ?_ ?_ ?_ ?_ ?_ ?_ ?_ ?_ ?_ ?_
        any_goals (first | exact True.intro | skip)
        skip
        refine SW.cond rfl (fun hcc => absurd hcc (by decide)) (fun hcc => ?_)
        refine SW.norm (Norm.frz 4 2 0 rfl rfl (by simp)) ?_
        rw [frz_all]
        simp only [List.set_cons_succ, List.set_cons_zero, Heap.put, List.getElem?_cons_succ, List.getElem?_cons_zero]
        have hC1 := cx [.io] (h1)
        have hC2 := cx [.io] (h2)
        have hC3 := cx [.io] (h3)
        have hC4 := cx [.io] (h4)
        have hC5 := cx [.io] (h5)
        have hC6 := cx [] (hD)
        have hC7 := cx [] (hP)
        have fy := And.intro nc4 (And.intro nc8 (And.intro wa (tn)))
        refine goU ?_ ?_ ?_ ?_ ?_ ?_ ?_ ?_ ?_ ?_ ?_ ?_ ?_ ?_ ?_ ?_
        any_goals (first | exact True.intro | skip)
        all_goals (repeat (refine Wh.mk fun hcc => ?_))
        all_goals exact SW.ret (show RetQ _ _ _ _ _ _ _ from RetQ.y [0, 0] [.nd [.int .i64 0, .nd [.nd [.bool false, .nd [.int .i64 0, .ow 1 [], .ow 1 []]], .nd [.bool false, .nd [.int .i64 0, .ow 1 [], .ow 1 []]], .nd [.bool false, .nd [.int .i64 0, .ow 1 [], .ow 1 []]], .nd [.bool false, .nd [.int .i64 0, .ow 1 [], .ow 1 []]]]], .bool false])
      · skip
        simp only [Bool.and_self, Bool.false_and, Bool.and_false, Bool.true_and, Bool.not_true, Bool.not_false, Bool.false_eq_true, if_false, if_true]
        have hC1 := cx [] (hU)
        have fy := And.intro hcn (hen)
        refine goN ?_ ?_ ?_ ?_ ?_ ?_ ?_ ?_ ?_ ?_ ?_ ?_ ?_ ?_ ?_ ?_
        any_goals (first | exact True.intro | skip)
        skip
        refine SW.cond rfl (fun hcc => absurd hcc (by decide)) (fun hcc => ?_)
        refine SW.norm (Norm.frz 4 2 0 rfl rfl (by simp)) ?_
        rw [frz_all]
        simp only [List.set_cons_succ, List.set_cons_zero, Heap.put, List.getElem?_cons_succ, List.getElem?_cons_zero]
        have hC1 := cx [.io] (h1)
        have hC2 := cx [.io] (h2)
        have hC3 := cx [.io] (h3)
        have hC4 := cx [.io] (h4)
        have hC5 := cx [.io] (h5)
        have hC6 := cx [] (hD)
        have hC7 := cx [] (hP)
        have fy := And.intro nc4 (And.intro nc8 (And.intro wa (tn)))
        refine goU ?_ ?_ ?_ ?_ ?_ ?_ ?_ ?_ ?_ ?_ ?_ ?_ ?_ ?_ ?_ ?_
        any_goals (first | exact True.intro | skip)
        all_goals (repeat (refine Wh.mk fun hcc => ?_))
        all_goals exact SW.ret (show RetQ _ _ _ _ _ _ _ from RetQ.y [0, 0] [.nd [.int .i64 0, .nd [.nd [.bool false, .nd [.int .i64 0, .ow 1 [], .ow 1 []]], .nd [.bool false, .nd [.int .i64 0, .ow 1 [], .ow 1 []]], .nd [.bool false, .nd [.int .i64 0, .ow 1 [], .ow 1 []]], .nd [.bool false, .nd [.int .i64 0, .ow 1 [], .ow 1 []]]]], .bool false])
      · skip
        simp only [Bool.and_self, Bool.false_and, Bool.and_false, Bool.true_and, Bool.not_true, Bool.not_false, Bool.false_eq_true, if_false, if_true]
        have hC1 := cx [] (hU)
        have fy := And.intro hcn (hen)
        refine goN ?_ ?_ ?_ ?_ ?_ ?_ ?_ ?_ ?_ ?_ ?_ ?_ ?_ ?_ ?_ ?_
        any_goals (first | exact True.intro | skip)
        skip
        refine SW.cond rfl (fun hcc => absurd hcc (by decide)) (fun hcc => ?_)
        refine SW.norm (Norm.frz 4 2 0 rfl rfl (by simp)) ?_
        rw [frz_all]
        simp only [List.set_cons_succ, List.set_cons_zero, Heap.put, List.getElem?_cons_succ, List.getElem?_cons_zero]
        have hC1 := cx [.io] (h1)
        have hC2 := cx [.io] (h2)
        have hC3 := cx [.io] (h3)
        have hC4 := cx [.io] (h4)
        have hC5 := cx [.io] (h5)
        have hC6 := cx [] (hD)
        have hC7 := cx [] (hP)
        have fy := And.intro nc4 (And.intro nc8 (And.intro wa (tn)))
        refine goU ?_ ?_ ?_ ?_ ?_ ?_ ?_ ?_ ?_ ?_ ?_ ?_ ?_ ?_ ?_ ?_
        any_goals (first | exact True.intro | skip)
        all_goals (repeat (refine Wh.mk fun hcc => ?_))
        all_goals exact SW.ret (show RetQ _ _ _ _ _ _ _ from RetQ.y [0, 0] [.nd [.int .i64 a.1, .nd [.nd [.bool s1.1.1, .nd [.int .i64 s1.1.2.1.1, .ow 1 (s1.1.2.1.2.1.map Enc.o), .ow 1 (s1.1.2.1.2.2.1.map Enc.o)]], .nd [.bool s2.1.1, .nd [.int .i64 s2.1.2.1.1, .ow 1 (s2.1.2.1.2.1.map Enc.o), .ow 1 (s2.1.2.1.2.2.1.map Enc.o)]], .nd [.bool s3.1.1, .nd [.int .i64 s3.1.2.1.1, .ow 1 (s3.1.2.1.2.1.map Enc.o), .ow 1 (s3.1.2.1.2.2.1.map Enc.o)]], .nd [.bool s4.1.1, .nd [.int .i64 s4.1.2.1.1, .ow 1 (s4.1.2.1.2.1.map Enc.o), .ow 1 (s4.1.2.1.2.2.1.map Enc.o)]]]], .bool true])
theorem gpgS_ok (l : List UInt8) (hl : l.length ≤ 1048576) : CallR Try.prog 37 [.sl .b (l.map Enc.b)] [] (.tup [.nd [.int .i64 (((gpgS l).1).1), .nd [.nd [.bool (((((gpgS l).1).2.1).1).1), .nd [.int .i64 ((((((gpgS l).1).2.1).1).2.1).1), .ow 1 (((((((gpgS l).1).2.1).1).2.1).2.1).map Enc.o), .ow 1 (((((((gpgS l).1).2.1).1).2.1).2.2.1).map Enc.o)]], .nd [.bool (((((gpgS l).1).2.1).2.1).1), .nd [.int .i64 ((((((gpgS l).1).2.1).2.1).2.1).1), .ow 1 (((((((gpgS l).1).2.1).2.1).2.1).2.1).map Enc.o), .ow 1 (((((((gpgS l).1).2.1).2.1).2.1).2.2.1).map Enc.o)]], .nd [.bool (((((gpgS l).1).2.1).2.2.1).1), .nd [.int .i64 ((((((gpgS l).1).2.1).2.2.1).2.1).1), .ow 1 (((((((gpgS l).1).2.1).2.2.1).2.1).2.1).map Enc.o), .ow 1 (((((((gpgS l).1).2.1).2.2.1).2.1).2.2.1).map Enc.o)]], .nd [.bool (((((gpgS l).1).2.1).2.2.2.1).1), .nd [.int .i64 ((((((gpgS l).1).2.1).2.2.2.1).2.1).1), .ow 1 (((((((gpgS l).1).2.1).2.2.2.1).2.1).2.1).map Enc.o), .ow 1 (((((((gpgS l).1).2.1).2.2.2.1).2.1).2.2.1).map Enc.o)]]]], .bool (gpgS l).2]) := by
  refine CallR.of_body (n := 58) (rs := [.cell 2 49, .tmp 3]) hY.ok Try.func37 rfl (by decide) rfl rfl rfl rfl (fun F => ?_)
  have fx := And.intro Y1 (And.intro Y2 (And.intro Y3 (And.intro Y4 (And.intro Y5 (And.intro Y24 (And.intro Y34 (And.intro Y36 (And.intro Y38 (And.intro Y47 (And.intro Y49 (And.intro Y115 (Y117))))))))))))
  have hU0 := unframeS_ok l 0 hl (Nat.zero_le _)
  have hle := unfS_le l 0 (Nat.zero_le _)
  unfold gpgS
  generalize unfS l 0 = u at *
  obtain ⟨bd, e, c⟩ := u
  simp only at hU0 hle ⊢
  have hU : CallR Try.prog 103 [.sl .b (l.map Enc.b), .int .i64 0] [] (.tup [.ow 1 (bd.map Enc.o), .int .i64 (e : Nat), .int .i64 c]) := hU0
  clear hU0
  have hcn : (c != 0) = !decide (c = 0) := by by_cases h : c = 0 <;> simp [h]
  have hen : ((e : Int) != (l.length : Int)) = !decide (e = l.length) := by by_cases h : e = l.length <;> simp [h]; omega
  generalize decide (c = 0) = p at *
  generalize decide (e = l.length) = q at *
  cases p
  · cases q
    · simp only [Bool.and_self, Bool.false_and, Bool.and_false, Bool.false_eq_true, if_false, if_true]
      unfold page0 slot0'
      have hC1 := cx [] (hU)
      have fy := And.intro hcn (hen)
      refine goU ?_ ?_ ?_ ?_ ?_ ?_ ?_ ?_ ?_ ?_ ?_ ?_ ?_ ?_ ?_ ?_
      any_goals (first | exact True.intro | skip)
      all_goals (repeat (refine Wh.mk fun hcc => ?_))
      all_goals exact SW.ret (show RetQ _ _ _ _ _ _ _ from RetQ.y [0, 0] [.nd [.int .i64 0, .nd [.nd [.bool false, .nd [.int .i64 0, .ow 1 [], .ow 1 []]], .nd [.bool false, .nd [.int .i64 0, .ow 1 [], .ow 1 []]], .nd [.bool false, .nd [.int .i64 0, .ow 1 [], .ow 1 []]], .nd [.bool false, .nd [.int .i64 0, .ow 1 [], .ow 1 []]]]], .bool false])
    · simp only [Bool.and_self, Bool.false_and, Bool.and_false, Bool.false_eq_true, if_false, if_true]
      unfold page0 slot0'
      have hC1 := cx [] (hU)
      have fy := And.intro hcn (hen)
      refine goU ?_ ?_ ?_ ?_ ?_ ?_ ?_ ?_ ?_ ?_ ?_ ?_ ?_ ?_ ?_ ?_
      any_goals (first | exact True.intro | skip)
      all_goals (repeat (refine Wh.mk fun hcc => ?_))
      all_goals exact SW.ret (show RetQ _ _ _ _ _ _ _ from RetQ.y [0, 0] [.nd [.int .i64 0, .nd [.nd [.bool false, .nd [.int .i64 0, .ow 1 [], .ow 1 []]], .nd [.bool false, .nd [.int .i64 0, .ow 1 [], .ow 1 []]], .nd [.bool false, .nd [.int .i64 0, .ow 1 [], .ow 1 []]], .nd [.bool false, .nd [.int .i64 0, .ow 1 [], .ow 1 []]]]], .bool false])
  · cases q
    · simp only [Bool.and_self, Bool.false_and, Bool.and_false, Bool.false_eq_true, if_false, if_true]
      unfold page0 slot0'
      have hC1 := cx [] (hU)
      have fy := And.intro hcn (hen)
      refine goU ?_ ?_ ?_ ?_ ?_ ?_ ?_ ?_ ?_ ?_ ?_ ?_ ?_ ?_ ?_ ?_
      any_goals (first | exact True.intro | skip)
      all_goals (repeat (refine Wh.mk fun hcc => ?_))
      all_goals exact SW.ret (show RetQ _ _ _ _ _ _ _ from RetQ.y [0, 0] [.nd [.int .i64 0, .nd [.nd [.bool false, .nd [.int .i64 0, .ow 1 [], .ow 1 []]], .nd [.bool false, .nd [.int .i64 0, .ow 1 [], .ow 1 []]], .nd [.bool false, .nd [.int .i64 0, .ow 1 [], .ow 1 []]], .nd [.bool false, .nd [.int .i64 0, .ow 1 [], .ow 1 []]]]], .bool false])
    · simp only [Bool.and_self, Bool.false_and, Bool.and_false, Bool.false_eq_true, if_false, if_true]
      have hb := Nat.le_trans hle.1 hl
      clear hle
      unfold pgS
      simp only
      have h1 : CallR Try.prog 104 [.io (.nd [.sl .s (bd.map Enc.b), .int .i64 0, .bool false])] [.nd [.sl .s (bd.map Enc.b), .int .i64 ((oneR bd (0, false)).2.1 : Nat), .bool (oneR bd (0, false)).2.2]] (.int .i64 (oneR bd (0, false)).1) := next_s bd (0, false) hb (Nat.zero_le _)
      have e1 := oneR_le bd (0, false) (Nat.zero_le _)
      generalize oneR bd (0, false) = a at *
      have h2 := specSlot_s bd a.2 hb e1
      have e2 := slotS_le bd a.2 e1
      have l1 := slotS_lim bd a.2
      generalize slotS bd a.2 = s1 at *
      have h3 := specSlot_s bd s1.2 hb e2
      have e3 := slotS_le bd s1.2 e2
      have l2 := slotS_lim bd s1.2
      generalize slotS bd s1.2 = s2 at *
      have h4 := specSlot_s bd s2.2 hb e3
      have e4 := slotS_le bd s2.2 e3
      have l3 := slotS_lim bd s2.2
      generalize slotS bd s2.2 = s3 at *
      have h5 := specSlot_s bd s3.2 hb e4
      have e5 := slotS_le bd s3.2 e4
      have l4 := slotS_lim bd s3.2
      generalize slotS bd s3.2 = s4 at *
      have hx : Enc.lim 1048576 ((a.1, (s1.1, s2.1, s3.1, s4.1, ()), ()) : PageT) := ⟨trivial, ⟨⟨trivial, ⟨trivial, ⟨by simp only; omega, fun _ _ => trivial⟩, ⟨by simp only; omega, fun _ _ => trivial⟩, trivial⟩, trivial⟩, ⟨trivial, ⟨trivial, ⟨by simp only; omega, fun _ _ => trivial⟩, ⟨by simp only; omega, fun _ _ => trivial⟩, trivial⟩, trivial⟩, ⟨trivial, ⟨trivial, ⟨by simp only; omega, fun _ _ => trivial⟩, ⟨by simp only; omega, fun _ _ => trivial⟩, trivial⟩, trivial⟩, ⟨trivial, ⟨trivial, ⟨by simp only; omega, fun _ _ => trivial⟩, ⟨by simp only; omega, fun _ _ => trivial⟩, trivial⟩, trivial⟩, trivial⟩, trivial⟩
      have hP := specPageOk_ok (a.1, (s1.1, s2.1, s3.1, s4.1, ()), ()) hx
      have hPy := sPutPage_y (a.1, (s1.1, s2.1, s3.1, s4.1, ()), ()) hx
      have hpl : pageB ((a.1, (s1.1, s2.1, s3.1, s4.1, ()), ()) : PageT) = true → (putPage (a.1, (s1.1, s2.1, s3.1, s4.1, ()), ())).length ≤ 1048576 := fun h => by have := putSls_len h; have := frameL_len (putSls (a.1, (s1.1, s2.1, s3.1, s4.1, ()), ())); unfold putPage; omega
      simp only at hP hPy
      generalize pageB (a.1, (s1.1, s2.1, s3.1, s4.1, ()), ()) = b at *
      generalize putPage (a.1, (s1.1, s2.1, s3.1, s4.1, ()), ()) = PP at *
      generalize hbad : s4.2.2 = d at *
      clear hx
      unfold pageEnd page0 slot0'
      cases d
      rotate_left
      · clear hPy
        simp only [Bool.and_self, Bool.false_and, Bool.and_false, Bool.true_and, Bool.not_true, Bool.not_false, Bool.false_eq_true, if_false, if_true]
        have hC1 := cx [] (hU)
        have fy := And.intro hcn (hen)
        refine goN ?_ ?_ ?_ ?_ ?_ ?_ ?_ ?_ ?_ ?_ ?_ ?_ ?_ ?_ ?_ ?_
        any_goals (first | exact True.intro | skip)
        skip
        refine SW.cond rfl (fun hcc => absurd hcc (by decide)) (fun hcc => ?_)
        refine SW.norm (Norm.frz 4 2 0 rfl rfl (by simp)) ?_
        rw [frz_all]
        simp only [List.set_cons_succ, List.set_cons_zero, Heap.put, List.getElem?_cons_succ, List.getElem?_cons_zero]
        have hC1 := cx [.io] (h1)
        have hC2 := cx [.io] (h2)
        have hC3 := cx [.io] (h3)
        have hC4 := cx [.io] (h4)
        have hC5 := cx [.io] (h5)
        have hC6 := cx [] (hP)
        have fy := And.intro nc4 (And.intro nc8 (And.intro wa (tn)))
        refine goU ?_ ?_ ?_ ?_ ?_ ?_ ?_ ?_ ?_ ?_ ?_ ?_ ?_ ?_ ?_ ?_
        any_goals (first | exact True.intro | skip)
        all_goals (repeat (refine Wh.mk fun hcc => ?_))
        all_goals exact SW.ret (show RetQ _ _ _ _ _ _ _ from RetQ.y [0, 0] [.nd [.int .i64 0, .nd [.nd [.bool false, .nd [.int .i64 0, .ow 1 [], .ow 1 []]], .nd [.bool false, .nd [.int .i64 0, .ow 1 [], .ow 1 []]], .nd [.bool false, .nd [.int .i64 0, .ow 1 [], .ow 1 []]], .nd [.bool false, .nd [.int .i64 0, .ow 1 [], .ow 1 []]]]], .bool false])
      · cases b
        · clear hPy
          simp only [Bool.and_self, Bool.false_and, Bool.and_false, Bool.true_and, Bool.not_true, Bool.not_false, Bool.false_eq_true, if_false, if_true]
          have hC1 := cx [] (hU)
          have fy := And.intro hcn (hen)
          refine goN ?_ ?_ ?_ ?_ ?_ ?_ ?_ ?_ ?_ ?_ ?_ ?_ ?_ ?_ ?_ ?_
          any_goals (first | exact True.intro | skip)
          skip
          refine SW.cond rfl (fun hcc => absurd hcc (by decide)) (fun hcc => ?_)
          refine SW.norm (Norm.frz 4 2 0 rfl rfl (by simp)) ?_
          rw [frz_all]
          simp only [List.set_cons_succ, List.set_cons_zero, Heap.put, List.getElem?_cons_succ, List.getElem?_cons_zero]
          have hC1 := cx [.io] (h1)
          have hC2 := cx [.io] (h2)
          have hC3 := cx [.io] (h3)
          have hC4 := cx [.io] (h4)
          have hC5 := cx [.io] (h5)
          have hC6 := cx [] (hP)
          have fy := And.intro nc4 (And.intro nc8 (And.intro wa (tn)))
          refine goU ?_ ?_ ?_ ?_ ?_ ?_ ?_ ?_ ?_ ?_ ?_ ?_ ?_ ?_ ?_ ?_
          any_goals (first | exact True.intro | skip)
          all_goals (repeat (refine Wh.mk fun hcc => ?_))
          all_goals exact SW.ret (show RetQ _ _ _ _ _ _ _ from RetQ.y [0, 0] [.nd [.int .i64 0, .nd [.nd [.bool false, .nd [.int .i64 0, .ow 1 [], .ow 1 []]], .nd [.bool false, .nd [.int .i64 0, .ow 1 [], .ow 1 []]], .nd [.bool false, .nd [.int .i64 0, .ow 1 [], .ow 1 []]], .nd [.bool false, .nd [.int .i64 0, .ow 1 [], .ow 1 []]]]], .bool false])
        · have hPP := hPy rfl
          have hpl2 := hpl rfl
          have hE := spec_l2Same_ok PP l ⟨hpl2, fun _ _ => trivial⟩
          generalize decide (PP = l) = e' at *
          cases e'
          · skip
            simp only [Bool.and_self, Bool.false_and, Bool.and_false, Bool.true_and, Bool.not_true, Bool.not_false, Bool.false_eq_true, if_false, if_true]
            have hC1 := cx [] (hU)
            have fy := And.intro hcn (hen)
            refine goN ?_ ?_ ?_ ?_ ?_ ?_ ?_ ?_ ?_ ?_ ?_ ?_ ?_ ?_ ?_ ?_
            any_goals (first | exact True.intro | skip)
            skip
            refine SW.cond rfl (fun hcc => absurd hcc (by decide)) (fun hcc => ?_)
            refine SW.norm (Norm.frz 4 2 0 rfl rfl (by simp)) ?_
            rw [frz_all]
            simp only [List.set_cons_succ, List.set_cons_zero, Heap.put, List.getElem?_cons_succ, List.getElem?_cons_zero]
            have hC1 := cx [.io] (h1)
            have hC2 := cx [.io] (h2)
            have hC3 := cx [.io] (h3)
            have hC4 := cx [.io] (h4)
            have hC5 := cx [.io] (h5)
            have hC6 := cx [] (hP)
            have hC7 := cx [] (hPP)
            have hC8 := cx [] (hE)
            have fy := And.intro nc4 (And.intro nc8 (And.intro wa (tn)))
            refine goU ?_ ?_ ?_ ?_ ?_ ?_ ?_ ?_ ?_ ?_ ?_ ?_ ?_ ?_ ?_ ?_
            any_goals (first | exact True.intro | skip)
            all_goals (repeat (refine Wh.mk fun hcc => ?_))
            all_goals exact SW.ret (show RetQ _ _ _ _ _ _ _ from RetQ.y [0, 0] [.nd [.int .i64 0, .nd [.nd [.bool false, .nd [.int .i64 0, .ow 1 [], .ow 1 []]], .nd [.bool false, .nd [.int .i64 0, .ow 1 [], .ow 1 []]], .nd [.bool false, .nd [.int .i64 0, .ow 1 [], .ow 1 []]], .nd [.bool false, .nd [.int .i64 0, .ow 1 [], .ow 1 []]]]], .bool false])
          · skip
            simp only [Bool.and_self, Bool.false_and, Bool.and_false, Bool.true_and, Bool.not_true, Bool.not_false, Bool.false_eq_true, if_false, if_true]
            have hC1 := cx [] (hU)
            have fy := And.intro hcn (hen)
            refine goN ?_ ?_ ?_ ?_ ?_ ?_ ?_ ?_ ?_ ?_ ?_ ?_ ?_ ?_ ?_ ?_
            any_goals (first | exact True.intro | skip)
            skip
            refine SW.cond rfl (fun hcc => absurd hcc (by decide)) (fun hcc => ?_)
            refine SW.norm (Norm.frz 4 2 0 rfl rfl (by simp)) ?_
            rw [frz_all]
            simp only [List.set_cons_succ, List.set_cons_zero, Heap.put, List.getElem?_cons_succ, List.getElem?_cons_zero]
            have hC1 := cx [.io] (h1)
            have hC2 := cx [.io] (h2)
            have hC3 := cx [.io] (h3)
            have hC4 := cx [.io] (h4)
            have hC5 := cx [.io] (h5)
            have hC6 := cx [] (hP)
            have hC7 := cx [] (hPP)
            have hC8 := cx [] (hE)
            have fy := And.intro nc4 (And.intro nc8 (And.intro wa (tn)))
            refine goU ?_ ?_ ?_ ?_ ?_ ?_ ?_ ?_ ?_ ?_ ?_ ?_ ?_ ?_ ?_ ?_
            any_goals (first | exact True.intro | skip)
            all_goals (repeat (refine Wh.mk fun hcc => ?_))
            all_goals exact SW.ret (show RetQ _ _ _ _ _ _ _ from RetQ.y [0, 0] [.nd [.int .i64 a.1, .nd [.nd [.bool s1.1.1, .nd [.int .i64 s1.1.2.1.1, .ow 1 (s1.1.2.1.2.1.map Enc.o), .ow 1 (s1.1.2.1.2.2.1.map Enc.o)]], .nd [.bool s2.1.1, .nd [.int .i64 s2.1.2.1.1, .ow 1 (s2.1.2.1.2.1.map Enc.o), .ow 1 (s2.1.2.1.2.2.1.map Enc.o)]], .nd [.bool s3.1.1, .nd [.int .i64 s3.1.2.1.1, .ow 1 (s3.1.2.1.2.1.map Enc.o), .ow 1 (s3.1.2.1.2.2.1.map Enc.o)]], .nd [.bool s4.1.1, .nd [.int .i64 s4.1.2.1.1, .ow 1 (s4.1.2.1.2.1.map Enc.o), .ow 1 (s4.1.2.1.2.2.1.map Enc.o)]]]], .bool true])
end Q6

namespace Q6
open Go Go.Vm Go.By
set_option linter.unusedSimpArgs false

/-! ### records: the plain law of reading -/
theorem gobI_true {l : List UInt8} (h : (gobI l).2 = true) : putObj (gobI l).1 = l ∧ objB (gobI l).1 = true := by
  rw [gob_eq] at h ⊢
  unfold gobS at h ⊢
  simp only at h ⊢
  split at h
  · rename_i hc
    rw [if_pos hc]
    simp only [Bool.and_eq_true, decide_eq_true_eq] at hc
    exact ⟨hc.2, hc.1.2⟩
  · cases h
theorem manyR_good {l : List UInt8} {most : Int} {s : RS} (h : (manyR l most s).2.2 = false) : manyR l most s = oneR l s ∧ 0 ≤ (oneR l s).1 ∧ (oneR l s).1 ≤ most := by
  unfold manyR at h ⊢
  split at h
  · rename_i hr; rw [if_pos hr]; exact ⟨rfl, hr⟩
  · cases h
theorem manyR_one {l : List UInt8} {most : Int} {s : RS} (h : 0 ≤ (oneR l s).1 ∧ (oneR l s).1 ≤ most) : manyR l most s = oneR l s := by unfold manyR; rw [if_pos h]
theorem slotI_good {l : List UInt8} {s : RS} (ha : s.1 ≤ l.length) (h : (slotI l s).2.2 = false) :
    s.2 = false ∧ slotS l s = slotI l s ∧ l.drop s.1 = putSl (slotI l s).1 ++ l.drop (slotI l s).2.1 := by
  have hg := @oneR_good l s ha
  have hle := oneR_le l s ha
  have hS : slotS l s = slotS l s := rfl
  conv at hS => rhs; unfold slotS
  simp only at hS
  unfold slotI at h ⊢
  simp only at h ⊢
  split at h
  · rename_i h1
    have hb : (manyR l l.length s).2.2 = false := h
    obtain ⟨e, h2, h3⟩ := manyR_good hb
    rw [if_pos h1]
    rw [e] at h1 hb ⊢
    obtain ⟨g1, g2, g3⟩ := hg hb
    have h0 : (oneR l s).1 = 0 := by rw [hb] at h1; simpa using h1
    refine ⟨g1, ?_, ?_⟩
    · rw [hS, if_pos h1]
    · rw [g3, h0]; rfl
  · rename_i h1
    split at h
    · cases h
    · rename_i h2
      split at h
      · rename_i h3
        have hb : (manyR l l.length s).2.2 = false := by
          cases hx : (manyR l l.length s).2.2 with
          | false => rfl
          | true => rw [hx] at h1; simp at h1
        obtain ⟨e, h4, h5⟩ := manyR_good hb
        rw [if_neg h1, if_neg h2, if_pos h3]
        rw [e] at h1 h2 h3 hb ⊢
        obtain ⟨g1, g2, g3⟩ := hg hb
        generalize oneR l s = a at *
        obtain ⟨n, at', bad⟩ := a
        simp only at *
        obtain ⟨N, rfl⟩ : ∃ N : Nat, n = (N : Int) := ⟨n.toNat, by omega⟩
        rw [Int.toNat_natCast] at h3 ⊢
        obtain ⟨k1, k2⟩ := gobI_true h3
        have hlen : ((l.drop at').take N).length = N := by rw [List.length_take, List.length_drop]; omega
        refine ⟨g1, ?_, ?_⟩
        · rw [hS, if_neg h1, if_neg (by simp only [Bool.or_eq_true, decide_eq_true_eq, not_or]; omega), Int.toNat_natCast, ← gob_eq, h3]; rfl
        · rw [g3]
          unfold putSl
          simp only [if_true]
          rw [k1, hlen, List.append_assoc]
          congr 1
          conv => lhs; rw [← List.take_append_drop N (l.drop at')]
          rw [List.drop_drop]
      · cases h
theorem slotI_bad {l : List UInt8} {s : RS} (h : s.2 = true) : (slotI l s).2.2 = true := by
  have hm : manyR l l.length s = (0, s.1, true) := by unfold manyR; rw [oneR_bad l s h]; simp
  unfold slotI; simp only; rw [hm]; simp
theorem slotS_bad {l : List UInt8} {s : RS} (h : s.2 = true) : (slotS l s).2.2 = true := by
  unfold slotS; simp only; rw [oneR_bad l s h]; simp
theorem slotS_good {l : List UInt8} {s : RS} (ha : s.1 ≤ l.length) (h : (slotS l s).2.2 = false) : slotI l s = slotS l s := by
  have hle := oneR_le l s ha
  have hI : slotI l s = slotI l s := rfl
  conv at hI => rhs; unfold slotI
  simp only at hI
  unfold slotS at h ⊢
  simp only at h ⊢
  split at h
  · rename_i h1
    have hb : (oneR l s).2.2 = false := h
    have h0 : (oneR l s).1 = 0 := by rw [hb] at h1; simpa using h1
    have e : manyR l l.length s = oneR l s := manyR_one ⟨by omega, by omega⟩
    rw [hI, e, if_pos h1, if_pos h1]
  · rename_i h1
    split at h
    · cases h
    · rename_i h2
      simp only [Bool.or_eq_true, decide_eq_true_eq, not_or] at h2
      have hgb : (gobS ((l.drop (oneR l s).2.1).take (oneR l s).1.toNat)).2 = true := by simpa using h
      have e : manyR l l.length s = oneR l s := manyR_one ⟨by omega, by omega⟩
      have h2' : ¬ (decide ((oneR l s).1 < 0) || decide ((oneR l s).1 > (l.length : Int) - ((oneR l s).2.1 : Nat))) = true := by
        simp only [Bool.or_eq_true, decide_eq_true_eq, not_or]; exact h2
      rw [hI, e, if_neg h1, if_neg h2.2, gob_eq, if_pos hgb, if_neg h1, if_neg h2', hgb]
      rfl
theorem flagN_of {c : Int} (h0 : 0 ≤ c) (h1 : c ≤ 1) : flagN (decide (c = 1)) = c := by
  unfold flagN
  by_cases h : c = 1
  · simp [h]
  · have : c = 0 := by omega
    simp [this]
theorem liveI_good {l : List UInt8} {s : RS} (ha : s.1 ≤ l.length) (h : (liveI l s).2.2 = false) :
    s.2 = false ∧ liveS l s = liveI l s ∧ l.drop s.1 = putLv (liveI l s).1 ++ l.drop (liveI l s).2.1 := by
  have hL : liveI l s = (((oneR l s).1, (oneR l (oneR l s).2).1, decide ((manyR l 1 (oneR l (oneR l s).2).2).1 = 1), ()), (manyR l 1 (oneR l (oneR l s).2).2).2) := rfl
  have hS : liveS l s = (((oneR l s).1, (oneR l (oneR l s).2).1, decide ((oneR l (oneR l (oneR l s).2).2).1 = 1), ()), (oneR l (oneR l (oneR l s).2).2).2) := rfl
  have e1 := oneR_le l s ha
  have e2 := oneR_le l (oneR l s).2 e1
  have g1 := @oneR_good l s ha
  have g2 := @oneR_good l (oneR l s).2 e1
  have g3 := @oneR_good l (oneR l (oneR l s).2).2 e2
  rw [hL] at h ⊢
  simp only at h
  obtain ⟨m1, m2, m3⟩ := manyR_good h
  rw [m1] at h ⊢
  obtain ⟨c1, c2, c3⟩ := g3 h
  obtain ⟨b1, b2, b3⟩ := g2 c1
  obtain ⟨a1, a2, a3⟩ := g1 b1
  refine ⟨a1, hS, ?_⟩
  rw [a3, b3, c3]
  unfold putLv
  simp only
  rw [flagN_of m2 m3]
  simp only [List.append_assoc]
theorem livesI_good {l : List UInt8} : ∀ (n : Nat) {s : RS}, s.1 ≤ l.length → (livesI l n s).2.2 = false →
    s.2 = false ∧ livesS l n s = livesI l n s ∧ l.drop s.1 = (livesI l n s).1.flatMap putLv ++ l.drop (livesI l n s).2.1
  | 0, s, ha, h => ⟨h, rfl, rfl⟩
  | n + 1, s, ha, h => by
    simp only [livesI] at h ⊢
    obtain ⟨h1, h2, h3⟩ := livesI_good n (liveI_le l s ha) h
    obtain ⟨g1, g2, g3⟩ := liveI_good ha h1
    refine ⟨g1, ?_, ?_⟩
    · unfold livesS; rw [if_neg (by rw [g1]; simp), g2, h2]
    · rw [g3, h3]; simp only [List.flatMap_cons, List.append_assoc]
theorem livesS_start {l : List UInt8} : ∀ (n : Nat) {s : RS}, (livesS l n s).2.2 = false → s.2 = false
  | 0, s, h => h
  | n + 1, s, h => by
    cases hs : s.2 with
    | false => rfl
    | true => rw [livesS_bad l _ s hs] at h; rw [hs] at h; exact h
theorem put_inj {a b : Int} {x y : List UInt8} (ha : okN a = true) (hb : okN b = true) (h : putI a ++ x = putI b ++ y) : a = b ∧ x = y := by
  have h1 := pI_put a ha x
  rw [h, pI_put b hb y] at h1
  simp only [Option.some.injEq, Prod.mk.injEq] at h1
  exact ⟨h1.1.symm, h1.2.symm⟩
theorem okN_small {n : Int} (h0 : 0 ≤ n) (h1 : n ≤ 1000) : okN n = true := okN_iff.2 ⟨by unfold M12; omega, by unfold M12; omega⟩
theorem flagN_rng (b : Bool) : 0 ≤ flagN b ∧ flagN b ≤ 1 := by cases b <;> simp [flagN]
theorem livesS_good {l : List UInt8} : ∀ (n : Nat) {s : RS} {r : List UInt8}, s.1 ≤ l.length → (livesS l n s).2.2 = false → l.drop s.1 = (livesS l n s).1.flatMap putLv ++ r → livesI l n s = livesS l n s
  | 0, s, r, ha, h, hd => rfl
  | n + 1, s, r, ha, h, hd => by
    have hs := livesS_start _ h
    have hn : ¬ s.2 = true := by rw [hs]; simp
    have hS : liveS l s = (((oneR l s).1, (oneR l (oneR l s).2).1, decide ((oneR l (oneR l (oneR l s).2).2).1 = 1), ()), (oneR l (oneR l (oneR l s).2).2).2) := rfl
    have hL : liveI l s = (((oneR l s).1, (oneR l (oneR l s).2).1, decide ((manyR l 1 (oneR l (oneR l s).2).2).1 = 1), ()), (manyR l 1 (oneR l (oneR l s).2).2).2) := rfl
    have e1 := oneR_le l s ha
    have e2 := oneR_le l (oneR l s).2 e1
    have e3 := oneR_le l (oneR l (oneR l s).2).2 e2
    have g1 := @oneR_good l s ha
    have g2 := @oneR_good l (oneR l s).2 e1
    have g3 := @oneR_good l (oneR l (oneR l s).2).2 e2
    unfold livesS at h hd ⊢
    rw [if_neg hn] at h hd ⊢
    simp only at h hd ⊢
    have hb := livesS_start n h
    rw [hS] at hb
    obtain ⟨c1, c2, c3⟩ := g3 hb
    obtain ⟨b1, b2, b3⟩ := g2 c1
    obtain ⟨a1, a2, a3⟩ := g1 b1
    rw [List.flatMap_cons, List.append_assoc] at hd
    have hq : (liveS l s).1 = ((oneR l s).1, (oneR l (oneR l s).2).1, decide ((oneR l (oneR l (oneR l s).2).2).1 = 1), ()) := rfl
    rw [hq] at hd
    have hput : ∀ (a b : Int) (c : Bool), putLv (a, b, c, ()) = putI a ++ putI b ++ putI (flagN c) := fun _ _ _ => rfl
    rw [hput] at hd
    simp only [List.append_assoc] at hd
    rw [a3] at hd
    have d1 := (put_inj a2 a2 hd).2
    rw [b3] at d1
    have d2 := (put_inj b2 b2 d1).2
    rw [c3] at d2
    have hf := flagN_rng (decide ((oneR l (oneR l (oneR l s).2).2).1 = 1))
    obtain ⟨d3, d4⟩ := put_inj c2 (okN_small hf.1 (by omega)) d2
    have hm : manyR l 1 (oneR l (oneR l s).2).2 = oneR l (oneR l (oneR l s).2).2 := manyR_one ⟨by rw [d3]; exact hf.1, by rw [d3]; exact hf.2⟩
    have hLS : liveI l s = liveS l s := by rw [hL, hS, hm]
    have ih := livesS_good n (s := (liveS l s).2) e3 h d4
    simp only [livesI]
    rw [hLS, ih]

theorem okN_txs {x : RecT} (h : recB x = true) : okN (x.2.2.2.2.2.2.2.2.1.length : Int) = true := okN_small (Int.natCast_nonneg _) (by have := recB_txs h; omega)
theorem grec_eq (l : List UInt8) : grecI l = grecS l := by
  unfold grecI grecS
  simp only
  have g1 := @oneR_good l (0, false) (Nat.zero_le _)
  have e1 := oneR_le l (0, false) (Nat.zero_le _)
  generalize oneR l (0, false) = a1 at *
  have g2 := @oneR_good l a1.2 e1
  have e2 := oneR_le l a1.2 e1
  generalize oneR l a1.2 = a2 at *
  have g3 := @oneR_good l a2.2 e2
  have e3 := oneR_le l a2.2 e2
  generalize oneR l a2.2 = a3 at *
  have g4 := @oneR_good l a3.2 e3
  have e4 := oneR_le l a3.2 e3
  generalize oneR l a3.2 = a4 at *
  have g5 := @oneR_good l a4.2 e4
  have e5 := oneR_le l a4.2 e4
  generalize oneR l a4.2 = a5 at *
  have g6 := @oneR_good l a5.2 e5
  have e6 := oneR_le l a5.2 e5
  generalize oneR l a5.2 = a6 at *
  have hsix : a6.2.2 = false → l = putI a1.1 ++ (putI a2.1 ++ (putI a3.1 ++ (putI a4.1 ++ (putI a5.1 ++ (putI a6.1 ++ l.drop a6.2.1))))) := fun h => by
    obtain ⟨h6, _, d6⟩ := g6 h
    obtain ⟨h5, _, d5⟩ := g5 h6
    obtain ⟨h4, _, d4⟩ := g4 h5
    obtain ⟨h3, _, d3⟩ := g3 h4
    obtain ⟨h2, _, d2⟩ := g2 h3
    obtain ⟨_, _, d1⟩ := g1 h2
    rw [← d6, ← d5, ← d4, ← d3, ← d2, ← d1, List.drop_zero]
  have f7 := slotI_le l a6.2 e6
  have f8 := slotI_le l (slotI l a6.2).2 f7
  have f9 := manyR_le l 20 (slotI l (slotI l a6.2).2).2 f8
  cases hT : (livesI l (manyR l 20 (slotI l (slotI l a6.2).2).2).1.toNat (manyR l 20 (slotI l (slotI l a6.2).2).2).2).2.2 with
  | false =>
    obtain ⟨t1, t2, t3⟩ := livesI_good _ f9 hT
    have f10 := livesI_le l (manyR l 20 (slotI l (slotI l a6.2).2).2).1.toNat (manyR l 20 (slotI l (slotI l a6.2).2).2).2 f9
    obtain ⟨m1, m2, m3⟩ := manyR_good t1
    rw [m1] at t1 t2 t3 hT f10 ⊢
    obtain ⟨k1, k2, k3⟩ := oneR_good f8 t1
    obtain ⟨s1, s2, s3⟩ := slotI_good f7 k1
    obtain ⟨u1, u2, u3⟩ := slotI_good e6 s1
    have hl := hsix u1
    rw [u2, s2, show min (oneR l (slotI l (slotI l a6.2).2).2).1.toNat 30 = (oneR l (slotI l (slotI l a6.2).2).2).1.toNat by omega, t2]
    have hlen := livesI_len l (oneR l (slotI l (slotI l a6.2).2).2).1.toNat (oneR l (slotI l (slotI l a6.2).2).2).2
    rw [u3, s3, k3, t3] at hl
    clear t2 t3 m1 k3 s2 s3 u2 u3
    generalize livesI l (oneR l (slotI l (slotI l a6.2).2).2).1.toNat (oneR l (slotI l (slotI l a6.2).2).2).2 = T at *
    have hN : (oneR l (slotI l (slotI l a6.2).2).2).1 = (T.1.length : Int) := by rw [hlen]; omega
    rw [hN] at hl
    clear hN hlen k2 m2 m3
    unfold grecK grecKS
    rw [hT]
    have hp : decide (putRec (a1.1, a2.1, a3.1, a4.1, a5.1, (slotI l a6.2).1, (slotI l (slotI l a6.2).2).1, a6.1, T.1, ()) = l) = decide (T.2.1 = l.length) := by
      have hl2 : l = putRec (a1.1, a2.1, a3.1, a4.1, a5.1, (slotI l a6.2).1, (slotI l (slotI l a6.2).2).1, a6.1, T.1, ()) ++ l.drop T.2.1 := by
        refine hl.trans ?_
        unfold putRec recNs
        simp only [List.flatMap_cons, List.flatMap_nil, List.append_nil, List.append_assoc]
      generalize putRec _ = p at hl2 ⊢
      generalize T.2.1 = a at *
      have hlen := congrArg List.length hl2
      rw [List.length_append, List.length_drop] at hlen
      by_cases h : a = l.length
      · subst h
        rw [List.drop_length, List.append_nil] at hl2
        simp [hl2]
      · have : ¬ p = l := by
          intro e; rw [e] at hlen; omega
        simp [h, this]
    rw [hp]
    simp only [Bool.not_false, Bool.true_and]
    rw [Bool.and_comm]
  | true =>
    have f7' := slotS_le l a6.2 e6
    have f8' := slotS_le l (slotS l a6.2).2 f7'
    have f9' := oneR_le l (slotS l (slotS l a6.2).2).2 f8'
    unfold grecK grecKS
    rw [hT]
    simp only [Bool.not_true, Bool.false_and]
    have key : (!(livesS l (min (oneR l (slotS l (slotS l a6.2).2).2).1.toNat 30) (oneR l (slotS l (slotS l a6.2).2).2).2).2.2 &&
        (recB (a1.1, a2.1, a3.1, a4.1, a5.1, (slotS l a6.2).1, (slotS l (slotS l a6.2).2).1, a6.1, (livesS l (min (oneR l (slotS l (slotS l a6.2).2).2).1.toNat 30) (oneR l (slotS l (slotS l a6.2).2).2).2).1, ()) &&
        decide (putRec (a1.1, a2.1, a3.1, a4.1, a5.1, (slotS l a6.2).1, (slotS l (slotS l a6.2).2).1, a6.1, (livesS l (min (oneR l (slotS l (slotS l a6.2).2).2).1.toNat 30) (oneR l (slotS l (slotS l a6.2).2).2).2).1, ()) = l))) = false := by
      cases hx : (!(livesS l (min (oneR l (slotS l (slotS l a6.2).2).2).1.toNat 30) (oneR l (slotS l (slotS l a6.2).2).2).2).2.2 &&
        (recB (a1.1, a2.1, a3.1, a4.1, a5.1, (slotS l a6.2).1, (slotS l (slotS l a6.2).2).1, a6.1, (livesS l (min (oneR l (slotS l (slotS l a6.2).2).2).1.toNat 30) (oneR l (slotS l (slotS l a6.2).2).2).2).1, ()) &&
        decide (putRec (a1.1, a2.1, a3.1, a4.1, a5.1, (slotS l a6.2).1, (slotS l (slotS l a6.2).2).1, a6.1, (livesS l (min (oneR l (slotS l (slotS l a6.2).2).2).1.toNat 30) (oneR l (slotS l (slotS l a6.2).2).2).2).1, ()) = l))) with
      | false => rfl
      | true =>
        exfalso
        simp only [Bool.and_eq_true, Bool.not_eq_true', decide_eq_true_eq] at hx
        obtain ⟨q1, q2, q3⟩ := hx
        have p1 := livesS_start _ q1
        obtain ⟨k1, k2, k3⟩ := oneR_good f8' p1
        have w2 := slotS_good f7' k1
        obtain ⟨z1, _, z3⟩ := slotI_good f7' (by rw [w2]; exact k1)
        have w1 := slotS_good e6 z1
        obtain ⟨y1, _, y3⟩ := slotI_good e6 (by rw [w1]; exact z1)
        have hl := hsix y1
        rw [w1] at y3
        rw [w2] at z3
        rw [y3, z3, k3] at hl
        have q4 := q3.trans hl
        unfold putRec recNs at q4
        simp only [List.flatMap_cons, List.flatMap_nil, List.append_nil, List.append_assoc, List.append_cancel_left_eq] at q4
        obtain ⟨d1, d2⟩ := put_inj (okN_txs q2) k2 q4
        have h20 := recB_txs q2
        simp only at d1 h20
        have hm20 : manyR l 20 (slotS l (slotS l a6.2).2).2 = oneR l (slotS l (slotS l a6.2).2).2 := manyR_one ⟨by omega, by omega⟩
        rw [w1, w2, hm20] at hT
        have hmin : min (oneR l (slotS l (slotS l a6.2).2).2).1.toNat 30 = (oneR l (slotS l (slotS l a6.2).2).2).1.toNat := by omega
        rw [hmin] at q1 d2
        rw [livesS_good _ (r := []) f9' q1 (by rw [← d2, List.append_nil])] at hT
        rw [q1] at hT; cases hT
    rw [key]
    rfl
end Q6

namespace Q6
open Go Go.Vm Go.By
set_option linter.unusedSimpArgs false

/-! ### frames: the plain law -/
theorem grpR_ends (l : List UInt8) (a : Nat) (h : (grpR l a).2.2.2 = true) : (getR l a).2.2 = false := by
  unfold grpR at h
  simp only at h
  have h1 := grp_endsF _ _ _ _ h
  have h2 := grp_dec (l.drop a) 0 0 (by decide)
  unfold getR
  cases hd : dec (l.drop a) 0 0 with
  | none => rfl
  | some x => rw [(h2.1 x hd).2.2] at h1; cases h1
theorem unf_eq (l : List UInt8) (a : Nat) (h : (unfI l a).2.2 = 0 ∨ (unfS l a).2.2 = 0) : unfI l a = unfS l a := by
  have he := grpR_ends l a
  unfold unfI unfS at *
  cases hok : (getR l a).2.2 with
  | false =>
    rw [hok] at h
    exfalso
    rcases h with h | h
    · split at h
      · cases h
      · simp at h
    · cases hb : endsB l a <;> rw [hb] at h <;> simp at h
  | true =>
    cases hg : (grpR l a).2.2.2 with
    | true => rw [he hg] at hok; cases hok
    | false => simp
/-- what a good frame is -/
theorem unfS_good {l : List UInt8} {a : Nat} (ha : a ≤ l.length) (h : (unfS l a).2.2 = 0) :
    l.drop a = frameL (unfS l a).1 ++ l.drop (unfS l a).2.1 ∧ okN ((unfS l a).1.length : Int) = true ∧ (unfS l a).2.1 ≤ l.length := by
  refine ⟨?_, ?_, (unfS_le l a ha).2⟩
  rotate_left
  · have := (unfS_le l a ha).1
    have h2 : (unfS l a).1.length ≤ 1000000000000 := by
      unfold unfS at *
      split
      · simp
      · split
        · simp
        · have hr := getR_okN l a
          unfold unfK bodyOf
          split
          · simp
          · split
            · simp only [List.length_take]; omega
            · simp
    exact okN_iff.2 ⟨by unfold M12; omega, by unfold M12; omega⟩
  · unfold unfS at h ⊢
    split at h
    · cases h
    · rename_i h1
      split at h
      · cases h
      · rename_i h2
        rw [if_neg h1, if_neg h2]
        simp only [Bool.or_eq_true, Bool.not_eq_true', decide_eq_true_eq, not_or, Bool.not_eq_false] at h2
        obtain ⟨hok, hn⟩ := h2
        have hr := getR_okN l a
        have hgood := @oneR_good l (a, false) ha
        have hone : oneR l (a, false) = ((getR l a).1, (getR l a).2.1, false) := by unfold oneR; simp [hok]
        have hgl := getR_le l a ha
        rw [hone] at hgood
        obtain ⟨_, _, hd⟩ := hgood rfl
        simp only at hd
        generalize (getR l a).1 = n at *
        generalize (getR l a).2.1 = e at *
        unfold unfK at h ⊢
        split at h
        · cases h
        · rename_i h3
          split at h
          · rename_i h4
            rw [if_neg h3, if_pos h4]
            simp only
            have h4 := of_decide_eq_true h4
            obtain ⟨N, rfl⟩ : ∃ N : Nat, n = (N : Int) := ⟨n.toNat, by omega⟩
            rw [Int.toNat_natCast] at h4 ⊢
            have hbl : (bodyOf l e N).length = N := by unfold bodyOf; rw [List.length_take, List.length_drop]; omega
            unfold frameL
            rw [hbl, hd]
            simp only [List.append_assoc]
            congr 1
            rw [h4]
            have e1 : l.drop e = bodyOf l e N ++ l.drop (e + N) := by
              unfold bodyOf; conv => lhs; rw [← List.take_append_drop N (l.drop e)]
              rw [List.drop_drop]
            have e2 : l.drop (e + N) = (l.drop (e + N)).take 4 ++ l.drop (e + N + 4) := by
              conv => lhs; rw [← List.take_append_drop 4 (l.drop (e + N))]
              rw [List.drop_drop]
            rw [e1]
            congr 1
          · cases h
theorem frame_inj {x y r q : List UInt8} (hx : okN (x.length : Int) = true) (hy : okN (y.length : Int) = true) (h : frameL x ++ r = frameL y ++ q) : x = y ∧ r = q := by
  unfold frameL at h
  simp only [List.append_assoc] at h
  obtain ⟨h1, h2⟩ := put_inj hx hy h
  have hl : x.length = y.length := by omega
  obtain ⟨h3, h4⟩ := List.append_inj h2 hl
  subst h3
  exact ⟨rfl, (List.append_cancel_left_eq _ _ _).mp h4⟩

end Q6

namespace Q6
open Go Go.Vm Go.By
set_option linter.unusedSimpArgs false

/-! ### pages -/
theorem okN_342 {x : PageT} (h : pageB x = true) : okN ((putSls x).length : Int) = true := by
  have := putSls_len h
  exact okN_iff.2 ⟨by unfold M12; omega, by unfold M12; omega⟩
theorem pg_eq (b : List UInt8) (hb : okN (b.length : Int) = true) : pgI b = pgS (frameL b) b := by
  unfold pgI pgS
  simp only
  have g1 := @oneR_good b (0, false) (Nat.zero_le _)
  have e1 := oneR_le b (0, false) (Nat.zero_le _)
  generalize oneR b (0, false) = a at *
  have e2 := slotI_le b a.2 e1
  have e3 := slotI_le b (slotI b a.2).2 e2
  have e4 := slotI_le b (slotI b (slotI b a.2).2).2 e3
  have e5 := slotI_le b (slotI b (slotI b (slotI b a.2).2).2).2 e4
  cases hT : (slotI b (slotI b (slotI b (slotI b a.2).2).2).2).2.2 with
  | false =>
    obtain ⟨k1, k2, k3⟩ := slotI_good e4 hT
    obtain ⟨l1, l2, l3⟩ := slotI_good e3 k1
    obtain ⟨m1, m2, m3⟩ := slotI_good e2 l1
    obtain ⟨n1, n2, n3⟩ := slotI_good e1 m1
    obtain ⟨p1, p2, p3⟩ := g1 n1
    rw [n2, m2, l2, k2]
    rw [List.drop_zero, n3, m3, l3, k3] at p3
    clear k2 k3 l1 l2 l3 m1 m2 m3 n2 n3 k1
    generalize slotI b (slotI b (slotI b (slotI b a.2).2).2).2 = s4 at *
    generalize slotI b (slotI b (slotI b a.2).2).2 = s3 at *
    generalize slotI b (slotI b a.2).2 = s2 at *
    generalize slotI b a.2 = s1 at *
    rw [hT]
    have hl : b = putSls (a.1, (s1.1, s2.1, s3.1, s4.1, ()), ()) ++ b.drop s4.2.1 := by
      unfold putSls; simp only [List.append_assoc]; exact p3
    cases hp : pageB (a.1, (s1.1, s2.1, s3.1, s4.1, ()), ()) with
    | false => simp
    | true =>
      have ho := okN_342 hp
      generalize (a.1, (s1.1, s2.1, s3.1, s4.1, ()), ()) = x at *
      have : decide (putPage x = frameL b) = decide (s4.2.1 = b.length) := by
        unfold putPage
        by_cases h : s4.2.1 = b.length
        · rw [h, List.drop_length, List.append_nil] at hl
          simp [h, ← hl]
        · have hne : ¬ frameL (putSls x) = frameL b := by
            intro hf
            have := (frame_inj ho hb (r := []) (q := []) (by rw [hf])).1
            have hlen := congrArg List.length hl
            rw [List.length_append, List.length_drop, this] at hlen
            omega
          simp [h, hne]
      rw [this]
      simp
  | true =>
    have f2 := slotS_le b a.2 e1
    have f3 := slotS_le b (slotS b a.2).2 f2
    have f4 := slotS_le b (slotS b (slotS b a.2).2).2 f3
    have key : (slotS b (slotS b (slotS b (slotS b a.2).2).2).2).2.2 = true := by
      cases hx : (slotS b (slotS b (slotS b (slotS b a.2).2).2).2).2.2 with
      | true => rfl
      | false =>
        exfalso
        have w4 := slotS_good f4 hx
        obtain ⟨x3, _, _⟩ := slotI_good f4 (by rw [w4]; exact hx)
        have w3 := slotS_good f3 x3
        obtain ⟨x2, _, _⟩ := slotI_good f3 (by rw [w3]; exact x3)
        have w2 := slotS_good f2 x2
        obtain ⟨x1, _, _⟩ := slotI_good f2 (by rw [w2]; exact x2)
        have w1 := slotS_good e1 x1
        rw [w1, w2, w3, w4, hx] at hT; cases hT
    rw [key]
    simp [pageEnd]
theorem gpg_eq (l : List UInt8) : gpgI l = gpgS l := by
  unfold gpgI gpgS
  by_cases hI : (unfI l 0).2.2 = 0
  · have h := unf_eq l 0 (.inl hI)
    rw [h] at hI ⊢
    obtain ⟨h1, h2, h3⟩ := unfS_good (Nat.zero_le _) hI
    by_cases he : (unfS l 0).2.1 = l.length
    · rw [he, List.drop_length, List.append_nil, List.drop_zero] at h1
      simp only [hI, he, decide_true, Bool.and_self, if_true]
      rw [pg_eq _ h2]
      conv => rhs; rw [h1]
      rw [← h1]
    · simp [hI, he]
  · by_cases hS : (unfS l 0).2.2 = 0
    · exact absurd (by rw [unf_eq l 0 (.inr hS)]; exact hS) hI
    · simp [hI, hS]
end Q6

namespace Q6
open Go Go.Vm Go.By
set_option linter.unusedSimpArgs false

/-! ### what was put is read again: the plain law -/
def At (l : List UInt8) (a : Nat) (r : List UInt8) : Prop := a ≤ l.length ∧ l.drop a = r
theorem At.next {l : List UInt8} {a : Nat} {x r : List UInt8} (h : At l a (x ++ r)) : At l (a + x.length) r := by
  obtain ⟨h1, h2⟩ := h
  have hl := congrArg List.length h2
  rw [List.length_drop, List.length_append] at hl
  refine ⟨by omega, ?_⟩
  rw [← List.drop_drop, h2]; simp
theorem At.zero (l : List UInt8) : At l 0 l := ⟨Nat.zero_le _, rfl⟩
theorem one_put {l : List UInt8} {a : Nat} {n : Int} {r : List UInt8} (h : At l a (putI n ++ r)) (hn : okN n = true) : oneR l (a, false) = (n, a + (putI n).length, false) := by
  obtain ⟨h1, h2⟩ := h
  have hl := congrArg List.length h2
  rw [List.length_drop, List.length_append] at hl
  have hg : getR l a = (n, l.length - r.length, true) := by rw [getR_pI l a h1, h2, pI_put n hn r]
  unfold oneR
  simp only [hg, Bool.not_true, Bool.or_false, Bool.false_eq_true, if_false]
  congr 2
  omega
theorem many_put {l : List UInt8} {a : Nat} {n most : Int} {r : List UInt8} (h : At l a (putI n ++ r)) (hn : okN n = true) (h0 : 0 ≤ n) (h1 : n ≤ most) : manyR l most (a, false) = (n, a + (putI n).length, false) := by
  have := one_put h hn
  unfold manyR; rw [this]; simp [h0, h1]
theorem ints_put {l : List UInt8} : ∀ (xs : List Int) {a : Nat} {r : List UInt8}, At l a (xs.flatMap putI ++ r) → (∀ x ∈ xs, okN x = true) →
    intsL l xs.length (a, false) = (xs, a + (xs.flatMap putI).length, false)
  | [], a, r, _, _ => by simp [intsL]
  | x :: xs, a, r, h, hx => by
    rw [List.flatMap_cons, List.append_assoc] at h
    have h1 := one_put h (hx x (by simp))
    have ih := ints_put xs h.next (fun y hy => hx y (by simp [hy]))
    simp only [List.length_cons, intsL, h1, ih, List.flatMap_cons, List.length_append]
    congr 2
    omega
theorem intsR_put {l : List UInt8} {xs : List Int} {a : Nat} {r : List UInt8} (h : At l a (putL xs ++ r)) (hx : ∀ x ∈ xs, okN x = true) (h5 : xs.length ≤ 5) :
    intsR l 5 (a, false) = (xs, a + (putL xs).length, false) := by
  unfold putL at h ⊢
  rw [List.append_assoc] at h
  have hn : okN (xs.length : Int) = true := okN_small (Int.natCast_nonneg _) (by omega)
  have h1 := many_put h hn (Int.natCast_nonneg _) (show (xs.length : Int) ≤ 5 by omega)
  unfold intsR
  rw [h1]
  simp only [Int.toNat_natCast]
  rw [ints_put xs h.next hx, List.length_append]
  congr 2
  omega
theorem objB_okN {o : ObjT} (h : objB o = true) : okN o.1 = true ∧ (∀ x ∈ o.2.1, okN x = true) ∧ (∀ x ∈ o.2.2.1, okN x = true) := by
  unfold objB at h
  simp only [Bool.and_eq_true, decide_eq_true_eq, List.all_eq_true] at h
  obtain ⟨⟨⟨⟨⟨h1, h2⟩, _⟩, _⟩, h5⟩, h6⟩ := h
  refine ⟨okN_small (by omega) (by omega), fun x hx => ?_, fun x hx => ?_⟩
  · have := h5 x hx
    unfold intB at this
    simp only [Bool.and_eq_true, decide_eq_true_eq] at this
    exact okN_iff.2 ⟨by unfold M12; omega, by unfold M12; omega⟩
  · have := h6 x hx
    unfold refB at this
    simp only [Bool.and_eq_true, decide_eq_true_eq] at this
    exact okN_small (by omega) (by omega)
theorem gob_put {o : ObjT} (h : objB o = true) : gobI (putObj o) = (o, true) := by
  obtain ⟨h1, h2, h3⟩ := objB_okN h
  obtain ⟨l1, l2⟩ := objB_len h
  have hA : At (putObj o) 0 (putI o.1 ++ (putL o.2.1 ++ (putL o.2.2.1 ++ []))) := by
    refine ⟨Nat.zero_le _, ?_⟩
    unfold putObj; simp
  have e1 := one_put hA h1
  have e2 := intsR_put hA.next h2 l1
  have e3 := intsR_put hA.next.next h3 l2
  have hlen : 0 + (putI o.1).length + (putL o.2.1).length + (putL o.2.2.1).length = (putObj o).length := by
    unfold putObj; simp only [List.length_append]; omega
  unfold gobI
  simp only [e1, e2, e3, hlen]
  obtain ⟨a, b, c, ⟨⟩⟩ := o
  simp [h]
theorem putI_pos (n : Int) : 0 < (putI n).length := by
  unfold putI
  by_cases h : zig (clampI n) ≤ 127
  · rw [encN_lo h]; simp
  · rw [encN_hi h]; simp
theorem noObj_eq {o : ObjT} (h : noObjB o = true) : o = (0, [], [], ()) := by
  obtain ⟨a, b, c, ⟨⟩⟩ := o
  unfold noObjB at h
  simp only [Bool.and_eq_true, decide_eq_true_eq, List.length_eq_zero_iff] at h
  obtain ⟨⟨rfl, rfl⟩, rfl⟩ := h
  rfl
theorem slot_put {l : List UInt8} {a : Nat} {s : SlotT} {r : List UInt8} (h : At l a (putSl s ++ r)) (hs : slotB s = true) :
    slotI l (a, false) = (s, a + (putSl s).length, false) := by
  obtain ⟨has, o, ⟨⟩⟩ := s
  cases has with
  | false =>
    have ho : o = (0, [], [], ()) := noObj_eq hs
    subst ho
    have hp : putSl (false, (0, [], [], ()), ()) = putI 0 := rfl
    rw [hp] at h ⊢
    have e := many_put h (okN_small (Int.le_refl _) (by decide)) (Int.le_refl _) (Int.natCast_nonneg l.length)
    unfold slotI
    simp [e, slot0']
  | true =>
    have ho : objB o = true := hs
    have hp : putSl (true, o, ()) = putI (putObj o).length ++ putObj o := rfl
    rw [hp] at h ⊢
    rw [List.append_assoc] at h
    have hol := putObj_len ho
    have hpos : 0 < (putObj o).length := by
      unfold putObj; simp only [List.length_append]; have := putI_pos o.1; omega
    have hn := h.next
    have hnn := hn.next
    have e := many_put (most := (l.length : Int)) h (okN_small (Int.natCast_nonneg _) (by omega)) (Int.natCast_nonneg _) (by have := hnn.1; omega)
    have hsub : (l.drop (a + (putI (putObj o).length).length)).take (putObj o).length = putObj o := by rw [hn.2]; simp
    unfold slotI
    simp only [e]
    rw [if_neg (by simp only [Bool.false_or, decide_eq_true_eq]; omega), if_neg (by have := hnn.1; omega), Int.toNat_natCast, hsub, gob_put ho]
    simp only [if_true, List.length_append]
    congr 2
    omega
theorem slotS_put {l : List UInt8} {a : Nat} {s : SlotT} {r : List UInt8} (h : At l a (putSl s ++ r)) (hs : slotB s = true) :
    slotS l (a, false) = (s, a + (putSl s).length, false) := by
  have e := slot_put h hs
  have := (slotI_good (l := l) (s := (a, false)) h.1 (by rw [e])).2.1
  rw [this, e]
/-! records -/
theorem live_put {l : List UInt8} {a : Nat} {t : LiveT} {r : List UInt8} (h : At l a (putLv t ++ r)) (h1 : okN t.1 = true) (h2 : okN t.2.1 = true) :
    liveI l (a, false) = (t, a + (putLv t).length, false) := by
  obtain ⟨x, y, b, ⟨⟩⟩ := t
  have hp : putLv (x, y, b, ()) = putI x ++ putI y ++ putI (flagN b) := rfl
  rw [hp] at h ⊢
  simp only [List.append_assoc] at h
  have hf := flagN_rng b
  have e1 := one_put h h1
  have e2 := one_put h.next h2
  have e3 := many_put h.next.next (okN_small hf.1 (by omega)) hf.1 hf.2
  unfold liveI
  simp only [e1, e2, e3, List.length_append]
  have hb : decide (flagN b = 1) = b := by cases b <;> rfl
  rw [hb]
  congr 2
  omega
theorem lives_put {l : List UInt8} : ∀ (ts : List LiveT) {a : Nat} {r : List UInt8}, At l a (ts.flatMap putLv ++ r) → (∀ t ∈ ts, okN t.1 = true ∧ okN t.2.1 = true) →
    livesI l ts.length (a, false) = (ts, a + (ts.flatMap putLv).length, false)
  | [], a, r, _, _ => by simp [livesI]
  | t :: ts, a, r, h, ht => by
    rw [List.flatMap_cons, List.append_assoc] at h
    have h1 := live_put h (ht t (by simp)).1 (ht t (by simp)).2
    have ih := lives_put ts h.next (fun y hy => ht y (by simp [hy]))
    simp only [List.length_cons, livesI, h1, ih, List.flatMap_cons, List.length_append]
    congr 2
    omega
theorem rng_iff {a b c : Int} : rng a b c = true ↔ b ≤ a ∧ a ≤ c := by unfold rng; simp
theorem okN_big {n : Int} (h0 : 0 ≤ n) (h1 : n ≤ 1000000) : okN n = true := okN_iff.2 ⟨by unfold M12; omega, by unfold M12; omega⟩
theorem livesL_all {lsn : Int} (hl : lsn ≤ 1000000) : ∀ (p : Option LiveT) (ts : List LiveT), livesL lsn p ts = true → ∀ t ∈ ts, okN t.1 = true ∧ okN t.2.1 = true
  | _, [], _, t, ht => by cases ht
  | p, x :: ts, h, t, ht => by
    unfold livesL at h
    simp only [Bool.and_eq_true] at h
    rcases List.mem_cons.1 ht with rfl | ht
    · have := h.1
      unfold liveB at this
      simp only [Bool.and_eq_true, rng_iff] at this
      exact ⟨okN_big (by omega) (by omega), okN_big (by omega) (by omega)⟩
    · exact livesL_all hl _ ts h.2 t ht
theorem recB_okN {x : RecT} (h : recB x = true) : (okN x.1 = true ∧ okN x.2.1 = true ∧ okN x.2.2.1 = true ∧ okN x.2.2.2.1 = true ∧ okN x.2.2.2.2.1 = true ∧ okN x.2.2.2.2.2.2.2.1 = true) ∧
    ∀ t ∈ x.2.2.2.2.2.2.2.2.1, okN t.1 = true ∧ okN t.2.1 = true := by
  unfold recB at h
  simp only [Bool.and_eq_true, rng_iff] at h
  obtain ⟨⟨a1, a2⟩, h⟩ := h
  have z0 : okN 0 = true := okN_big (Int.le_refl _) (by decide)
  split at h
  · rename_i hk
    simp only [Bool.and_eq_true, decide_eq_true_eq] at h
    obtain ⟨⟨⟨⟨b1, b2⟩, ⟨b3, b4⟩, b5⟩, b6⟩, b7⟩ := h
    refine ⟨⟨okN_big (by omega) (by omega), by rw [b1]; exact z0, by rw [b2]; exact z0, by rw [hk]; exact okN_big (by decide) (by decide), by rw [b3]; exact z0, by rw [b6]; exact z0⟩, ?_⟩
    unfold livesB at b7
    simp only [Bool.and_eq_true] at b7
    exact livesL_all a2 none _ b7.1
  · simp only [Bool.and_eq_true, rng_iff, decide_eq_true_eq, List.length_eq_zero_iff] at h
    obtain ⟨⟨⟨⟨c1, c2⟩, ⟨c3, c4⟩⟩, c5⟩, h⟩ := h
    have hno : ∀ t ∈ x.2.2.2.2.2.2.2.2.1, okN t.1 = true ∧ okN t.2.1 = true := by rw [c5]; intro t ht; cases ht
    split at h
    · rename_i hk
      simp only [Bool.and_eq_true, rng_iff, decide_eq_true_eq] at h
      obtain ⟨⟨⟨⟨d1, d2⟩, _⟩, _⟩, d3⟩ := h
      exact ⟨⟨okN_big (by omega) (by omega), okN_big (by omega) (by omega), okN_big (by omega) (by omega), by rw [hk]; exact okN_big (by decide) (by decide), okN_big (by omega) (by omega), by rw [d3]; exact z0⟩, hno⟩
    · split at h
      · rename_i hk
        simp only [Bool.and_eq_true, rng_iff, decide_eq_true_eq] at h
        obtain ⟨⟨⟨⟨d1, d2⟩, _⟩, _⟩, d3, d4⟩ := h
        exact ⟨⟨okN_big (by omega) (by omega), okN_big (by omega) (by omega), okN_big (by omega) (by omega), by rw [hk]; exact okN_big (by decide) (by decide), okN_big (by omega) (by omega), okN_big (by omega) (by omega)⟩, hno⟩
      · split at h
        · rename_i hk
          simp only [Bool.and_eq_true, decide_eq_true_eq] at h
          obtain ⟨⟨⟨d1, _⟩, _⟩, d2⟩ := h
          have hk' : okN x.2.2.2.1 = true := by rcases hk with hk | hk | hk <;> rw [hk] <;> exact okN_big (by decide) (by decide)
          exact ⟨⟨okN_big (by omega) (by omega), okN_big (by omega) (by omega), okN_big (by omega) (by omega), hk', by rw [d1]; exact z0, by rw [d2]; exact z0⟩, hno⟩
        · cases h
theorem grec_put {x : RecT} (h : recB x = true) : grecI (putRec x) = (x, true) := by
  obtain ⟨⟨k1, k2, k3, k4, k5, k6⟩, kt⟩ := recB_okN h
  obtain ⟨s1, s2⟩ := recB_slots h
  have ht := recB_txs h
  have hA : At (putRec x) 0 (putI x.1 ++ (putI x.2.1 ++ (putI x.2.2.1 ++ (putI x.2.2.2.1 ++ (putI x.2.2.2.2.1 ++ (putI x.2.2.2.2.2.2.2.1 ++ (putSl x.2.2.2.2.2.1 ++ (putSl x.2.2.2.2.2.2.1 ++
      (putI x.2.2.2.2.2.2.2.2.1.length ++ (x.2.2.2.2.2.2.2.2.1.flatMap putLv ++ [])))))))))) := by
    refine ⟨Nat.zero_le _, ?_⟩
    unfold putRec recNs
    simp
  have hlen : (putRec x).length = 0 + (putI x.1).length + (putI x.2.1).length + (putI x.2.2.1).length + (putI x.2.2.2.1).length + (putI x.2.2.2.2.1).length + (putI x.2.2.2.2.2.2.2.1).length + (putSl x.2.2.2.2.2.1).length + (putSl x.2.2.2.2.2.2.1).length +
      (putI x.2.2.2.2.2.2.2.2.1.length).length + (x.2.2.2.2.2.2.2.2.1.flatMap putLv).length := by
    unfold putRec recNs
    simp only [List.flatMap_cons, List.flatMap_nil, List.length_append, List.append_nil]
    omega
  have e1 := one_put hA k1
  have e2 := one_put hA.next k2
  have e3 := one_put hA.next.next k3
  have e4 := one_put hA.next.next.next k4
  have e5 := one_put hA.next.next.next.next k5
  have e6 := one_put hA.next.next.next.next.next k6
  have e7 := slot_put hA.next.next.next.next.next.next s1
  have e8 := slot_put hA.next.next.next.next.next.next.next s2
  have e9 := many_put (most := 20) hA.next.next.next.next.next.next.next.next (okN_small (Int.natCast_nonneg _) (by omega)) (Int.natCast_nonneg _) (by omega)
  have e10 := lives_put _ hA.next.next.next.next.next.next.next.next.next kt
  unfold grecI
  simp only [e1, e2, e3, e4, e5, e6, e7, e8, e9, Int.toNat_natCast, e10]
  unfold grecK
  simp only
  rw [← hlen]
  obtain ⟨a1, a2, a3, a4, a5, b1, b2, a8, tx, ⟨⟩⟩ := x
  simp only [h, recEnd]
  simp
end Q6

namespace Q6
open Go Go.Vm Go.By
set_option linter.unusedSimpArgs false

/-! ### a page that was put is read again: the plain law -/
theorem unf_put {b : List UInt8} (hb : okN (b.length : Int) = true) : unfI (frameL b) 0 = (b, (frameL b).length, 0) := by
  have hA : At (frameL b) 0 (putI b.length ++ (b ++ four (crc b))) := ⟨Nat.zero_le _, by unfold frameL; simp⟩
  have hn := hA.next
  rw [Nat.zero_add] at hn
  have hlen : (frameL b).length = (putI b.length).length + b.length + 4 := by unfold frameL; simp only [List.length_append, four_len]
  have hg : getR (frameL b) 0 = ((b.length : Int), (putI b.length).length, true) := by
    have h2 := hA.2
    rw [getR_pI _ 0 (Nat.zero_le _), h2, pI_put _ hb]
    simp only [List.length_append, four_len, hlen]
    congr 2
    omega
  have hS : unfS (frameL b) 0 = (b, (frameL b).length, 0) := by
    unfold unfS
    simp only [hg, Bool.not_true, Bool.false_and, Bool.false_eq_true, if_false, Bool.false_or, decide_eq_true_eq]
    rw [if_neg (by omega)]
    unfold unfK bodyOf
    have e1 : (frameL b).drop ((putI b.length).length + b.length) = four (crc b) := by rw [← List.drop_drop, hn.2]; simp
    simp only [Int.toNat_natCast, hn.2, e1]
    rw [if_neg (by omega)]
    simp only [List.take_left', List.take_of_length_le (Nat.le_of_eq (four_len _)), decide_true, if_true]
    congr 2
    omega
  rw [unf_eq _ _ (.inr (by rw [hS])), hS]
theorem pg_put {x : PageT} (h : pageB x = true) : pgI (putSls x) = (x, true) := by
  obtain ⟨h1, h2, h3, h4⟩ := pageB_slots h
  have hn : okN x.1 = true := by
    unfold pageB rng at h
    simp only [Bool.and_eq_true, decide_eq_true_eq] at h
    exact okN_iff.2 ⟨by unfold M12; omega, by unfold M12; omega⟩
  have hA : At (putSls x) 0 (putI x.1 ++ (putSl x.2.1.1 ++ (putSl x.2.1.2.1 ++ (putSl x.2.1.2.2.1 ++ (putSl x.2.1.2.2.2.1 ++ []))))) := by
    refine ⟨Nat.zero_le _, ?_⟩
    unfold putSls; simp
  have e1 := one_put hA hn
  have e2 := slot_put hA.next h1
  have e3 := slot_put hA.next.next h2
  have e4 := slot_put hA.next.next.next h3
  have e5 := slot_put hA.next.next.next.next h4
  have hlen : 0 + (putI x.1).length + (putSl x.2.1.1).length + (putSl x.2.1.2.1).length + (putSl x.2.1.2.2.1).length + (putSl x.2.1.2.2.2.1).length = (putSls x).length := by
    unfold putSls; simp only [List.length_append]; omega
  unfold pgI pageEnd
  simp only [e1, e2, e3, e4, e5, hlen]
  obtain ⟨n, ⟨a, b, c, d, ⟨⟩⟩, ⟨⟩⟩ := x
  simp only [h, Bool.not_false, decide_true, Bool.and_self, if_true]
theorem gpg_put {x : PageT} (h : pageB x = true) : gpgI (putPage x) = (x, true) := by
  unfold gpgI putPage
  rw [unf_put (okN_342 h)]
  simp only [decide_true, Bool.and_self, if_true]
  exact pg_put h
end Q6

namespace Q6
open Go Go.Vm Go.Proofs
set_option maxHeartbeats 4000000
set_option synthInstance.maxSize 2000
set_option synthInstance.maxHeartbeats 400000
set_option maxRecDepth 10000
set_option linter.unusedSimpArgs false
set_option linter.unusedVariables false

open Go.By
theorem putInts_ok (b : List UInt8) (l : List Int) (hb : b.length ≤ 1048576) (hl : l.length ≤ 1048576) : CallR Try.prog 164 [.ow 1 (b.map Enc.o), .sl .b (l.map Enc.b)] [] (.ow 1 ((b ++ putL l).map Enc.o)) := by
  refine CallR.of_body (n := 22) (rs := [.tmp 4]) hY.ok Try.func164 rfl (by decide) rfl rfl rfl rfl (fun F => ?_)
  have fx := And.intro Y3 (And.intro Y5 (And.intro Y24 (Y34)))
  have h0 := putInt_ok b l.length (by omega)
  have hpl := putI_len l.length
  have hC1 := cx [.own 1] (h0)
  have fy := Nat.add_zero
  refine goN ?_ ?_ ?_ ?_ ?_ ?_ ?_ ?_ ?_ ?_ ?_ ?_ ?_ ?_ ?_ ?_
  any_goals (first | exact True.intro | skip)
  skip
  refine SW.loop (fun x : Nat × List UInt8 => ⟨[.ref 1 0 0 x.2.length, .undef, .undef, .undef, .undef, .undef, .undef, .undef, .undef, .undef, .undef, .sl .b (l.map Enc.b), .int .i64 (l.length : Nat), .int .i64 (x.1 : Nat), .undef, .undef, .undef, .undef, .undef, .undef, .undef, .undef], [[.gone], [.arr 1 (x.2.map Enc.o) false]]⟩)
    (fun N x => N = l.length - x.1 ∧ x.1 ≤ l.length ∧ x.2 = b ++ putI l.length ++ (l.take x.1).flatMap putI) (n := l.length) (x := (0, b ++ putI l.length)) ?_ ⟨rfl, Nat.zero_le _, by simp⟩ ?_
  · exact Norm.re [0, 1] (by decide) rfl (by first | (simp only [eq_self, heapFits, rowFits, obFits, List.getElem?_cons_zero, List.getElem?_cons_succ, renL_o, renL_b, true_and, and_true, and_self]; done) | simp [-List.map_append, heapFits, rowFits, obFits, T.ren, renL]) (by simp [tmFits, T.ren])
  rintro N ⟨i, acc⟩ ⟨hN, hi, hac⟩
  simp only at hN hi hac ⊢
  have hacl : acc.length ≤ 8388608 := by
    have h1 := putF_len (l.take i)
    have h2 : (l.take i).length ≤ l.length := by rw [List.length_take]; omega
    rw [hac]; simp only [List.length_append]; omega
  have fy := Nat.add_zero
  refine goS ?_
  refine SW.cond rfl (fun hc => ?_) (fun hc => ?_)
  · have hlt : i < l.length := by simp at hc; omega
    have hg : (l.map Enc.b)[i]? = some (.int .i64 l[i]) := map_get Enc.b l i hlt
    have hwi : IntKind.i64.wrap ((i : Int) + 1) = ((i + 1 : Nat) : Int) := by rw [wrap64 _ (by omega) (by omega)]; omega
    have h1 := putInt_ok acc l[i] (by omega)
    have hC1 := cx [.own 1] (h1)
    have fy := And.intro hg (hwi)
    refine goN ?_ ?_ ?_ ?_ ?_ ?_ ?_ ?_ ?_ ?_ ?_ ?_ ?_ ?_ ?_ ?_
    any_goals (first | exact True.intro | skip)
    skip
    refine ⟨N - 1, (i + 1, acc ++ putI l[i]), by omega, ⟨by simp only; omega, by simp only; omega, ?_⟩, ?_⟩
    · simp only; rw [hac, List.take_succ_eq_append_getElem hlt, List.flatMap_append, ← List.append_assoc]; simp only [List.flatMap_cons, List.flatMap_nil, List.append_nil]
    · exact Norm.re [0, 2] (by decide) rfl (by first | (simp only [eq_self, heapFits, rowFits, obFits, List.getElem?_cons_zero, List.getElem?_cons_succ, renL_o, renL_b, true_and, and_true, and_self]; done) | simp [-List.map_append, heapFits, rowFits, obFits, T.ren, renL]) (by simp [tmFits, T.ren])
  · have hge : i = l.length := by
      have : ¬ i < l.length := by simp at hc; omega
      omega
    subst hge
    have hfin : b ++ putL l = acc := by rw [hac, List.take_length]; unfold putL; simp
    rw [hfin]
    have fy := Nat.add_zero
    refine goR ?_ ?_ ?_ ?_ ?_ ?_ ?_ ?_ ?_ ?_ ?_ ?_ ?_ ?_ ?_ ?_
    any_goals (first | exact True.intro | skip)
    all_goals (repeat (refine Wh.mk fun hcc => ?_))
    exact SW.ret (show RetQ _ _ _ _ _ _ _ from RetQ.y [1] [.ow 1 (acc.map Enc.o)])
theorem iPutObj_y (x : (Int × (List Int) × (List Int) × Unit)) (hx : Enc.lim 1048576 x) (ho : objB x = true) : CallR Try.prog 133 [.nd [.int .i64 x.1, .sl .b (x.2.1.map Enc.b), .sl .b (x.2.2.1.map Enc.b)]] [] (.ow 1 ((putObj x).map Enc.o)) := by
  refine CallR.of_body (n := 15) (rs := [.tmp 2]) hY.ok Try.func133 rfl (by decide) rfl rfl rfl rfl (fun F => ?_)
  have fx := And.intro Y1 (And.intro Y2 (And.intro Y3 (And.intro Y4 (And.intro Y5 (And.intro Y24 (And.intro Y34 (Y36)))))))
  have hO := implObjOk_ok x hx
  rw [ho] at hO
  have h1 := putInt_ok [] x.1 (by simp)
  rw [List.nil_append] at h1
  have hp1 := putI_len x.1
  have h2 := putInts_ok (putI x.1) x.2.1 (by omega) hx.2.1.1
  have hp2 := putL_len x.2.1
  have hb5 : x.2.1.length ≤ 5 ∧ x.2.2.1.length ≤ 5 := objB_len ho
  have h3 := putInts_ok (putI x.1 ++ putL x.2.1) x.2.2.1 (by simp only [List.length_append]; omega) hx.2.2.1.1
  have hpo : putObj x = putI x.1 ++ putL x.2.1 ++ putL x.2.2.1 := rfl
  rw [hpo]
  generalize putI x.1 ++ putL x.2.1 = P2 at *
  generalize P2 ++ putL x.2.2.1 = P3 at *
  generalize putI x.1 = P1 at *
  have hC1 := cx [] (hO)
  have hC2 := cx [.own 1] (h1)
  have hC3 := cx [.own 1] (h2)
  have hC4 := cx [.own 1] (h3)
  have fy := Nat.add_zero
  have hD1 := dx 3 [3, 3, 3] [(4, 0), (7, 0), (7, 1)]
  refine goR ?_ ?_ ?_ ?_ ?_ ?_ ?_ ?_ ?_ ?_ ?_ ?_ ?_ ?_ ?_ ?_
  any_goals (first | exact True.intro | skip)
  all_goals (repeat (refine Wh.mk fun hcc => ?_))
  all_goals exact SW.ret (show RetQ _ _ _ _ _ _ _ from RetQ.y [1] [.ow 1 (P3.map Enc.o)])
def flagI (b : Bool) : Int := if b = true then 1 else 0
theorem flag_ok (b : Bool) : CallR Try.prog 67 [.bool b] [] (.int .i64 (flagI b)) := by
  refine CallR.of_body (n := 4) (rs := [.tmp 2]) hY.ok Try.func67 rfl (by decide) rfl rfl rfl rfl (fun F => ?_)
  have fx := And.intro Y3 (Y4)
  cases b
  · skip
    have fy := Nat.add_zero
    refine goK ?_ ?_ ?_ ?_ ?_ ?_ ?_ ?_ ?_ ?_ ?_ ?_ ?_ ?_ ?_ ?_
    any_goals (first | exact True.intro | skip)
    all_goals (repeat (refine Wh.mk fun hcc => ?_))
    all_goals rfl
  · skip
    have fy := Nat.add_zero
    refine goK ?_ ?_ ?_ ?_ ?_ ?_ ?_ ?_ ?_ ?_ ?_ ?_ ?_ ?_ ?_ ?_
    any_goals (first | exact True.intro | skip)
    all_goals (repeat (refine Wh.mk fun hcc => ?_))
    all_goals rfl
theorem iPutSlot_ok (b : List UInt8) (s : SlotT) (hs : Enc.lim 1048576 s) (hsb : slotB s = true) (hb : b.length ≤ 1048576) : CallR Try.prog 69 [.ow 1 (b.map Enc.o), .nd [.bool s.1, .nd [.int .i64 s.2.1.1, .sl .b (s.2.1.2.1.map Enc.b), .sl .b (s.2.1.2.2.1.map Enc.b)]]] [] (.ow 1 ((b ++ putSl s).map Enc.o)) := by
  refine CallR.of_body (n := 20) (rs := [.tmp 4]) hY.ok Try.func69 rfl (by decide) rfl rfl rfl rfl (fun F => ?_)
  have fx := And.intro Y1 (And.intro Y3 (And.intro Y4 (And.intro Y5 (And.intro Y24 (And.intro Y34 (And.intro Y36 (Y38)))))))
  obtain ⟨has, o, ⟨⟩⟩ := s
  unfold putSl
  simp only at hs ⊢
  cases has
  · have hP := putInt_ok b 0 (by omega)
    simp only [Bool.false_eq_true, if_false]
    have hC1 := cx [.own 1] (hP)
    have fy := Nat.add_zero
    refine goR ?_ ?_ ?_ ?_ ?_ ?_ ?_ ?_ ?_ ?_ ?_ ?_ ?_ ?_ ?_ ?_
    any_goals (first | exact True.intro | skip)
    all_goals (repeat (refine Wh.mk fun hcc => ?_))
    all_goals exact SW.ret (show RetQ _ _ _ _ _ _ _ from RetQ.y [1] [.ow 1 ((b ++ putI 0).map Enc.o)])
  · have hob : objB o = true := hsb
    have hO := iPutObj_y o hs.2.1 hob
    have hol := putObj_len hob
    simp only [if_true]
    generalize putObj o = p at *
    have hP := putInt_ok b p.length (by omega)
    have hpl := putI_len p.length
    rw [← List.append_assoc]
    have hl2 : (b ++ putI p.length).length ≤ 1048582 := by simp only [List.length_append]; omega
    generalize b ++ putI p.length = B2 at *
    have hap := fun (own_ e_ j_ e2_ j2_ : Nat) (H_ : Heap) (q1 : H_.at e_ j_ = some (.arr 1 ((B2).map Enc.o) false)) (q2 : H_.at e2_ j2_ = some (.arr 1 ((p).map Enc.o) false)) => append_runR (Y := Y) (own := own_) (t := 24) (u := 24) (e := e_) (j := j_) (off := 0) (n := (B2).length) (e2 := e2_) (j2 := j2_) (l := B2) (m := p) (H := H_) Y24 Y24 Y5 rfl (by decide) q1 q2 (by rw [List.drop_zero]; exact List.take_of_length_le (by simp)) (by simp) (by omega) rfl rfl
    have hC1 := cx [] (hO)
    have hC2 := cx [.own 1] (hP)
    have fy := hap
    refine goR ?_ ?_ ?_ ?_ ?_ ?_ ?_ ?_ ?_ ?_ ?_ ?_ ?_ ?_ ?_ ?_
    any_goals (first | exact True.intro | skip)
    all_goals (repeat (refine Wh.mk fun hcc => ?_))
    rw [show B2.length + p.length = (B2 ++ p).length by simp]
    generalize B2 ++ p = Z
    all_goals exact SW.ret (show RetQ _ _ _ _ _ _ _ from RetQ.y [1] [.ow 1 (Z.map Enc.o)])
end Q6

namespace Q6
open Go Go.Vm Go.Proofs
set_option maxHeartbeats 4000000
set_option synthInstance.maxSize 2000
set_option synthInstance.maxHeartbeats 400000
set_option maxRecDepth 10000
set_option linter.unusedSimpArgs false
set_option linter.unusedVariables false

theorem specViewOk_y (l : List ((Bool × ((Int × (List Int) × (List Int) × Unit)) × Unit))) (hl : Enc.lim 1048576 l) (h32 : l.length = 32) : CallR Try.prog 61 [.sl .b (l.map Enc.b)] [] (.bool (viewB l)) := by
  refine CallR.of_body (n := 25) (rs := [.tmp 2]) hY.ok Try.func61 rfl (by decide) rfl rfl rfl rfl (fun F => ?_)
  have fx := And.intro Y3 (And.intro Y4 (And.intro Y26 (And.intro Y34 (And.intro Y36 (Y38)))))
  have hE : ((l.length : Int) != 32) = false := by simp [h32]
  have hlt : 0 < l.length := by omega
  have hI : (0 : Int) < (l.length : Int) := by omega
  have hg0 : (l.map Enc.b)[0]? = some (.nd [.bool l[0].1, .nd [.int .i64 l[0].2.1.1, .sl .b (l[0].2.1.2.1.map Enc.b), .sl .b (l[0].2.1.2.2.1.map Enc.b)]]) := map_get Enc.b l 0 hlt
  have hv : viewB l = (!l[0].1 && l.all slotB) := by
    cases l with
    | nil => simp at h32
    | cons s l' => simp only [viewB, h32]; simp
  rcases hh : l[0].1 with _ | _
  rotate_left
  · rw [hh] at hg0 hv
    have fy := And.intro hE (And.intro hg0 (And.intro hI (hlt)))
    refine goK ?_ ?_ ?_ ?_ ?_ ?_ ?_ ?_ ?_ ?_ ?_ ?_ ?_ ?_ ?_ ?_
    any_goals (first | exact True.intro | skip)
    all_goals (repeat (refine Wh.mk fun hcc => ?_))
    all_goals simp_all [tupOf, fixEs]
  rw [hh] at hg0 hv
  have fy := And.intro hE (And.intro hg0 (And.intro hI (hlt)))
  refine goR ?_ ?_ ?_ ?_ ?_ ?_ ?_ ?_ ?_ ?_ ?_ ?_ ?_ ?_ ?_ ?_
  any_goals (first | exact True.intro | skip)
  all_goals (repeat (refine Wh.mk fun hcc => ?_))
  refine SW.loop (fun i : Nat => ⟨[.sl .b (l.map Enc.b), .undef, .undef, .int .i64 i, .undef, .undef, .undef, .undef, .undef, .undef, .undef, .undef, .undef, .undef, .undef, .undef, .undef, .undef, .undef, .undef, .undef, .undef, .undef, .undef, .undef], [[]]⟩)
    (fun n i => n = l.length - i ∧ i ≤ l.length ∧ ∀ j (h : j < l.length), j < i → (slotB) l[j] = true) (n := l.length) (x := 0) (by first | exact Norm.to 0 rfl (by simp [weakL]) | exact Norm.to 1 rfl (by simp [weakL])) ⟨rfl, Nat.zero_le _, fun j _ h => absurd h (Nat.not_lt_zero _)⟩ ?_
  rintro n i ⟨hn, hi, hp⟩
  have fy := And.intro hE (And.intro hg0 (And.intro hI (hlt)))
  refine goS ?_
  refine SW.cond rfl (fun hci => ?_) (fun hci => ?_)
  · skip
    have hlti : i < l.length := by simpa using hci
    have hltIi : (i : Int) < (l.length : Int) := by omega
    have hg : (l.map Enc.b)[i]? = some (.nd [.bool l[i].1, .nd [.int .i64 l[i].2.1.1, .sl .b (l[i].2.1.2.1.map Enc.b), .sl .b (l[i].2.1.2.2.1.map Enc.b)]]) := map_get Enc.b l i hlti
    have hC1 := cx [] (l3Slot_ok l[i] (hl.2 _ (List.getElem_mem hlti)))
    have fy := hg
    refine goK ?_ ?_ ?_ ?_ ?_ ?_ ?_ ?_ ?_ ?_ ?_ ?_ ?_ ?_ ?_ ?_
    any_goals (first | exact True.intro | skip)
    all_goals (repeat (refine Wh.mk fun hcc => ?_))
    · have hx' : slotB l[i] = false := by simpa using hcc
      have hno : l.all (slotB) = false := all_not _ _ i hlti hx'
      simp [tupOf, fixEs, hv, hno]
    · have hx' : slotB l[i] = true := by simpa using hcc
      refine ⟨n - 1, i + 1, by omega, ⟨by omega, by omega, fun j hj hji => ?_⟩, ?_⟩
      · by_cases he : j = i
        · subst he; exact hx'
        · exact hp j hj (by omega)
      · rw [wrap64 _ (by omega) (by omega)]
        first | exact Norm.to 0 rfl (by simp [weakL]) | exact Norm.to 1 rfl (by simp [weakL]) | exact Norm.to 2 rfl (by simp [weakL]) | exact Norm.to 3 rfl (by simp [weakL])
  · skip
    have hgei : i = l.length := by
      have : ¬ i < l.length := by simpa using hci
      omega
    have hall : l.all (slotB) = true := all_of _ _ (fun j hj => hp j hj (by omega))
    have fy := And.intro hE (And.intro hg0 (And.intro hI (hlt)))
    refine goK ?_ ?_ ?_ ?_ ?_ ?_ ?_ ?_ ?_ ?_ ?_ ?_ ?_ ?_ ?_ ?_
    any_goals (first | exact True.intro | skip)
    all_goals (repeat (refine Wh.mk fun hcc => ?_))
    simp_all [tupOf, fixEs]
theorem specViewOk_n (l : List ((Bool × ((Int × (List Int) × (List Int) × Unit)) × Unit))) (hl : Enc.lim 1048576 l) (h32 : ¬ l.length = 32) : CallR Try.prog 61 [.sl .b (l.map Enc.b)] [] (.bool (viewB l)) := by
  refine CallR.of_body (n := 25) (rs := [.tmp 2]) hY.ok Try.func61 rfl (by decide) rfl rfl rfl rfl (fun F => ?_)
  have fx := And.intro Y3 (And.intro Y4 (And.intro Y26 (And.intro Y34 (And.intro Y36 (Y38)))))
  have hE : ((l.length : Int) != 32) = true := by 
    have : ¬ (l.length : Int) = 32 := by omega
    simp [this]
  have fy := hE
  refine goK ?_ ?_ ?_ ?_ ?_ ?_ ?_ ?_ ?_ ?_ ?_ ?_ ?_ ?_ ?_ ?_
  any_goals (first | exact True.intro | skip)
  all_goals (repeat (refine Wh.mk fun hcc => ?_))
  all_goals ((try simp only [tupOf, fixEs]); first | done | (simp_all [viewB]; done) | (exfalso; simp_all; done))
theorem specViewOk_ok (l : List ((Bool × ((Int × (List Int) × (List Int) × Unit)) × Unit))) (hl : Enc.lim 1048576 l) : CallR Try.prog 61 [.sl .b (l.map Enc.b)] [] (.bool (viewB l)) := by
  by_cases h : l.length = 32
  · exact specViewOk_y l hl h
  · exact specViewOk_n l hl h
end Q6

namespace Q6
open Go Go.Vm Go.Proofs
set_option maxHeartbeats 4000000
set_option synthInstance.maxSize 2000
set_option synthInstance.maxHeartbeats 400000
set_option maxRecDepth 10000
set_option linter.unusedSimpArgs false
set_option linter.unusedVariables false

open Go.By

def cntS : List SlotT → Nat
  | [] => 0
  | s :: l => (if s.1 = true then 1 else 0) + cntS l
def dmpF : List SlotT → Nat → List UInt8
  | [], _ => []
  | s :: l, k => (if s.1 = true then putI k ++ putSl s else []) ++ dmpF l (k + 1)
def mark3 : List UInt8 := [75, 87, 49]
def dumpL (v : List SlotT) : List UInt8 := mark3 ++ frameL (putI (cntS v) ++ dmpF v 0)
theorem cntS_app : ∀ (l m : List SlotT), cntS (l ++ m) = cntS l + cntS m
  | [], m => by simp [cntS]
  | s :: l, m => by simp [cntS, cntS_app l m]; omega
theorem dmpF_app : ∀ (l m : List SlotT) (k : Nat), dmpF (l ++ m) k = dmpF l k ++ dmpF m (k + l.length)
  | [], m, k => by simp [dmpF]
  | s :: l, m, k => by simp [dmpF, dmpF_app l m, Nat.add_assoc, Nat.add_comm 1]
theorem take_one {α : Type} (l : List α) (i : Nat) (h : i < l.length) : l.take (i + 1) = l.take i ++ [l[i]] := by
  rw [List.take_add_one, List.getElem?_eq_getElem h]; rfl
theorem cntS_succ (l : List SlotT) (i : Nat) (h : i < l.length) : cntS (l.take (i + 1)) = cntS (l.take i) + (if l[i].1 = true then 1 else 0) := by
  rw [take_one l i h, cntS_app]; simp [cntS]
theorem dmpF_succ (l : List SlotT) (i : Nat) (h : i < l.length) : dmpF (l.take (i + 1)) 0 = dmpF (l.take i) 0 ++ (if l[i].1 = true then putI i ++ putSl l[i] else []) := by
  rw [take_one l i h, dmpF_app, List.length_take, Nat.min_eq_left (by omega)]; simp [dmpF]
theorem cntS_le : ∀ l : List SlotT, cntS l ≤ l.length
  | [] => Nat.le_refl _
  | s :: l => by have := cntS_le l; simp only [cntS, List.length_cons]; split <;> omega
theorem dmpF_len : ∀ (l : List SlotT) (k : Nat), (∀ s ∈ l, slotB s = true) → (dmpF l k).length ≤ 90 * l.length
  | [], _, _ => by simp [dmpF]
  | s :: l, k, h => by
    have h1 := dmpF_len l (k + 1) (fun x hx => h x (by simp [hx]))
    have h2 := putSl_len (h s (by simp))
    have h3 := putI_len k
    simp only [dmpF, List.length_append, List.length_cons]
    split <;> simp only [List.length_append, List.length_nil] <;> omega
theorem viewB_all {v : List SlotT} (h : viewB v = true) : v.length = 32 ∧ ∀ s ∈ v, slotB s = true := by
  unfold viewB at h
  simp only [Bool.and_eq_true, decide_eq_true_eq, List.all_eq_true] at h
  exact ⟨h.1.1, h.2⟩

theorem mark_bs (own : Nat) : buildSliceM Y own 24 3 [(0, .int .u8 75), (1, .int .u8 87), (2, .int .u8 49)] = .pure { v := .ref own 0 0 3, news := [.arr 1 (mark3.map Enc.o) false] } := build3 Y24 Y5 rfl rfl
theorem mark_u8 : (Ty.int .u8).isU8 = true := rfl
theorem mark_len : mark3.length = 3 := rfl
theorem iDump_n (v : List SlotT) (hl : Enc.lim 1048576 v) (hv : viewB v = false) : CallR Try.prog 14 [.sl .b (v.map Enc.b)] [] (.ow 1 []) := by
  refine CallR.of_body (n := 46) (rs := [.tmp 2]) hY.ok Try.func14 rfl (by decide) rfl rfl rfl rfl (fun F => ?_)
  have fx := And.intro Y1 (And.intro Y2 (And.intro Y3 (And.intro Y4 (And.intro Y5 (And.intro Y24 (And.intro Y26 (And.intro Y34 (And.intro Y36 (Y38)))))))))
  have hO := implViewOk_ok v hl
  rw [hv] at hO
  have hC1 := cx [] (hO)
  have fy := Nat.add_zero
  have hD1 := dx 14 [3, 2] [(3, 0)]
  refine goR ?_ ?_ ?_ ?_ ?_ ?_ ?_ ?_ ?_ ?_ ?_ ?_ ?_ ?_ ?_ ?_
  any_goals (first | exact True.intro | skip)
  all_goals (repeat (refine Wh.mk fun hcc => ?_))
  all_goals exact SW.ret (show RetQ _ _ _ _ _ _ _ from RetQ.y [1] [.ow 1 []])
theorem iDump_y (v : List SlotT) (hl : Enc.lim 1048576 v) (hv : viewB v = true) : CallR Try.prog 14 [.sl .b (v.map Enc.b)] [] (.ow 1 ((dumpL v).map Enc.o)) := by
  refine CallR.of_body (n := 46) (rs := [.tmp 2]) hY.ok Try.func14 rfl (by decide) rfl rfl rfl rfl (fun F => ?_)
  have fx := And.intro Y1 (And.intro Y2 (And.intro Y3 (And.intro Y4 (And.intro Y5 (And.intro Y24 (And.intro Y26 (And.intro Y34 (And.intro Y36 (Y38)))))))))
  have hO := implViewOk_ok v hl
  rw [hv] at hO
  obtain ⟨h32, hall⟩ := viewB_all hv
  have hC1 := cx [] (hO)
  have fy := Nat.add_zero
  have hD1 := dx 14 [3, 2] [(3, 0)]
  refine goN ?_ ?_ ?_ ?_ ?_ ?_ ?_ ?_ ?_ ?_ ?_ ?_ ?_ ?_ ?_ ?_
  any_goals (first | exact True.intro | skip)
  skip
  refine SW.cond rfl (fun hcc => absurd hcc (by decide)) (fun hcc => ?_)
  have hC1 := cx [] (hO)
  have fy := Nat.add_zero
  have hD1 := dx 14 [3, 2] [(3, 0)]
  refine goN ?_ ?_ ?_ ?_ ?_ ?_ ?_ ?_ ?_ ?_ ?_ ?_ ?_ ?_ ?_ ?_
  any_goals (first | exact True.intro | skip)
  skip
  refine SW.loop (fun i : Nat => ⟨[.sl .b (v.map Enc.b), .undef, .undef, .int .i64 (cntS (v.take i) : Nat), .undef, .undef, .undef, .undef, .undef, .undef, .undef, .undef, .sl .b (v.map Enc.b), .int .i64 (v.length : Nat), .int .i64 (i : Nat), .undef, .undef, .undef, .undef, .undef, .undef, .undef, .undef, .undef, .undef, .undef, .undef, .undef, .undef, .undef, .undef, .undef, .undef, .undef, .undef, .undef, .undef, .undef, .undef, .undef, .undef, .undef, .undef, .undef, .undef, .undef], [[]]⟩)
    (fun N i => N = v.length - i ∧ i ≤ v.length) (n := v.length) (x := 0) ?_ ⟨rfl, Nat.zero_le _⟩ ?_
  · simp only [List.take_zero, cntS]
    exact Norm.re [0] (by decide) rfl (by first | (simp only [eq_self, heapFits, rowFits, obFits, List.getElem?_cons_zero, List.getElem?_cons_succ, renL_o, renL_b, true_and, and_true, and_self]; done) | simp [-List.map_append, heapFits, rowFits, obFits, T.ren, renL]) (by simp [tmFits, T.ren])
  rintro N i ⟨hn, hi⟩
  have fy := Nat.add_zero
  refine goS ?_
  refine SW.cond rfl (fun hc => ?_) (fun hc => ?_)
  · have hlt : i < v.length := by simp at hc; omega
    have hg : (v.map Enc.b)[i]? = some (.nd [.bool v[i].1, .nd [.int .i64 v[i].2.1.1, .sl .b (v[i].2.1.2.1.map Enc.b), .sl .b (v[i].2.1.2.2.1.map Enc.b)]]) := map_get Enc.b v i hlt
    have h1 := cntS_succ v i hlt
    have h2 := cntS_le (v.take i)
    rw [List.length_take] at h2
    have hF := flag_ok v[i].1
    have hfl : flagI v[i].1 = ((if v[i].1 = true then 1 else 0 : Nat) : Int) := by unfold flagI; split <;> rfl
    rw [hfl] at hF
    generalize v[i] = s at *
    generalize cntS (List.take i v) = m at *
    generalize (if s.1 = true then 1 else 0 : Nat) = fl at *
    have hwi : IntKind.i64.wrap ((i : Int) + 1) = ((i + 1 : Nat) : Int) := by rw [wrap64 _ (by omega) (by omega)]; omega
    have h3 := cntS_le (v.take (i + 1))
    rw [List.length_take] at h3
    have hwm : IntKind.i64.wrap ((m : Int) + (fl : Int)) = ((m + fl : Nat) : Int) := by rw [wrap64 _ (by omega) (by omega)]; omega
    have hC1 := cx [] (hF)
    have fy := And.intro hg (And.intro hwi (hwm))
    have hD1 := dx 14 [3, 2] [(3, 0)]
    refine goN ?_ ?_ ?_ ?_ ?_ ?_ ?_ ?_ ?_ ?_ ?_ ?_ ?_ ?_ ?_ ?_
    any_goals (first | exact True.intro | skip)
    skip
    refine ⟨N - 1, i + 1, by omega, ⟨by omega, by omega⟩, ?_⟩
    rw [h1]
    exact Norm.re [0] (by decide) rfl (by first | (simp only [eq_self, heapFits, rowFits, obFits, List.getElem?_cons_zero, List.getElem?_cons_succ, renL_o, renL_b, true_and, and_true, and_self]; done) | simp [-List.map_append, heapFits, rowFits, obFits, T.ren, renL]) (by simp [tmFits, T.ren])
  · have hge : i = v.length := by
      have : ¬ i < v.length := by simp at hc; omega
      omega
    subst hge
    rw [List.take_length]
    have hcl := cntS_le v
    have hP := putInt_ok [] (cntS v : Nat) (by simp)
    rw [List.nil_append] at hP
    have hpl := putI_len (cntS v : Nat)
    unfold dumpL
    generalize cntS v = C at *
    have hC1 := cx [.own 1] (hP)
    have fy := Nat.add_zero
    have hD1 := dx 14 [3, 2] [(3, 0)]
    refine goN ?_ ?_ ?_ ?_ ?_ ?_ ?_ ?_ ?_ ?_ ?_ ?_ ?_ ?_ ?_ ?_
    any_goals (first | exact True.intro | skip)
    skip
    refine SW.loop (fun x : Nat × List UInt8 => ⟨[.undef, .undef, .undef, .undef, .undef, .undef, .ref 1 0 0 x.2.length, .undef, .undef, .undef, .undef, .undef, .undef, .undef, .undef, .undef, .undef, .undef, .undef, .undef, .undef, .undef, .undef, .undef, .undef, .undef, .sl .b (v.map Enc.b), .int .i64 (v.length : Nat), .int .i64 (x.1 : Nat), .undef, .undef, .undef, .undef, .undef, .undef, .undef, .undef, .undef, .undef, .undef, .undef, .undef, .undef, .undef, .undef, .undef], [[], [.arr 1 (x.2.map Enc.o) false]]⟩)
      (fun N x => N = v.length - x.1 ∧ x.1 ≤ v.length ∧ x.2 = putI (C : Nat) ++ dmpF (v.take x.1) 0) (n := v.length) (x := (0, putI (C : Nat))) ?_ ⟨rfl, Nat.zero_le _, by simp [dmpF]⟩ ?_
    · exact Norm.re [0, 1] (by decide) rfl (by first | (simp only [eq_self, heapFits, rowFits, obFits, List.getElem?_cons_zero, List.getElem?_cons_succ, renL_o, renL_b, true_and, and_true, and_self]; done) | simp [-List.map_append, heapFits, rowFits, obFits, T.ren, renL]) (by simp [tmFits, T.ren])
    rintro N ⟨i, acc⟩ ⟨hn, hi, hac⟩
    simp only at hn hi hac ⊢
    have hal : acc.length ≤ 3000 := by
      have := dmpF_len (v.take i) 0 (fun s hs => hall s (List.mem_of_mem_take hs))
      rw [List.length_take] at this
      rw [hac, List.length_append]; omega
    have fy := Nat.add_zero
    refine goS ?_
    refine SW.cond rfl (fun hc => ?_) (fun hc => ?_)
    · have hlt : i < v.length := by simp at hc; omega
      have hg : (v.map Enc.b)[i]? = some (.nd [.bool v[i].1, .nd [.int .i64 v[i].2.1.1, .sl .b (v[i].2.1.2.1.map Enc.b), .sl .b (v[i].2.1.2.2.1.map Enc.b)]]) := map_get Enc.b v i hlt
      have h1 := dmpF_succ v i hlt
      have hsb := hall v[i] (List.getElem_mem hlt)
      have hsl := hl.2 v[i] (List.getElem_mem hlt)
      have hpl2 := putI_len i
      have hP1 := putInt_ok acc i (by omega)
      have hS1 := iPutSlot_ok (acc ++ putI i) v[i] hsl hsb (by simp only [List.length_append]; omega)
      have hwi : IntKind.i64.wrap ((i : Int) + 1) = ((i + 1 : Nat) : Int) := by rw [wrap64 _ (by omega) (by omega)]; omega
      generalize v[i] = s at *
      obtain ⟨has, o, ⟨⟩⟩ := s
      simp only at h1 hg hsb hsl hP1 hS1
      cases has
      · simp only [Bool.false_eq_true, if_false, if_true, List.append_nil] at h1
        have fy := And.intro hg (hwi)
        have hD1 := dx 14 [3, 2] [(3, 0)]
        refine goR ?_ ?_ ?_ ?_ ?_ ?_ ?_ ?_ ?_ ?_ ?_ ?_ ?_ ?_ ?_ ?_
        any_goals (first | exact True.intro | skip)
        all_goals (repeat (refine Wh.mk fun hcc => ?_))
        refine ⟨N - 1, (i + 1, acc), by omega, ⟨by simp only; omega, by simp only; omega, by simp only; rw [h1, ← hac]⟩, ?_⟩
        exact Norm.re [0, 1] (by decide) rfl (by first | (simp only [eq_self, heapFits, rowFits, obFits, List.getElem?_cons_zero, List.getElem?_cons_succ, renL_o, renL_b, true_and, and_true, and_self]; done) | simp [-List.map_append, heapFits, rowFits, obFits, T.ren, renL]) (by simp [tmFits, T.ren])
      · simp only [Bool.false_eq_true, if_false, if_true, List.append_nil] at h1
        generalize hZ2 : acc ++ putI i = Z2 at *
        generalize hZ : Z2 ++ putSl (true, o, ()) = Z at *
        have hC1 := cx [.own 1] (hP1)
        have hC2 := cx [.own 1] (hS1)
        have fy := And.intro hg (hwi)
        have hD1 := dx 14 [3, 2] [(3, 0)]
        refine goR ?_ ?_ ?_ ?_ ?_ ?_ ?_ ?_ ?_ ?_ ?_ ?_ ?_ ?_ ?_ ?_
        any_goals (first | exact True.intro | skip)
        all_goals (repeat (refine Wh.mk fun hcc => ?_))
        refine ⟨N - 1, (i + 1, Z), by omega, ⟨by simp only; omega, by simp only; omega, by simp only; rw [h1, ← List.append_assoc, ← hac, ← hZ, ← hZ2, List.append_assoc]⟩, ?_⟩
        exact Norm.re [0, 4] (by decide) rfl (by first | (simp only [eq_self, heapFits, rowFits, obFits, List.getElem?_cons_zero, List.getElem?_cons_succ, renL_o, renL_b, true_and, and_true, and_self]; done) | simp [-List.map_append, heapFits, rowFits, obFits, T.ren, renL]) (by simp [tmFits, T.ren])
    · have hge : i = v.length := by
        have : ¬ i < v.length := by simp at hc; omega
        omega
      subst hge
      rw [List.take_length] at hac
      rw [← hac]
      have hF := iFrame_ok acc (by omega)
      have hfl := frameL_len acc
      generalize frameL acc = FF at *
      have hm3 : 3 ≤ mark3.length := by decide
      have h03 : 0 < 3 := by decide
      have hap := fun (own_ e_ j_ e2_ j2_ : Nat) (H_ : Heap) (q1 : H_.at e_ j_ = some (.arr 1 ((mark3).map Enc.o) false)) (q2 : H_.at e2_ j2_ = some (.arr 1 ((FF).map Enc.o) false)) => append_runR (Y := Y) (own := own_) (t := 24) (u := 24) (e := e_) (j := j_) (off := 0) (n := 3) (e2 := e2_) (j2 := j2_) (l := mark3) (m := FF) (H := H_) Y24 Y24 Y5 rfl (by decide) q1 q2 (by rw [List.drop_zero]; exact List.take_of_length_le (by first | (simp; done) | (rw [List.length_map]; decide))) (by first | (simp; done) | (rw [List.length_map]; decide)) (by omega) rfl rfl
      have hC1 := cx [] (hF)
      have fy := And.intro mark_bs (And.intro mark_u8 (And.intro hm3 (And.intro h03 (hap))))
      have hD1 := dx 14 [3, 2] [(3, 0)]
      refine goN ?_ ?_ ?_ ?_ ?_ ?_ ?_ ?_ ?_ ?_ ?_ ?_ ?_ ?_ ?_ ?_
      any_goals (first | exact True.intro | skip)
      skip
      rw [show 3 + FF.length = (mark3 ++ FF).length by rw [List.length_append]; rfl]
      generalize mark3 ++ FF = Z
      exact SW.ret (show RetQ _ _ _ _ _ _ _ from RetQ.y [1] [.ow 1 (Z.map Enc.o)])
end Q6

namespace Q6
open Go Go.Vm Go.Proofs
set_option maxHeartbeats 4000000
set_option synthInstance.maxSize 2000
set_option synthInstance.maxHeartbeats 400000
set_option maxRecDepth 10000
set_option linter.unusedSimpArgs false
set_option linter.unusedVariables false

open Go.By
theorem sDump_n (v : List SlotT) (hl : Enc.lim 1048576 v) (hv : viewB v = false) : CallR Try.prog 12 [.sl .b (v.map Enc.b)] [] (.ow 1 []) := by
  refine CallR.of_body (n := 48) (rs := [.tmp 2]) hY.ok Try.func12 rfl (by decide) rfl rfl rfl rfl (fun F => ?_)
  have fx := And.intro Y1 (And.intro Y2 (And.intro Y3 (And.intro Y4 (And.intro Y5 (And.intro Y24 (And.intro Y26 (And.intro Y34 (And.intro Y36 (Y38)))))))))
  have hO := specViewOk_ok v hl
  rw [hv] at hO
  have hC1 := cx [] (hO)
  have fy := bs0_24
  refine goR ?_ ?_ ?_ ?_ ?_ ?_ ?_ ?_ ?_ ?_ ?_ ?_ ?_ ?_ ?_ ?_
  any_goals (first | exact True.intro | skip)
  all_goals (repeat (refine Wh.mk fun hcc => ?_))
  all_goals exact SW.ret (show RetQ _ _ _ _ _ _ _ from RetQ.y [1] [.ow 1 []])
theorem sDump_y (v : List SlotT) (hl : Enc.lim 1048576 v) (hv : viewB v = true) : CallR Try.prog 12 [.sl .b (v.map Enc.b)] [] (.ow 1 ((dumpL v).map Enc.o)) := by
  refine CallR.of_body (n := 48) (rs := [.tmp 2]) hY.ok Try.func12 rfl (by decide) rfl rfl rfl rfl (fun F => ?_)
  have fx := And.intro Y1 (And.intro Y2 (And.intro Y3 (And.intro Y4 (And.intro Y5 (And.intro Y24 (And.intro Y26 (And.intro Y34 (And.intro Y36 (Y38)))))))))
  have hO := specViewOk_ok v hl
  rw [hv] at hO
  obtain ⟨h32, hall⟩ := viewB_all hv
  have hC1 := cx [] (hO)
  have fy := Nat.add_zero
  refine goN ?_ ?_ ?_ ?_ ?_ ?_ ?_ ?_ ?_ ?_ ?_ ?_ ?_ ?_ ?_ ?_
  any_goals (first | exact True.intro | skip)
  skip
  refine SW.cond rfl (fun hcc => absurd hcc (by decide)) (fun hcc => ?_)
  have hC1 := cx [] (hO)
  have fy := bs0_24
  refine goN ?_ ?_ ?_ ?_ ?_ ?_ ?_ ?_ ?_ ?_ ?_ ?_ ?_ ?_ ?_ ?_
  any_goals (first | exact True.intro | skip)
  skip
  refine SW.loop (fun x : Nat × List UInt8 => ⟨[.sl .b (v.map Enc.b), .undef, .undef, .int .i64 (cntS (v.take x.1) : Nat), .ref 1 0 0 x.2.length, .int .i64 (x.1 : Nat), .undef, .undef, .undef, .undef, .undef, .undef, .undef, .undef, .undef, .undef, .undef, .undef, .undef, .undef, .undef, .undef, .undef, .undef, .undef, .undef, .undef, .undef, .undef, .undef, .undef, .undef, .undef, .undef, .undef, .undef, .undef, .undef, .undef, .undef, .undef, .undef, .undef, .undef, .undef, .undef, .undef, .undef], [[], [.arr 1 (x.2.map Enc.o) false]]⟩)
    (fun N x => N = v.length - x.1 ∧ x.1 ≤ v.length ∧ x.2 = dmpF (v.take x.1) 0) (n := v.length) (x := (0, [])) ?_ ⟨rfl, Nat.zero_le _, rfl⟩ ?_
  · simp only [List.take_zero, cntS]
    exact Norm.re [0, 2] (by decide) rfl (by first | (simp only [eq_self, heapFits, rowFits, obFits, List.getElem?_cons_zero, List.getElem?_cons_succ, renL_o, renL_b, true_and, and_true, and_self]; done) | simp [-List.map_append, heapFits, rowFits, obFits, T.ren, renL]) (by simp [tmFits, T.ren])
  rintro N ⟨i, acc⟩ ⟨hn, hi, hac⟩
  simp only at hn hi hac ⊢
  have hal : acc.length ≤ 3000 := by
    have := dmpF_len (v.take i) 0 (fun s hs => hall s (List.mem_of_mem_take hs))
    rw [List.length_take] at this
    rw [hac]; omega
  have fy := Nat.add_zero
  refine goS ?_
  refine SW.cond rfl (fun hc => ?_) (fun hc => ?_)
  · have hlt : i < v.length := by simp at hc; omega
    have hg : (v.map Enc.b)[i]? = some (.nd [.bool v[i].1, .nd [.int .i64 v[i].2.1.1, .sl .b (v[i].2.1.2.1.map Enc.b), .sl .b (v[i].2.1.2.2.1.map Enc.b)]]) := map_get Enc.b v i hlt
    have h1 := dmpF_succ v i hlt
    have c1 := cntS_succ v i hlt
    have c2 := cntS_le (v.take i)
    rw [List.length_take] at c2
    have hsb := hall v[i] (List.getElem_mem hlt)
    have hsl := hl.2 v[i] (List.getElem_mem hlt)
    have hpl2 := putI_len i
    have hP1 := PutInt_ok acc i (by omega)
    have hwi : IntKind.i64.wrap ((i : Int) + 1) = ((i + 1 : Nat) : Int) := by rw [wrap64 _ (by omega) (by omega)]; omega
    generalize cntS (List.take i v) = m at *
    have hwm : IntKind.i64.wrap ((m : Int) + 1) = ((m + 1 : Nat) : Int) := by rw [wrap64 _ (by omega) (by omega)]; omega
    generalize v[i] = s at *
    obtain ⟨has, o, ⟨⟩⟩ := s
    simp only at h1 c1 hg hsb hsl
    cases has
    · simp only [Bool.false_eq_true, if_false, if_true, List.append_nil, Nat.add_zero] at h1 c1
      have fy := And.intro hg (And.intro hwi (hwm))
      refine goR ?_ ?_ ?_ ?_ ?_ ?_ ?_ ?_ ?_ ?_ ?_ ?_ ?_ ?_ ?_ ?_
      any_goals (first | exact True.intro | skip)
      all_goals (repeat (refine Wh.mk fun hcc => ?_))
      refine ⟨N - 1, (i + 1, acc), by omega, ⟨by simp only; omega, by simp only; omega, by simp only; rw [h1, ← hac]⟩, ?_⟩
      simp only
      rw [c1]
      exact Norm.re [0, 1] (by decide) rfl (by first | (simp only [eq_self, heapFits, rowFits, obFits, List.getElem?_cons_zero, List.getElem?_cons_succ, renL_o, renL_b, true_and, and_true, and_self]; done) | simp [-List.map_append, heapFits, rowFits, obFits, T.ren, renL]) (by simp [tmFits, T.ren])
    · simp only [Bool.false_eq_true, if_false, if_true, List.append_nil, Nat.add_zero] at h1 c1
      have hob : objB o = true := hsb
      have hO := sPutObj_y o hsl.2.1 hob
      have hol := putObj_len hob
      have hps : putSl (true, o, ()) = putI (putObj o).length ++ putObj o := rfl
      rw [hps] at h1
      generalize putObj o = p at *
      have hpl3 := putI_len p.length
      have hP2 := PutInt_ok (acc ++ putI i) p.length (by simp only [List.length_append]; omega)
      have hl3 : (acc ++ putI i ++ putI p.length).length ≤ 3012 := by simp only [List.length_append]; omega
      generalize hZ2 : acc ++ putI i = Z2 at *
      generalize hZ3 : Z2 ++ putI p.length = Z3 at *
      have hap := fun (own_ e_ j_ e2_ j2_ : Nat) (H_ : Heap) (q1 : H_.at e_ j_ = some (.arr 1 ((Z3).map Enc.o) false)) (q2 : H_.at e2_ j2_ = some (.arr 1 ((p).map Enc.o) false)) => append_runR (Y := Y) (own := own_) (t := 24) (u := 24) (e := e_) (j := j_) (off := 0) (n := (Z3).length) (e2 := e2_) (j2 := j2_) (l := Z3) (m := p) (H := H_) Y24 Y24 Y5 rfl (by decide) q1 q2 (by rw [List.drop_zero]; exact List.take_of_length_le (by first | (simp; done) | (rw [List.length_map]; decide))) (by first | (simp; done) | (rw [List.length_map]; decide)) (by omega) rfl rfl
      have hC1 := cx [] (hO)
      have hC2 := cx [] (hP1)
      have hC3 := cx [] (hP2)
      have fy := And.intro hg (And.intro hwi (And.intro hwm (hap)))
      refine goR ?_ ?_ ?_ ?_ ?_ ?_ ?_ ?_ ?_ ?_ ?_ ?_ ?_ ?_ ?_ ?_
      any_goals (first | exact True.intro | skip)
      all_goals (repeat (refine Wh.mk fun hcc => ?_))
      rw [show Z3.length + p.length = (Z3 ++ p).length by simp]
      refine ⟨N - 1, (i + 1, Z3 ++ p), by omega, ⟨by simp only; omega, by simp only; omega, by simp only; rw [h1, ← List.append_assoc, ← List.append_assoc, ← hac, hZ2, hZ3]⟩, ?_⟩
      simp only
      rw [c1]
      generalize Z3 ++ p = Z at *
      exact Norm.re [0, 5] (by decide) rfl (by first | (simp only [eq_self, heapFits, rowFits, obFits, List.getElem?_cons_zero, List.getElem?_cons_succ, renL_o, renL_b, true_and, and_true, and_self]; done) | simp [-List.map_append, heapFits, rowFits, obFits, T.ren, renL]) (by simp [tmFits, T.ren])
  · have hge : i = v.length := by
      have : ¬ i < v.length := by simp at hc; omega
      omega
    subst hge
    rw [List.take_length] at hac
    rw [List.take_length]
    have hcl := cntS_le v
    unfold dumpL
    rw [← hac]
    have hP := PutInt_ok [] (cntS v : Nat) (by simp)
    rw [List.nil_append] at hP
    have hpl := putI_len (cntS v : Nat)
    generalize cntS v = C at *
    generalize putI (C : Nat) = PP at *
    have hF := sFrame_ok (PP ++ acc) (by simp only [List.length_append]; omega)
    have hfl := frameL_len (PP ++ acc)
    rw [List.length_append] at hfl
    have hap1 := fun (own_ e_ j_ e2_ j2_ : Nat) (H_ : Heap) (q1 : H_.at e_ j_ = some (.arr 1 ((PP).map Enc.o) false)) (q2 : H_.at e2_ j2_ = some (.arr 1 ((acc).map Enc.o) false)) => append_runR (Y := Y) (own := own_) (t := 24) (u := 24) (e := e_) (j := j_) (off := 0) (n := (PP).length) (e2 := e2_) (j2 := j2_) (l := PP) (m := acc) (H := H_) Y24 Y24 Y5 rfl (by decide) q1 q2 (by rw [List.drop_zero]; exact List.take_of_length_le (by first | (simp; done) | (rw [List.length_map]; decide))) (by first | (simp; done) | (rw [List.length_map]; decide)) (by omega) rfl rfl
    rw [show PP.length + acc.length = (PP ++ acc).length by simp] at hap1
    generalize PP ++ acc = QQ at *
    generalize frameL QQ = FF at *
    have hm3 : 3 ≤ mark3.length := by decide
    have h03 : 0 < 3 := by decide
    have hap := fun (own_ e_ j_ e2_ j2_ : Nat) (H_ : Heap) (q1 : H_.at e_ j_ = some (.arr 1 ((mark3).map Enc.o) false)) (q2 : H_.at e2_ j2_ = some (.arr 1 ((FF).map Enc.o) false)) => append_runR (Y := Y) (own := own_) (t := 24) (u := 24) (e := e_) (j := j_) (off := 0) (n := 3) (e2 := e2_) (j2 := j2_) (l := mark3) (m := FF) (H := H_) Y24 Y24 Y5 rfl (by decide) q1 q2 (by rw [List.drop_zero]; exact List.take_of_length_le (by first | (simp; done) | (rw [List.length_map]; decide))) (by first | (simp; done) | (rw [List.length_map]; decide)) (by omega) rfl rfl
    have hC1 := cx [] (hP)
    have hC2 := cx [] (hF)
    have fy := And.intro bs0_24 (And.intro mark_bs (And.intro mark_u8 (And.intro hm3 (And.intro h03 (And.intro hap1 (hap))))))
    refine goN ?_ ?_ ?_ ?_ ?_ ?_ ?_ ?_ ?_ ?_ ?_ ?_ ?_ ?_ ?_ ?_
    any_goals (first | exact True.intro | skip)
    skip
    rw [show 3 + FF.length = (mark3 ++ FF).length by rw [List.length_append]; rfl]
    generalize mark3 ++ FF = Z
    exact SW.ret (show RetQ _ _ _ _ _ _ _ from RetQ.y [1] [.ow 1 (Z.map Enc.o)])
end Q6

namespace Q6
open Go Go.Vm Go.Proofs
set_option maxHeartbeats 4000000
set_option synthInstance.maxSize 2000
set_option synthInstance.maxHeartbeats 400000
set_option maxRecDepth 10000
set_option linter.unusedSimpArgs false
set_option linter.unusedVariables false

theorem laws_toIntS_ok (l : List Int) (hl : Enc.lim 1048576 l) : CallR Try.prog 163 [.sl .b (l.map Enc.b)] [] (.ow 1 (l.map Enc.o)) := by
  refine CallR.of_body (n := 22) (rs := [.tmp 2]) hY.ok Try.func163 rfl (by decide) rfl rfl rfl rfl (fun F => ?_)
  have fx := And.intro Y3 (And.intro Y4 (Y34))
  have hl1 : l.length ≤ 1048576 := hl.1
  have fy := (fun u1 => mk_fill u1 34 l hl.1 (.int .i64 0) 1 8 _ Y34 Y3 rfl rfl (by decide))
  refine goN ?_ ?_ ?_ ?_ ?_ ?_ ?_ ?_ ?_ ?_ ?_ ?_ ?_ ?_ ?_ ?_
  any_goals (first | exact True.intro | skip)
  skip
  refine SW.loop (fun i : Nat => ⟨[.sl .b (l.map Enc.b), .undef, .undef, .ref 1 0 0 l.length, .int .i64 i, .undef, .undef, .undef, .undef, .undef, .undef, .undef, .undef, .undef, .undef, .undef, .undef, .undef, .undef, .undef, .undef, .undef], [[], [.arr 1 (fillG (.int .i64 0) l i) false]]⟩)
    (fun n i => n = l.length - i ∧ i ≤ l.length) (n := l.length) (x := 0) (Norm.to 0 rfl (by simp [weakL])) ⟨rfl, Nat.zero_le _⟩ ?_
  rintro n i ⟨hn, hi⟩
  have fy := Nat.add_zero
  refine goS ?_
  refine SW.cond rfl (fun hc => ?_) (fun hc => ?_)
  · have hlt : i < l.length := by simpa using hc
    have hltI : (i : Int) < (l.length : Int) := by omega
    have hg : (l.map Enc.b)[i]? = some (.int .i64 l[i]) := map_get Enc.b l i hlt
    have hf : (fillG (.int .i64 0) l i)[i]? = some (.int .i64 0) := fill_get _ l i hlt
    have hfl : (fillG (.int .i64 0) l i).length = l.length := fill_len _ l i hi
    have fy := And.intro hg (And.intro hf (And.intro hfl (And.intro hltI (Nat.zero_add))))
    refine goR ?_ ?_ ?_ ?_ ?_ ?_ ?_ ?_ ?_ ?_ ?_ ?_ ?_ ?_ ?_ ?_
    any_goals (first | exact True.intro | skip)
    all_goals (repeat (refine Wh.mk fun hcc => ?_))
    refine ⟨n - 1, i + 1, by omega, ⟨by omega, by omega⟩, ?_⟩
    rw [wrap64 _ (by omega) (by omega)]
    refine Norm.trans (Norm.fill (l := l) 1 0 rfl hlt (by first | rfl | (simp [soakS, soakL, Heap.at, Heap.put]; rfl))) ?_
    refine Norm.re [0, 1] (by decide) rfl ?_ (by simp [tmFits, T.ren])
    first | (simp [heapFits, rowFits, obFits, soakS, soakL, Heap.at, Heap.put]; exact renL_fill _ _ _ _ rfl) | exact ⟨trivial, ⟨rfl, rfl, renL_fill _ _ _ _ rfl⟩, trivial⟩
  · have hge : i = l.length := by
      have : ¬ i < l.length := by simpa using hc
      omega
    subst hge
    have fy := Nat.add_zero
    refine goR ?_ ?_ ?_ ?_ ?_ ?_ ?_ ?_ ?_ ?_ ?_ ?_ ?_ ?_ ?_ ?_
    any_goals (first | exact True.intro | skip)
    all_goals (repeat (refine Wh.mk fun hcc => ?_))
    refine SW.ret (show RetQ _ _ _ _ _ _ _ from ⟨.inr rfl, [.ref 1 0 0 l.length], [1], [.ow 1 (l.map Enc.o)], [[], [.gone]], ⟨rfl, ?_, rfl, ?_, rfl, rfl⟩⟩)
    · simp [pass1, modeOf, giveS, Heap.at, Heap.put, fill_all, fixEs, ioAt, ioAtT, ioKs, ioKT, ioM, ioT, T.cel, T.clo, T.cloA, cloAL]
    · simp [cloL, T.clo, T.clP, clPL]
theorem laws_toByteS_ok (l : List UInt8) (hl : Enc.lim 1048576 l) : CallR Try.prog 38 [.sl .b (l.map Enc.b)] [] (.ow 1 (l.map Enc.o)) := by
  refine CallR.of_body (n := 22) (rs := [.tmp 2]) hY.ok Try.func38 rfl (by decide) rfl rfl rfl rfl (fun F => ?_)
  have fx := And.intro Y3 (And.intro Y4 (And.intro Y5 (Y24)))
  have hl1 : l.length ≤ 1048576 := hl.1
  have fy := (fun u1 => mk_fill u1 24 l hl.1 (.int .u8 0) 1 1 _ Y24 Y5 rfl rfl (by decide))
  refine goN ?_ ?_ ?_ ?_ ?_ ?_ ?_ ?_ ?_ ?_ ?_ ?_ ?_ ?_ ?_ ?_
  any_goals (first | exact True.intro | skip)
  skip
  refine SW.loop (fun i : Nat => ⟨[.sl .b (l.map Enc.b), .undef, .undef, .ref 1 0 0 l.length, .int .i64 i, .undef, .undef, .undef, .undef, .undef, .undef, .undef, .undef, .undef, .undef, .undef, .undef, .undef, .undef, .undef, .undef, .undef], [[], [.arr 1 (fillG (.int .u8 0) l i) false]]⟩)
    (fun n i => n = l.length - i ∧ i ≤ l.length) (n := l.length) (x := 0) (Norm.to 0 rfl (by simp [weakL])) ⟨rfl, Nat.zero_le _⟩ ?_
  rintro n i ⟨hn, hi⟩
  have fy := Nat.add_zero
  refine goS ?_
  refine SW.cond rfl (fun hc => ?_) (fun hc => ?_)
  · have hlt : i < l.length := by simpa using hc
    have hltI : (i : Int) < (l.length : Int) := by omega
    have hg : (l.map Enc.b)[i]? = some (.int .u8 (l[i].toNat : Int)) := map_get Enc.b l i hlt
    have hf : (fillG (.int .u8 0) l i)[i]? = some (.int .u8 0) := fill_get _ l i hlt
    have hfl : (fillG (.int .u8 0) l i).length = l.length := fill_len _ l i hi
    have fy := And.intro hg (And.intro hf (And.intro hfl (And.intro hltI (Nat.zero_add))))
    refine goR ?_ ?_ ?_ ?_ ?_ ?_ ?_ ?_ ?_ ?_ ?_ ?_ ?_ ?_ ?_ ?_
    any_goals (first | exact True.intro | skip)
    all_goals (repeat (refine Wh.mk fun hcc => ?_))
    refine ⟨n - 1, i + 1, by omega, ⟨by omega, by omega⟩, ?_⟩
    rw [wrap64 _ (by omega) (by omega)]
    refine Norm.trans (Norm.fill (l := l) 1 0 rfl hlt (by first | rfl | (simp [soakS, soakL, Heap.at, Heap.put]; rfl))) ?_
    refine Norm.re [0, 1] (by decide) rfl ?_ (by simp [tmFits, T.ren])
    first | (simp [heapFits, rowFits, obFits, soakS, soakL, Heap.at, Heap.put]; exact renL_fill _ _ _ _ rfl) | exact ⟨trivial, ⟨rfl, rfl, renL_fill _ _ _ _ rfl⟩, trivial⟩
  · have hge : i = l.length := by
      have : ¬ i < l.length := by simpa using hc
      omega
    subst hge
    have fy := Nat.add_zero
    refine goR ?_ ?_ ?_ ?_ ?_ ?_ ?_ ?_ ?_ ?_ ?_ ?_ ?_ ?_ ?_ ?_
    any_goals (first | exact True.intro | skip)
    all_goals (repeat (refine Wh.mk fun hcc => ?_))
    refine SW.ret (show RetQ _ _ _ _ _ _ _ from ⟨.inr rfl, [.ref 1 0 0 l.length], [1], [.ow 1 (l.map Enc.o)], [[], [.gone]], ⟨rfl, ?_, rfl, ?_, rfl, rfl⟩⟩)
    · simp [pass1, modeOf, giveS, Heap.at, Heap.put, fill_all, fixEs, ioAt, ioAtT, ioKs, ioKT, ioM, ioT, T.cel, T.clo, T.cloA, cloAL]
    · simp [cloL, T.clo, T.clP, clPL]
theorem laws_toObj_ok (x : (Int × (List Int) × (List Int) × Unit)) (hx : Enc.lim 1048576 x) : CallR Try.prog 131 [.nd [.int .i64 x.1, .sl .b (x.2.1.map Enc.b), .sl .b (x.2.2.1.map Enc.b)]] [] (.nd [.int .i64 x.1, .ow 1 (x.2.1.map Enc.o), .ow 1 (x.2.2.1.map Enc.o)]) := by
  refine CallR.of_body (n := 16) (rs := [.cell 2 36]) hY.ok Try.func131 rfl (by decide) rfl rfl rfl rfl (fun F => ?_)
  have fx := And.intro Y1 (And.intro Y2 (And.intro Y3 (And.intro Y34 (And.intro Y36 (Y77)))))
  have hC1 := cx [] (laws_toIntS_ok x.2.1 hx.2.1)
  have hC2 := cx [] (laws_toIntS_ok x.2.2.1 hx.2.2.1)
  have fy := Nat.add_zero
  refine goR ?_ ?_ ?_ ?_ ?_ ?_ ?_ ?_ ?_ ?_ ?_ ?_ ?_ ?_ ?_ ?_
  any_goals (first | exact True.intro | skip)
  all_goals (repeat (refine Wh.mk fun hcc => ?_))
  refine SW.ret (show RetQ _ _ _ _ _ _ _ from ⟨.inr rfl, _, [0], [.nd [.int .i64 x.1, .ow 1 (x.2.1.map Enc.o), .ow 1 (x.2.2.1.map Enc.o)]], ?_, ⟨rfl, ?_, rfl, ?_, rfl, rfl⟩⟩)
  rotate_left
  · first | rfl | (simp [pass1, modeOf, giveS, giveSL, Heap.at, Heap.put, fixEs, ioAt, ioAtT, ioKs, ioKT, ioM, ioT, T.cel, T.clo, cloL, T.cloA, cloAL]; rfl)
  · first | rfl | simp [cloL, T.clo, T.clP, clPL]
theorem laws_toSlot_ok (x : (Bool × ((Int × (List Int) × (List Int) × Unit)) × Unit)) (hx : Enc.lim 1048576 x) : CallR Try.prog 65 [.nd [.bool x.1, .nd [.int .i64 x.2.1.1, .sl .b (x.2.1.2.1.map Enc.b), .sl .b (x.2.1.2.2.1.map Enc.b)]]] [] (.nd [.bool x.1, .nd [.int .i64 x.2.1.1, .ow 1 (x.2.1.2.1.map Enc.o), .ow 1 (x.2.1.2.2.1.map Enc.o)]]) := by
  refine CallR.of_body (n := 12) (rs := [.cell 2 38]) hY.ok Try.func65 rfl (by decide) rfl rfl rfl rfl (fun F => ?_)
  have fx := And.intro Y1 (And.intro Y3 (And.intro Y4 (And.intro Y34 (And.intro Y36 (And.intro Y38 (And.intro Y77 (Y79)))))))
  have hC1 := cx [] (laws_toObj_ok x.2.1 hx.2.1)
  have fy := Nat.add_zero
  refine goR ?_ ?_ ?_ ?_ ?_ ?_ ?_ ?_ ?_ ?_ ?_ ?_ ?_ ?_ ?_ ?_
  any_goals (first | exact True.intro | skip)
  all_goals (repeat (refine Wh.mk fun hcc => ?_))
  refine SW.ret (show RetQ _ _ _ _ _ _ _ from ⟨.inr rfl, _, [0], [.nd [.bool x.1, .nd [.int .i64 x.2.1.1, .ow 1 (x.2.1.2.1.map Enc.o), .ow 1 (x.2.1.2.2.1.map Enc.o)]]], ?_, ⟨rfl, ?_, rfl, ?_, rfl, rfl⟩⟩)
  rotate_left
  · first | rfl | (simp [pass1, modeOf, giveS, giveSL, Heap.at, Heap.put, fixEs, ioAt, ioAtT, ioKs, ioKT, ioM, ioT, T.cel, T.clo, cloL, T.cloA, cloAL]; rfl)
  · first | rfl | simp [cloL, T.clo, T.clP, clPL]
theorem laws_toSlotS_ok (l : List ((Bool × ((Int × (List Int) × (List Int) × Unit)) × Unit))) (hl : Enc.lim 1048576 l) : CallR Try.prog 13 [.sl .b (l.map Enc.b)] [] (.ow 4 (l.map Enc.o)) := by
  refine CallR.of_body (n := 23) (rs := [.tmp 2]) hY.ok Try.func13 rfl (by decide) rfl rfl rfl rfl (fun F => ?_)
  have fx := And.intro Y3 (And.intro Y4 (And.intro Y22 (And.intro Y26 (And.intro Y34 (And.intro Y36 (And.intro Y38 (And.intro Y77 (Y79))))))))
  have hl1 : l.length ≤ 1048576 := hl.1
  have fy := (fun u1 => mk_fill u1 26 l hl.1 (.nd [.bool false, .nd [.int .i64 0, .nils 1, .nils 1]]) 4 64 _ Y26 Y38 rfl rfl (by decide))
  refine goN ?_ ?_ ?_ ?_ ?_ ?_ ?_ ?_ ?_ ?_ ?_ ?_ ?_ ?_ ?_ ?_
  any_goals (first | exact True.intro | skip)
  skip
  refine SW.loop (fun i : Nat => ⟨[.sl .b (l.map Enc.b), .undef, .undef, .ref 1 0 0 l.length, .int .i64 i, .undef, .undef, .undef, .undef, .undef, .undef, .undef, .undef, .undef, .undef, .undef, .undef, .undef, .undef, .undef, .undef, .undef, .undef], [[], [.arr 4 (fillG (.nd [.bool false, .nd [.int .i64 0, .nils 1, .nils 1]]) l i) false]]⟩)
    (fun n i => n = l.length - i ∧ i ≤ l.length) (n := l.length) (x := 0) (Norm.to 0 rfl (by simp [weakL])) ⟨rfl, Nat.zero_le _⟩ ?_
  rintro n i ⟨hn, hi⟩
  have fy := Nat.add_zero
  refine goS ?_
  refine SW.cond rfl (fun hc => ?_) (fun hc => ?_)
  · have hlt : i < l.length := by simpa using hc
    have hltI : (i : Int) < (l.length : Int) := by omega
    have hg : (l.map Enc.b)[i]? = some (.nd [.bool l[i].1, .nd [.int .i64 l[i].2.1.1, .sl .b (l[i].2.1.2.1.map Enc.b), .sl .b (l[i].2.1.2.2.1.map Enc.b)]]) := map_get Enc.b l i hlt
    have hf : (fillG (.nd [.bool false, .nd [.int .i64 0, .nils 1, .nils 1]]) l i)[i]? = some (.nd [.bool false, .nd [.int .i64 0, .nils 1, .nils 1]]) := fill_get _ l i hlt
    have hfl : (fillG (.nd [.bool false, .nd [.int .i64 0, .nils 1, .nils 1]]) l i).length = l.length := fill_len _ l i hi
    have hC1 := cx [] (laws_toSlot_ok l[i] (hl.2 _ (List.getElem_mem hlt)))
    have fy := And.intro hg (And.intro hf (And.intro hfl (And.intro hltI (Nat.zero_add))))
    refine goR ?_ ?_ ?_ ?_ ?_ ?_ ?_ ?_ ?_ ?_ ?_ ?_ ?_ ?_ ?_ ?_
    any_goals (first | exact True.intro | skip)
    all_goals (repeat (refine Wh.mk fun hcc => ?_))
    refine ⟨n - 1, i + 1, by omega, ⟨by omega, by omega⟩, ?_⟩
    rw [wrap64 _ (by omega) (by omega)]
    refine Norm.trans (Norm.fill (l := l) 1 0 rfl hlt (by first | rfl | (simp [soakS, soakL, Heap.at, Heap.put]; rfl))) ?_
    refine Norm.re [0, 1] (by decide) rfl ?_ (by simp [tmFits, T.ren])
    first | (simp [heapFits, rowFits, obFits, soakS, soakL, Heap.at, Heap.put]; exact renL_fill _ _ _ _ rfl) | exact ⟨trivial, ⟨rfl, rfl, renL_fill _ _ _ _ rfl⟩, trivial⟩
  · have hge : i = l.length := by
      have : ¬ i < l.length := by simpa using hc
      omega
    subst hge
    have fy := Nat.add_zero
    refine goR ?_ ?_ ?_ ?_ ?_ ?_ ?_ ?_ ?_ ?_ ?_ ?_ ?_ ?_ ?_ ?_
    any_goals (first | exact True.intro | skip)
    all_goals (repeat (refine Wh.mk fun hcc => ?_))
    refine SW.ret (show RetQ _ _ _ _ _ _ _ from ⟨.inr rfl, [.ref 1 0 0 l.length], [4], [.ow 4 (l.map Enc.o)], [[], [.gone]], ⟨rfl, ?_, rfl, ?_, rfl, rfl⟩⟩)
    · simp [pass1, modeOf, giveS, Heap.at, Heap.put, fill_all, fixEs, ioAt, ioAtT, ioKs, ioKT, ioM, ioT, T.cel, T.clo, T.cloA, cloAL]
    · simp [cloL, T.clo, T.clP, clPL]
end Q6
