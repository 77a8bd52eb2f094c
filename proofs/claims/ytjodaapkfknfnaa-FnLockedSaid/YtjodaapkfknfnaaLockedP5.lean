/- For every code, the law FnLocked of the drawn locks returns true: a lock that a drawn transaction got it has; where others have what does not go with it, it waits; locks stay right. -/
import Derived.Test.YtjodaapkfknfnaaLockedP1
import Derived.Test.YtjodaapkfknfnaaLockedP4
import Derived.Test.YtjodaapkfknfnaaLockedV5
import Derived.Test.YtjodaapkfknfnaaRows
import Derived.ProofKit
set_option linter.all false

namespace Q6
open Go Go.Vm Go.Proofs
set_option maxHeartbeats 4000000
set_option synthInstance.maxSize 2000
set_option synthInstance.maxHeartbeats 400000
set_option maxRecDepth 10000
set_option linter.unusedSimpArgs false
set_option linter.unusedVariables false

open Qlk

theorem ask_cases (A B : List GrT) (g : GrT) : askF (A, B, ()) g = ((A, B ++ [g], ()), 1) ∨ ∃ A' : List GrT, A'.length ≤ A.length + 1 ∧ askF (A, B, ()) g = ((A', B, ()), 0) := by
  unfold askF
  split
  · exact .inr ⟨A, by omega, rfl⟩
  · split
    · exact .inr ⟨giveF A g (wouldF A g), give_len, rfl⟩
    · exact .inl rfl
def lst (g : GrT) (A : List GrT) (i : Nat) : Int := lastF (A.take i) g
theorem lst_zero (g : GrT) (A : List GrT) : lst g A 0 = 0 := rfl
theorem lst_succ (g : GrT) {A : List GrT} {i : Nat} (h : i < A.length) : lst g A (i + 1) = if isG g A[i] = true then A[i].2.2.1 else lst g A i := by
  unfold lst lastF
  rw [List.take_succ_eq_append_getElem h, List.foldl_append]; rfl
theorem lst_all (g : GrT) (A : List GrT) : lst g A A.length = lastF A g := by unfold lst; rw [List.take_length]

theorem lockedLaw_ok (l : List UInt8) : CallR Try.prog 5 [.sl .s (l.map Enc.b)] [] (.bool true) := by
  refine CallR.of_body (n := 139) (rs := [.tmp 2]) hY.ok Try.func5 rfl (by decide) rfl rfl rfl rfl (fun F => ?_)
  have fx := And.intro Y1 (And.intro Y2 (And.intro Y3 (And.intro Y4 (And.intro Y5 (And.intro Y22 (And.intro Y41 (And.intro Y43 (Y50))))))))
  have hbg := big_ok l
  by_cases hb : (1048576 : Int) < (l.length : Int)
  · rw [decide_eq_true hb] at hbg
    have hC1 := cx [.own 1] (hbg)
    have fy := Nat.add_zero
    refine goK ?_ ?_ ?_ ?_ ?_ ?_ ?_ ?_ ?_ ?_ ?_ ?_ ?_ ?_ ?_ ?_
    any_goals (first | exact True.intro | skip)
    all_goals (repeat (refine Wh.mk fun hcc => ?_))
    all_goals rfl
  rw [decide_eq_false hb] at hbg
  have hl1 : l.length ≤ 1048576 := by omega
  obtain ⟨A, B, g, hA, hB, hD⟩ := drawAskD l hl1
  have cI := iAsk_ok A B (by omega) (by omega) g
  have cS := sAsk_ok A B (by omega) (by omega) g
  by_cases hok : (lkB A B && (grB g && !wtB B g.1)) = true
  rotate_left
  · have e : askR A B g = ((A, B, ()), 2) := by unfold askR; rw [if_neg hok]
    rw [e] at cI cS
    simp only at cI cS
    have hC1 := cx [.own 1] (hbg)
    have hC2 := cx [.own 1] (hD)
    have hC3 := cx [] (cI)
    have hC4 := cx [] (cS)
    have fy := Nat.add_zero
    refine goK ?_ ?_ ?_ ?_ ?_ ?_ ?_ ?_ ?_ ?_ ?_ ?_ ?_ ?_ ?_ ?_
    any_goals (first | exact True.intro | skip)
    all_goals (repeat (refine Wh.mk fun hcc => ?_))
    all_goals rfl
  have e : askR A B g = askF (A, B, ()) g := by unfold askR; rw [if_pos hok]
  rw [e] at cI cS
  simp only [Bool.and_eq_true, Bool.not_eq_true'] at hok
  obtain ⟨k1, k2, k3⟩ := hok
  have hl := lkB_iff.1 k1
  have hwn : ∀ x ∈ B, x.1 ≠ g.1 := by
    unfold wtB at k3
    rw [List.any_eq_false] at k3
    intro x hx; have := k3 x hx; simpa using this
  have hN := ask_ok hl k2 hwn (by simp only; omega) (by simp only; omega)
  have hgot := ask_got hl k2
  rcases ask_cases A B g with e1 | ⟨A', hA', e1⟩
  · rw [e1] at cI cS hN hgot
    simp only at cI cS hN hgot
    have cK := iLocksOk_ok A (B ++ [g]) (by first | omega | (simp; omega)) (by first | omega | (simp; omega))
    rw [lkB_iff.2 hN] at cK
    have hLl := lst_all g A
    have hAl : A.length ≤ 40 := by omega
    generalize lastF A g = hs at *
    have hbl : (B ++ [g]).length = B.length + 1 := by simp
    have hgl : ((B ++ [g]).map Enc.o)[B.length]? = some (.nd [.int .i64 g.1, .int .i64 g.2.1, .int .i64 g.2.2.1]) := by rw [List.getElem?_map, List.getElem?_append_right (Nat.le_refl _)]; simp; rfl
    have hs1 : IntKind.i64.wrap ((B.length : Int) + 1) = (((B ++ [g]).length : Nat) : Int) := by rw [hbl, wrap64 _ (by omega) (by omega)]; omega
    have hs2 : IntKind.i64.wrap ((((B ++ [g]).length : Nat) : Int) - 1) = (B.length : Int) := by rw [hbl, wrap64 _ (by omega) (by omega)]; omega
    have hs3 : (B.length : Int) < (((B ++ [g]).length : Nat) : Int) := by rw [hbl]; omega
    generalize hBB : B ++ [g] = BB at *
    clear hgot hN
    have hC1 := cx [.own 1] (hbg)
    have hC2 := cx [.own 1] (hD)
    have hC3 := cx [] (cI)
    have hC4 := cx [] (cS)
    have hC5 := cx [] (cK)
    have fy := Nat.add_zero
    refine goR ?_ ?_ ?_ ?_ ?_ ?_ ?_ ?_ ?_ ?_ ?_ ?_ ?_ ?_ ?_ ?_
    any_goals (first | exact True.intro | skip)
    all_goals (repeat (refine Wh.mk fun hcc => ?_))
    refine SW.loop (fun i : Nat => ⟨[.undef, .undef, .undef, .ptr 2 0 [] 0, .int .i64 g.1, .int .i64 g.2.1, .int .i64 g.2.2.1, .ptr 4 0 [] 0, .int .i64 1, .undef, .undef, .int .i64 (lst g A i), .int .i64 (i : Nat), .undef, .undef, .undef, .undef, .undef, .undef, .undef, .undef, .undef, .undef, .undef, .undef, .undef, .undef, .undef, .undef, .undef, .undef, .undef, .undef, .undef, .undef, .undef, .undef, .undef, .undef, .undef, .undef, .undef, .undef, .undef, .undef, .undef, .undef, .undef, .undef, .undef, .undef, .undef, .undef, .undef, .undef, .undef, .undef, .undef, .undef, .undef, .undef, .undef, .undef, .undef, .undef, .undef, .undef, .undef, .undef, .undef, .undef, .undef, .undef, .undef, .undef, .undef, .undef, .undef, .undef, .undef, .undef, .undef, .undef, .undef, .undef, .undef, .undef, .undef, .undef, .undef, .undef, .undef, .undef, .undef, .undef, .undef, .undef, .undef, .undef, .undef, .undef, .undef, .undef, .undef, .undef, .undef, .undef, .undef, .undef, .undef, .undef, .undef, .undef, .undef, .undef, .undef, .undef, .undef, .undef, .undef, .undef, .undef, .undef, .undef, .undef, .undef, .undef, .undef, .undef, .undef, .undef, .undef, .undef, .undef, .undef, .undef, .undef, .undef, .undef], [[], [.arr 3 (A.map Enc.o) false, .arr 3 (B.map Enc.o) false], [.var (.nd [.ref 1 0 0 A.length, .ref 1 1 0 B.length])], [.arr 3 (A.map Enc.o) false, .arr 3 (BB.map Enc.o) false], [.var (.nd [.ref 3 0 0 A.length, .ref 3 1 0 BB.length])]]⟩)
      (fun N i => N = A.length - i ∧ i ≤ A.length) (n := A.length) (x := 0) ?_ ⟨rfl, Nat.zero_le _⟩ ?_
    · rw [lst_zero]
      exact Norm.re [0, 2, 3, 4, 5] (by decide) rfl (by first | (simp only [eq_self, heapFits, rowFits, obFits, List.getElem?_cons_zero, List.getElem?_cons_succ, renL_o, renL_b, true_and, and_true, and_self]; done) | simp [-List.map_set, -List.map_append, heapFits, rowFits, obFits, T.ren, renL]) (by simp [tmFits, T.ren, renL])
    rintro N i ⟨hN2, hi⟩
    have fy := Nat.add_zero
    refine goS ?_
    refine SW.cond rfl (fun hc => ?_) (fun hc => ?_)
    · have hlt : i < A.length := by simp at hc; omega
      have hltI : (i : Int) < (A.length : Int) := by omega
      have hg : (A.map Enc.o)[i]? = some (.nd [.int .i64 A[i].1, .int .i64 A[i].2.1, .int .i64 A[i].2.2.1]) := map_get Enc.o A i hlt
      have hS := lst_succ g hlt
      have hwi : IntKind.i64.wrap ((i : Int) + 1) = ((i + 1 : Nat) : Int) := by rw [wrap64 _ (by omega) (by omega)]; omega
      have hI : isG g A[i] = (decide (A[i].1 = g.1) && decide (A[i].2.1 = g.2.1)) := rfl
      have q1 : (A[i].1 == g.1) = decide (A[i].1 = g.1) := rfl
      have q2 : (A[i].2.1 == g.2.1) = decide (A[i].2.1 = g.2.1) := rfl
      generalize decide (A[i].1 = g.1) = b1 at *
      generalize decide (A[i].2.1 = g.2.1) = b2 at *
      generalize lst g A i = o at *
      cases b1
      · skip
        rw [if_neg (by simp [hI])] at hS
        have fy := And.intro hg (And.intro hltI (And.intro hwi (And.intro q1 (q2))))
        refine goR ?_ ?_ ?_ ?_ ?_ ?_ ?_ ?_ ?_ ?_ ?_ ?_ ?_ ?_ ?_ ?_
        any_goals (first | exact True.intro | skip)
        all_goals (repeat (refine Wh.mk fun hcc => ?_))
        refine ⟨N - 1, i + 1, by omega, ⟨by omega, by omega⟩, ?_⟩
        rw [hS]
        exact Norm.re [0, 1, 2, 3, 4] (by decide) rfl (by first | (simp only [eq_self, heapFits, rowFits, obFits, List.getElem?_cons_zero, List.getElem?_cons_succ, renL_o, renL_b, true_and, and_true, and_self]; done) | simp [-List.map_set, -List.map_append, heapFits, rowFits, obFits, T.ren, renL]) (by simp [tmFits, T.ren, renL])
      · cases b2
        · skip
          rw [if_neg (by simp [hI])] at hS
          have fy := And.intro hg (And.intro hltI (And.intro hwi (And.intro q1 (q2))))
          refine goR ?_ ?_ ?_ ?_ ?_ ?_ ?_ ?_ ?_ ?_ ?_ ?_ ?_ ?_ ?_ ?_
          any_goals (first | exact True.intro | skip)
          all_goals (repeat (refine Wh.mk fun hcc => ?_))
          refine ⟨N - 1, i + 1, by omega, ⟨by omega, by omega⟩, ?_⟩
          rw [hS]
          exact Norm.re [0, 1, 2, 3, 4] (by decide) rfl (by first | (simp only [eq_self, heapFits, rowFits, obFits, List.getElem?_cons_zero, List.getElem?_cons_succ, renL_o, renL_b, true_and, and_true, and_self]; done) | simp [-List.map_set, -List.map_append, heapFits, rowFits, obFits, T.ren, renL]) (by simp [tmFits, T.ren, renL])
        · skip
          rw [if_pos (by simp [hI])] at hS
          have fy := And.intro hg (And.intro hltI (And.intro hwi (And.intro q1 (q2))))
          refine goR ?_ ?_ ?_ ?_ ?_ ?_ ?_ ?_ ?_ ?_ ?_ ?_ ?_ ?_ ?_ ?_
          any_goals (first | exact True.intro | skip)
          all_goals (repeat (refine Wh.mk fun hcc => ?_))
          refine ⟨N - 1, i + 1, by omega, ⟨by omega, by omega⟩, ?_⟩
          rw [hS]
          exact Norm.re [0, 1, 2, 3, 4] (by decide) rfl (by first | (simp only [eq_self, heapFits, rowFits, obFits, List.getElem?_cons_zero, List.getElem?_cons_succ, renL_o, renL_b, true_and, and_true, and_self]; done) | simp [-List.map_set, -List.map_append, heapFits, rowFits, obFits, T.ren, renL]) (by simp [tmFits, T.ren, renL])
    have hige : i = A.length := by
      have : ¬ i < A.length := by simp at hc; omega
      omega
    subst hige
    rw [hLl]
    have fy := And.intro hs1 (And.intro hs2 (And.intro hs3 (hgl)))
    refine goK ?_ ?_ ?_ ?_ ?_ ?_ ?_ ?_ ?_ ?_ ?_ ?_ ?_ ?_ ?_ ?_
    any_goals (first | exact True.intro | skip)
    all_goals (repeat (refine Wh.mk fun hcc => ?_))
    all_goals rfl
  · rw [e1] at cI cS hN hgot
    simp only at cI cS hN hgot
    have cK := iLocksOk_ok A' B (by first | omega | (simp; omega)) (by first | omega | (simp; omega))
    rw [lkB_iff.2 hN] at cK
    have hLl := lst_all g A'
    have hAl : A'.length ≤ 40 := by omega
    obtain ⟨g1, g2, g3⟩ := hgot trivial hN
    have cA := iAsk_ok A' B (by omega) (by omega) g
    have e2 : askR A' B g = ((A', B, ()), 0) := by unfold askR; rw [if_pos (by rw [lkB_iff.2 hN, k2, k3]; rfl)]; exact g3
    rw [e2] at cA
    simp only at cA
    have cB := iBoth_ok (lastF A' g) g.2.2.1
    rw [g2] at cB
    generalize lastF A' g = hs at *
    have hp : decide (hs > 0) = true := by simp; omega
    clear g2 g3 e2
    have hC1 := cx [.own 1] (hbg)
    have hC2 := cx [.own 1] (hD)
    have hC3 := cx [] (cI)
    have hC4 := cx [] (cS)
    have hC5 := cx [] (cK)
    have fy := Nat.add_zero
    refine goR ?_ ?_ ?_ ?_ ?_ ?_ ?_ ?_ ?_ ?_ ?_ ?_ ?_ ?_ ?_ ?_
    any_goals (first | exact True.intro | skip)
    all_goals (repeat (refine Wh.mk fun hcc => ?_))
    refine SW.loop (fun i : Nat => ⟨[.undef, .undef, .undef, .ptr 2 0 [] 0, .int .i64 g.1, .int .i64 g.2.1, .int .i64 g.2.2.1, .ptr 4 0 [] 0, .int .i64 0, .undef, .undef, .int .i64 (lst g A' i), .int .i64 (i : Nat), .undef, .undef, .undef, .undef, .undef, .undef, .undef, .undef, .undef, .undef, .undef, .undef, .undef, .undef, .undef, .undef, .undef, .undef, .undef, .undef, .undef, .undef, .undef, .undef, .undef, .undef, .undef, .undef, .undef, .undef, .undef, .undef, .undef, .undef, .undef, .undef, .undef, .undef, .undef, .undef, .undef, .undef, .undef, .undef, .undef, .undef, .undef, .undef, .undef, .undef, .undef, .undef, .undef, .undef, .undef, .undef, .undef, .undef, .undef, .undef, .undef, .undef, .undef, .undef, .undef, .undef, .undef, .undef, .undef, .undef, .undef, .undef, .undef, .undef, .undef, .undef, .undef, .undef, .undef, .undef, .undef, .undef, .undef, .undef, .undef, .undef, .undef, .undef, .undef, .undef, .undef, .undef, .undef, .undef, .undef, .undef, .undef, .undef, .undef, .undef, .undef, .undef, .undef, .undef, .undef, .undef, .undef, .undef, .undef, .undef, .undef, .undef, .undef, .undef, .undef, .undef, .undef, .undef, .undef, .undef, .undef, .undef, .undef, .undef, .undef, .undef], [[], [.arr 3 (A.map Enc.o) false, .arr 3 (B.map Enc.o) false], [.var (.nd [.ref 1 0 0 A.length, .ref 1 1 0 B.length])], [.arr 3 (A'.map Enc.o) false, .arr 3 (B.map Enc.o) false], [.var (.nd [.ref 3 0 0 A'.length, .ref 3 1 0 B.length])]]⟩)
      (fun N i => N = A'.length - i ∧ i ≤ A'.length) (n := A'.length) (x := 0) ?_ ⟨rfl, Nat.zero_le _⟩ ?_
    · rw [lst_zero]
      exact Norm.re [0, 2, 3, 4, 5] (by decide) rfl (by first | (simp only [eq_self, heapFits, rowFits, obFits, List.getElem?_cons_zero, List.getElem?_cons_succ, renL_o, renL_b, true_and, and_true, and_self]; done) | simp [-List.map_set, -List.map_append, heapFits, rowFits, obFits, T.ren, renL]) (by simp [tmFits, T.ren, renL])
    rintro N i ⟨hN2, hi⟩
    have fy := Nat.add_zero
    refine goS ?_
    refine SW.cond rfl (fun hc => ?_) (fun hc => ?_)
    · have hlt : i < A'.length := by simp at hc; omega
      have hltI : (i : Int) < (A'.length : Int) := by omega
      have hg : (A'.map Enc.o)[i]? = some (.nd [.int .i64 A'[i].1, .int .i64 A'[i].2.1, .int .i64 A'[i].2.2.1]) := map_get Enc.o A' i hlt
      have hS := lst_succ g hlt
      have hwi : IntKind.i64.wrap ((i : Int) + 1) = ((i + 1 : Nat) : Int) := by rw [wrap64 _ (by omega) (by omega)]; omega
      have hI : isG g A'[i] = (decide (A'[i].1 = g.1) && decide (A'[i].2.1 = g.2.1)) := rfl
      have q1 : (A'[i].1 == g.1) = decide (A'[i].1 = g.1) := rfl
      have q2 : (A'[i].2.1 == g.2.1) = decide (A'[i].2.1 = g.2.1) := rfl
      generalize decide (A'[i].1 = g.1) = b1 at *
      generalize decide (A'[i].2.1 = g.2.1) = b2 at *
      generalize lst g A' i = o at *
      cases b1
      · skip
        rw [if_neg (by simp [hI])] at hS
        have fy := And.intro hg (And.intro hltI (And.intro hwi (And.intro q1 (q2))))
        refine goR ?_ ?_ ?_ ?_ ?_ ?_ ?_ ?_ ?_ ?_ ?_ ?_ ?_ ?_ ?_ ?_
        any_goals (first | exact True.intro | skip)
        all_goals (repeat (refine Wh.mk fun hcc => ?_))
        refine ⟨N - 1, i + 1, by omega, ⟨by omega, by omega⟩, ?_⟩
        rw [hS]
        exact Norm.re [0, 1, 2, 3, 4] (by decide) rfl (by first | (simp only [eq_self, heapFits, rowFits, obFits, List.getElem?_cons_zero, List.getElem?_cons_succ, renL_o, renL_b, true_and, and_true, and_self]; done) | simp [-List.map_set, -List.map_append, heapFits, rowFits, obFits, T.ren, renL]) (by simp [tmFits, T.ren, renL])
      · cases b2
        · skip
          rw [if_neg (by simp [hI])] at hS
          have fy := And.intro hg (And.intro hltI (And.intro hwi (And.intro q1 (q2))))
          refine goR ?_ ?_ ?_ ?_ ?_ ?_ ?_ ?_ ?_ ?_ ?_ ?_ ?_ ?_ ?_ ?_
          any_goals (first | exact True.intro | skip)
          all_goals (repeat (refine Wh.mk fun hcc => ?_))
          refine ⟨N - 1, i + 1, by omega, ⟨by omega, by omega⟩, ?_⟩
          rw [hS]
          exact Norm.re [0, 1, 2, 3, 4] (by decide) rfl (by first | (simp only [eq_self, heapFits, rowFits, obFits, List.getElem?_cons_zero, List.getElem?_cons_succ, renL_o, renL_b, true_and, and_true, and_self]; done) | simp [-List.map_set, -List.map_append, heapFits, rowFits, obFits, T.ren, renL]) (by simp [tmFits, T.ren, renL])
        · skip
          rw [if_pos (by simp [hI])] at hS
          have fy := And.intro hg (And.intro hltI (And.intro hwi (And.intro q1 (q2))))
          refine goR ?_ ?_ ?_ ?_ ?_ ?_ ?_ ?_ ?_ ?_ ?_ ?_ ?_ ?_ ?_ ?_
          any_goals (first | exact True.intro | skip)
          all_goals (repeat (refine Wh.mk fun hcc => ?_))
          refine ⟨N - 1, i + 1, by omega, ⟨by omega, by omega⟩, ?_⟩
          rw [hS]
          exact Norm.re [0, 1, 2, 3, 4] (by decide) rfl (by first | (simp only [eq_self, heapFits, rowFits, obFits, List.getElem?_cons_zero, List.getElem?_cons_succ, renL_o, renL_b, true_and, and_true, and_self]; done) | simp [-List.map_set, -List.map_append, heapFits, rowFits, obFits, T.ren, renL]) (by simp [tmFits, T.ren, renL])
    have hige : i = A'.length := by
      have : ¬ i < A'.length := by simp at hc; omega
      omega
    subst hige
    rw [hLl]
    have hC1 := cx [] (cA)
    have hC2 := cx [] (cB)
    have fy := hp
    refine goK ?_ ?_ ?_ ?_ ?_ ?_ ?_ ?_ ?_ ?_ ?_ ?_ ?_ ?_ ?_ ?_
    any_goals (first | exact True.intro | skip)
    all_goals (repeat (refine Wh.mk fun hcc => ?_))
    all_goals rfl
end Q6

namespace Q6.Lckd
open Go Go.Vm Go.Proofs
set_option maxHeartbeats 4000000
set_option synthInstance.maxSize 2000
set_option synthInstance.maxHeartbeats 400000
set_option maxRecDepth 10000
set_option linter.unusedSimpArgs false
set_option linter.unusedVariables false

open Go.Proofs.Ytjodaapkfknfnaa
open Go.ChangeShapes Go.WideShapes Go.ChangeAt Go.RowKit
theorem own : ownKnob Try.prog.godebug = none := by kernel_rfl
theorem laidOut : laidOutB Try.prog = true := by kernel_rfl
theorem plain22 : plainT Y 12 22 = true := by kernel_rfl

set_option maxRecDepth 100000 in
theorem lifted (os : Os) (started : os.Started) (H : Type) (enc : TypeId × Value → H) :
    ReturnsInHanded {} Try.checked os 5 .any (Rows.fnLockedSpec.pre6 enc Try.prog Try.f5 Rows.fnLockedRow.domain false) (Rows.fnLockedSpec.post enc Try.prog Try.f5 false true false false) := by
  refine returnsInHanded_of_change (C := Try.checked) own started (by kernel_rfl) Try.func5
    (ChangeSpec.witness6 (enc := enc) (C := Try.checked) false ⟨#[], #[.slice none 0 0], []⟩ 8 (by kernel_rfl) (by kernel_rfl) (by kernel_rfl) (by kernel_rfl)) ?_
  intro W base args ds gs before hval0 hW hcnd _
  have hval : ∀ (j : Nat) t v, Try.f5.params[j]? = some t → args[j]? = some v → Value.okWide Try.prog W .any base t v := hval0
  have hW' := hW
  obtain ⟨p, q, hA0, hV, rfl, _, _⟩ := hW
  have hA : DataW.TrodAll enc Try.prog W 0 (fun _ => true) true Try.f5.params.toList args.toList ds p := hA0
  have hV' : DataW.TrodVars enc Try.prog W (fun _ => true) [] gs q := hV
  obtain ⟨rfl, rfl⟩ := trodVars_none hV'
  rw [Try.params5] at hA hval
  have one := trodAll_one hA
  refine (calls_ofS hY 12 (by simp [plain22]) hA (fun j t v h1 h2 => hval j t v (by simpa using h1) (by simpa using h2)) ?_).mono ?_
  · intro us hu ht
    match us, hu with
    | [u0], _ =>
      obtain ⟨x0, rfl, hx0⟩ := Enc.dec (α := List UInt8) Y 12 22 u0 (by kernel_rfl) (ht 0 22 u0 rfl rfl)
      exact lockedLaw_ok x0
  · rintro e W' ⟨rfl, h1, h2⟩
    obtain ⟨v, d, _, rfl, _⟩ := one
    exact ⟨_, rfl, post_true (tb := 4) laidOut (by rw [Try.params5]; exact of_decide_eq_true (by kernel_rfl)) rfl hW' rfl rfl rfl rfl (by kernel_rfl) h1 h2⟩

theorem fnLocked_holds : Rows.FnLockedSaid :=
  OpenClaim.holds_of_wide 5 Try.f5 rfl rfl rfl rfl rfl rfl rfl ⟨rfl, rfl, rfl, rfl, rfl⟩ rfl rfl rfl rfl rfl (by kernel_rfl) Try.func5 (by kernel_rfl)
    (of_decide_eq_true (by kernel_rfl)) (by unfold Func.isWrapper; first | (rw [if_pos (by decide +kernel)]; kernel_rfl) | (rw [if_neg (by decide +kernel)]; exact ⟨rfl, rfl⟩))
    (fun os started H enc _ => lifted os started H enc)
end Q6.Lckd

namespace Go.Proofs.Ytjodaapkfknfnaa
/-- For every code, the law FnLocked of the drawn locks returns true: a lock that a drawn transaction got it has; where others have what does not go with it, it waits; locks stay right. -/
theorem fnLocked_holds : Rows.FnLockedSaid := Q6.Lckd.fnLocked_holds
#print axioms fnLocked_holds
end Go.Proofs.Ytjodaapkfknfnaa
