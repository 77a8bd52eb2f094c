/- For all locks and every transaction's number, the law FnExactDropAll returns true: the program's DropAll returns what the reference's DropAll returns. -/
import Derived.Test.YtjodaapkfknfnaaXDropAllP1
import Derived.Test.YtjodaapkfknfnaaXDropAllP2
import Derived.Test.YtjodaapkfknfnaaXDropAllV5
import Derived.Test.YtjodaapkfknfnaaXDropAllV2
import Derived.Test.YtjodaapkfknfnaaXDropAllV4
import Derived.Test.YtjodaapkfknfnaaRows
import Derived.ProofKit
set_option linter.all false

namespace Q6
open Go Go.Vm Go.Proofs
set_option maxHeartbeats 4000000
set_option synthInstance.maxSize 2000
set_option synthInstance.maxHeartbeats 400000
set_option maxRecDepth 10000
set_option linter.unusedSimpArgs false
set_option linter.unusedVariables false

open Qlk

theorem openL (tm : List T) (G W ws : List GrT) (wk : List Int) : Norm ⟨tm, [[.var (.nd [.ow 3 ((G).map Enc.o), .ow 3 ((W).map Enc.o)]), .gone, .gone], [.arr 3 ((ws).map Enc.o) false], [.arr 1 ((wk).map Enc.o) false]]⟩ ⟨tm, [[.var (.nd [.ref 3 0 0 (G).length, .ref 3 1 0 (W).length]), .gone, .gone], [.arr 3 ((ws).map Enc.o) false], [.arr 1 ((wk).map Enc.o) false], [.arr 3 ((G).map Enc.o) false, .arr 3 ((W).map Enc.o) false]]⟩ := by
  have h := Norm.expelVar (tm := tm) (H := [[.var (.nd [.ow 3 ((G).map Enc.o), .ow 3 ((W).map Enc.o)]), .gone, .gone], [.arr 3 ((ws).map Enc.o) false], [.arr 1 ((wk).map Enc.o) false]]) 0 0 rfl
  simp only [thawA, thawAL, Heap.put, List.getElem?_cons_zero, List.getElem?_cons_succ, List.set_cons_zero, List.set_cons_succ, List.length_cons, List.length_nil, List.nil_append, List.cons_append, List.append_nil, Nat.zero_add, Nat.reduceAdd, List.length_map] at h
  exact h
theorem drop_step (s0 : DS) (ws : List GrT) (i : Nat) (h : i < ws.length) : (ws.take (i + 1)).foldl dropS s0 = dropS ((ws.take i).foldl dropS s0) ws[i] := by
  rw [List.take_succ_eq_append_getElem h, List.foldl_append]; rfl

theorem sDrop_ok (G W : List GrT) (hl : LkOk (G, W, ())) (tx : Int) : CallR Try.prog 85 [.io (.nd [.ow 3 (G.map Enc.o), .ow 3 (W.map Enc.o)]), .int .i64 tx] [.nd [.ow 3 ((dropR (G, W, ()) tx).1.map Enc.o), .ow 3 ((dropR (G, W, ()) tx).2.1.map Enc.o)]] (.ow 1 ((dropR (G, W, ()) tx).2.2.map Enc.o)) := by
  refine CallR.of_body (n := 81) (rs := [.tmp 4]) hY.ok Try.func85 rfl (by decide) rfl rfl rfl rfl (fun F => ?_)
  have fx := And.intro Y1 (And.intro Y3 (And.intro Y4 (And.intro Y27 (And.intro Y41 (And.intro Y43 (And.intro Y50 (Y131)))))))
  have hG := hl.gl
  have hW := hl.wl
  simp only at hG hW
  have c1 := without_ok G (by omega) tx
  have c2 := without_ok W (by omega) tx
  have hD := DI.init hl tx
  unfold dropR
  simp only at hD ⊢
  have hwl : (W.filter (notTx tx)).length ≤ 60 := by have := List.length_filter_le (notTx tx) W; omega
  generalize W.filter (notTx tx) = ws at *
  generalize hs0 : ((G.filter (notTx tx), ([] : List GrT), ([] : List Int)) : DS) = s0 at *
  have e1 : G.filter (notTx tx) = s0.1 := by rw [← hs0]
  have e2 : ([] : List GrT) = s0.2.1 := by rw [← hs0]
  have e3 : ([] : List Int) = s0.2.2 := by rw [← hs0]
  rw [e1] at c1
  have hC1 := cx [] (c1)
  have hC2 := cx [] (c2)
  have fy := And.intro bs0_41 (bs0_27)
  have hD1 := dx 13 [7, 1, 3] [(4, 1)]
  refine goN ?_ ?_ ?_ ?_ ?_ ?_ ?_ ?_ ?_ ?_ ?_ ?_ ?_ ?_ ?_ ?_
  any_goals (first | exact True.intro | skip)
  skip
  refine SW.loop (fun x : Nat × DS => ⟨[.ptr 0 0 [] 0, .undef, .undef, .undef, .undef, .ref 1 0 0 ws.length, .ref 2 0 0 x.2.2.2.length, .int .i64 (x.1 : Nat), .undef, .undef, .undef, .undef, .undef, .undef, .undef, .undef, .undef, .undef, .undef, .undef, .undef, .undef, .undef, .undef, .undef, .undef, .undef, .undef, .undef, .undef, .undef, .undef, .undef, .undef, .undef, .undef, .undef, .undef, .undef, .undef, .undef, .undef, .undef, .undef, .undef, .undef, .undef, .undef, .undef, .undef, .undef, .undef, .undef, .undef, .undef, .undef, .undef, .undef, .undef, .undef, .undef, .undef, .undef, .undef, .undef, .undef, .undef, .undef, .undef, .undef, .undef, .undef, .undef, .undef, .undef, .undef, .undef, .undef, .undef, .undef, .undef], [[.var (.nd [.ref 3 0 0 (x.2.1).length, .ref 3 1 0 (x.2.2.1).length]), .gone, .gone], [.arr 3 ((ws).map Enc.o) false], [.arr 1 ((x.2.2.2).map Enc.o) false], [.arr 3 ((x.2.1).map Enc.o) false, .arr 3 ((x.2.2.1).map Enc.o) false]]⟩)
    (fun N x => N = ws.length - x.1 ∧ x.1 ≤ ws.length ∧ x.2 = (ws.take x.1).foldl dropS s0 ∧ DI tx (G.length + W.length) ws.length x.2 (ws.drop x.1)) (n := ws.length) (x := (0, s0)) ?_ ⟨rfl, Nat.zero_le _, rfl, hD⟩ ?_
  · refine Norm.trans (Norm.soakVar 0 0 rfl) ?_
    simp only [soakS, soakL, Heap.at, Heap.put, List.getElem?_cons_zero, List.getElem?_cons_succ, List.set_cons_zero, List.set_cons_succ, List.length_map, List.length_nil, and_self, if_true]
    refine Norm.trans ?_ (openL _ s0.1 s0.2.1 ws s0.2.2)
    rw [← e2, ← e3]
    exact Norm.re [0, 2, 4] (by decide) rfl (by first | (simp only [eq_self, heapFits, rowFits, obFits, List.getElem?_cons_zero, List.getElem?_cons_succ, renL_o, renL_b, true_and, and_true, and_self]; done) | simp [-List.map_set, -List.map_append, heapFits, rowFits, obFits, T.ren, renL]) (by simp [tmFits, T.ren, renL])
  clear hs0 e1 e2 e3 c1 c2 hD
  rintro N ⟨i, s⟩ ⟨hN, hi, hs, hd⟩
  simp only at hN hi hs hd ⊢
  have fy := Nat.add_zero
  refine goS ?_
  refine SW.cond rfl (fun hc => ?_) (fun hc => ?_)
  · have hlt : i < ws.length := by simp at hc; omega
    have hltI : (i : Int) < (ws.length : Int) := by omega
    have hg : (ws.map Enc.o)[i]? = some (.nd [.int .i64 ws[i].1, .int .i64 ws[i].2.1, .int .i64 ws[i].2.2.1]) := map_get Enc.o ws i hlt
    have hwi : IntKind.i64.wrap ((i : Int) + 1) = ((i + 1 : Nat) : Int) := by rw [wrap64 _ (by omega) (by omega)]; omega
    have hst := drop_step s0 ws i hlt
    rw [← hs] at hst
    rw [List.drop_eq_getElem_cons hlt] at hd
    have hd2 := hd.step
    have hn := hd.n
    have hk := hd.k
    simp only [List.length_cons] at hn hk
    have hgr := fun x hx => (hd.g x hx).1
    have hgg := (hd.t ws[i] List.mem_cons_self).1
    have cW := sWould_ok s.1 s.2.1 (by omega) hgr ws[i]
    have cF := sFits_ok s.1 s.2.1 (by omega) ws[i] (wouldF s.1 ws[i])
    have cR := sForRes_ok s.2.1 (by omega) ws[i].2.1
    have cG := sGive_ok s.1 s.2.1 (by omega) (by omega) ws[i] (wouldF s.1 ws[i])
    have hS : dropS s ws[i] = if (fitsF s.1 ws[i] (wouldF s.1 ws[i]) && !forRes s.2.1 ws[i].2.1) = true then (giveF s.1 ws[i] (wouldF s.1 ws[i]), s.2.1, s.2.2 ++ [ws[i].1]) else (s.1, s.2.1 ++ [ws[i]], s.2.2) := rfl
    generalize giveF s.1 ws[i] (wouldF s.1 ws[i]) = G2 at *
    generalize fitsF s.1 ws[i] (wouldF s.1 ws[i]) = b1 at *
    generalize forRes s.2.1 ws[i].2.1 = b2 at *
    generalize wouldF s.1 ws[i] = m at *
    generalize hgi : ws[i] = g at *
    generalize dropS s g = s2 at *
    obtain ⟨A, B, C⟩ := s
    simp only at *
    cases b1
    · skip
      rw [if_neg (by simp)] at hS
      have hap := fun (own e j e2 j2 : Nat) (H : Heap) (q1 : H.at e j = some (.arr 3 ((B).map Enc.o) false)) (q2 : H.at e2 j2 = some (.arr 3 [.nd [.int .i64 g.1, .int .i64 g.2.1, .int .i64 g.2.2.1]] false)) => append_runP (Y := Y) (own := own) (t := 41) (u := 41) (e := e) (j := j) (off := 0) (n := (B).length) (e2 := e2) (j2 := j2) (f := (B).map Enc.o) (l := B) (x := g) (H := H) Y41 Y41 Y50 rfl (by decide) q1 q2 (by rw [List.drop_zero]; exact take_map_len _ _) (by simp) (by omega) rfl rfl
      have hC1 := cx [] (cW)
      have hC2 := cx [] (cF)
      have fy := And.intro hg (And.intro hltI (And.intro hwi (And.intro bs1_41 (hap))))
      have hD1 := dx 13 [7, 1, 3] [(4, 1)]
      refine goR ?_ ?_ ?_ ?_ ?_ ?_ ?_ ?_ ?_ ?_ ?_ ?_ ?_ ?_ ?_ ?_
      any_goals (first | exact True.intro | skip)
      all_goals (repeat (refine Wh.mk fun hcc => ?_))
      refine ⟨N - 1, (i + 1, s2), by omega, ⟨by simp only; omega, by simp only; omega, hst.symm, hd2⟩, ?_⟩
      rw [hS]
      refine Norm.trans ?_ (openL _ A (B ++ [g]) ws C)
      refine Norm.trans (Norm.soakVar 0 0 rfl) ?_
      simp only [soakS, soakL, Heap.at, Heap.put, List.getElem?_cons_zero, List.getElem?_cons_succ, List.set_cons_zero, List.set_cons_succ, List.length_map, List.length_append, List.length_cons, List.length_nil, Nat.zero_add, and_self, if_true]
      exact Norm.re [0, 1, 2] (by decide) rfl (by first | (simp only [eq_self, heapFits, rowFits, obFits, List.getElem?_cons_zero, List.getElem?_cons_succ, renL_o, renL_b, true_and, and_true, and_self]; done) | simp [-List.map_set, -List.map_append, heapFits, rowFits, obFits, T.ren, renL]) (by simp [tmFits, T.ren, renL])
    · cases b2
      rotate_left
      · skip
        rw [if_neg (by simp)] at hS
        have hap := fun (own e j e2 j2 : Nat) (H : Heap) (q1 : H.at e j = some (.arr 3 ((B).map Enc.o) false)) (q2 : H.at e2 j2 = some (.arr 3 [.nd [.int .i64 g.1, .int .i64 g.2.1, .int .i64 g.2.2.1]] false)) => append_runP (Y := Y) (own := own) (t := 41) (u := 41) (e := e) (j := j) (off := 0) (n := (B).length) (e2 := e2) (j2 := j2) (f := (B).map Enc.o) (l := B) (x := g) (H := H) Y41 Y41 Y50 rfl (by decide) q1 q2 (by rw [List.drop_zero]; exact take_map_len _ _) (by simp) (by omega) rfl rfl
        have hC1 := cx [] (cW)
        have hC2 := cx [] (cF)
        have hC3 := cx [] (cR)
        have fy := And.intro hg (And.intro hltI (And.intro hwi (And.intro bs1_41 (hap))))
        have hD1 := dx 13 [7, 1, 3] [(4, 1)]
        refine goR ?_ ?_ ?_ ?_ ?_ ?_ ?_ ?_ ?_ ?_ ?_ ?_ ?_ ?_ ?_ ?_
        any_goals (first | exact True.intro | skip)
        all_goals (repeat (refine Wh.mk fun hcc => ?_))
        refine ⟨N - 1, (i + 1, s2), by omega, ⟨by simp only; omega, by simp only; omega, hst.symm, hd2⟩, ?_⟩
        rw [hS]
        refine Norm.trans ?_ (openL _ A (B ++ [g]) ws C)
        refine Norm.trans (Norm.soakVar 0 0 rfl) ?_
        simp only [soakS, soakL, Heap.at, Heap.put, List.getElem?_cons_zero, List.getElem?_cons_succ, List.set_cons_zero, List.set_cons_succ, List.length_map, List.length_append, List.length_cons, List.length_nil, Nat.zero_add, and_self, if_true]
        exact Norm.re [0, 1, 2] (by decide) rfl (by first | (simp only [eq_self, heapFits, rowFits, obFits, List.getElem?_cons_zero, List.getElem?_cons_succ, renL_o, renL_b, true_and, and_true, and_self]; done) | simp [-List.map_set, -List.map_append, heapFits, rowFits, obFits, T.ren, renL]) (by simp [tmFits, T.ren, renL])
      · rw [if_pos (by decide)] at hS
        have hap := fun (own e j e2 j2 : Nat) (H : Heap) (q1 : H.at e j = some (.arr 1 ((C).map Enc.o) false)) (q2 : H.at e2 j2 = some (.arr 1 [.int .i64 g.1] false)) => append_runP (Y := Y) (own := own) (t := 27) (u := 27) (e := e) (j := j) (off := 0) (n := (C).length) (e2 := e2) (j2 := j2) (f := (C).map Enc.o) (l := C) (x := g.1) (H := H) Y27 Y27 Y3 rfl (by decide) q1 q2 (by rw [List.drop_zero]; exact take_map_len _ _) (by simp) (by omega) rfl rfl
        have hC1 := cx [] (cW)
        have hC2 := cx [] (cF)
        have hC3 := cx [] (cR)
        have hC4 := cx [.io] (cG)
        have fy := And.intro hg (And.intro hltI (And.intro hwi (And.intro bs1_27 (hap))))
        have hD1 := dx 13 [7, 1, 3] [(4, 1)]
        refine goR ?_ ?_ ?_ ?_ ?_ ?_ ?_ ?_ ?_ ?_ ?_ ?_ ?_ ?_ ?_ ?_
        any_goals (first | exact True.intro | skip)
        all_goals (repeat (refine Wh.mk fun hcc => ?_))
        refine ⟨N - 1, (i + 1, s2), by omega, ⟨by simp only; omega, by simp only; omega, hst.symm, hd2⟩, ?_⟩
        rw [hS]
        refine Norm.trans ?_ (openL _ G2 B ws (C ++ [g.1]))
        simp only [List.length_append, List.length_cons, List.length_nil, Nat.zero_add]
        exact Norm.re [0, 1, 10] (by decide) rfl (by first | (simp only [eq_self, heapFits, rowFits, obFits, List.getElem?_cons_zero, List.getElem?_cons_succ, renL_o, renL_b, true_and, and_true, and_self]; done) | simp [-List.map_set, -List.map_append, heapFits, rowFits, obFits, T.ren, renL]) (by simp [tmFits, T.ren, renL])
  · have hige : i = ws.length := by
      have : ¬ i < ws.length := by simp at hc; omega
      omega
    subst hige
    rw [List.take_length] at hs
    rw [← hs]
    obtain ⟨A, B, C⟩ := s
    simp only at *
    have fy := Nat.add_zero
    have hD1 := dx 13 [7, 1, 3] [(4, 1)]
    refine goR ?_ ?_ ?_ ?_ ?_ ?_ ?_ ?_ ?_ ?_ ?_ ?_ ?_ ?_ ?_ ?_
    any_goals (first | exact True.intro | skip)
    all_goals (repeat (refine Wh.mk fun hcc => ?_))
    all_goals exact SW.ret (show RetQ _ _ _ _ _ _ _ from RetQ.y [1] [.ow 1 (C.map Enc.o)])
end Q6

namespace Q6
open Go Go.Vm Go.Proofs
set_option maxHeartbeats 4000000
set_option synthInstance.maxSize 2000
set_option synthInstance.maxHeartbeats 400000
set_option maxRecDepth 10000
set_option linter.unusedSimpArgs false
set_option linter.unusedVariables false

open Qlk

theorem filt_get {tx : Int} {l : List GrT} {j : Nat} (h : j < l.length) : (l.take (j + 1)).filter (notTx tx) = (l.take j).filter (notTx tx) ++ (if notTx tx l[j] = true then [l[j]] else []) := by
  rw [List.take_succ_eq_append_getElem h, List.filter_append]
  congr 1
  cases hb : notTx tx l[j] <;> simp [hb]

theorem delete_ok (tx : Int) (l : List GrT) (hl : l.length ≤ 1000) : CallR Try.prog 88 [.ow 3 (l.map Enc.o), .fn 87 [] [.fp (.int .i64 tx)]] [] (.ow 3 ((l.filter (notTx tx)).map Enc.o)) := by
  refine CallR.of_body (n := 42) (rs := [.tmp 4]) hY.ok Try.func88 rfl (by decide) rfl rfl rfl rfl (fun F => ?_)
  have fx := And.intro Y3 (And.intro Y4 (And.intro Y41 (And.intro Y50 (Y123))))
  have hI := idxD_ok tx l ⟨by omega, fun _ _ => ⟨trivial, trivial, trivial, trivial⟩⟩
  have hwN : IntKind.i64.wrap (-1) = -1 := rfl
  rcases idx_cases (fun x : GrT => decide (x.1 = tx)) l with ⟨i, hi, h1, h2, h3, h4⟩ | ⟨h1, h3⟩
  rotate_left
  · rw [h1] at hI
    have hf : l.filter (notTx tx) = l := by
      rw [List.filter_eq_self]; intro x hx
      rw [List.find?_eq_none] at h3
      unfold notTx; simpa using h3 x hx
    rw [hf]
    have hC1 := cx [] (hI)
    have fy := Nat.add_zero
    refine goR ?_ ?_ ?_ ?_ ?_ ?_ ?_ ?_ ?_ ?_ ?_ ?_ ?_ ?_ ?_ ?_
    any_goals (first | exact True.intro | skip)
    all_goals (repeat (refine Wh.mk fun hcc => ?_))
    all_goals exact SW.ret (show RetQ _ _ _ _ _ _ _ from RetQ.y [3] [.ow 3 (l.map Enc.o)])
  rw [h1] at hI
  have hne : ((i : Int) == -1) = false := by first | (simp; done) | (simp; omega)
  have hK0 : (l.take i).filter (notTx tx) = l.take i := by
    rw [List.filter_eq_self]; intro x hx
    obtain ⟨k, hk, rfl⟩ := List.mem_iff_getElem.1 hx
    have hk2 : k < i := by rw [List.length_take] at hk; omega
    rw [List.getElem_take]; unfold notTx; simpa using h4 k hk2
  have hK1 : (l.take (i + 1)).filter (notTx tx) = l.take i := by
    rw [filt_get hi, hK0]
    have : notTx tx l[i] = false := by unfold notTx; simpa using h2
    simp [this]
  have hwi : IntKind.i64.wrap ((i : Int) + 1) = ((i + 1 : Nat) : Int) := by rw [wrap64 _ (by omega) (by omega)]; omega
  have hC1 := cx [] (hI)
  have fy := And.intro hne (hwi)
  refine goR ?_ ?_ ?_ ?_ ?_ ?_ ?_ ?_ ?_ ?_ ?_ ?_ ?_ ?_ ?_ ?_
  any_goals (first | exact True.intro | skip)
  all_goals (repeat (refine Wh.mk fun hcc => ?_))
  refine SW.loop (fun x : Nat × List GrT => ⟨[.ref 0 0 0 l.length, .fn 87 [] [.fp (.int .i64 tx)], .undef, .undef, .undef, .int .i64 (((l.take x.1).filter (notTx tx)).length : Nat), .int .i64 (x.1 : Nat), .undef, .undef, .undef, .undef, .undef, .undef, .undef, .undef, .undef, .undef, .undef, .undef, .undef, .undef, .undef, .undef, .undef, .undef, .undef, .undef, .undef, .undef, .undef, .undef, .undef, .undef, .undef, .undef, .undef, .undef, .undef, .undef, .undef, .undef, .undef], [[.arr 3 (x.2.map Enc.o) false]]⟩)
    (fun N x => N = l.length - x.1 ∧ x.1 ≤ l.length ∧ x.2.length = l.length ∧ x.2.take ((l.take x.1).filter (notTx tx)).length = ((l.take x.1).filter (notTx tx)) ∧ (∀ k, x.1 ≤ k → x.2[k]? = l[k]?) ∧ ((l.take x.1).filter (notTx tx)).length < x.1) (n := l.length - (i + 1)) (x := (i + 1, l)) ?_ ⟨rfl, hi, rfl, by simp only [hK1]; simp, fun _ _ => rfl, by simp only [hK1, List.length_take]; omega⟩ ?_
  · simp only [hK1, List.length_take, Nat.min_eq_left (Nat.le_of_lt hi)]
    exact Norm.re [0] (by decide) rfl (by first | (simp only [eq_self, heapFits, rowFits, obFits, List.getElem?_cons_zero, List.getElem?_cons_succ, renL_o, renL_b, true_and, and_true, and_self]; done) | simp [-List.map_set, -List.map_append, heapFits, rowFits, obFits, T.ren, renL]) (by simp [tmFits, T.ren, renL])
  rintro N ⟨j, A⟩ ⟨hN, hj, hAl, hAt, hAd, hKj⟩
  simp only at hN hj hAl hAt hAd hKj ⊢
  have fy := Nat.add_zero
  refine goS ?_
  refine SW.cond rfl (fun hc => ?_) (fun hc => ?_)
  · have hlt : j < l.length := by simp at hc; omega
    have hltI : (j : Int) < (l.length : Int) := by omega
    have hg : (A.map Enc.o)[j]? = some (.nd [.int .i64 l[j].1, .int .i64 l[j].2.1, .int .i64 l[j].2.2.1]) := by rw [List.getElem?_map, hAd j (Nat.le_refl _), List.getElem?_eq_getElem hlt]; rfl
    have hF := filt_get (tx := tx) hlt
    have hC := cld_ok l[j] tx
    have hwj : IntKind.i64.wrap ((j : Int) + 1) = ((j + 1 : Nat) : Int) := by rw [wrap64 _ (by omega) (by omega)]; omega
    generalize ((l.take j).filter (notTx tx)) = K at *
    have hgK : (A.map Enc.o)[K.length]? = some (.nd [.int .i64 (((A[K.length]'(by omega))).1), .int .i64 (((A[K.length]'(by omega))).2.1), .int .i64 (((A[K.length]'(by omega))).2.2.1)]) := map_get Enc.o A K.length (by omega)
    have hset : (A.map Enc.o).set K.length (.nd [.int .i64 l[j].1, .int .i64 l[j].2.1, .int .i64 l[j].2.2.1]) = (A.set K.length l[j]).map Enc.o := by rw [List.map_set]; rfl
    have hKI : (K.length : Int) < (l.length : Int) := by omega
    have hwK : IntKind.i64.wrap ((K.length : Int) + 1) = ((K.length + 1 : Nat) : Int) := by rw [wrap64 _ (by omega) (by omega)]; omega
    have hn : notTx tx l[j] = !decide (l[j].1 = tx) := rfl
    generalize decide (l[j].1 = tx) = b at *
    generalize l[j] = y at *
    cases b
    · rw [if_pos (by rw [hn]; rfl)] at hF
      have hC1 := cx [] (hC)
      have fy := And.intro hg (And.intro hltI (And.intro hwj (And.intro hgK (And.intro hset (And.intro hKI (hwK))))))
      refine goR ?_ ?_ ?_ ?_ ?_ ?_ ?_ ?_ ?_ ?_ ?_ ?_ ?_ ?_ ?_ ?_
      any_goals (first | exact True.intro | skip)
      all_goals (repeat (refine Wh.mk fun hcc => ?_))
      refine ⟨N - 1, (j + 1, A.set K.length y), by omega, ⟨by simp only; omega, by simp only; omega, by simp [hAl], ?_, ?_, ?_⟩, ?_⟩
      · simp only [hF]; rw [List.length_append, List.length_singleton, List.take_succ_eq_append_getElem (by rw [List.length_set]; omega), List.getElem_set_self, List.take_set_of_le (Nat.le_refl _), hAt]
      · intro k hk
        simp only at hk ⊢
        rw [List.getElem?_set_ne (by omega)]; exact hAd k (by omega)
      · simp only [hF, List.length_append, List.length_singleton]; omega
      · simp only [hF, List.length_append, List.length_singleton]
        exact Norm.re [0] (by decide) rfl (by first | (simp only [eq_self, heapFits, rowFits, obFits, List.getElem?_cons_zero, List.getElem?_cons_succ, renL_o, renL_b, true_and, and_true, and_self]; done) | simp [-List.map_set, -List.map_append, heapFits, rowFits, obFits, T.ren, renL]) (by simp [tmFits, T.ren, renL])
    · rw [if_neg (by rw [hn]; decide), List.append_nil] at hF
      have hC1 := cx [] (hC)
      have fy := And.intro hg (And.intro hltI (hwj))
      refine goR ?_ ?_ ?_ ?_ ?_ ?_ ?_ ?_ ?_ ?_ ?_ ?_ ?_ ?_ ?_ ?_
      any_goals (first | exact True.intro | skip)
      all_goals (repeat (refine Wh.mk fun hcc => ?_))
      refine ⟨N - 1, (j + 1, A), by omega, ⟨by simp only; omega, by simp only; omega, hAl, by simp only [hF]; exact hAt, fun k hk => hAd k (by simp only at hk; omega), by simp only [hF]; omega⟩, ?_⟩
      simp only [hF]
      exact Norm.re [0] (by decide) rfl (by first | (simp only [eq_self, heapFits, rowFits, obFits, List.getElem?_cons_zero, List.getElem?_cons_succ, renL_o, renL_b, true_and, and_true, and_self]; done) | simp [-List.map_set, -List.map_append, heapFits, rowFits, obFits, T.ren, renL]) (by simp [tmFits, T.ren, renL])
  · have hge : j = l.length := by
      have : ¬ j < l.length := by simp at hc; omega
      omega
    subst hge
    rw [List.take_length] at hAt hKj ⊢
    generalize l.filter (notTx tx) = K at *
    have hs1 := fun (e j : Nat) (H : Heap) (q1 : H.at e j = some (.arr 3 (A.map Enc.o) false)) => show (sliceM Y 41 (.ref e j 0 l.length) (some (.int .i64 (K.length : Nat))) none none).run H = some { v := .ref e j K.length (l.length - K.length) } by simp only [sliceM, Y41, loF, hiF]; rw [if_pos ⟨by omega, by omega, Int.le_refl _⟩]; simp [RM.run, q1, Y50]
    have hs2 := fun (L : List T) (e j : Nat) (H : Heap) (q1 : H.at e j = some (.arr 3 L false)) => show (sliceM Y 41 (.ref e j 0 l.length) none (some (.int .i64 (K.length : Nat))) none).run H = some { v := .ref e j 0 K.length } by simp only [sliceM, Y41, loF, hiF]; rw [if_pos ⟨by decide, by omega, by omega⟩]; simp [RM.run, q1, Y50]
    have hcl := fun (e j : Nat) (H : Heap) (q1 : H.at e j = some (.arr 3 (A.map Enc.o) false)) => show (clearM Y 41 (.ref e j K.length (l.length - K.length))).run H = some { v := .tup [], ups := [(e, j, .arr 3 ((A.map Enc.o).take K.length ++ (List.replicate (l.length - K.length) (zeroT Y 9 50) ++ (A.map Enc.o).drop (K.length + (l.length - K.length)))) false)] } by simp only [clearM, Y41, Y50, RM.run, q1]; rw [if_pos (by refine ⟨?_, ?_, ?_, ?_⟩ <;> first | trivial | rfl | decide | (rw [List.length_map]; omega))]; simp only [RM.run]
    generalize List.replicate (l.length - K.length) (zeroT Y 9 50) ++ (A.map Enc.o).drop (K.length + (l.length - K.length)) = Z at *
    have hs2 := hs2 ((A.map Enc.o).take K.length ++ Z)
    have fy := And.intro hs1 (And.intro hs2 (hcl))
    refine goR ?_ ?_ ?_ ?_ ?_ ?_ ?_ ?_ ?_ ?_ ?_ ?_ ?_ ?_ ?_ ?_
    any_goals (first | exact True.intro | skip)
    all_goals (repeat (refine Wh.mk fun hcc => ?_))
    refine SW.norm (Norm.trunc 0 0 K.length rfl) ?_
    have htk : ((A.map Enc.o).take K.length ++ Z).take K.length = K.map Enc.o := by
      rw [← List.map_take, hAt, List.take_append_of_le_length (by simp), List.take_of_length_le (by simp)]
    simp only [Heap.put, List.getElem?_cons_zero, List.set_cons_zero, htk]
    exact SW.ret (show RetQ _ _ _ _ _ _ _ from RetQ.y [3] [.ow 3 (K.map Enc.o)])
end Q6

namespace Q6
open Go Go.Vm Go.Proofs
set_option maxHeartbeats 4000000
set_option synthInstance.maxSize 2000
set_option synthInstance.maxHeartbeats 400000
set_option maxRecDepth 10000
set_option linter.unusedSimpArgs false
set_option linter.unusedVariables false

open Qlk

noncomputable def dropAll (G W : List GrT) (tx : Int) : LkT × List Int := if lkB G W = true then dropF (G, W, ()) tx else ((G, W, ()), [])
theorem openD (tm : List T) (A ws lf : List GrT) (gt : List Int) : Norm ⟨tm, [[], [.var (.nd [.nils 3, .nils 3])], [.var (.nd [.ow 3 ((A).map Enc.o), .any])], [.arr 3 ((ws).map Enc.o) false], [.arr 3 ((lf).map Enc.o) false], [.arr 1 ((gt).map Enc.o) false]]⟩ ⟨tm, [[], [.var (.nd [.nils 3, .nils 3])], [.var (.nd [.ref 6 0 0 (A).length, .any])], [.arr 3 ((ws).map Enc.o) false], [.arr 3 ((lf).map Enc.o) false], [.arr 1 ((gt).map Enc.o) false], [.arr 3 ((A).map Enc.o) false]]⟩ := by
  have h := Norm.expelVar (tm := tm) (H := [[], [.var (.nd [.nils 3, .nils 3])], [.var (.nd [.ow 3 ((A).map Enc.o), .any])], [.arr 3 ((ws).map Enc.o) false], [.arr 3 ((lf).map Enc.o) false], [.arr 1 ((gt).map Enc.o) false]]) 2 0 rfl
  simp only [thawA, thawAL, Heap.put, List.getElem?_cons_zero, List.getElem?_cons_succ, List.set_cons_zero, List.set_cons_succ, List.length_cons, List.length_nil, List.nil_append, List.cons_append, List.append_nil, Nat.zero_add, Nat.reduceAdd, List.length_map] at h
  exact h

theorem sDropAll_ok (G W : List GrT) (hG : G.length ≤ 1048576) (hW : W.length ≤ 1048576) (tx : Int) : CallR Try.prog 26 [.nd [.sl .b (G.map Enc.b), .sl .b (W.map Enc.b)], .int .i64 tx] [] (.tup [.nd [.ow 3 ((dropAll G W tx).1.1.map Enc.o), .ow 3 ((dropAll G W tx).1.2.1.map Enc.o)], .ow 1 ((dropAll G W tx).2.map Enc.o)]) := by
  refine CallR.of_body (n := 19) (rs := [.cell 4 43, .tmp 5]) hY.ok Try.func26 rfl (by decide) rfl rfl rfl rfl (fun F => ?_)
  have fx := And.intro Y3 (And.intro Y4 (And.intro Y27 (And.intro Y41 (And.intro Y43 (And.intro Y50 (Y131))))))
  have c1 := sCopy_ok G W hG hW
  have c2 := sLocksOk_ok G W hG hW
  unfold dropAll
  cases hk : lkB G W
  · rw [hk] at c2
    rw [if_neg (by decide)]
    have hC1 := cx [] (c1)
    have hC2 := cx [] (c2)
    have fy := bs0_27
    refine goR ?_ ?_ ?_ ?_ ?_ ?_ ?_ ?_ ?_ ?_ ?_ ?_ ?_ ?_ ?_ ?_
    any_goals (first | exact True.intro | skip)
    all_goals (repeat (refine Wh.mk fun hcc => ?_))
    all_goals exact SW.ret (show RetQ _ _ _ _ _ _ _ from RetQ.y [0, 1] [.nd [.ow 3 (G.map Enc.o), .ow 3 (W.map Enc.o)], .ow 1 []])
  · rw [hk] at c2
    rw [if_pos rfl]
    have c3 := sDrop_ok G W (lkB_iff.1 hk) tx
    unfold dropF
    generalize dropR (G, W, ()) tx = s at *
    obtain ⟨A, B, C⟩ := s
    simp only at *
    have hC1 := cx [] (c1)
    have hC2 := cx [] (c2)
    have fy := bs0_27
    refine goR ?_ ?_ ?_ ?_ ?_ ?_ ?_ ?_ ?_ ?_ ?_ ?_ ?_ ?_ ?_ ?_
    any_goals (first | exact True.intro | skip)
    all_goals (repeat (refine Wh.mk fun hcc => ?_))
    have hC1 := cx [.io] (c3)
    have fy := Nat.add_zero
    refine vcall_c hC1 (hK := ?_)
    simp only [k13, upT_g, dnT_g, nb_g, dnT_b, dnT_s, dnT_0, dnT_r, fx, fy, wo, decide_true, decide_false, wz0, wz1, wz2, wz3, wz4, wz5, wz6, wz7, wz8, appM, Ty.isInt, capT, appendZM, buildM, setAll, plSt, plAr, mnmx, Int.reduceLT, vrec, List.drop_succ_cons, List.drop_zero, convertM, indexM, fieldM, Int.toNat_zero, Int.toNat_one, Int.le_refl, Int.zero_le_ofNat, Int.reduceEq, Int.reduceNe, ne_eq, not_false_eq_true, u8_wrap, marksG_len, marks_len, bne_self_eq_false, take_map_len, tgL_byte, T.asArr, T.tg, tgL, indexAddrM, wk, wl, eq_self, isCall, callT, opM, S.ev, S.put, entryS, thawAL, thawA, RM.run, RM.bind, RM.ofOpt, allocs, Heap.ups, Heap.put, Heap.at, List.replicate, Nat.reduceAdd, Nat.reduceSub, ofConst, nilAs, if_false, if_true, binT, binTy, unT, guardT, quietK, reduceIte, boxM, allocM, loadM, storeM, fieldAddrM, lenT, extractT, subM, setOb, T.get, T.setp, T.offs, T.nw, nwL, T.cel, T.isNd, T.size, sizeL, TyI.agg, Ty.agg, Ty.isFn, zeroT, Nat.reduceLT, Nat.reduceEqDiff, sumT, kill]
    try simp only [thenS, blockS, if_true, if_false, Nat.reduceEqDiff, reduceIte]
    refine SW.norm (Norm.expelVar 4 0 rfl) ?_
    simp only [thawA, thawAL, Heap.put, List.getElem?_cons_zero, List.getElem?_cons_succ, List.set_cons_zero, List.set_cons_succ, List.length_cons, List.length_nil, List.nil_append, List.cons_append, List.append_nil, Nat.zero_add, Nat.reduceAdd, List.length_map]
    have fy := Nat.add_zero
    refine goR ?_ ?_ ?_ ?_ ?_ ?_ ?_ ?_ ?_ ?_ ?_ ?_ ?_ ?_ ?_ ?_
    any_goals (first | exact True.intro | skip)
    all_goals (repeat (refine Wh.mk fun hcc => ?_))
    all_goals exact SW.ret (show RetQ _ _ _ _ _ _ _ from RetQ.y [0, 1] [.nd [.ow 3 (A.map Enc.o), .ow 3 (B.map Enc.o)], .ow 1 (C.map Enc.o)])
theorem iDropAll_ok (G W : List GrT) (hG : G.length ≤ 1048576) (hW : W.length ≤ 1048576) (tx : Int) : CallR Try.prog 28 [.nd [.sl .b (G.map Enc.b), .sl .b (W.map Enc.b)], .int .i64 tx] [] (.tup [.nd [.ow 3 ((dropAll G W tx).1.1.map Enc.o), .ow 3 ((dropAll G W tx).1.2.1.map Enc.o)], .ow 1 ((dropAll G W tx).2.map Enc.o)]) := by
  refine CallR.of_body (n := 71) (rs := [.cell 4 43, .tmp 5]) hY.ok Try.func28 rfl (by decide) rfl rfl rfl rfl (fun F => ?_)
  have fx := And.intro Y1 (And.intro Y3 (And.intro Y4 (And.intro Y27 (And.intro Y41 (And.intro Y43 (And.intro Y50 (Y123)))))))
  have c1 := cloneLocks_ok G W hG hW
  have c2 := iLocksOk_ok G W hG hW
  unfold dropAll
  cases hk : lkB G W
  · rw [hk] at c2
    rw [if_neg (by decide)]
    have hC1 := cx [] (c1)
    have hC2 := cx [] (c2)
    have fy := Nat.add_zero
    refine goR ?_ ?_ ?_ ?_ ?_ ?_ ?_ ?_ ?_ ?_ ?_ ?_ ?_ ?_ ?_ ?_
    any_goals (first | exact True.intro | skip)
    all_goals (repeat (refine Wh.mk fun hcc => ?_))
    all_goals exact SW.ret (show RetQ _ _ _ _ _ _ _ from RetQ.y [0, 1] [.nd [.ow 3 (G.map Enc.o), .ow 3 (W.map Enc.o)], .ow 1 []])
  · rw [hk] at c2
    rw [if_pos rfl]
    have hl := lkB_iff.1 hk
    have hG6 := hl.gl
    have hW6 := hl.wl
    simp only at hG6 hW6
    have hD := DI.init hl tx
    have c3 := delete_ok tx G (by omega)
    have c4 := delete_ok tx W (by omega)
    unfold dropF dropR
    simp only at hD ⊢
    have hwl : (W.filter (notTx tx)).length ≤ 60 := by have := List.length_filter_le (notTx tx) W; omega
    generalize W.filter (notTx tx) = ws at *
    generalize hs0 : ((G.filter (notTx tx), ([] : List GrT), ([] : List Int)) : DS) = s0 at *
    have e1 : G.filter (notTx tx) = s0.1 := by rw [← hs0]
    have e2 : ([] : List GrT) = s0.2.1 := by rw [← hs0]
    have e3 : ([] : List Int) = s0.2.2 := by rw [← hs0]
    rw [e1] at c3
    have hC1 := cx [] (c1)
    have hC2 := cx [] (c2)
    have hC3 := cx [.own 3] (c3)
    have hC4 := cx [.own 3] (c4)
    have fy := And.intro bs0_41 (bs0_27)
    refine goR ?_ ?_ ?_ ?_ ?_ ?_ ?_ ?_ ?_ ?_ ?_ ?_ ?_ ?_ ?_ ?_
    any_goals (first | exact True.intro | skip)
    all_goals (repeat (refine Wh.mk fun hcc => ?_))
    refine SW.loop (fun x : Nat × DS => ⟨[.undef, .undef, .undef, .undef, .ptr 1 0 [] 0, .undef, .undef, .ptr 2 0 [] 0, .undef, .ref 5 0 0 x.2.2.2.length, .ref 4 0 0 x.2.2.1.length, .undef, .undef, .undef, .undef, .undef, .undef, .undef, .undef, .undef, .undef, .undef, .undef, .undef, .undef, .undef, .undef, .undef, .undef, .undef, .undef, .undef, .undef, .undef, .ref 3 0 0 ws.length, .int .i64 (ws.length : Nat), .int .i64 (x.1 : Nat), .undef, .undef, .undef, .undef, .undef, .undef, .undef, .undef, .undef, .undef, .undef, .undef, .undef, .undef, .undef, .undef, .undef, .undef, .undef, .undef, .undef, .undef, .undef, .undef, .undef, .undef, .undef, .undef, .undef, .undef, .undef, .undef, .undef, .undef], [[], [.var (.nd [.nils 3, .nils 3])], [.var (.nd [.ref 6 0 0 (x.2.1).length, .any])], [.arr 3 ((ws).map Enc.o) false], [.arr 3 ((x.2.2.1).map Enc.o) false], [.arr 1 ((x.2.2.2).map Enc.o) false], [.arr 3 ((x.2.1).map Enc.o) false]]⟩)
      (fun N x => N = ws.length - x.1 ∧ x.1 ≤ ws.length ∧ x.2 = (ws.take x.1).foldl dropS s0 ∧ DI tx (G.length + W.length) ws.length x.2 (ws.drop x.1)) (n := ws.length) (x := (0, s0)) ?_ ⟨rfl, Nat.zero_le _, rfl, hD⟩ ?_
    · refine Norm.trans ?_ (openD _ s0.1 ws s0.2.1 s0.2.2)
      rw [← e2, ← e3]
      refine Norm.trans (Norm.forget (u := .nd [.ref 7 0 0 s0.1.length, .any]) 6 0 rfl (.inr ⟨_, rfl, ⟨_, _, rfl, .inl rfl, ⟨_, _, rfl, .inr rfl, rfl⟩⟩⟩)) ?_
      simp only [Heap.put, List.getElem?_cons_zero, List.getElem?_cons_succ, List.set_cons_succ, List.set_cons_zero]
      refine Norm.trans (Norm.soakVar 6 0 rfl) ?_
      simp only [soakS, soakL, Heap.at, Heap.put, List.getElem?_cons_zero, List.getElem?_cons_succ, List.set_cons_zero, List.set_cons_succ, List.length_map, List.length_nil, and_self, if_true]
      exact Norm.re [0, 3, 6, 8, 10, 9] (by decide) rfl (by first | (simp only [eq_self, heapFits, rowFits, obFits, List.getElem?_cons_zero, List.getElem?_cons_succ, renL_o, renL_b, true_and, and_true, and_self]; done) | simp [-List.map_set, -List.map_append, heapFits, rowFits, obFits, T.ren, renL]) (by simp [tmFits, T.ren, renL])
    clear hs0 e1 e2 e3 c1 c2 c3 c4 hD
    rintro N ⟨i, s⟩ ⟨hN, hi, hs, hd⟩
    simp only at hN hi hs hd ⊢
    have fy := Nat.add_zero
    refine goS ?_
    refine SW.cond rfl (fun hc => ?_) (fun hc => ?_)
    · have hlt : i < ws.length := by simp at hc; omega
      have hltI : (i : Int) < (ws.length : Int) := by omega
      have hg : (ws.map Enc.o)[i]? = some (.nd [.int .i64 ws[i].1, .int .i64 ws[i].2.1, .int .i64 ws[i].2.2.1]) := map_get Enc.o ws i hlt
      have hwi : IntKind.i64.wrap ((i : Int) + 1) = ((i + 1 : Nat) : Int) := by rw [wrap64 _ (by omega) (by omega)]; omega
      have hst := drop_step s0 ws i hlt
      rw [← hs] at hst
      rw [List.drop_eq_getElem_cons hlt] at hd
      have hd2 := hd.step
      have hn := hd.n
      have hk2 := hd.k
      simp only [List.length_cons] at hn hk2
      have hgr := fun x hx => (hd.g x hx).1
      have hgg := (hd.t ws[i] List.mem_cons_self).1
      have cW := would_y s.1 (by omega) ws[i]
      rw [wouldI_eq hgr hgg] at cW
      have cF := allGo_y s.1 (by omega) ws[i] (wouldF s.1 ws[i])
      have cR : CallR Try.prog _ _ _ (.bool (forRes s.2.1 ws[i].2.1)) := anyE_ok ws[i] s.2.1 ⟨by omega, fun _ _ => ⟨trivial, trivial, trivial, trivial⟩⟩
      have cG := give_y s.1 (by omega) ws[i] (wouldF s.1 ws[i])
      have hS : dropS s ws[i] = if (fitsF s.1 ws[i] (wouldF s.1 ws[i]) && !forRes s.2.1 ws[i].2.1) = true then (giveF s.1 ws[i] (wouldF s.1 ws[i]), s.2.1, s.2.2 ++ [ws[i].1]) else (s.1, s.2.1 ++ [ws[i]], s.2.2) := rfl
      generalize giveF s.1 ws[i] (wouldF s.1 ws[i]) = G2 at *
      generalize fitsF s.1 ws[i] (wouldF s.1 ws[i]) = b1 at *
      generalize forRes s.2.1 ws[i].2.1 = b2 at *
      generalize wouldF s.1 ws[i] = m at *
      generalize hgi : ws[i] = g at *
      generalize dropS s g = s2 at *
      obtain ⟨A, B, C⟩ := s
      simp only at *
      cases b2
      rotate_left
      · skip
        rw [if_neg (by simp)] at hS
        have hap := fun (own e j e2 j2 : Nat) (H : Heap) (q1 : H.at e j = some (.arr 3 ((B).map Enc.o) false)) (q2 : H.at e2 j2 = some (.arr 3 [.nd [.int .i64 g.1, .int .i64 g.2.1, .int .i64 g.2.2.1]] false)) => append_runP (Y := Y) (own := own) (t := 41) (u := 41) (e := e) (j := j) (off := 0) (n := (B).length) (e2 := e2) (j2 := j2) (f := (B).map Enc.o) (l := B) (x := g) (H := H) Y41 Y41 Y50 rfl (by decide) q1 q2 (by rw [List.drop_zero]; exact take_map_len _ _) (by simp) (by omega) rfl rfl
        have hC1 := cx [] (cW)
        have hC2 := cx [] (cR)
        have fy := And.intro hg (And.intro hltI (And.intro hwi (And.intro bs1_41 (hap))))
        refine goR ?_ ?_ ?_ ?_ ?_ ?_ ?_ ?_ ?_ ?_ ?_ ?_ ?_ ?_ ?_ ?_
        any_goals (first | exact True.intro | skip)
        all_goals (repeat (refine Wh.mk fun hcc => ?_))
        refine ⟨N - 1, (i + 1, s2), by omega, ⟨by simp only; omega, by simp only; omega, hst.symm, hd2⟩, ?_⟩
        rw [hS]
        exact Norm.re [0, 1, 2, 3, 11, 5, 6] (by decide) rfl (by first | (simp only [eq_self, heapFits, rowFits, obFits, List.getElem?_cons_zero, List.getElem?_cons_succ, renL_o, renL_b, true_and, and_true, and_self]; done) | simp [-List.map_set, -List.map_append, heapFits, rowFits, obFits, T.ren, renL]) (by simp [tmFits, T.ren, renL])
      · cases b1
        · skip
          rw [if_neg (by simp)] at hS
          have hap := fun (own e j e2 j2 : Nat) (H : Heap) (q1 : H.at e j = some (.arr 3 ((B).map Enc.o) false)) (q2 : H.at e2 j2 = some (.arr 3 [.nd [.int .i64 g.1, .int .i64 g.2.1, .int .i64 g.2.2.1]] false)) => append_runP (Y := Y) (own := own) (t := 41) (u := 41) (e := e) (j := j) (off := 0) (n := (B).length) (e2 := e2) (j2 := j2) (f := (B).map Enc.o) (l := B) (x := g) (H := H) Y41 Y41 Y50 rfl (by decide) q1 q2 (by rw [List.drop_zero]; exact take_map_len _ _) (by simp) (by omega) rfl rfl
          have hC1 := cx [] (cW)
          have hC2 := cx [] (cR)
          have hC3 := cx [] (cF)
          have fy := And.intro hg (And.intro hltI (And.intro hwi (And.intro bs1_41 (hap))))
          refine goR ?_ ?_ ?_ ?_ ?_ ?_ ?_ ?_ ?_ ?_ ?_ ?_ ?_ ?_ ?_ ?_
          any_goals (first | exact True.intro | skip)
          all_goals (repeat (refine Wh.mk fun hcc => ?_))
          refine ⟨N - 1, (i + 1, s2), by omega, ⟨by simp only; omega, by simp only; omega, hst.symm, hd2⟩, ?_⟩
          rw [hS]
          exact Norm.re [0, 1, 2, 3, 12, 5, 6] (by decide) rfl (by first | (simp only [eq_self, heapFits, rowFits, obFits, List.getElem?_cons_zero, List.getElem?_cons_succ, renL_o, renL_b, true_and, and_true, and_self]; done) | simp [-List.map_set, -List.map_append, heapFits, rowFits, obFits, T.ren, renL]) (by simp [tmFits, T.ren, renL])
        · rw [if_pos (by simp)] at hS
          have hap := fun (own e j e2 j2 : Nat) (H : Heap) (q1 : H.at e j = some (.arr 1 ((C).map Enc.o) false)) (q2 : H.at e2 j2 = some (.arr 1 [.int .i64 g.1] false)) => append_runP (Y := Y) (own := own) (t := 27) (u := 27) (e := e) (j := j) (off := 0) (n := (C).length) (e2 := e2) (j2 := j2) (f := (C).map Enc.o) (l := C) (x := g.1) (H := H) Y27 Y27 Y3 rfl (by decide) q1 q2 (by rw [List.drop_zero]; exact take_map_len _ _) (by simp) (by omega) rfl rfl
          have hC1 := cx [] (cW)
          have hC2 := cx [] (cR)
          have hC3 := cx [] (cF)
          have hC4 := cx [.io] (cG)
          have fy := And.intro hg (And.intro hltI (And.intro hwi (And.intro bs1_27 (hap))))
          refine goR ?_ ?_ ?_ ?_ ?_ ?_ ?_ ?_ ?_ ?_ ?_ ?_ ?_ ?_ ?_ ?_
          any_goals (first | exact True.intro | skip)
          all_goals (repeat (refine Wh.mk fun hcc => ?_))
          refine ⟨N - 1, (i + 1, s2), by omega, ⟨by simp only; omega, by simp only; omega, hst.symm, hd2⟩, ?_⟩
          rw [hS]
          refine Norm.trans ?_ (openD _ G2 ws B (C ++ [g.1]))
          exact Norm.re [0, 1, 2, 3, 4, 13] (by decide) rfl (by first | (simp only [eq_self, heapFits, rowFits, obFits, List.getElem?_cons_zero, List.getElem?_cons_succ, renL_o, renL_b, true_and, and_true, and_self]; done) | simp [-List.map_set, -List.map_append, heapFits, rowFits, obFits, T.ren, renL]) (by simp [tmFits, T.ren, renL])
    · have hige : i = ws.length := by
        have : ¬ i < ws.length := by simp at hc; omega
        omega
      subst hige
      rw [List.take_length] at hs
      rw [← hs]
      obtain ⟨A, B, C⟩ := s
      simp only at *
      have fy := Nat.add_zero
      refine goR ?_ ?_ ?_ ?_ ?_ ?_ ?_ ?_ ?_ ?_ ?_ ?_ ?_ ?_ ?_ ?_
      any_goals (first | exact True.intro | skip)
      all_goals (repeat (refine Wh.mk fun hcc => ?_))
      all_goals exact SW.ret (show RetQ _ _ _ _ _ _ _ from RetQ.y [0, 1] [.nd [.ow 3 (A.map Enc.o), .ow 3 (B.map Enc.o)], .ow 1 (C.map Enc.o)])
end Q6

namespace Q6
open Go Go.Vm Go.Proofs
set_option maxHeartbeats 4000000
set_option synthInstance.maxSize 2000
set_option synthInstance.maxHeartbeats 400000
set_option maxRecDepth 10000
set_option linter.unusedSimpArgs false
set_option linter.unusedVariables false

theorem markInt_ok (l : List Int) (k : Int) (hl : l.length ≤ 1048576) (h0 : 0 ≤ k) (h1 : k ≤ 1125899906842624) : CallR Try.prog 32 [.io (.tup [.ow 1 (l.map Enc.o)]), .int .i64 k] [.tup [.ow 1 ((marksG id l.length k).map Enc.o)]] (.int .i64 (k + l.length)) := by
  refine CallR.of_body (n := 19) (rs := [.tmp 4]) hY.ok Try.func32 rfl (by decide) rfl rfl rfl rfl (fun F => ?_)
  have fx := And.intro Y3 (And.intro Y4 (Y27))
  have fy := Nat.add_zero
  refine goN ?_ ?_ ?_ ?_ ?_ ?_ ?_ ?_ ?_ ?_ ?_ ?_ ?_ ?_ ?_ ?_
  any_goals (first | exact True.intro | skip)
  skip
  refine SW.loop (fun i : Nat => ⟨[.ref 0 0 0 l.length, .int .i64 (k + (i : Nat)), .undef, .undef, .undef, .int .i64 i, .undef, .undef, .undef, .undef, .undef, .undef, .undef, .undef, .undef, .undef, .undef, .undef, .undef], [[.arr 1 ((mixG id l k i).map Enc.o) false]]⟩)
    (fun n i => n = l.length - i ∧ i ≤ l.length) (n := l.length) (x := 0) (Norm.re [0] (by decide) rfl (by simp [heapFits, rowFits, obFits, mixG_zero]) (by simp [tmFits, T.ren])) ⟨rfl, Nat.zero_le _⟩ ?_
  rintro n i ⟨hn, hi⟩
  have fy := Nat.add_zero
  refine goS ?_
  refine SW.cond rfl (fun hc => ?_) (fun hc => ?_)
  · have hlt : i < l.length := by simp at hc; omega
    have hltI : (i : Int) < (l.length : Int) := by omega
    have hg : ((mixG id l k i).map Enc.o)[i]? = some (.int .i64 l[i]) := mixG_get id l k i hlt
    have hs : ((mixG id l k i).map Enc.o).set i (.int .i64 (k + (i : Nat))) = (mixG id l k (i + 1)).map Enc.o := mixG_set id l k i hlt
    have fy := And.intro hg (And.intro hs (And.intro hltI (And.intro Nat.zero_add (Int.toNat_natCast))))
    refine goR ?_ ?_ ?_ ?_ ?_ ?_ ?_ ?_ ?_ ?_ ?_ ?_ ?_ ?_ ?_ ?_
    any_goals (first | exact True.intro | skip)
    all_goals (repeat (refine Wh.mk fun hcc => ?_))
    refine ⟨n - 1, i + 1, by omega, ⟨by omega, by omega⟩, ?_⟩
    rw [wrap64 _ (by omega) (by omega), wrap64 _ (by omega) (by omega), show k + (i : Int) + 1 = k + ((i + 1 : Nat) : Int) by omega]
    exact Norm.re [0] (by decide) rfl (by simp only [eq_self, heapFits, rowFits, obFits, List.getElem?_cons_zero, List.getElem?_cons_succ, renL_o, renL_b, true_and, and_true, and_self]) (by simp [tmFits, T.ren])
  · have hge : i = l.length := by
      have : ¬ i < l.length := by simp at hc; omega
      omega
    subst hge
    rw [mixG_all]
    have fy := Nat.add_zero
    refine goR ?_ ?_ ?_ ?_ ?_ ?_ ?_ ?_ ?_ ?_ ?_ ?_ ?_ ?_ ?_ ?_
    any_goals (first | exact True.intro | skip)
    all_goals (repeat (refine Wh.mk fun hcc => ?_))
    refine SW.ret (show RetQ _ _ _ _ _ _ _ from ⟨.inr rfl, _, [0], [.int .i64 (k + l.length)], ?_, ⟨rfl, ?_, rfl, rfl, ?_, rfl⟩⟩)
    rotate_left
    · (simp [-List.map_set, -List.map_append, pass1, modeOf, giveS, giveSL, Heap.at, Heap.put, fixEs, ioAt, ioAtT, ioKs, ioKT, ioM, ioT, thawA, thawAL, T.asArr, T.cel, T.clo, cloL, T.cloA, cloAL]; rfl)
    · simp [cloOL, T.cloO, T.asArr]
theorem heldInt_ok (n : Nat) (k : Int) (hl : n ≤ 1048576) (h0 : 0 ≤ k) (h1 : k ≤ 1125899906842624) : CallR Try.prog 34 [.sl .b ((marksG id n k).map Enc.b), .int .i64 k] [] (.int .i64 (k + n)) := by
  refine CallR.of_body (n := 21) (rs := [.tmp 4]) hY.ok Try.func34 rfl (by decide) rfl rfl rfl rfl (fun F => ?_)
  have fx := And.intro Y3 (And.intro Y4 (Y27))
  have fy := Nat.add_zero
  refine goN ?_ ?_ ?_ ?_ ?_ ?_ ?_ ?_ ?_ ?_ ?_ ?_ ?_ ?_ ?_ ?_
  any_goals (first | exact True.intro | skip)
  skip
  refine SW.loop (fun i : Nat => ⟨[.sl .b ((marksG id n k).map Enc.b), .int .i64 (k + (i : Nat)), .undef, .undef, .undef, .int .i64 i, .undef, .undef, .undef, .undef, .undef, .undef, .undef, .undef, .undef, .undef, .undef, .undef, .undef, .undef, .undef], [[]]⟩)
    (fun N i => N = n - i ∧ i ≤ n) (n := n) (x := 0) (Norm.to 0 rfl (by simp [weakL])) ⟨rfl, Nat.zero_le _⟩ ?_
  rintro N i ⟨hn, hi⟩
  have fy := Nat.add_zero
  refine goS ?_
  refine SW.cond rfl (fun hc => ?_) (fun hc => ?_)
  · have hlt : i < n := by simp at hc; omega
    have hg : ((marksG id n k).map Enc.b)[i]? = some (.int .i64 (k + (i : Nat))) := by rw [map_get Enc.b _ i (by rw [marksG_len]; exact hlt), marksG_get id n k i hlt]; rfl
    have fy := And.intro hg (And.intro Nat.zero_add (Int.toNat_natCast))
    refine goR ?_ ?_ ?_ ?_ ?_ ?_ ?_ ?_ ?_ ?_ ?_ ?_ ?_ ?_ ?_ ?_
    any_goals (first | exact True.intro | skip)
    all_goals (repeat (refine Wh.mk fun hcc => ?_))
    all_goals first | (exfalso; simp at hcc; done) | skip
    refine ⟨N - 1, i + 1, by omega, ⟨by omega, by omega⟩, ?_⟩
    rw [wrap64 _ (by omega) (by omega), wrap64 _ (by omega) (by omega), show k + (i : Int) + 1 = k + ((i + 1 : Nat) : Int) by omega]
    exact Norm.to 0 rfl (by simp [weakL])
  · have hge : i = n := by
      have : ¬ i < n := by simp at hc; omega
      omega
    subst hge
    have fy := Nat.add_zero
    refine goK ?_ ?_ ?_ ?_ ?_ ?_ ?_ ?_ ?_ ?_ ?_ ?_ ?_ ?_ ?_ ?_
    any_goals (first | exact True.intro | skip)
    all_goals (repeat (refine Wh.mk fun hcc => ?_))
    simp [tupOf, fixEs]
end Q6

namespace Q6
open Go Go.Vm Go.Proofs
set_option maxHeartbeats 4000000
set_option synthInstance.maxSize 2000
set_option synthInstance.maxHeartbeats 400000
set_option maxRecDepth 10000
set_option linter.unusedSimpArgs false
set_option linter.unusedVariables false

open Qlk
def grM (k j : Int) : (Int × Int × Int × Unit) := ((k + 3 * j), (k + 3 * j + 1), (k + 3 * j + 2), ())
theorem markGr_ok (l : List ((Int × Int × Int × Unit))) (k : Int) (hl : l.length ≤ 1048576) (h0 : 0 ≤ k) (h1 : k ≤ 562949953421312) : CallR Try.prog 91 [.io (.tup [.ow 3 (l.map Enc.o)]), .int .i64 k] [.tup [.ow 3 ((marksG (grM k) l.length 0).map Enc.o)]] (.int .i64 (k + 3 * l.length)) := by
  refine CallR.of_body (n := 34) (rs := [.tmp 4]) hY.ok Try.func91 rfl (by decide) rfl rfl rfl rfl (fun F => ?_)
  have fx := And.intro Y1 (And.intro Y2 (And.intro Y3 (And.intro Y4 (And.intro Y41 (Y50)))))
  have fy := Nat.add_zero
  refine goN ?_ ?_ ?_ ?_ ?_ ?_ ?_ ?_ ?_ ?_ ?_ ?_ ?_ ?_ ?_ ?_
  any_goals (first | exact True.intro | skip)
  skip
  refine SW.loop (fun i : Nat => ⟨[.ref 0 0 0 l.length, .int .i64 (k + 3 * (i : Nat)), .undef, .undef, .undef, .int .i64 (i : Nat), .undef, .undef, .undef, .undef, .undef, .undef, .undef, .undef, .undef, .undef, .undef, .undef, .undef, .undef, .undef, .undef, .undef, .undef, .undef, .undef, .undef, .undef, .undef, .undef, .undef, .undef, .undef, .undef], [[.arr 3 ((mixG (grM k) l 0 i).map Enc.o) false]]⟩)
    (fun n i => n = l.length - i ∧ i ≤ l.length) (n := l.length) (x := 0) (by exact Norm.re [0] (by decide) rfl (by simp [heapFits, rowFits, obFits, mixG_zero]) (by simp [tmFits, T.ren])) ⟨rfl, Nat.zero_le _⟩ ?_
  rintro n i ⟨hn, hi⟩
  have fy := Nat.add_zero
  refine goS ?_
  refine SW.cond rfl (fun hc => ?_) (fun hc => ?_)
  · have hlt : i < l.length := by simp at hc; omega
    have hltI : (i : Int) < (l.length : Int) := by omega
    have hg : ((mixG (grM k) l 0 i).map Enc.o)[i]? = some (.nd [.int .i64 l[i].1, .int .i64 l[i].2.1, .int .i64 l[i].2.2.1]) := mixG_get (grM k) l 0 i hlt
    have hlen : ((mixG (grM k) l 0 i).map (Enc.o : _ → T)).length = l.length := by rw [List.length_map, mixG_len _ _ _ _ hi]
    have hs : ((mixG (grM k) l 0 i).map Enc.o).set i (.nd [.int .i64 (k + 3 * (i : Nat)), .int .i64 (k + 3 * (i : Nat) + 1), .int .i64 (k + 3 * (i : Nat) + 2)]) = (mixG (grM k) l 0 (i + 1)).map Enc.o := by
      have := mixG_set (grM k) l 0 i hlt
      rw [Int.zero_add] at this
      exact this
    generalize hL : (mixG (grM k) l 0 i).map (Enc.o : _ → T) = L at *
    have hg1 : ∀ a : T, (L.set i a)[i]? = some a := fun a => by rw [List.getElem?_set_self (by omega)]
    have hs1 : ∀ a b : T, (L.set i a).set i b = L.set i b := fun a b => List.set_set ..
    have hl1 : ∀ a : T, (L.set i a).length = L.length := fun a => List.length_set ..
    have hw1 : IntKind.i64.wrap (k + 3 * (i : Int) + 1) = k + 3 * (i : Int) + 1 := wrap64 _ (by omega) (by omega)
    have hw2 : IntKind.i64.wrap (k + 3 * (i : Int) + 1 + 1) = k + 3 * (i : Int) + 2 := by rw [wrap64 _ (by omega) (by omega)]; omega
    have hw3 : IntKind.i64.wrap (k + 3 * (i : Int) + 2 + 1) = k + 3 * ((i + 1 : Nat) : Int) := by rw [wrap64 _ (by omega) (by omega)]; omega
    have hwi : IntKind.i64.wrap ((i : Int) + 1) = ((i + 1 : Nat) : Int) := by rw [wrap64 _ (by omega) (by omega)]; omega
    have fy := And.intro hg (And.intro hg1 (And.intro hs1 (And.intro hl1 (And.intro hltI (And.intro hw1 (And.intro hw2 (And.intro hw3 (And.intro hwi (And.intro Nat.zero_add (Int.toNat_natCast))))))))))
    refine goR ?_ ?_ ?_ ?_ ?_ ?_ ?_ ?_ ?_ ?_ ?_ ?_ ?_ ?_ ?_ ?_
    any_goals (first | exact True.intro | skip)
    all_goals (repeat (refine Wh.mk fun hcc => ?_))
    refine ⟨n - 1, i + 1, by omega, ⟨by omega, by omega⟩, ?_⟩
    rw [hs]
    exact Norm.re [0] (by decide) rfl (by first | (simp only [eq_self, heapFits, rowFits, obFits, List.getElem?_cons_zero, List.getElem?_cons_succ, renL_o, renL_b, true_and, and_true, and_self]; done) | simp [-List.map_set, -List.map_append, heapFits, rowFits, obFits, T.ren, renL]) (by simp [tmFits, T.ren, renL])
  · have hge : i = l.length := by
      have : ¬ i < l.length := by simp at hc; omega
      omega
    subst hge
    rw [mixG_all]
    have fy := Nat.add_zero
    refine goR ?_ ?_ ?_ ?_ ?_ ?_ ?_ ?_ ?_ ?_ ?_ ?_ ?_ ?_ ?_ ?_
    any_goals (first | exact True.intro | skip)
    all_goals (repeat (refine Wh.mk fun hcc => ?_))
    all_goals exact SW.ret (show RetQ _ _ _ _ _ _ _ from RetQ.y [0] [.int .i64 (k + 3 * l.length)])
theorem heldGr_ok (n : Nat) (k : Int) (hl : n ≤ 1048576) (h0 : 0 ≤ k) (h1 : k ≤ 562949953421312) : CallR Try.prog 92 [.sl .b ((marksG (grM k) n 0).map Enc.b), .int .i64 k] [] (.int .i64 (k + 3 * n)) := by
  refine CallR.of_body (n := 40) (rs := [.tmp 4]) hY.ok Try.func92 rfl (by decide) rfl rfl rfl rfl (fun F => ?_)
  have fx := And.intro Y1 (And.intro Y2 (And.intro Y3 (And.intro Y4 (And.intro Y41 (Y50)))))
  have fy := Nat.add_zero
  refine goN ?_ ?_ ?_ ?_ ?_ ?_ ?_ ?_ ?_ ?_ ?_ ?_ ?_ ?_ ?_ ?_
  any_goals (first | exact True.intro | skip)
  skip
  refine SW.loop (fun i : Nat => ⟨[.sl .b ((marksG (grM k) n 0).map Enc.b), .int .i64 (k + 3 * (i : Nat)), .undef, .undef, .undef, .int .i64 (i : Nat), .undef, .undef, .undef, .undef, .undef, .undef, .undef, .undef, .undef, .undef, .undef, .undef, .undef, .undef, .undef, .undef, .undef, .undef, .undef, .undef, .undef, .undef, .undef, .undef, .undef, .undef, .undef, .undef, .undef, .undef, .undef, .undef, .undef, .undef], [[]]⟩)
    (fun N i => N = n - i ∧ i ≤ n) (n := n) (x := 0) (by exact Norm.to 0 rfl (by simp [weakL])) ⟨rfl, Nat.zero_le _⟩ ?_
  rintro N i ⟨hn, hi⟩
  have fy := Nat.add_zero
  refine goS ?_
  refine SW.cond rfl (fun hc => ?_) (fun hc => ?_)
  · have hlt : i < n := by simp at hc; omega
    have hg : ((marksG (grM k) n 0).map Enc.b)[i]? = some (.nd [.int .i64 (k + 3 * (i : Nat)), .int .i64 (k + 3 * (i : Nat) + 1), .int .i64 (k + 3 * (i : Nat) + 2)]) := by
      rw [map_get Enc.b _ i (by rw [marksG_len]; exact hlt), marksG_get (grM k) n 0 i hlt, Int.zero_add]; rfl
    have hw1 : IntKind.i64.wrap (k + 3 * (i : Int) + 1) = k + 3 * (i : Int) + 1 := wrap64 _ (by omega) (by omega)
    have hw2 : IntKind.i64.wrap (k + 3 * (i : Int) + 1 + 1) = k + 3 * (i : Int) + 2 := by rw [wrap64 _ (by omega) (by omega)]; omega
    have hw3 : IntKind.i64.wrap (k + 3 * (i : Int) + 2 + 1) = k + 3 * ((i + 1 : Nat) : Int) := by rw [wrap64 _ (by omega) (by omega)]; omega
    have hwi : IntKind.i64.wrap ((i : Int) + 1) = ((i + 1 : Nat) : Int) := by rw [wrap64 _ (by omega) (by omega)]; omega
    have fy := And.intro hg (And.intro hw1 (And.intro hw2 (And.intro hw3 (And.intro hwi (And.intro Nat.zero_add (Int.toNat_natCast))))))
    refine goR ?_ ?_ ?_ ?_ ?_ ?_ ?_ ?_ ?_ ?_ ?_ ?_ ?_ ?_ ?_ ?_
    any_goals (first | exact True.intro | skip)
    all_goals (repeat (refine Wh.mk fun hcc => ?_))
    all_goals first | (exfalso; simp at hcc; done) | skip
    refine ⟨N - 1, i + 1, by omega, ⟨by omega, by omega⟩, ?_⟩
    exact Norm.to 0 rfl (by simp [weakL])
  · have hge : i = n := by
      have : ¬ i < n := by simp at hc; omega
      omega
    subst hge
    have fy := Nat.add_zero
    refine goK ?_ ?_ ?_ ?_ ?_ ?_ ?_ ?_ ?_ ?_ ?_ ?_ ?_ ?_ ?_ ?_
    any_goals (first | exact True.intro | skip)
    all_goals (repeat (refine Wh.mk fun hcc => ?_))
    simp [tupOf, fixEs]
theorem markLocks_ok (G W : List GrT) (k : Int) (hG : G.length ≤ 1048576) (hW : W.length ≤ 1048576) (h0 : 0 ≤ k) (h1 : k ≤ 281474976710656) : CallR Try.prog 31 [.nd [.io (.tup [.ow 3 (G.map Enc.o)]), .io (.tup [.ow 3 (W.map Enc.o)])], .int .i64 k] [.tup [.ow 3 ((marksG (grM (k)) G.length 0).map Enc.o)], .tup [.ow 3 ((marksG (grM (k + 3 * G.length)) W.length 0).map Enc.o)]] (.int .i64 (k + 3 * G.length + 3 * W.length)) := by
  refine CallR.of_body (n := 14) (rs := [.tmp 4]) hY.ok Try.func31 rfl (by decide) rfl rfl rfl rfl (fun F => ?_)
  have fx := And.intro Y1 (And.intro Y3 (And.intro Y41 (And.intro Y43 (Y50))))
  have hC1 := cx [.ios] (markGr_ok G k hG h0 (by omega))
  have hC2 := cx [.ios] (markGr_ok W (k + 3 * G.length) hW (by omega) (by omega))
  have fy := Nat.add_zero
  refine goR ?_ ?_ ?_ ?_ ?_ ?_ ?_ ?_ ?_ ?_ ?_ ?_ ?_ ?_ ?_ ?_
  any_goals (first | exact True.intro | skip)
  all_goals (repeat (refine Wh.mk fun hcc => ?_))
  all_goals exact SW.ret (show RetQ _ _ _ _ _ _ _ from RetQ.y [0] [.int .i64 (k + 3 * G.length + 3 * W.length)])
theorem heldLocks_ok (n m : Nat) (k : Int) (hn : n ≤ 1048576) (hm : m ≤ 1048576) (h0 : 0 ≤ k) (h1 : k ≤ 281474976710656) : CallR Try.prog 33 [.nd [.sl .b ((marksG (grM (k)) n 0).map Enc.b), .sl .b ((marksG (grM (k + 3 * n)) m 0).map Enc.b)], .int .i64 k] [] (.int .i64 (k + 3 * n + 3 * m)) := by
  refine CallR.of_body (n := 18) (rs := [.tmp 4]) hY.ok Try.func33 rfl (by decide) rfl rfl rfl rfl (fun F => ?_)
  have fx := And.intro Y1 (And.intro Y3 (And.intro Y4 (And.intro Y41 (And.intro Y43 (Y50)))))
  have hq0 : decide (k + 3 * (n : Int) < 0) = false := by simp; omega
  have hq1 : decide (k + 3 * (n : Int) + 3 * (m : Int) < 0) = false := by simp; omega
  have hC1 := cx [] (heldGr_ok n k hn h0 (by omega))
  have hC2 := cx [] (heldGr_ok m (k + 3 * n) hm (by omega) (by omega))
  have fy := And.intro hq0 (hq1)
  refine goK ?_ ?_ ?_ ?_ ?_ ?_ ?_ ?_ ?_ ?_ ?_ ?_ ?_ ?_ ?_ ?_
  any_goals (first | exact True.intro | skip)
  all_goals (repeat (refine Wh.mk fun hcc => ?_))
  all_goals simp [tupOf, fixEs]
end Q6

namespace Q6
open Go Go.Vm Go.Proofs
set_option maxHeartbeats 4000000
set_option synthInstance.maxSize 2000
set_option synthInstance.maxHeartbeats 400000
set_option maxRecDepth 10000
set_option linter.unusedSimpArgs false
set_option linter.unusedVariables false

theorem laws_toIntS_ok (l : List Int) (hl : Enc.lim 1048576 l) : CallR Try.prog 197 [.sl .b (l.map Enc.b)] [] (.ow 1 (l.map Enc.o)) := by
  refine CallR.of_body (n := 22) (rs := [.tmp 2]) hY.ok Try.func197 rfl (by decide) rfl rfl rfl rfl (fun F => ?_)
  have fx := And.intro Y3 (And.intro Y4 (Y27))
  have hl1 : l.length ≤ 1048576 := hl.1
  have fy := (fun u1 => mk_fill u1 27 l hl.1 (.int .i64 0) 1 8 _ Y27 Y3 rfl rfl (by decide))
  refine goN ?_ ?_ ?_ ?_ ?_ ?_ ?_ ?_ ?_ ?_ ?_ ?_ ?_ ?_ ?_ ?_
  any_goals (first | exact True.intro | skip)
  skip
  refine SW.loop (fun i : Nat => ⟨[.sl .b (l.map Enc.b), .undef, .undef, .ref 1 0 0 l.length, .int .i64 i, .undef, .undef, .undef, .undef, .undef, .undef, .undef, .undef, .undef, .undef, .undef, .undef, .undef, .undef, .undef, .undef, .undef], [[], [.arr 1 (fillG (.int .i64 0) l i) false]]⟩)
    (fun n i => n = l.length - i ∧ i ≤ l.length) (n := l.length) (x := 0) (Norm.to 0 rfl (by simp [weakL])) ⟨rfl, Nat.zero_le _⟩ ?_
  rintro n i ⟨hn, hi⟩
  have fy := Nat.add_zero
  refine goS ?_
  refine SW.cond rfl (fun hc => ?_) (fun hc => ?_)
  · have hlt : i < l.length := by simpa using hc
    have hltI : (i : Int) < (l.length : Int) := by omega
    have hg : (l.map Enc.b)[i]? = some (.int .i64 l[i]) := map_get Enc.b l i hlt
    have hf : (fillG (.int .i64 0) l i)[i]? = some (.int .i64 0) := fill_get _ l i hlt
    have hfl : (fillG (.int .i64 0) l i).length = l.length := fill_len _ l i hi
    have fy := And.intro hg (And.intro hf (And.intro hfl (And.intro hltI (Nat.zero_add))))
    refine goR ?_ ?_ ?_ ?_ ?_ ?_ ?_ ?_ ?_ ?_ ?_ ?_ ?_ ?_ ?_ ?_
    any_goals (first | exact True.intro | skip)
    all_goals (repeat (refine Wh.mk fun hcc => ?_))
    refine ⟨n - 1, i + 1, by omega, ⟨by omega, by omega⟩, ?_⟩
    rw [wrap64 _ (by omega) (by omega)]
    refine Norm.trans (Norm.fill (l := l) 1 0 rfl hlt (by first | rfl | (simp [soakS, soakL, Heap.at, Heap.put]; rfl))) ?_
    refine Norm.re [0, 1] (by decide) rfl ?_ (by simp [tmFits, T.ren])
    first | (simp [heapFits, rowFits, obFits, soakS, soakL, Heap.at, Heap.put]; exact renL_fill _ _ _ _ rfl) | exact ⟨trivial, ⟨rfl, rfl, renL_fill _ _ _ _ rfl⟩, trivial⟩
  · have hge : i = l.length := by
      have : ¬ i < l.length := by simpa using hc
      omega
    subst hge
    have fy := Nat.add_zero
    refine goR ?_ ?_ ?_ ?_ ?_ ?_ ?_ ?_ ?_ ?_ ?_ ?_ ?_ ?_ ?_ ?_
    any_goals (first | exact True.intro | skip)
    all_goals (repeat (refine Wh.mk fun hcc => ?_))
    refine SW.ret (show RetQ _ _ _ _ _ _ _ from ⟨.inr rfl, [.ref 1 0 0 l.length], [1], [.ow 1 (l.map Enc.o)], [[], [.gone]], ⟨rfl, ?_, rfl, ?_, rfl, rfl⟩⟩)
    · simp [pass1, modeOf, giveS, Heap.at, Heap.put, fill_all, fixEs, ioAt, ioAtT, ioKs, ioKT, ioM, ioT, T.cel, T.clo, T.cloA, cloAL]
    · simp [cloL, T.clo, T.clP, clPL]
theorem laws_toObj_ok (x : (Int × (List Int) × (List Int) × Unit)) (hx : Enc.lim 1048576 x) : CallR Try.prog 194 [.nd [.int .i64 x.1, .sl .b (x.2.1.map Enc.b), .sl .b (x.2.2.1.map Enc.b)]] [] (.nd [.int .i64 x.1, .ow 1 (x.2.1.map Enc.o), .ow 1 (x.2.2.1.map Enc.o)]) := by
  refine CallR.of_body (n := 16) (rs := [.cell 2 35]) hY.ok Try.func194 rfl (by decide) rfl rfl rfl rfl (fun F => ?_)
  have fx := And.intro Y1 (And.intro Y2 (And.intro Y3 (And.intro Y27 (And.intro Y35 (Y65)))))
  have hC1 := cx [] (laws_toIntS_ok x.2.1 hx.2.1)
  have hC2 := cx [] (laws_toIntS_ok x.2.2.1 hx.2.2.1)
  have fy := Nat.add_zero
  refine goR ?_ ?_ ?_ ?_ ?_ ?_ ?_ ?_ ?_ ?_ ?_ ?_ ?_ ?_ ?_ ?_
  any_goals (first | exact True.intro | skip)
  all_goals (repeat (refine Wh.mk fun hcc => ?_))
  refine SW.ret (show RetQ _ _ _ _ _ _ _ from ⟨.inr rfl, _, [0], [.nd [.int .i64 x.1, .ow 1 (x.2.1.map Enc.o), .ow 1 (x.2.2.1.map Enc.o)]], ?_, ⟨rfl, ?_, rfl, ?_, rfl, rfl⟩⟩)
  rotate_left
  · first | rfl | (simp [pass1, modeOf, giveS, giveSL, Heap.at, Heap.put, fixEs, ioAt, ioAtT, ioKs, ioKT, ioM, ioT, T.cel, T.clo, cloL, T.cloA, cloAL]; rfl)
  · first | rfl | simp [cloL, T.clo, T.clP, clPL]
theorem laws_toSlot_ok (x : (Bool × ((Int × (List Int) × (List Int) × Unit)) × Unit)) (hx : Enc.lim 1048576 x) : CallR Try.prog 191 [.nd [.bool x.1, .nd [.int .i64 x.2.1.1, .sl .b (x.2.1.2.1.map Enc.b), .sl .b (x.2.1.2.2.1.map Enc.b)]]] [] (.nd [.bool x.1, .nd [.int .i64 x.2.1.1, .ow 1 (x.2.1.2.1.map Enc.o), .ow 1 (x.2.1.2.2.1.map Enc.o)]]) := by
  refine CallR.of_body (n := 12) (rs := [.cell 2 37]) hY.ok Try.func191 rfl (by decide) rfl rfl rfl rfl (fun F => ?_)
  have fx := And.intro Y1 (And.intro Y3 (And.intro Y4 (And.intro Y27 (And.intro Y35 (And.intro Y37 (And.intro Y65 (Y67)))))))
  have hC1 := cx [] (laws_toObj_ok x.2.1 hx.2.1)
  have fy := Nat.add_zero
  refine goR ?_ ?_ ?_ ?_ ?_ ?_ ?_ ?_ ?_ ?_ ?_ ?_ ?_ ?_ ?_ ?_
  any_goals (first | exact True.intro | skip)
  all_goals (repeat (refine Wh.mk fun hcc => ?_))
  refine SW.ret (show RetQ _ _ _ _ _ _ _ from ⟨.inr rfl, _, [0], [.nd [.bool x.1, .nd [.int .i64 x.2.1.1, .ow 1 (x.2.1.2.1.map Enc.o), .ow 1 (x.2.1.2.2.1.map Enc.o)]]], ?_, ⟨rfl, ?_, rfl, ?_, rfl, rfl⟩⟩)
  rotate_left
  · first | rfl | (simp [pass1, modeOf, giveS, giveSL, Heap.at, Heap.put, fixEs, ioAt, ioAtT, ioKs, ioKT, ioM, ioT, T.cel, T.clo, cloL, T.cloA, cloAL]; rfl)
  · first | rfl | simp [cloL, T.clo, T.clP, clPL]
end Q6

namespace Q6
open Go Go.Vm Go.Proofs
set_option maxHeartbeats 4000000
set_option synthInstance.maxSize 2000
set_option synthInstance.maxHeartbeats 400000
set_option maxRecDepth 10000
set_option linter.unusedSimpArgs false
set_option linter.unusedVariables false

theorem laws_szIntS_ok (l : List Int) (b : Int) (hl : Enc.lim maxLen l) (h0 : 0 ≤ b) (h1 : b ≤ 1048576) : CallR Try.prog 196 [.sl .b (l.map Enc.b), .int .i64 b] [] (.int .i64 (Enc.sz l b)) := by
  refine CallR.of_body (n := 12) (rs := [.tmp 4]) hY.ok Try.func196 rfl (by decide) rfl rfl rfl rfl (fun F => ?_)
  have fx := And.intro Y3 (And.intro Y4 (Y27))
  have hm : l.length ≤ 9223372036854775807 := hl.1
  have hw : IntKind.i64.wrap (b - l.length) = b - l.length := wrap64 _ (by omega) (by omega)
  have fy := hw
  refine goN ?_ ?_ ?_ ?_ ?_ ?_ ?_ ?_ ?_ ?_ ?_ ?_ ?_ ?_ ?_ ?_
  any_goals (first | exact True.intro | skip)
  skip
  refine SW.cond rfl (fun hc => ?_) (fun hc => ?_)
  · have hc' : b - (l.length : Int) < 0 := by simpa using hc
    have fy := hw
    refine goK ?_ ?_ ?_ ?_ ?_ ?_ ?_ ?_ ?_ ?_ ?_ ?_ ?_ ?_ ?_ ?_
    any_goals (first | exact True.intro | skip)
    all_goals (repeat (refine Wh.mk fun hcc => ?_))
    all_goals (simp only [tupOf, fixEs, sz_list, if_pos hc'])
  have hn : ¬ b - (l.length : Int) < 0 := by simpa using hc
  have fy := hw
  refine goK ?_ ?_ ?_ ?_ ?_ ?_ ?_ ?_ ?_ ?_ ?_ ?_ ?_ ?_ ?_ ?_
  any_goals (first | exact True.intro | skip)
  all_goals (repeat (refine Wh.mk fun hcc => ?_))
  all_goals (simp only [tupOf, fixEs, sz_list, if_neg hn]; rfl)
theorem laws_szObj_ok (x : (Int × (List Int) × (List Int) × Unit)) (b : Int) (hx : Enc.lim maxLen x) (h0 : 0 ≤ b) (h1 : b ≤ 1048576) : CallR Try.prog 193 [.nd [.int .i64 x.1, .sl .b (x.2.1.map Enc.b), .sl .b (x.2.2.1.map Enc.b)], .int .i64 b] [] (.int .i64 (Enc.sz x b)) := by
  refine CallR.of_body (n := 18) (rs := [.tmp 4]) hY.ok Try.func193 rfl (by decide) rfl rfl rfl rfl (fun F => ?_)
  have fx := And.intro Y1 (And.intro Y2 (And.intro Y3 (And.intro Y4 (And.intro Y27 (Y65)))))
  have hC1 := cx [] (laws_szIntS_ok x.2.1 b hx.2.1 h0 h1)
  have fy := Nat.add_zero
  refine goN ?_ ?_ ?_ ?_ ?_ ?_ ?_ ?_ ?_ ?_ ?_ ?_ ?_ ?_ ?_ ?_
  any_goals (first | exact True.intro | skip)
  skip
  refine SW.cond rfl (fun hc0 => ?_) (fun hc0 => ?_)
  · have hc0' : Enc.sz x.2.1 b < 0 := by simpa using hc0
    have fy := Nat.add_zero
    refine goK ?_ ?_ ?_ ?_ ?_ ?_ ?_ ?_ ?_ ?_ ?_ ?_ ?_ ?_ ?_ ?_
    any_goals (first | exact True.intro | skip)
    all_goals (repeat (refine Wh.mk fun hcc => ?_))
    all_goals (have hv : Enc.sz x b = -1 := by show EncL.sz x b = -1; simp [szl_prod, szl_unit, flat_int, flat_bool, flat_list, flat_prod, flatl_prod, flatl_unit, hc0'])
    all_goals simp only [tupOf, fixEs, hv]
  have hn0 : ¬ Enc.sz x.2.1 b < 0 := by simpa using hc0
  have h0_1 : 0 ≤ Enc.sz x.2.1 b := by omega
  have h1_1 : Enc.sz x.2.1 b ≤ 1048576 := by have := Enc.szLe x.2.1 b h0; omega
  have hC1 := cx [] (laws_szIntS_ok x.2.2.1 (Enc.sz x.2.1 b) hx.2.2.1 h0_1 h1_1)
  have fy := Nat.add_zero
  refine goN ?_ ?_ ?_ ?_ ?_ ?_ ?_ ?_ ?_ ?_ ?_ ?_ ?_ ?_ ?_ ?_
  any_goals (first | exact True.intro | skip)
  skip
  refine SW.cond rfl (fun hc1 => ?_) (fun hc1 => ?_)
  · have hc1' : Enc.sz x.2.2.1 (Enc.sz x.2.1 b) < 0 := by simpa using hc1
    have fy := Nat.add_zero
    refine goK ?_ ?_ ?_ ?_ ?_ ?_ ?_ ?_ ?_ ?_ ?_ ?_ ?_ ?_ ?_ ?_
    any_goals (first | exact True.intro | skip)
    all_goals (repeat (refine Wh.mk fun hcc => ?_))
    all_goals (have hv : Enc.sz x b = -1 := by show EncL.sz x b = -1; simp [szl_prod, szl_unit, flat_int, flat_bool, flat_list, flat_prod, flatl_prod, flatl_unit, hn0, hc1'])
    all_goals simp only [tupOf, fixEs, hv]
  have hn1 : ¬ Enc.sz x.2.2.1 (Enc.sz x.2.1 b) < 0 := by simpa using hc1
  have h0_2 : 0 ≤ Enc.sz x.2.2.1 (Enc.sz x.2.1 b) := by omega
  have h1_2 : Enc.sz x.2.2.1 (Enc.sz x.2.1 b) ≤ 1048576 := by have := Enc.szLe x.2.2.1 (Enc.sz x.2.1 b) h0_1; omega
  have fy := Nat.add_zero
  refine goK ?_ ?_ ?_ ?_ ?_ ?_ ?_ ?_ ?_ ?_ ?_ ?_ ?_ ?_ ?_ ?_
  any_goals (first | exact True.intro | skip)
  all_goals (repeat (refine Wh.mk fun hcc => ?_))
  all_goals (have hv : Enc.sz x b = (Enc.sz x.2.2.1 (Enc.sz x.2.1 b)) := by show EncL.sz x b = _; simp [szl_prod, szl_unit, flat_int, flat_bool, flat_list, flat_prod, flatl_prod, flatl_unit, hn0, hn1])
  all_goals simp only [tupOf, fixEs, hv]
theorem laws_szSlot_ok (x : (Bool × ((Int × (List Int) × (List Int) × Unit)) × Unit)) (b : Int) (hx : Enc.lim maxLen x) (h0 : 0 ≤ b) (h1 : b ≤ 1048576) : CallR Try.prog 190 [.nd [.bool x.1, .nd [.int .i64 x.2.1.1, .sl .b (x.2.1.2.1.map Enc.b), .sl .b (x.2.1.2.2.1.map Enc.b)]], .int .i64 b] [] (.int .i64 (Enc.sz x b)) := by
  refine CallR.of_body (n := 12) (rs := [.tmp 4]) hY.ok Try.func190 rfl (by decide) rfl rfl rfl rfl (fun F => ?_)
  have fx := And.intro Y1 (And.intro Y3 (And.intro Y4 (And.intro Y27 (And.intro Y65 (Y67)))))
  have hC1 := cx [] (laws_szObj_ok x.2.1 b hx.2.1 h0 h1)
  have fy := Nat.add_zero
  refine goN ?_ ?_ ?_ ?_ ?_ ?_ ?_ ?_ ?_ ?_ ?_ ?_ ?_ ?_ ?_ ?_
  any_goals (first | exact True.intro | skip)
  skip
  refine SW.cond rfl (fun hc0 => ?_) (fun hc0 => ?_)
  · have hc0' : Enc.sz x.2.1 b < 0 := by simpa using hc0
    have fy := Nat.add_zero
    refine goK ?_ ?_ ?_ ?_ ?_ ?_ ?_ ?_ ?_ ?_ ?_ ?_ ?_ ?_ ?_ ?_
    any_goals (first | exact True.intro | skip)
    all_goals (repeat (refine Wh.mk fun hcc => ?_))
    all_goals (have hv : Enc.sz x b = -1 := by show EncL.sz x b = -1; simp [szl_prod, szl_unit, flat_int, flat_bool, flat_list, flat_prod, flatl_prod, flatl_unit, hc0'])
    all_goals simp only [tupOf, fixEs, hv]
  have hn0 : ¬ Enc.sz x.2.1 b < 0 := by simpa using hc0
  have h0_1 : 0 ≤ Enc.sz x.2.1 b := by omega
  have h1_1 : Enc.sz x.2.1 b ≤ 1048576 := by have := Enc.szLe x.2.1 b h0; omega
  have fy := Nat.add_zero
  refine goK ?_ ?_ ?_ ?_ ?_ ?_ ?_ ?_ ?_ ?_ ?_ ?_ ?_ ?_ ?_ ?_
  any_goals (first | exact True.intro | skip)
  all_goals (repeat (refine Wh.mk fun hcc => ?_))
  all_goals (have hv : Enc.sz x b = (Enc.sz x.2.1 b) := by show EncL.sz x b = _; simp [szl_prod, szl_unit, flat_int, flat_bool, flat_list, flat_prod, flatl_prod, flatl_unit, hn0])
  all_goals simp only [tupOf, fixEs, hv]
end Q6

namespace Q6
open Go Go.Vm Go.Proofs
set_option maxHeartbeats 4000000
set_option synthInstance.maxSize 2000
set_option synthInstance.maxHeartbeats 400000
set_option maxRecDepth 10000
set_option linter.unusedSimpArgs false
set_option linter.unusedVariables false

theorem laws_eqIntS_ok (l m : List Int) (hl : Enc.lim 1048576 l) : CallR Try.prog 30 [.sl .b (l.map Enc.b), .sl .b (m.map Enc.b)] [] (.bool (decide (l = m))) := by
  refine CallR.of_body (n := 26) (rs := [.tmp 4]) hY.ok Try.func30 rfl (by decide) rfl rfl rfl rfl (fun F => ?_)
  have fx := And.intro Y3 (And.intro Y4 (Y27))
  have hl1 : l.length ≤ 1048576 := hl.1
  have fy := Nat.add_zero
  refine goS ?_
  refine SW.cond rfl (fun hc => ?_) (fun hc => ?_)
  · have hne : ¬ l = m := by intro e; subst e; simp at hc
    have fy := Nat.add_zero
    refine goK ?_ ?_ ?_ ?_ ?_ ?_ ?_ ?_ ?_ ?_ ?_ ?_ ?_ ?_ ?_ ?_
    any_goals (first | exact True.intro | skip)
    all_goals (repeat (refine Wh.mk fun hcc => ?_))
    simp [tupOf, fixEs, hne]
  have hlen : l.length = m.length := by have : (l.length : Int) = m.length := by simpa using hc
                                        omega
  refine SW.skip ?_
  simp only [thenS]
  have fy := Nat.add_zero
  refine goN ?_ ?_ ?_ ?_ ?_ ?_ ?_ ?_ ?_ ?_ ?_ ?_ ?_ ?_ ?_ ?_
  any_goals (first | exact True.intro | skip)
  skip
  refine SW.loop (fun i : Nat => ⟨[.sl .b (l.map Enc.b), .sl .b (m.map Enc.b), .undef, .undef, .undef, .int .i64 i, .undef, .undef, .undef, .undef, .undef, .undef, .undef, .undef, .undef, .undef, .undef, .undef, .undef, .undef, .undef, .undef, .undef, .undef, .undef, .undef], [[]]⟩)
    (fun n i => n = l.length - i ∧ i ≤ l.length ∧ ∀ j (h : j < l.length), j < i → l[j] = m[j]'(by omega)) (n := l.length) (x := 0) (Norm.to 0 rfl (by simp [weakL])) ⟨rfl, Nat.zero_le _, fun j _ h => absurd h (Nat.not_lt_zero _)⟩ ?_
  rintro n i ⟨hn, hi, hp⟩
  have fy := Nat.add_zero
  refine goS ?_
  refine SW.cond rfl (fun hc => ?_) (fun hc => ?_)
  · have hlt : i < l.length := by simpa using hc
    have hlt' : i < m.length := by omega
    have hgl : (l.map Enc.b)[i]? = some (.int .i64 l[i]) := map_get Enc.b l i hlt
    have hgm : (m.map Enc.b)[i]? = some (.int .i64 m[i]) := map_get Enc.b m i hlt'
    have fy := And.intro hgl (hgm)
    refine goK ?_ ?_ ?_ ?_ ?_ ?_ ?_ ?_ ?_ ?_ ?_ ?_ ?_ ?_ ?_ ?_
    any_goals (first | exact True.intro | skip)
    all_goals (repeat (refine Wh.mk fun hcc => ?_))
    · have hx := hcc
      have hne : ¬ l[i] = m[i] := by intro e; simp [e] at hx
      have hlm : ¬ l = m := by intro e; subst e; exact hne rfl
      simp [tupOf, fixEs, hlm]
    · have hx := hcc
      have hx' : l[i] = m[i] := by first | (simpa using hx; done) | (apply UInt8.toNat_inj.1; simp at hx; omega)
      refine ⟨n - 1, i + 1, by omega, ⟨by omega, by omega, fun j hj hji => ?_⟩, ?_⟩
      · by_cases he : j = i
        · subst he; exact hx'
        · exact hp j hj (by omega)
      · rw [wrap64 _ (by omega) (by omega)]
        first | exact Norm.to 0 rfl (by simp [weakL]) | exact Norm.to 1 rfl (by simp [weakL])
  · have hge : i = l.length := by
      have : ¬ i < l.length := by simpa using hc
      omega
    have hlm : l = m := List.ext_getElem hlen fun j h1 h2 => hp j h1 (by omega)
    have fy := Nat.add_zero
    refine goK ?_ ?_ ?_ ?_ ?_ ?_ ?_ ?_ ?_ ?_ ?_ ?_ ?_ ?_ ?_ ?_
    any_goals (first | exact True.intro | skip)
    all_goals (repeat (refine Wh.mk fun hcc => ?_))
    simp [tupOf, fixEs, hlm]
theorem laws_eqObj_ok (x y : (Int × (List Int) × (List Int) × Unit)) (hx : Enc.lim 1048576 x) : CallR Try.prog 163 [.nd [.int .i64 x.1, .sl .b (x.2.1.map Enc.b), .sl .b (x.2.2.1.map Enc.b)], .nd [.int .i64 y.1, .sl .b (y.2.1.map Enc.b), .sl .b (y.2.2.1.map Enc.b)]] [] (.bool (decide (x = y))) := by
  refine CallR.of_body (n := 22) (rs := [.tmp 4]) hY.ok Try.func163 rfl (by decide) rfl rfl rfl rfl (fun F => ?_)
  have fx := And.intro Y1 (And.intro Y2 (And.intro Y3 (And.intro Y4 (And.intro Y27 (Y35)))))
  have key : x = y ↔ (x.1 = y.1 ∧ x.2.1 = y.2.1 ∧ x.2.2.1 = y.2.2.1) :=
    ⟨fun h => by subst h; simp, fun h => Prod.ext h.1 (Prod.ext h.2.1 (Prod.ext h.2.2 rfl))⟩
  have hC1 := cx [] (laws_eqIntS_ok x.2.1 y.2.1 hx.2.1)
  have hC2 := cx [] (laws_eqIntS_ok x.2.2.1 y.2.2.1 hx.2.2.1)
  have fy := Nat.add_zero
  refine goK ?_ ?_ ?_ ?_ ?_ ?_ ?_ ?_ ?_ ?_ ?_ ?_ ?_ ?_ ?_ ?_
  any_goals (first | exact True.intro | skip)
  all_goals (repeat (refine Wh.mk fun hcc => ?_))
  all_goals simp only [tupOf, fixEs, key]
  all_goals simp_all
theorem laws_eqSlot_ok (x y : (Bool × ((Int × (List Int) × (List Int) × Unit)) × Unit)) (hx : Enc.lim 1048576 x) : CallR Try.prog 111 [.nd [.bool x.1, .nd [.int .i64 x.2.1.1, .sl .b (x.2.1.2.1.map Enc.b), .sl .b (x.2.1.2.2.1.map Enc.b)]], .nd [.bool y.1, .nd [.int .i64 y.2.1.1, .sl .b (y.2.1.2.1.map Enc.b), .sl .b (y.2.1.2.2.1.map Enc.b)]]] [] (.bool (decide (x = y))) := by
  refine CallR.of_body (n := 16) (rs := [.tmp 4]) hY.ok Try.func111 rfl (by decide) rfl rfl rfl rfl (fun F => ?_)
  have fx := And.intro Y1 (And.intro Y3 (And.intro Y4 (And.intro Y27 (And.intro Y35 (Y37)))))
  have key : x = y ↔ (x.1 = y.1 ∧ x.2.1 = y.2.1) :=
    ⟨fun h => by subst h; simp, fun h => Prod.ext h.1 (Prod.ext h.2 rfl)⟩
  have hC1 := cx [] (laws_eqObj_ok x.2.1 y.2.1 hx.2.1)
  have fy := Nat.add_zero
  refine goK ?_ ?_ ?_ ?_ ?_ ?_ ?_ ?_ ?_ ?_ ?_ ?_ ?_ ?_ ?_ ?_
  any_goals (first | exact True.intro | skip)
  all_goals (repeat (refine Wh.mk fun hcc => ?_))
  all_goals simp only [tupOf, fixEs, key]
  all_goals simp_all
theorem laws_eqSlotS_ok (l m : List ((Bool × ((Int × (List Int) × (List Int) × Unit)) × Unit))) (hl : Enc.lim 1048576 l) : CallR Try.prog 42 [.sl .b (l.map Enc.b), .sl .b (m.map Enc.b)] [] (.bool (decide (l = m))) := by
  refine CallR.of_body (n := 27) (rs := [.tmp 4]) hY.ok Try.func42 rfl (by decide) rfl rfl rfl rfl (fun F => ?_)
  have fx := And.intro Y3 (And.intro Y4 (And.intro Y24 (And.intro Y27 (And.intro Y35 (Y37)))))
  have hl1 : l.length ≤ 1048576 := hl.1
  have fy := Nat.add_zero
  refine goS ?_
  refine SW.cond rfl (fun hc => ?_) (fun hc => ?_)
  · have hne : ¬ l = m := by intro e; subst e; simp at hc
    have fy := Nat.add_zero
    refine goK ?_ ?_ ?_ ?_ ?_ ?_ ?_ ?_ ?_ ?_ ?_ ?_ ?_ ?_ ?_ ?_
    any_goals (first | exact True.intro | skip)
    all_goals (repeat (refine Wh.mk fun hcc => ?_))
    simp [tupOf, fixEs, hne]
  have hlen : l.length = m.length := by have : (l.length : Int) = m.length := by simpa using hc
                                        omega
  refine SW.skip ?_
  simp only [thenS]
  have fy := Nat.add_zero
  refine goN ?_ ?_ ?_ ?_ ?_ ?_ ?_ ?_ ?_ ?_ ?_ ?_ ?_ ?_ ?_ ?_
  any_goals (first | exact True.intro | skip)
  skip
  refine SW.loop (fun i : Nat => ⟨[.sl .b (l.map Enc.b), .sl .b (m.map Enc.b), .undef, .undef, .undef, .int .i64 i, .undef, .undef, .undef, .undef, .undef, .undef, .undef, .undef, .undef, .undef, .undef, .undef, .undef, .undef, .undef, .undef, .undef, .undef, .undef, .undef, .undef], [[]]⟩)
    (fun n i => n = l.length - i ∧ i ≤ l.length ∧ ∀ j (h : j < l.length), j < i → l[j] = m[j]'(by omega)) (n := l.length) (x := 0) (Norm.to 0 rfl (by simp [weakL])) ⟨rfl, Nat.zero_le _, fun j _ h => absurd h (Nat.not_lt_zero _)⟩ ?_
  rintro n i ⟨hn, hi, hp⟩
  have fy := Nat.add_zero
  refine goS ?_
  refine SW.cond rfl (fun hc => ?_) (fun hc => ?_)
  · have hlt : i < l.length := by simpa using hc
    have hlt' : i < m.length := by omega
    have hgl : (l.map Enc.b)[i]? = some (.nd [.bool l[i].1, .nd [.int .i64 l[i].2.1.1, .sl .b (l[i].2.1.2.1.map Enc.b), .sl .b (l[i].2.1.2.2.1.map Enc.b)]]) := map_get Enc.b l i hlt
    have hgm : (m.map Enc.b)[i]? = some (.nd [.bool m[i].1, .nd [.int .i64 m[i].2.1.1, .sl .b (m[i].2.1.2.1.map Enc.b), .sl .b (m[i].2.1.2.2.1.map Enc.b)]]) := map_get Enc.b m i hlt'
    have hC1 := cx [] (laws_eqSlot_ok l[i] m[i] (hl.2 _ (List.getElem_mem hlt)))
    have fy := And.intro hgl (hgm)
    refine goK ?_ ?_ ?_ ?_ ?_ ?_ ?_ ?_ ?_ ?_ ?_ ?_ ?_ ?_ ?_ ?_
    any_goals (first | exact True.intro | skip)
    all_goals (repeat (refine Wh.mk fun hcc => ?_))
    · have hx := hcc
      have hne : ¬ l[i] = m[i] := by intro e; simp [e] at hx
      have hlm : ¬ l = m := by intro e; subst e; exact hne rfl
      simp [tupOf, fixEs, hlm]
    · have hx := hcc
      have hx' : l[i] = m[i] := by first | (simpa using hx; done) | (apply UInt8.toNat_inj.1; simp at hx; omega)
      refine ⟨n - 1, i + 1, by omega, ⟨by omega, by omega, fun j hj hji => ?_⟩, ?_⟩
      · by_cases he : j = i
        · subst he; exact hx'
        · exact hp j hj (by omega)
      · rw [wrap64 _ (by omega) (by omega)]
        first | exact Norm.to 0 rfl (by simp [weakL]) | exact Norm.to 1 rfl (by simp [weakL])
  · have hge : i = l.length := by
      have : ¬ i < l.length := by simpa using hc
      omega
    have hlm : l = m := List.ext_getElem hlen fun j h1 h2 => hp j h1 (by omega)
    have fy := Nat.add_zero
    refine goK ?_ ?_ ?_ ?_ ?_ ?_ ?_ ?_ ?_ ?_ ?_ ?_ ?_ ?_ ?_ ?_
    any_goals (first | exact True.intro | skip)
    all_goals (repeat (refine Wh.mk fun hcc => ?_))
    simp [tupOf, fixEs, hlm]
end Q6

namespace Q6
open Go Go.Vm Go.Proofs
set_option maxHeartbeats 4000000
set_option synthInstance.maxSize 2000
set_option synthInstance.maxHeartbeats 400000
set_option maxRecDepth 10000
set_option linter.unusedSimpArgs false
set_option linter.unusedVariables false

open Qlk
theorem laws_toGrant_ok (x : (Int × Int × Int × Unit)) (hx : Enc.lim 1048576 x) : CallR Try.prog 145 [.nd [.int .i64 x.1, .int .i64 x.2.1, .int .i64 x.2.2.1]] [] (.nd [.int .i64 x.1, .int .i64 x.2.1, .int .i64 x.2.2.1]) := by
  refine CallR.of_body (n := 14) (rs := [.cell 2 50]) hY.ok Try.func145 rfl (by decide) rfl rfl rfl rfl (fun F => ?_)
  have fx := And.intro Y1 (And.intro Y2 (And.intro Y3 (And.intro Y50 (Y184))))
  have fy := Nat.add_zero
  refine goR ?_ ?_ ?_ ?_ ?_ ?_ ?_ ?_ ?_ ?_ ?_ ?_ ?_ ?_ ?_ ?_
  any_goals (first | exact True.intro | skip)
  all_goals (repeat (refine Wh.mk fun hcc => ?_))
  refine SW.ret (show RetQ _ _ _ _ _ _ _ from ⟨.inr rfl, _, [0], [.nd [.int .i64 x.1, .int .i64 x.2.1, .int .i64 x.2.2.1]], ?_, ⟨rfl, ?_, rfl, ?_, rfl, rfl⟩⟩)
  rotate_left
  · first | rfl | (simp [pass1, modeOf, giveS, giveSL, Heap.at, Heap.put, fixEs, ioAt, ioAtT, ioKs, ioKT, ioM, ioT, T.cel, T.clo, cloL, T.cloA, cloAL]; rfl)
  · first | rfl | simp [cloL, T.clo, T.clP, clPL]
theorem laws_toGrantS_ok (l : List ((Int × Int × Int × Unit))) (hl : Enc.lim 1048576 l) : CallR Try.prog 86 [.sl .b (l.map Enc.b)] [] (.ow 3 (l.map Enc.o)) := by
  refine CallR.of_body (n := 23) (rs := [.tmp 2]) hY.ok Try.func86 rfl (by decide) rfl rfl rfl rfl (fun F => ?_)
  have fx := And.intro Y3 (And.intro Y4 (And.intro Y41 (And.intro Y50 (And.intro Y52 (Y184)))))
  have hl1 : l.length ≤ 1048576 := hl.1
  have fy := (fun u1 => mk_fill u1 41 l hl.1 (.nd [.int .i64 0, .int .i64 0, .int .i64 0]) 3 24 _ Y41 Y50 rfl rfl (by decide))
  refine goN ?_ ?_ ?_ ?_ ?_ ?_ ?_ ?_ ?_ ?_ ?_ ?_ ?_ ?_ ?_ ?_
  any_goals (first | exact True.intro | skip)
  skip
  refine SW.loop (fun i : Nat => ⟨[.sl .b (l.map Enc.b), .undef, .undef, .ref 1 0 0 l.length, .int .i64 i, .undef, .undef, .undef, .undef, .undef, .undef, .undef, .undef, .undef, .undef, .undef, .undef, .undef, .undef, .undef, .undef, .undef, .undef], [[], [.arr 3 (fillG (.nd [.int .i64 0, .int .i64 0, .int .i64 0]) l i) false]]⟩)
    (fun n i => n = l.length - i ∧ i ≤ l.length) (n := l.length) (x := 0) (Norm.to 0 rfl (by simp [weakL])) ⟨rfl, Nat.zero_le _⟩ ?_
  rintro n i ⟨hn, hi⟩
  have fy := Nat.add_zero
  refine goS ?_
  refine SW.cond rfl (fun hc => ?_) (fun hc => ?_)
  · have hlt : i < l.length := by simpa using hc
    have hltI : (i : Int) < (l.length : Int) := by omega
    have hg : (l.map Enc.b)[i]? = some (.nd [.int .i64 l[i].1, .int .i64 l[i].2.1, .int .i64 l[i].2.2.1]) := map_get Enc.b l i hlt
    have hf : (fillG (.nd [.int .i64 0, .int .i64 0, .int .i64 0]) l i)[i]? = some (.nd [.int .i64 0, .int .i64 0, .int .i64 0]) := fill_get _ l i hlt
    have hfl : (fillG (.nd [.int .i64 0, .int .i64 0, .int .i64 0]) l i).length = l.length := fill_len _ l i hi
    have hC1 := cx [] (laws_toGrant_ok l[i] (hl.2 _ (List.getElem_mem hlt)))
    have fy := And.intro hg (And.intro hf (And.intro hfl (And.intro hltI (Nat.zero_add))))
    refine goR ?_ ?_ ?_ ?_ ?_ ?_ ?_ ?_ ?_ ?_ ?_ ?_ ?_ ?_ ?_ ?_
    any_goals (first | exact True.intro | skip)
    all_goals (repeat (refine Wh.mk fun hcc => ?_))
    refine ⟨n - 1, i + 1, by omega, ⟨by omega, by omega⟩, ?_⟩
    rw [wrap64 _ (by omega) (by omega)]
    refine Norm.trans (Norm.fill (l := l) 1 0 rfl hlt (by first | rfl | (simp [soakS, soakL, Heap.at, Heap.put]; rfl))) ?_
    refine Norm.re [0, 1] (by decide) rfl ?_ (by simp [tmFits, T.ren])
    first | (simp [heapFits, rowFits, obFits, soakS, soakL, Heap.at, Heap.put]; exact renL_fill _ _ _ _ rfl) | exact ⟨trivial, ⟨rfl, rfl, renL_fill _ _ _ _ rfl⟩, trivial⟩
  · have hge : i = l.length := by
      have : ¬ i < l.length := by simpa using hc
      omega
    subst hge
    have fy := Nat.add_zero
    refine goR ?_ ?_ ?_ ?_ ?_ ?_ ?_ ?_ ?_ ?_ ?_ ?_ ?_ ?_ ?_ ?_
    any_goals (first | exact True.intro | skip)
    all_goals (repeat (refine Wh.mk fun hcc => ?_))
    refine SW.ret (show RetQ _ _ _ _ _ _ _ from ⟨.inr rfl, [.ref 1 0 0 l.length], [3], [.ow 3 (l.map Enc.o)], [[], [.gone]], ⟨rfl, ?_, rfl, ?_, rfl, rfl⟩⟩)
    · simp [pass1, modeOf, giveS, Heap.at, Heap.put, fill_all, fixEs, ioAt, ioAtT, ioKs, ioKT, ioM, ioT, T.cel, T.clo, T.cloA, cloAL]
    · simp [cloL, T.clo, T.clP, clPL]
theorem laws_toLocks_ok (x : ((List ((Int × Int × Int × Unit))) × (List ((Int × Int × Int × Unit))) × Unit)) (hx : Enc.lim 1048576 x) : CallR Try.prog 27 [.nd [.sl .b (x.1.map Enc.b), .sl .b (x.2.1.map Enc.b)]] [] (.nd [.ow 3 (x.1.map Enc.o), .ow 3 (x.2.1.map Enc.o)]) := by
  refine CallR.of_body (n := 13) (rs := [.cell 2 43]) hY.ok Try.func27 rfl (by decide) rfl rfl rfl rfl (fun F => ?_)
  have fx := And.intro Y1 (And.intro Y3 (And.intro Y41 (And.intro Y43 (And.intro Y50 (And.intro Y52 (And.intro Y54 (Y184)))))))
  have hC1 := cx [] (laws_toGrantS_ok x.1 hx.1)
  have hC2 := cx [] (laws_toGrantS_ok x.2.1 hx.2.1)
  have fy := Nat.add_zero
  refine goR ?_ ?_ ?_ ?_ ?_ ?_ ?_ ?_ ?_ ?_ ?_ ?_ ?_ ?_ ?_ ?_
  any_goals (first | exact True.intro | skip)
  all_goals (repeat (refine Wh.mk fun hcc => ?_))
  refine SW.ret (show RetQ _ _ _ _ _ _ _ from ⟨.inr rfl, _, [0], [.nd [.ow 3 (x.1.map Enc.o), .ow 3 (x.2.1.map Enc.o)]], ?_, ⟨rfl, ?_, rfl, ?_, rfl, rfl⟩⟩)
  rotate_left
  · first | rfl | (simp [pass1, modeOf, giveS, giveSL, Heap.at, Heap.put, fixEs, ioAt, ioAtT, ioKs, ioKT, ioM, ioT, T.cel, T.clo, cloL, T.cloA, cloAL]; rfl)
  · first | rfl | simp [cloL, T.clo, T.clP, clPL]
theorem laws_szGrantS_ok (l : List ((Int × Int × Int × Unit))) (b : Int) (hl : Enc.lim maxLen l) (h0 : 0 ≤ b) (h1 : b ≤ 1048576) : CallR Try.prog 84 [.sl .b (l.map Enc.b), .int .i64 b] [] (.int .i64 (Enc.sz l b)) := by
  refine CallR.of_body (n := 12) (rs := [.tmp 4]) hY.ok Try.func84 rfl (by decide) rfl rfl rfl rfl (fun F => ?_)
  have fx := And.intro Y3 (And.intro Y4 (And.intro Y52 (Y184)))
  have hm : l.length ≤ 9223372036854775807 := hl.1
  have hw : IntKind.i64.wrap (b - l.length) = b - l.length := wrap64 _ (by omega) (by omega)
  have fy := hw
  refine goN ?_ ?_ ?_ ?_ ?_ ?_ ?_ ?_ ?_ ?_ ?_ ?_ ?_ ?_ ?_ ?_
  any_goals (first | exact True.intro | skip)
  skip
  refine SW.cond rfl (fun hc => ?_) (fun hc => ?_)
  · have hc' : b - (l.length : Int) < 0 := by simpa using hc
    have fy := hw
    refine goK ?_ ?_ ?_ ?_ ?_ ?_ ?_ ?_ ?_ ?_ ?_ ?_ ?_ ?_ ?_ ?_
    any_goals (first | exact True.intro | skip)
    all_goals (repeat (refine Wh.mk fun hcc => ?_))
    all_goals (simp only [tupOf, fixEs, sz_list, if_pos hc'])
  have hn : ¬ b - (l.length : Int) < 0 := by simpa using hc
  have fy := hw
  refine goK ?_ ?_ ?_ ?_ ?_ ?_ ?_ ?_ ?_ ?_ ?_ ?_ ?_ ?_ ?_ ?_
  any_goals (first | exact True.intro | skip)
  all_goals (repeat (refine Wh.mk fun hcc => ?_))
  all_goals (simp only [tupOf, fixEs, sz_list, if_neg hn]; rfl)
theorem laws_szLocks_ok (x : ((List ((Int × Int × Int × Unit))) × (List ((Int × Int × Int × Unit))) × Unit)) (b : Int) (hx : Enc.lim maxLen x) (h0 : 0 ≤ b) (h1 : b ≤ 1048576) : CallR Try.prog 25 [.nd [.sl .b (x.1.map Enc.b), .sl .b (x.2.1.map Enc.b)], .int .i64 b] [] (.int .i64 (Enc.sz x b)) := by
  refine CallR.of_body (n := 18) (rs := [.tmp 4]) hY.ok Try.func25 rfl (by decide) rfl rfl rfl rfl (fun F => ?_)
  have fx := And.intro Y1 (And.intro Y3 (And.intro Y4 (And.intro Y52 (And.intro Y54 (Y184)))))
  have hC1 := cx [] (laws_szGrantS_ok x.1 b hx.1 h0 h1)
  have fy := Nat.add_zero
  refine goN ?_ ?_ ?_ ?_ ?_ ?_ ?_ ?_ ?_ ?_ ?_ ?_ ?_ ?_ ?_ ?_
  any_goals (first | exact True.intro | skip)
  skip
  refine SW.cond rfl (fun hc0 => ?_) (fun hc0 => ?_)
  · have hc0' : Enc.sz x.1 b < 0 := by simpa using hc0
    have fy := Nat.add_zero
    refine goK ?_ ?_ ?_ ?_ ?_ ?_ ?_ ?_ ?_ ?_ ?_ ?_ ?_ ?_ ?_ ?_
    any_goals (first | exact True.intro | skip)
    all_goals (repeat (refine Wh.mk fun hcc => ?_))
    all_goals (have hv : Enc.sz x b = -1 := by show EncL.sz x b = -1; simp [szl_prod, szl_unit, flat_int, flat_bool, flat_list, flat_prod, flatl_prod, flatl_unit, hc0'])
    all_goals simp only [tupOf, fixEs, hv]
  have hn0 : ¬ Enc.sz x.1 b < 0 := by simpa using hc0
  have h0_1 : 0 ≤ Enc.sz x.1 b := by omega
  have h1_1 : Enc.sz x.1 b ≤ 1048576 := by have := Enc.szLe x.1 b h0; omega
  have hC1 := cx [] (laws_szGrantS_ok x.2.1 (Enc.sz x.1 b) hx.2.1 h0_1 h1_1)
  have fy := Nat.add_zero
  refine goN ?_ ?_ ?_ ?_ ?_ ?_ ?_ ?_ ?_ ?_ ?_ ?_ ?_ ?_ ?_ ?_
  any_goals (first | exact True.intro | skip)
  skip
  refine SW.cond rfl (fun hc1 => ?_) (fun hc1 => ?_)
  · have hc1' : Enc.sz x.2.1 (Enc.sz x.1 b) < 0 := by simpa using hc1
    have fy := Nat.add_zero
    refine goK ?_ ?_ ?_ ?_ ?_ ?_ ?_ ?_ ?_ ?_ ?_ ?_ ?_ ?_ ?_ ?_
    any_goals (first | exact True.intro | skip)
    all_goals (repeat (refine Wh.mk fun hcc => ?_))
    all_goals (have hv : Enc.sz x b = -1 := by show EncL.sz x b = -1; simp [szl_prod, szl_unit, flat_int, flat_bool, flat_list, flat_prod, flatl_prod, flatl_unit, hn0, hc1'])
    all_goals simp only [tupOf, fixEs, hv]
  have hn1 : ¬ Enc.sz x.2.1 (Enc.sz x.1 b) < 0 := by simpa using hc1
  have h0_2 : 0 ≤ Enc.sz x.2.1 (Enc.sz x.1 b) := by omega
  have h1_2 : Enc.sz x.2.1 (Enc.sz x.1 b) ≤ 1048576 := by have := Enc.szLe x.2.1 (Enc.sz x.1 b) h0_1; omega
  have fy := Nat.add_zero
  refine goK ?_ ?_ ?_ ?_ ?_ ?_ ?_ ?_ ?_ ?_ ?_ ?_ ?_ ?_ ?_ ?_
  any_goals (first | exact True.intro | skip)
  all_goals (repeat (refine Wh.mk fun hcc => ?_))
  all_goals (have hv : Enc.sz x b = (Enc.sz x.2.1 (Enc.sz x.1 b)) := by show EncL.sz x b = _; simp [szl_prod, szl_unit, flat_int, flat_bool, flat_list, flat_prod, flatl_prod, flatl_unit, hn0, hn1])
  all_goals simp only [tupOf, fixEs, hv]
theorem laws_eqGrant_ok (x y : (Int × Int × Int × Unit)) (hx : Enc.lim 1048576 x) : CallR Try.prog 146 [.nd [.int .i64 x.1, .int .i64 x.2.1, .int .i64 x.2.2.1], .nd [.int .i64 y.1, .int .i64 y.2.1, .int .i64 y.2.2.1]] [] (.bool (decide (x = y))) := by
  refine CallR.of_body (n := 20) (rs := [.tmp 4]) hY.ok Try.func146 rfl (by decide) rfl rfl rfl rfl (fun F => ?_)
  have fx := And.intro Y1 (And.intro Y2 (And.intro Y3 (And.intro Y4 (Y50))))
  have key : x = y ↔ (x.1 = y.1 ∧ x.2.1 = y.2.1 ∧ x.2.2.1 = y.2.2.1) :=
    ⟨fun h => by subst h; simp, fun h => Prod.ext h.1 (Prod.ext h.2.1 (Prod.ext h.2.2 rfl))⟩
  have fy := Nat.add_zero
  refine goK ?_ ?_ ?_ ?_ ?_ ?_ ?_ ?_ ?_ ?_ ?_ ?_ ?_ ?_ ?_ ?_
  any_goals (first | exact True.intro | skip)
  all_goals (repeat (refine Wh.mk fun hcc => ?_))
  all_goals simp only [tupOf, fixEs, key]
  all_goals simp_all
theorem laws_eqGrantS_ok (l m : List ((Int × Int × Int × Unit))) (hl : Enc.lim 1048576 l) : CallR Try.prog 90 [.sl .b (l.map Enc.b), .sl .b (m.map Enc.b)] [] (.bool (decide (l = m))) := by
  refine CallR.of_body (n := 27) (rs := [.tmp 4]) hY.ok Try.func90 rfl (by decide) rfl rfl rfl rfl (fun F => ?_)
  have fx := And.intro Y3 (And.intro Y4 (And.intro Y41 (Y50)))
  have hl1 : l.length ≤ 1048576 := hl.1
  have fy := Nat.add_zero
  refine goS ?_
  refine SW.cond rfl (fun hc => ?_) (fun hc => ?_)
  · have hne : ¬ l = m := by intro e; subst e; simp at hc
    have fy := Nat.add_zero
    refine goK ?_ ?_ ?_ ?_ ?_ ?_ ?_ ?_ ?_ ?_ ?_ ?_ ?_ ?_ ?_ ?_
    any_goals (first | exact True.intro | skip)
    all_goals (repeat (refine Wh.mk fun hcc => ?_))
    simp [tupOf, fixEs, hne]
  have hlen : l.length = m.length := by have : (l.length : Int) = m.length := by simpa using hc
                                        omega
  refine SW.skip ?_
  simp only [thenS]
  have fy := Nat.add_zero
  refine goN ?_ ?_ ?_ ?_ ?_ ?_ ?_ ?_ ?_ ?_ ?_ ?_ ?_ ?_ ?_ ?_
  any_goals (first | exact True.intro | skip)
  skip
  refine SW.loop (fun i : Nat => ⟨[.sl .b (l.map Enc.b), .sl .b (m.map Enc.b), .undef, .undef, .undef, .int .i64 i, .undef, .undef, .undef, .undef, .undef, .undef, .undef, .undef, .undef, .undef, .undef, .undef, .undef, .undef, .undef, .undef, .undef, .undef, .undef, .undef, .undef], [[]]⟩)
    (fun n i => n = l.length - i ∧ i ≤ l.length ∧ ∀ j (h : j < l.length), j < i → l[j] = m[j]'(by omega)) (n := l.length) (x := 0) (Norm.to 0 rfl (by simp [weakL])) ⟨rfl, Nat.zero_le _, fun j _ h => absurd h (Nat.not_lt_zero _)⟩ ?_
  rintro n i ⟨hn, hi, hp⟩
  have fy := Nat.add_zero
  refine goS ?_
  refine SW.cond rfl (fun hc => ?_) (fun hc => ?_)
  · have hlt : i < l.length := by simpa using hc
    have hlt' : i < m.length := by omega
    have hgl : (l.map Enc.b)[i]? = some (.nd [.int .i64 l[i].1, .int .i64 l[i].2.1, .int .i64 l[i].2.2.1]) := map_get Enc.b l i hlt
    have hgm : (m.map Enc.b)[i]? = some (.nd [.int .i64 m[i].1, .int .i64 m[i].2.1, .int .i64 m[i].2.2.1]) := map_get Enc.b m i hlt'
    have hC1 := cx [] (laws_eqGrant_ok l[i] m[i] (hl.2 _ (List.getElem_mem hlt)))
    have fy := And.intro hgl (hgm)
    refine goK ?_ ?_ ?_ ?_ ?_ ?_ ?_ ?_ ?_ ?_ ?_ ?_ ?_ ?_ ?_ ?_
    any_goals (first | exact True.intro | skip)
    all_goals (repeat (refine Wh.mk fun hcc => ?_))
    · have hx := hcc
      have hne : ¬ l[i] = m[i] := by intro e; simp [e] at hx
      have hlm : ¬ l = m := by intro e; subst e; exact hne rfl
      simp [tupOf, fixEs, hlm]
    · have hx := hcc
      have hx' : l[i] = m[i] := by first | (simpa using hx; done) | (apply UInt8.toNat_inj.1; simp at hx; omega)
      refine ⟨n - 1, i + 1, by omega, ⟨by omega, by omega, fun j hj hji => ?_⟩, ?_⟩
      · by_cases he : j = i
        · subst he; exact hx'
        · exact hp j hj (by omega)
      · rw [wrap64 _ (by omega) (by omega)]
        first | exact Norm.to 0 rfl (by simp [weakL]) | exact Norm.to 1 rfl (by simp [weakL])
  · have hge : i = l.length := by
      have : ¬ i < l.length := by simpa using hc
      omega
    have hlm : l = m := List.ext_getElem hlen fun j h1 h2 => hp j h1 (by omega)
    have fy := Nat.add_zero
    refine goK ?_ ?_ ?_ ?_ ?_ ?_ ?_ ?_ ?_ ?_ ?_ ?_ ?_ ?_ ?_ ?_
    any_goals (first | exact True.intro | skip)
    all_goals (repeat (refine Wh.mk fun hcc => ?_))
    simp [tupOf, fixEs, hlm]
theorem laws_eqLocks_ok (x y : ((List ((Int × Int × Int × Unit))) × (List ((Int × Int × Int × Unit))) × Unit)) (hx : Enc.lim 1048576 x) : CallR Try.prog 29 [.nd [.sl .b (x.1.map Enc.b), .sl .b (x.2.1.map Enc.b)], .nd [.sl .b (y.1.map Enc.b), .sl .b (y.2.1.map Enc.b)]] [] (.bool (decide (x = y))) := by
  refine CallR.of_body (n := 17) (rs := [.tmp 4]) hY.ok Try.func29 rfl (by decide) rfl rfl rfl rfl (fun F => ?_)
  have fx := And.intro Y1 (And.intro Y3 (And.intro Y4 (And.intro Y41 (And.intro Y43 (Y50)))))
  have key : x = y ↔ (x.1 = y.1 ∧ x.2.1 = y.2.1) :=
    ⟨fun h => by subst h; simp, fun h => Prod.ext h.1 (Prod.ext h.2 rfl)⟩
  have hC1 := cx [] (laws_eqGrantS_ok x.1 y.1 hx.1)
  have hC2 := cx [] (laws_eqGrantS_ok x.2.1 y.2.1 hx.2.1)
  have fy := Nat.add_zero
  refine goK ?_ ?_ ?_ ?_ ?_ ?_ ?_ ?_ ?_ ?_ ?_ ?_ ?_ ?_ ?_ ?_
  any_goals (first | exact True.intro | skip)
  all_goals (repeat (refine Wh.mk fun hcc => ?_))
  all_goals simp only [tupOf, fixEs, key]
  all_goals simp_all
end Q6

namespace Q6
open Go Go.Vm Go.Proofs
set_option maxHeartbeats 4000000
set_option synthInstance.maxSize 2000
set_option synthInstance.maxHeartbeats 400000
set_option maxRecDepth 10000
set_option linter.unusedSimpArgs false
set_option linter.unusedVariables false

open Qlk

theorem dropAll_len (G W : List GrT) (hG : G.length ≤ 1048576) (hW : W.length ≤ 1048576) (tx : Int) : (dropAll G W tx).1.1.length ≤ 1048576 ∧ (dropAll G W tx).1.2.1.length ≤ 1048576 ∧ (dropAll G W tx).2.length ≤ 1048576 := by
  unfold dropAll
  split
  · rename_i h
    have hl := lkB_iff.1 h
    have hd := DI.all _ (DI.init hl tx)
    have h1 := hd.n
    have h2 := hd.k
    have h3 := List.length_filter_le (notTx tx) W
    have h4 := hl.gl
    have h5 := hl.wl
    simp only [List.length_nil, Nat.add_zero] at h1 h2 h4 h5
    show (dropR (G, W, ()) tx).1.length ≤ 1048576 ∧ (dropR (G, W, ()) tx).2.1.length ≤ 1048576 ∧ (dropR (G, W, ()) tx).2.2.length ≤ 1048576
    unfold dropR
    simp only
    omega
  · exact ⟨hG, hW, Nat.zero_le _⟩

theorem dropAllLaw_ok (l : LkT) (tx : Int) (hl : Enc.lim maxLen l) : CallR Try.prog 6 [.nd [.sl .b (l.1.map Enc.b), .sl .b (l.2.1.map Enc.b)], .int .i64 tx] [] (.bool true) := by
  refine CallR.of_body (n := 117) (rs := [.tmp 4]) hY.ok Try.func6 rfl (by decide) rfl rfl rfl rfl (fun F => ?_)
  have fx := And.intro Y1 (And.intro Y3 (And.intro Y4 (And.intro Y27 (And.intro Y41 (And.intro Y43 (And.intro Y50 (And.intro Y52 (And.intro Y54 (Y184)))))))))
  have hz := laws_szLocks_ok l 1048576 hl (by decide) (by decide)
  by_cases hb : Enc.sz l 1048576 < 0
  · have hd : decide (Enc.sz l 1048576 < 0) = true := decide_eq_true hb
    have hC1 := cx [] (hz)
    have fy := hd
    have hD1 := dx 10 [3, 1] [(0, 1)]
    refine goK ?_ ?_ ?_ ?_ ?_ ?_ ?_ ?_ ?_ ?_ ?_ ?_ ?_ ?_ ?_ ?_
    any_goals (first | exact True.intro | skip)
    all_goals (repeat (refine Wh.mk fun hcc => ?_))
    all_goals rfl
  have hd : decide (Enc.sz l 1048576 < 0) = false := decide_eq_false hb
  have hf : Enc.lim 1048576 l := Enc.szLim l 1048576 (by omega) (by decide)
  have hT := laws_toLocks_ok l hf
  have hE3 := laws_eqLocks_ok l l hf
  rw [decide_eq_true rfl] at hE3
  generalize Enc.sz l 1048576 = z at *
  obtain ⟨G, W, ⟨⟩⟩ := l
  simp only at *
  have hG : G.length ≤ 1048576 := hf.1.1
  have hW : W.length ≤ 1048576 := hf.2.1.1
  have hS := sDropAll_ok G W hG hW tx
  have hI := iDropAll_ok G W hG hW tx
  obtain ⟨l1, l2, l3⟩ := dropAll_len G W hG hW tx
  generalize dropAll G W tx = D at *
  obtain ⟨⟨A, B, ⟨⟩⟩, C⟩ := D
  simp only at *
  have hE := laws_eqLocks_ok (A, B, ()) (A, B, ()) ⟨⟨l1, fun _ _ => ⟨trivial, trivial, trivial, trivial⟩⟩, ⟨l2, fun _ _ => ⟨trivial, trivial, trivial, trivial⟩⟩, trivial⟩
  have hE2 := laws_eqIntS_ok C C ⟨l3, fun _ _ => trivial⟩
  rw [decide_eq_true rfl] at hE hE2
  simp only at hE
  have hM := markLocks_ok G W 1 hG hW (by decide) (by decide)
  have hk : decide (1 + 3 * (G.length : Int) + 3 * (W.length : Int) < 0) = false := by simp; omega
  have hO := markLocks_ok A B 1 l1 l2 (by decide) (by decide)
  have hO2 := markInt_ok C (1 + 3 * A.length + 3 * B.length) l3 (by omega) (by omega)
  have hH := heldLocks_ok A.length B.length 1 l1 l2 (by decide) (by decide)
  have hH2 := heldInt_ok C.length (1 + 3 * A.length + 3 * B.length) l3 (by omega) (by omega)
  have hq0 : decide (1 + 3 * (A.length : Int) + 3 * (B.length : Int) < 0) = false := by simp; omega
  have hq1 : decide (1 + 3 * (A.length : Int) + 3 * (B.length : Int) + (C.length : Int) < 0) = false := by simp; omega
  clear hf hl hb
  have hC1 := cx [] (hz)
  have hC2 := cx [] (hT)
  have hC3 := cx [] (hS)
  have hC4 := cx [] (hI)
  have hC5 := cx [] (hE)
  have hC6 := cx [] (hE2)
  have hC7 := cx [] (hE3)
  have hC8 := cx [.iov] (hM)
  have hC9 := cx [.iov] (hO)
  have hC10 := cx [.ios] (hO2)
  have hC11 := cx [] (hH)
  have hC12 := cx [] (hH2)
  have fy := And.intro hd (And.intro hk (And.intro hq0 (hq1)))
  have hD1 := dx 10 [3, 1] [(0, 1)]
  refine goK ?_ ?_ ?_ ?_ ?_ ?_ ?_ ?_ ?_ ?_ ?_ ?_ ?_ ?_ ?_ ?_
  any_goals (first | exact True.intro | skip)
  all_goals (repeat (refine Wh.mk fun hcc => ?_))
  all_goals first | rfl | (exfalso; simp at hcc; done)
end Q6

namespace Q6.DropAll
open Go Go.Vm Go.Proofs
set_option maxHeartbeats 4000000
set_option synthInstance.maxSize 2000
set_option synthInstance.maxHeartbeats 400000
set_option maxRecDepth 10000
set_option linter.unusedSimpArgs false
set_option linter.unusedVariables false

open Go.Proofs.Ytjodaapkfknfnaa
open Go.ChangeShapes Go.WideShapes Go.ChangeAt Go.RowKit
theorem own : ownKnob Try.prog.godebug = none := by kernel_rfl
theorem laidOut : laidOutB Try.prog = true := by kernel_rfl
theorem plain3 : plainT Y 12 3 = true := by kernel_rfl
theorem plain54 : plainT Y 12 54 = true := by kernel_rfl

set_option maxRecDepth 100000 in
theorem lifted (os : Os) (started : os.Started) (H : Type) (enc : TypeId × Value → H) :
    ReturnsInHanded {} Try.checked os 6 .any (Rows.fnExactDropAllSpec.pre6 enc Try.prog Try.f6 Rows.fnExactDropAllRow.domain false) (Rows.fnExactDropAllSpec.post enc Try.prog Try.f6 false true false false) := by
  refine returnsInHanded_of_change (C := Try.checked) own started (by kernel_rfl) Try.func6
    (ChangeSpec.witness6 (enc := enc) (C := Try.checked) false ⟨#[], #[.agg #[.slice none 0 0, .slice none 0 0], .int .i64 0], []⟩ 8 (by kernel_rfl) (by kernel_rfl) (by kernel_rfl) (by kernel_rfl)) ?_
  intro W base args ds gs before hval0 hW hcnd _
  have hval : ∀ (j : Nat) t v, Try.f6.params[j]? = some t → args[j]? = some v → Value.okWide Try.prog W .any base t v := hval0
  have hW' := hW
  obtain ⟨p, q, hA0, hV, rfl, _, _⟩ := hW
  have hA : DataW.TrodAll enc Try.prog W 0 (fun _ => true) true Try.f6.params.toList args.toList ds p := hA0
  have hV' : DataW.TrodVars enc Try.prog W (fun _ => true) [] gs q := hV
  obtain ⟨rfl, rfl⟩ := trodVars_none hV'
  rw [Try.params6] at hA hval
  have one := trodAll_two hA
  refine (calls_of hY 12 (by simp [plain3, plain54]) hA (fun j t v h1 h2 => hval j t v (by simpa using h1) (by simpa using h2)) ?_).mono ?_
  · intro us hu ht
    match us, hu with
    | [u0, u1], _ =>
      obtain ⟨x0, rfl, hx0⟩ := Enc.dec (α := ((List ((Int × Int × Int × Unit))) × (List ((Int × Int × Int × Unit))) × Unit)) Y 12 54 u0 (by kernel_rfl) (ht 0 54 u0 rfl rfl)
      obtain ⟨x1, rfl, hx1⟩ := Enc.dec (α := Int) Y 12 3 u1 (by kernel_rfl) (ht 1 3 u1 rfl rfl)
      exact dropAllLaw_ok x0 x1 hx0
  · rintro e W' ⟨rfl, h1, h2⟩
    obtain ⟨v, v1, d, d1, _, _, _, rfl, _⟩ := one
    exact ⟨_, rfl, post_true (tb := 4) laidOut (by rw [Try.params6]; exact of_decide_eq_true (by kernel_rfl)) rfl hW' rfl rfl rfl rfl (by kernel_rfl) h1 h2⟩

theorem fnExactDropAll_holds : Rows.FnExactDropAllSaid :=
  OpenClaim.holds_of_wide 6 Try.f6 rfl rfl rfl rfl rfl rfl rfl ⟨rfl, rfl, rfl, rfl, rfl⟩ rfl rfl rfl rfl rfl (by kernel_rfl) Try.func6 (by kernel_rfl)
    (of_decide_eq_true (by kernel_rfl)) (by unfold Func.isWrapper; first | (rw [if_pos (by decide +kernel)]; kernel_rfl) | (rw [if_neg (by decide +kernel)]; exact ⟨rfl, rfl⟩))
    (fun os started H enc _ => lifted os started H enc)
end Q6.DropAll

namespace Go.Proofs.Ytjodaapkfknfnaa
/-- For all locks and every transaction's number, the law FnExactDropAll returns true: the program's DropAll returns what the reference's DropAll returns. -/
theorem fnExactDropAll_holds : Rows.FnExactDropAllSaid := Q6.DropAll.fnExactDropAll_holds
#print axioms fnExactDropAll_holds
end Go.Proofs.Ytjodaapkfknfnaa
