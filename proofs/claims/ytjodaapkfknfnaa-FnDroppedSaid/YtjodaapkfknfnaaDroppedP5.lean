/- For every code, the law FnDropped of the drawn locks returns true: what a dropped transaction had and waited for is gone, who was woken has what it waited for, the others wait on, and nobody who is dropped is stuck. -/
import Derived.Test.YtjodaapkfknfnaaDroppedP1
import Derived.Test.YtjodaapkfknfnaaDroppedP4
import Derived.Test.YtjodaapkfknfnaaDroppedV5
import Derived.Test.YtjodaapkfknfnaaDroppedP2
import Derived.Test.YtjodaapkfknfnaaDroppedV2
import Derived.Test.YtjodaapkfknfnaaDroppedP3
import Derived.Test.YtjodaapkfknfnaaRows
import Derived.ProofKit
set_option linter.all false

namespace Q6
open Go Go.Vm Go.Proofs
set_option maxHeartbeats 4000000
set_option synthInstance.maxSize 2000
set_option synthInstance.maxHeartbeats 400000
set_option maxRecDepth 10000
set_option linter.unusedSimpArgs false
set_option linter.unusedVariables false

open Qlk

theorem outF_at {G W : List GrT} (hl : LkOk (G, W, ())) {j : Nat} (h : j < W.length) : outF (G, W, ()) W[j].1 = forK (G, W, ()) W[j] j := by
  rcases outF_cases G W W[j].1 with ⟨k, hk, e1, e2⟩ | ⟨e1, _⟩
  · rcases idx_cases (fun x : GrT => decide (x.1 = W[j].1)) W with ⟨i, hi, a1, a2, _, _⟩ | ⟨a1, _⟩
    · have hki : k = i := by omega
      subst hki
      have a2 : W[k].1 = W[j].1 := by simpa using a2
      have hkj : k = j := by
        rcases Nat.lt_trichotomy k j with h' | h' | h'
        · exact absurd a2 ((List.pairwise_iff_getElem.1 hl.wp) k j hk h h')
        · exact h'
        · exact absurd a2.symm ((List.pairwise_iff_getElem.1 hl.wp) j k h hk h')
      subst hkj
      exact e2
    · rw [a1] at e1; omega
  · rcases idx_cases (fun x : GrT => decide (x.1 = W[j].1)) W with ⟨i, hi, a1, _⟩ | ⟨_, a3⟩
    · rw [a1] at e1; omega
    · rw [List.find?_eq_none] at a3
      exact absurd (by simp) (a3 _ (List.getElem_mem h))
theorem outF_no {G W : List GrT} {y : Int} (h : ∀ (j : Nat) (hj : j < W.length), W[j].1 ≠ y) : outF (G, W, ()) y = [] := by
  rcases outF_cases G W y with ⟨k, hk, e1, e2⟩ | ⟨_, e2⟩
  · rcases idx_cases (fun x : GrT => decide (x.1 = y)) W with ⟨i, hi, a1, a2, _, _⟩ | ⟨a1, _⟩
    · exact absurd (by simpa using a2) (h i hi)
    · rw [a1] at e1; omega
  · exact e2
theorem forK_len {G W : List GrT} (hl : LkOk (G, W, ())) (g : GrT) (k : Nat) : (forK (G, W, ()) g k).length ≤ 120 := by
  have hG := hl.gl
  have hW := hl.wl
  simp only at hG hW
  rw [forK_eq, List.length_append, List.length_map, List.length_map]
  have h1 := List.length_filter_le (conG g (wouldF G g)) G
  have h2 := List.length_filter_le (resP g.2.1) (W.take k)
  rw [List.length_take] at h2
  omega
noncomputable def stk (l : LkT) (i : Nat) : Int := (l.2.1.take i).foldl (fun o g => if (decide (g.1 > o) && cycB l g.1) = true then g.1 else o) 0
theorem stk_succ (l : LkT) {i : Nat} (h : i < l.2.1.length) : stk l (i + 1) = if (decide (l.2.1[i].1 > stk l i) && cycB l l.2.1[i].1) = true then l.2.1[i].1 else stk l i := by
  unfold stk
  rw [List.take_succ_eq_append_getElem h, List.foldl_append]; rfl
theorem stk_zero (l : LkT) : stk l 0 = 0 := rfl
theorem stk_all (l : LkT) : stk l l.2.1.length = stuckF l := by unfold stk stuckF; rw [List.take_length]

theorem iStuck_ok (G W : List GrT) (hl : LkOk (G, W, ())) : CallR Try.prog 36 [.nd [.sl .b (G.map Enc.b), .sl .b (W.map Enc.b)]] [] (.int .i64 (stuckF (G, W, ()))) := by
  refine CallR.of_body (n := 27) (rs := [.tmp 2]) hY.ok Try.func36 rfl (by decide) rfl rfl rfl rfl (fun F => ?_)
  have fx := And.intro Y1 (And.intro Y3 (And.intro Y4 (And.intro Y41 (And.intro Y43 (Y50)))))
  have hW := hl.wl
  simp only at hW
  have fy := Nat.add_zero
  refine goN ?_ ?_ ?_ ?_ ?_ ?_ ?_ ?_ ?_ ?_ ?_ ?_ ?_ ?_ ?_ ?_
  any_goals (first | exact True.intro | skip)
  skip
  refine SW.loop (fun i : Nat => ⟨[.undef, .ptr 1 0 [] 0, .undef, .int .i64 (stk (G, W, ()) i), .undef, .undef, .undef, .sl .b (W.map Enc.b), .int .i64 (W.length : Nat), .int .i64 (i : Nat), .undef, .undef, .undef, .undef, .undef, .undef, .undef, .undef, .undef, .undef, .undef, .undef, .undef, .undef, .undef, .undef, .undef], [[], [.var (.nd [.sl .b (G.map Enc.b), .sl .b (W.map Enc.b)])]]⟩)
    (fun N i => N = W.length - i ∧ i ≤ W.length) (n := W.length) (x := 0) ?_ ⟨rfl, Nat.zero_le _⟩ ?_
  · rw [stk_zero]
    exact Norm.re [0, 1] (by decide) rfl (by first | (simp only [eq_self, heapFits, rowFits, obFits, List.getElem?_cons_zero, List.getElem?_cons_succ, renL_o, renL_b, true_and, and_true, and_self]; done) | simp [-List.map_set, -List.map_append, heapFits, rowFits, obFits, T.ren, renL]) (by simp [tmFits, T.ren, renL])
  rintro N i ⟨hN, hi⟩
  have fy := Nat.add_zero
  refine goS ?_
  refine SW.cond rfl (fun hc => ?_) (fun hc => ?_)
  · have hlt : i < W.length := by simp at hc; omega
    have hltI : (i : Int) < (W.length : Int) := by omega
    have hg : (W.map Enc.b)[i]? = some (.nd [.int .i64 W[i].1, .int .i64 W[i].2.1, .int .i64 W[i].2.2.1]) := map_get Enc.b W i hlt
    have hS := stk_succ (G, W, ()) (i := i) hlt
    simp only at hS
    have hwi : IntKind.i64.wrap ((i : Int) + 1) = ((i + 1 : Nat) : Int) := by rw [wrap64 _ (by omega) (by omega)]; omega
    have cB := comesBack_ok G W hl W[i].1
    generalize W[i] = g at *
    generalize stk (G, W, ()) i = o at *
    have hq : decide (g.1 > o) = decide (g.1 > o) := rfl
    generalize hb1 : decide (g.1 > o) = b1 at *
    generalize cycB (G, W, ()) g.1 = b2 at *
    cases b1
    · rw [if_neg (by simp)] at hS
      have fy := And.intro hg (And.intro hltI (And.intro hwi (hb1)))
      refine goR ?_ ?_ ?_ ?_ ?_ ?_ ?_ ?_ ?_ ?_ ?_ ?_ ?_ ?_ ?_ ?_
      any_goals (first | exact True.intro | skip)
      all_goals (repeat (refine Wh.mk fun hcc => ?_))
      refine ⟨N - 1, i + 1, by omega, ⟨by omega, by omega⟩, ?_⟩
      rw [hS]
      exact Norm.re [0, 1] (by decide) rfl (by first | (simp only [eq_self, heapFits, rowFits, obFits, List.getElem?_cons_zero, List.getElem?_cons_succ, renL_o, renL_b, true_and, and_true, and_self]; done) | simp [-List.map_set, -List.map_append, heapFits, rowFits, obFits, T.ren, renL]) (by simp [tmFits, T.ren, renL])
    · cases b2
      · rw [if_neg (by simp)] at hS
        have hC1 := cx [] (cB)
        have fy := And.intro hg (And.intro hltI (And.intro hwi (hb1)))
        refine goR ?_ ?_ ?_ ?_ ?_ ?_ ?_ ?_ ?_ ?_ ?_ ?_ ?_ ?_ ?_ ?_
        any_goals (first | exact True.intro | skip)
        all_goals (repeat (refine Wh.mk fun hcc => ?_))
        refine ⟨N - 1, i + 1, by omega, ⟨by omega, by omega⟩, ?_⟩
        rw [hS]
        exact Norm.re [0, 1] (by decide) rfl (by first | (simp only [eq_self, heapFits, rowFits, obFits, List.getElem?_cons_zero, List.getElem?_cons_succ, renL_o, renL_b, true_and, and_true, and_self]; done) | simp [-List.map_set, -List.map_append, heapFits, rowFits, obFits, T.ren, renL]) (by simp [tmFits, T.ren, renL])
      · rw [if_pos (by simp)] at hS
        have hC1 := cx [] (cB)
        have fy := And.intro hg (And.intro hltI (And.intro hwi (hb1)))
        refine goR ?_ ?_ ?_ ?_ ?_ ?_ ?_ ?_ ?_ ?_ ?_ ?_ ?_ ?_ ?_ ?_
        any_goals (first | exact True.intro | skip)
        all_goals (repeat (refine Wh.mk fun hcc => ?_))
        refine ⟨N - 1, i + 1, by omega, ⟨by omega, by omega⟩, ?_⟩
        rw [hS]
        exact Norm.re [0, 1] (by decide) rfl (by first | (simp only [eq_self, heapFits, rowFits, obFits, List.getElem?_cons_zero, List.getElem?_cons_succ, renL_o, renL_b, true_and, and_true, and_self]; done) | simp [-List.map_set, -List.map_append, heapFits, rowFits, obFits, T.ren, renL]) (by simp [tmFits, T.ren, renL])
  have hige : i = W.length := by
    have : ¬ i < W.length := by simp at hc; omega
    omega
  subst hige
  have hSa : stk (G, W, ()) W.length = stuckF (G, W, ()) := stk_all (G, W, ())
  rw [hSa]
  have fy := Nat.add_zero
  refine goK ?_ ?_ ?_ ?_ ?_ ?_ ?_ ?_ ?_ ?_ ?_ ?_ ?_ ?_ ?_ ?_
  any_goals (first | exact True.intro | skip)
  all_goals (repeat (refine Wh.mk fun hcc => ?_))
  all_goals rfl
theorem l9Among_ok (l : List Int) (hl : l.length ≤ 1048576) (n : Int) : CallR Try.prog 150 [.sl .b (l.map Enc.b), .int .i64 n] [] (.bool (amongB l n)) := by
  refine CallR.of_body (n := 18) (rs := [.tmp 4]) hY.ok Try.func150 rfl (by decide) rfl rfl rfl rfl (fun F => ?_)
  have fx := And.intro Y3 (And.intro Y4 (Y27))
  have fy := Nat.add_zero
  refine goN ?_ ?_ ?_ ?_ ?_ ?_ ?_ ?_ ?_ ?_ ?_ ?_ ?_ ?_ ?_ ?_
  any_goals (first | exact True.intro | skip)
  skip
  refine SW.loop (fun i : Nat => ⟨[.sl .b (l.map Enc.b), .int .i64 n, .undef, .undef, .undef, .int .i64 (i : Nat), .undef, .undef, .undef, .undef, .undef, .undef, .undef, .undef, .undef, .undef, .undef, .undef], [[]]⟩)
    (fun N i => N = l.length - i ∧ i ≤ l.length ∧ ∀ j (h : j < l.length), j < i → (fun x => !decide (x = n)) l[j] = true) (n := l.length) (x := 0) (by first | exact Norm.to 0 rfl (by simp [weakL]) | exact Norm.to 1 rfl (by simp [weakL])) ⟨rfl, Nat.zero_le _, fun j _ h => absurd h (Nat.not_lt_zero _)⟩ ?_
  rintro N i ⟨hN, hi, hp⟩
  have fy := Nat.add_zero
  refine goS ?_
  refine SW.cond rfl (fun hci => ?_) (fun hci => ?_)
  · skip
    have hlti : i < l.length := by simpa using hci
    have hltIi : (i : Int) < (l.length : Int) := by omega
    have hg : (l.map Enc.b)[i]? = some (.int .i64 l[i]) := map_get Enc.b l i hlti
    have hq : (l[i] == n) = decide (l[i] = n) := rfl
    generalize hb : decide (l[i] = n) = b at *
    cases b
    · skip
      have fy := And.intro hg (And.intro hq (hltIi))
      refine goR ?_ ?_ ?_ ?_ ?_ ?_ ?_ ?_ ?_ ?_ ?_ ?_ ?_ ?_ ?_ ?_
      any_goals (first | exact True.intro | skip)
      all_goals (repeat (refine Wh.mk fun hcc => ?_))
      refine ⟨N - 1, i + 1, by omega, ⟨by omega, by omega, fun j hj hji => ?_⟩, ?_⟩
      · by_cases he : j = i
        · subst he; exact (by simp [hb])
        · exact hp j hj (by omega)
      · rw [wrap64 _ (by omega) (by omega)]
        first | exact Norm.to 0 rfl (by simp [weakL]) | exact Norm.to 1 rfl (by simp [weakL]) | exact Norm.to 2 rfl (by simp [weakL]) | exact Norm.to 3 rfl (by simp [weakL])
    · have hy : amongB l n = true := by unfold amongB; rw [List.any_eq_true]; exact ⟨_, List.getElem_mem hlti, hb⟩
      have fy := And.intro hg (And.intro hq (hltIi))
      refine goK ?_ ?_ ?_ ?_ ?_ ?_ ?_ ?_ ?_ ?_ ?_ ?_ ?_ ?_ ?_ ?_
      any_goals (first | exact True.intro | skip)
      all_goals (repeat (refine Wh.mk fun hcc => ?_))
      all_goals simp [tupOf, fixEs, hy]
  · skip
    have hgei : i = l.length := by
      have : ¬ i < l.length := by simpa using hci
      omega
    have hall : l.all (fun x => !decide (x = n)) = true := all_of _ _ (fun j hj => hp j hj (by omega))
    have hy : amongB l n = false := by
      unfold amongB; rw [List.any_eq_false]; intro x hx; have := List.all_eq_true.1 hall x hx; simpa using this
    have fy := Nat.add_zero
    refine goK ?_ ?_ ?_ ?_ ?_ ?_ ?_ ?_ ?_ ?_ ?_ ?_ ?_ ?_ ?_ ?_
    any_goals (first | exact True.intro | skip)
    all_goals (repeat (refine Wh.mk fun hcc => ?_))
    all_goals simp [tupOf, fixEs, hy]
theorem l9Back_ok (G W : List GrT) (hl : LkOk (G, W, ())) (tx : Int) : CallR Try.prog 95 [.nd [.sl .b (G.map Enc.b), .sl .b (W.map Enc.b)], .int .i64 tx] [] (.bool (cycB (G, W, ()) tx)) := by
  refine CallR.of_body (n := 65) (rs := [.tmp 4]) hY.ok Try.func95 rfl (by decide) rfl rfl rfl rfl (fun F => ?_)
  have fx := And.intro Y1 (And.intro Y3 (And.intro Y4 (And.intro Y27 (And.intro Y41 (And.intro Y43 (Y50))))))
  have hG := hl.gl
  have hW := hl.wl
  simp only at hG hW
  have fy := bs1_27
  refine goN ?_ ?_ ?_ ?_ ?_ ?_ ?_ ?_ ?_ ?_ ?_ ?_ ?_ ?_ ?_ ?_
  any_goals (first | exact True.intro | skip)
  skip
  refine SW.loop (fun x : List Int × Nat => ⟨[.undef, .int .i64 tx, .ptr 1 0 [] 0, .undef, .undef, .ref 2 0 0 x.1.length, .int .i64 (x.2 : Nat), .undef, .undef, .undef, .undef, .undef, .undef, .undef, .undef, .undef, .undef, .undef, .undef, .undef, .undef, .undef, .undef, .undef, .undef, .undef, .undef, .undef, .undef, .undef, .undef, .undef, .undef, .undef, .undef, .undef, .undef, .undef, .undef, .undef, .undef, .undef, .undef, .undef, .undef, .undef, .undef, .undef, .undef, .undef, .undef, .undef, .undef, .undef, .undef, .undef, .undef, .undef, .undef, .undef, .undef, .undef, .undef, .undef, .undef], [[], [.var (.nd [.sl .b (G.map Enc.b), .sl .b (W.map Enc.b)])], [.arr 1 (x.1.map Enc.o) false]]⟩)
    (fun N x => N = 200 - x.2 ∧ x.2 ≤ 121 ∧ SI (G, W, ()) tx x.1 x.2) (n := 200) (x := ([tx], 0)) ?_ ⟨rfl, by simp, SI.init _ _⟩ ?_
  · exact Norm.re [0, 1, 2] (by decide) rfl (by first | (simp only [eq_self, heapFits, rowFits, obFits, List.getElem?_cons_zero, List.getElem?_cons_succ, renL_o, renL_b, true_and, and_true, and_self]; done) | simp [-List.map_set, -List.map_append, heapFits, rowFits, obFits, T.ren, renL, o_int]) (by simp [tmFits, T.ren, renL])
  rintro N ⟨met, i⟩ ⟨hN, hi121, hs⟩
  simp only at hN hi121 hs ⊢
  have fy := Nat.add_zero
  refine goS ?_
  refine SW.cond rfl (fun hc => ?_) (fun hc => ?_)
  · have hlt : i < met.length := by simp at hc; omega
    have hml := hs.len
    simp only at hml
    obtain ⟨y, hy⟩ : ∃ y, met[i]? = some y := ⟨_, List.getElem?_eq_getElem hlt⟩
    have h2 := hs.look hy
    have hwi : IntKind.i64.wrap ((i : Int) + 1) = ((i + 1 : Nat) : Int) := by rw [wrap64 _ (by omega) (by omega)]; omega
    have hinit : ((∀ (j : Nat) (h : j < W.length), 0 ≤ j → W[j].1 ≠ y) ∧ SI2 (G, W, ()) tx met i y []) ∨ (∃ (j : Nat) (h : j < W.length), 0 ≤ j ∧ W[j].1 = y ∧ SI2 (G, W, ()) tx met i y (outF (G, W, ()) y)) := by
      by_cases hex : ∃ (j : Nat) (h : j < W.length), W[j].1 = y
      · obtain ⟨j, hj, e⟩ := hex
        exact .inr ⟨j, hj, Nat.zero_le _, e, h2⟩
      · have hno : ∀ (j : Nat) (h : j < W.length), W[j].1 ≠ y := fun j h e => hex ⟨j, h, e⟩
        rw [outF_no hno] at h2
        exact .inl ⟨fun j h _ => hno j h, h2⟩
    clear h2 hs hy hlt hml hc
    have fy := hwi
    refine goN ?_ ?_ ?_ ?_ ?_ ?_ ?_ ?_ ?_ ?_ ?_ ?_ ?_ ?_ ?_ ?_
    any_goals (first | exact True.intro | skip)
    skip
    refine SW.loop (fun x : List Int × Nat => ⟨[.undef, .int .i64 tx, .ptr 1 0 [] 0, .undef, .undef, .ref 2 0 0 x.1.length, .int .i64 (i : Nat), .int .i64 (x.2 : Nat), .undef, .undef, .undef, .undef, .undef, .undef, .undef, .undef, .undef, .undef, .undef, .undef, .undef, .undef, .undef, .undef, .undef, .undef, .undef, .undef, .undef, .undef, .undef, .undef, .undef, .undef, .undef, .undef, .undef, .undef, .undef, .undef, .undef, .undef, .undef, .undef, .undef, .undef, .undef, .undef, .undef, .undef, .undef, .undef, .undef, .undef, .undef, .undef, .undef, .undef, .undef, .undef, .undef, .undef, .undef, .undef, .undef], [[], [.var (.nd [.sl .b (G.map Enc.b), .sl .b (W.map Enc.b)])], [.arr 1 (x.1.map Enc.o) false]]⟩)
      (fun M x => M = W.length - x.2 ∧ x.2 ≤ W.length ∧ (((∀ (j : Nat) (h : j < W.length), x.2 ≤ j → W[j].1 ≠ y) ∧ SI2 (G, W, ()) tx x.1 i y []) ∨ (∃ (j : Nat) (h : j < W.length), x.2 ≤ j ∧ W[j].1 = y ∧ SI2 (G, W, ()) tx x.1 i y (outF (G, W, ()) y)))) (n := W.length) (x := (met, 0)) ?_ ⟨rfl, Nat.zero_le _, hinit⟩ ?_
    · exact Norm.re [0, 1, 2] (by decide) rfl (by first | (simp only [eq_self, heapFits, rowFits, obFits, List.getElem?_cons_zero, List.getElem?_cons_succ, renL_o, renL_b, true_and, and_true, and_self]; done) | simp [-List.map_set, -List.map_append, heapFits, rowFits, obFits, T.ren, renL]) (by simp [tmFits, T.ren, renL])
    clear hinit
    rintro M ⟨met, k⟩ ⟨hM, hk, hinv⟩
    simp only at hM hk hinv ⊢
    have fy := Nat.add_zero
    refine goS ?_
    refine SW.cond rfl (fun hc2 => ?_) (fun hc2 => ?_)
    · have hlk : k < W.length := by simp at hc2; omega
      have hlkI : (k : Int) < (W.length : Int) := by omega
      have hgk : (W.map Enc.b)[k]? = some (.nd [.int .i64 W[k].1, .int .i64 W[k].2.1, .int .i64 W[k].2.2.1]) := map_get Enc.b W k hlk
      have hwk : IntKind.i64.wrap ((k : Int) + 1) = ((k + 1 : Nat) : Int) := by rw [wrap64 _ (by omega) (by omega)]; omega
      have hmi : met[i]? = some y := by rcases hinv with ⟨_, h⟩ | ⟨_, _, _, _, h⟩ <;> exact h.at_
      have hmlt : i < met.length := (List.getElem?_eq_some_iff.1 hmi).1
      have hmI : (i : Int) < (met.length : Int) := by omega
      have hgm : (met.map Enc.o)[i]? = some (T.int .i64 y) := by rw [List.getElem?_map, hmi]; rfl
      have hq : (W[k].1 != y) = !decide (W[k].1 = y) := rfl
      have cF := sFor_ok G W hl k hlk
      have hFl := forK_len hl W[k] k
      rw [← outF_at hl hlk] at cF hFl
      by_cases hky : W[k].1 = y
      rotate_left
      · rw [decide_eq_false hky] at hq
        have fy := And.intro hgk (And.intro hlkI (And.intro hwk (And.intro hmI (And.intro hgm (hq)))))
        refine goR ?_ ?_ ?_ ?_ ?_ ?_ ?_ ?_ ?_ ?_ ?_ ?_ ?_ ?_ ?_ ?_
        any_goals (first | exact True.intro | skip)
        all_goals (repeat (refine Wh.mk fun hcc => ?_))
        refine ⟨M - 1, (met, k + 1), by omega, ⟨by simp only; omega, by simp only; omega, ?_⟩, ?_⟩
        · rcases hinv with ⟨h1, h2⟩ | ⟨j, hj, h1, h2, h3⟩
          · exact .inl ⟨fun j h hj => h1 j h (by simp only at hj; omega), h2⟩
          · refine .inr ⟨j, hj, ?_, h2, h3⟩
            rcases Nat.eq_or_lt_of_le h1 with h' | h'
            · subst h'; exact absurd h2 hky
            · exact h'
        · exact Norm.re [0, 1, 2] (by decide) rfl (by first | (simp only [eq_self, heapFits, rowFits, obFits, List.getElem?_cons_zero, List.getElem?_cons_succ, renL_o, renL_b, true_and, and_true, and_self]; done) | simp [-List.map_set, -List.map_append, heapFits, rowFits, obFits, T.ren, renL]) (by simp [tmFits, T.ren, renL])
      · rw [decide_eq_true hky] at hq
        rw [hky] at cF hFl
        have h2 : SI2 (G, W, ()) tx met i y (outF (G, W, ()) y) := by
          rcases hinv with ⟨h1, _⟩ | ⟨_, _, _, _, h3⟩
          · exact absurd hky (h1 k hlk (Nat.le_refl _))
          · exact h3
        have hrest : ∀ (j : Nat) (h : j < W.length), k + 1 ≤ j → W[j].1 ≠ y := fun j h hj e => (List.pairwise_iff_getElem.1 hl.wp) k j hlk h (by omega) (by rw [hky]; exact e.symm)
        clear hinv
        generalize outF (G, W, ()) y = Z at *
        have hC1 := cx [] (cF)
        have fy := And.intro hgk (And.intro hlkI (And.intro hwk (And.intro hmI (And.intro hgm (hq)))))
        refine goR ?_ ?_ ?_ ?_ ?_ ?_ ?_ ?_ ?_ ?_ ?_ ?_ ?_ ?_ ?_ ?_
        any_goals (first | exact True.intro | skip)
        all_goals (repeat (refine Wh.mk fun hcc => ?_))
        refine SW.loop (fun x : List Int × Nat => ⟨[.undef, .int .i64 tx, .ptr 1 0 [] 0, .undef, .undef, .ref 2 0 0 x.1.length, .int .i64 (i : Nat), .int .i64 (k : Nat), .ref 3 0 0 Z.length, .int .i64 (x.2 : Nat), .undef, .undef, .undef, .undef, .undef, .undef, .undef, .undef, .undef, .undef, .undef, .undef, .undef, .undef, .undef, .undef, .undef, .undef, .undef, .undef, .undef, .undef, .undef, .undef, .undef, .undef, .undef, .undef, .undef, .undef, .undef, .undef, .undef, .undef, .undef, .undef, .undef, .undef, .undef, .undef, .undef, .undef, .undef, .undef, .undef, .undef, .undef, .undef, .undef, .undef, .undef, .undef, .undef, .undef, .undef], [[], [.var (.nd [.sl .b (G.map Enc.b), .sl .b (W.map Enc.b)])], [.arr 1 (x.1.map Enc.o) false], [.arr 1 (Z.map Enc.o) false]]⟩)
          (fun Q x => Q = Z.length - x.2 ∧ x.2 ≤ Z.length ∧ SI2 (G, W, ()) tx x.1 i y (Z.drop x.2)) (n := Z.length) (x := (met, 0)) ?_ ⟨rfl, Nat.zero_le _, h2⟩ ?_
        · exact Norm.re [0, 1, 2, 3] (by decide) rfl (by first | (simp only [eq_self, heapFits, rowFits, obFits, List.getElem?_cons_zero, List.getElem?_cons_succ, renL_o, renL_b, true_and, and_true, and_self]; done) | simp [-List.map_set, -List.map_append, heapFits, rowFits, obFits, T.ren, renL]) (by simp [tmFits, T.ren, renL])
        clear h2 hmi hmlt hmI hgm
        rintro Q ⟨met, n⟩ ⟨hQ, hn, h2⟩
        simp only at hQ hn h2 ⊢
        have fy := Nat.add_zero
        refine goS ?_
        refine SW.cond rfl (fun hc3 => ?_) (fun hc3 => ?_)
        · have hln : n < Z.length := by simp at hc3; omega
          have hlnI : (n : Int) < (Z.length : Int) := by omega
          have hgz : (Z.map Enc.o)[n]? = some (T.int .i64 Z[n]) := map_get Enc.o Z n hln
          rw [List.drop_eq_getElem_cons hln] at h2
          have hml := h2.si.len
          simp only at hml
          have hwn : IntKind.i64.wrap ((n : Int) + 1) = ((n + 1 : Nat) : Int) := by rw [wrap64 _ (by omega) (by omega)]; omega
          have cA := l9Among_ok met (by omega) Z[n]
          generalize hze : Z[n] = z at *
          have hqz : (z == tx) = decide (z = tx) := rfl
          by_cases hzt : z = tx
          · rw [decide_eq_true hzt] at hqz
            rw [hzt] at h2
            rw [h2.cyc]
            have fy := And.intro hgz (And.intro hlnI (And.intro hwn (hqz)))
            refine goK ?_ ?_ ?_ ?_ ?_ ?_ ?_ ?_ ?_ ?_ ?_ ?_ ?_ ?_ ?_ ?_
            any_goals (first | exact True.intro | skip)
            all_goals (repeat (refine Wh.mk fun hcc => ?_))
            all_goals rfl
          · rw [decide_eq_false hzt] at hqz
            cases ha : amongB met z
            rotate_left
            · rw [ha] at cA
              have hC1 := cx [] (cA)
              have fy := And.intro hgz (And.intro hlnI (And.intro hwn (hqz)))
              refine goR ?_ ?_ ?_ ?_ ?_ ?_ ?_ ?_ ?_ ?_ ?_ ?_ ?_ ?_ ?_ ?_
              any_goals (first | exact True.intro | skip)
              all_goals (repeat (refine Wh.mk fun hcc => ?_))
              refine ⟨Q - 1, (met, n + 1), by omega, ⟨by simp only; omega, by simp only; omega, h2.skip (amongB_iff.1 ha) hzt⟩, ?_⟩
              exact Norm.re [0, 1, 2, 3] (by decide) rfl (by first | (simp only [eq_self, heapFits, rowFits, obFits, List.getElem?_cons_zero, List.getElem?_cons_succ, renL_o, renL_b, true_and, and_true, and_self]; done) | simp [-List.map_set, -List.map_append, heapFits, rowFits, obFits, T.ren, renL]) (by simp [tmFits, T.ren, renL])
            · rw [ha] at cA
              have hpu := h2.push (fun h => by rw [amongB_iff.2 h] at ha; cases ha) hzt
              have hap := fun (own e j e2 j2 : Nat) (H : Heap) (q1 : H.at e j = some (.arr 1 ((met).map Enc.o) false)) (q2 : H.at e2 j2 = some (.arr 1 [.int .i64 z] false)) => append_runP (Y := Y) (own := own) (t := 27) (u := 27) (e := e) (j := j) (off := 0) (n := (met).length) (e2 := e2) (j2 := j2) (f := (met).map Enc.o) (l := met) (x := z) (H := H) Y27 Y27 Y3 rfl (by decide) q1 q2 (by rw [List.drop_zero]; exact take_map_len _ _) (by simp) (by omega) rfl rfl
              have hC1 := cx [] (cA)
              have fy := And.intro hgz (And.intro hlnI (And.intro hwn (And.intro hqz (And.intro bs1_27 (hap)))))
              refine goR ?_ ?_ ?_ ?_ ?_ ?_ ?_ ?_ ?_ ?_ ?_ ?_ ?_ ?_ ?_ ?_
              any_goals (first | exact True.intro | skip)
              all_goals (repeat (refine Wh.mk fun hcc => ?_))
              refine ⟨Q - 1, (met ++ [z], n + 1), by omega, ⟨by simp only; omega, by simp only; omega, hpu⟩, ?_⟩
              exact Norm.re [0, 1, 6, 3] (by decide) rfl (by first | (simp only [eq_self, heapFits, rowFits, obFits, List.getElem?_cons_zero, List.getElem?_cons_succ, renL_o, renL_b, true_and, and_true, and_self]; done) | simp [-List.map_set, -List.map_append, heapFits, rowFits, obFits, T.ren, renL]) (by simp [tmFits, T.ren, renL])
        · have hne : n = Z.length := by
            have : ¬ n < Z.length := by simp at hc3; omega
            omega
          subst hne
          rw [List.drop_length] at h2
          have fy := hwk
          refine goR ?_ ?_ ?_ ?_ ?_ ?_ ?_ ?_ ?_ ?_ ?_ ?_ ?_ ?_ ?_ ?_
          any_goals (first | exact True.intro | skip)
          all_goals (repeat (refine Wh.mk fun hcc => ?_))
          refine ⟨M - 1, (met, k + 1), by omega, ⟨by simp only; omega, by simp only; omega, .inl ⟨hrest, h2⟩⟩, ?_⟩
          exact Norm.re [0, 1, 2] (by decide) rfl (by first | (simp only [eq_self, heapFits, rowFits, obFits, List.getElem?_cons_zero, List.getElem?_cons_succ, renL_o, renL_b, true_and, and_true, and_self]; done) | simp [-List.map_set, -List.map_append, heapFits, rowFits, obFits, T.ren, renL]) (by simp [tmFits, T.ren, renL])
    · have hke : k = W.length := by
        have : ¬ k < W.length := by simp at hc2; omega
        omega
      subst hke
      have h2 : SI2 (G, W, ()) tx met i y [] := by
        rcases hinv with ⟨_, h⟩ | ⟨j, hj, h1, _, _⟩
        · exact h
        · omega
      have hml := h2.si.len
      have hmlt : i < met.length := (List.getElem?_eq_some_iff.1 h2.at_).1
      simp only at hml
      have fy := hwi
      refine goR ?_ ?_ ?_ ?_ ?_ ?_ ?_ ?_ ?_ ?_ ?_ ?_ ?_ ?_ ?_ ?_
      any_goals (first | exact True.intro | skip)
      all_goals (repeat (refine Wh.mk fun hcc => ?_))
      refine ⟨N - 1, (met, i + 1), by omega, ⟨by simp only; omega, by simp only; omega, h2.done⟩, ?_⟩
      exact Norm.re [0, 1, 2] (by decide) rfl (by first | (simp only [eq_self, heapFits, rowFits, obFits, List.getElem?_cons_zero, List.getElem?_cons_succ, renL_o, renL_b, true_and, and_true, and_self]; done) | simp [-List.map_set, -List.map_append, heapFits, rowFits, obFits, T.ren, renL]) (by simp [tmFits, T.ren, renL])
  · have hie : i = met.length := by
      have : ¬ i < met.length := by simp at hc; omega
      have := hs.kl
      omega
    subst hie
    rw [hs.done]
    have fy := Nat.add_zero
    refine goK ?_ ?_ ?_ ?_ ?_ ?_ ?_ ?_ ?_ ?_ ?_ ?_ ?_ ?_ ?_ ?_
    any_goals (first | exact True.intro | skip)
    all_goals (repeat (refine Wh.mk fun hcc => ?_))
    all_goals rfl
theorem sStuck_ok (G W : List GrT) (hl : LkOk (G, W, ())) : CallR Try.prog 37 [.nd [.sl .b (G.map Enc.b), .sl .b (W.map Enc.b)]] [] (.int .i64 (stuckF (G, W, ()))) := by
  refine CallR.of_body (n := 41) (rs := [.tmp 2]) hY.ok Try.func37 rfl (by decide) rfl rfl rfl rfl (fun F => ?_)
  have fx := And.intro Y1 (And.intro Y3 (And.intro Y4 (And.intro Y41 (And.intro Y43 (Y50)))))
  have hG := hl.gl
  have hW := hl.wl
  simp only at hW hG
  have cL := sLocksOk_ok G W (by omega) (by omega)
  rw [lkB_iff.2 hl] at cL
  have fy := Nat.add_zero
  refine goN ?_ ?_ ?_ ?_ ?_ ?_ ?_ ?_ ?_ ?_ ?_ ?_ ?_ ?_ ?_ ?_
  any_goals (first | exact True.intro | skip)
  skip
  refine SW.loop (fun i : Nat => ⟨[.undef, .ptr 1 0 [] 0, .undef, .int .i64 (stk (G, W, ()) i), .int .i64 (i : Nat), .undef, .undef, .undef, .undef, .undef, .undef, .undef, .undef, .undef, .undef, .undef, .undef, .undef, .undef, .undef, .undef, .undef, .undef, .undef, .undef, .undef, .undef, .undef, .undef, .undef, .undef, .undef, .undef, .undef, .undef, .undef, .undef, .undef, .undef, .undef, .undef], [[], [.var (.nd [.sl .b (G.map Enc.b), .sl .b (W.map Enc.b)])]]⟩)
    (fun N i => N = W.length - i ∧ i ≤ W.length) (n := W.length) (x := 0) ?_ ⟨rfl, Nat.zero_le _⟩ ?_
  · rw [stk_zero]
    exact Norm.re [0, 1] (by decide) rfl (by first | (simp only [eq_self, heapFits, rowFits, obFits, List.getElem?_cons_zero, List.getElem?_cons_succ, renL_o, renL_b, true_and, and_true, and_self]; done) | simp [-List.map_set, -List.map_append, heapFits, rowFits, obFits, T.ren, renL]) (by simp [tmFits, T.ren, renL])
  rintro N i ⟨hN, hi⟩
  by_cases hlt : i < W.length
  · have hd : decide ((i : Int) < (W.length : Int)) = true := by simp; omega
    have hltI : (i : Int) < (W.length : Int) := by omega
    have hg : (W.map Enc.b)[i]? = some (.nd [.int .i64 W[i].1, .int .i64 W[i].2.1, .int .i64 W[i].2.2.1]) := map_get Enc.b W i hlt
    have hS := stk_succ (G, W, ()) (i := i) hlt
    simp only at hS
    have hwi : IntKind.i64.wrap ((i : Int) + 1) = ((i + 1 : Nat) : Int) := by rw [wrap64 _ (by omega) (by omega)]; omega
    have cB := l9Back_ok G W hl W[i].1
    generalize W[i] = g at *
    generalize stk (G, W, ()) i = o at *
    have hq : decide (g.1 > o) = decide (g.1 > o) := rfl
    generalize hb1 : decide (g.1 > o) = b1 at *
    generalize cycB (G, W, ()) g.1 = b2 at *
    cases b1
    · rw [if_neg (by simp)] at hS
      have hC1 := cx [] (cL)
      have fy := And.intro hg (And.intro hltI (And.intro hwi (And.intro hb1 (hd))))
      refine goR ?_ ?_ ?_ ?_ ?_ ?_ ?_ ?_ ?_ ?_ ?_ ?_ ?_ ?_ ?_ ?_
      any_goals (first | exact True.intro | skip)
      all_goals (repeat (refine Wh.mk fun hcc => ?_))
      refine ⟨N - 1, i + 1, by omega, ⟨by omega, by omega⟩, ?_⟩
      rw [hS]
      exact Norm.re [0, 1] (by decide) rfl (by first | (simp only [eq_self, heapFits, rowFits, obFits, List.getElem?_cons_zero, List.getElem?_cons_succ, renL_o, renL_b, true_and, and_true, and_self]; done) | simp [-List.map_set, -List.map_append, heapFits, rowFits, obFits, T.ren, renL]) (by simp [tmFits, T.ren, renL])
    · cases b2
      · rw [if_neg (by simp)] at hS
        have hC1 := cx [] (cL)
        have hC2 := cx [] (cB)
        have fy := And.intro hg (And.intro hltI (And.intro hwi (And.intro hb1 (hd))))
        refine goR ?_ ?_ ?_ ?_ ?_ ?_ ?_ ?_ ?_ ?_ ?_ ?_ ?_ ?_ ?_ ?_
        any_goals (first | exact True.intro | skip)
        all_goals (repeat (refine Wh.mk fun hcc => ?_))
        refine ⟨N - 1, i + 1, by omega, ⟨by omega, by omega⟩, ?_⟩
        rw [hS]
        exact Norm.re [0, 1] (by decide) rfl (by first | (simp only [eq_self, heapFits, rowFits, obFits, List.getElem?_cons_zero, List.getElem?_cons_succ, renL_o, renL_b, true_and, and_true, and_self]; done) | simp [-List.map_set, -List.map_append, heapFits, rowFits, obFits, T.ren, renL]) (by simp [tmFits, T.ren, renL])
      · rw [if_pos (by simp)] at hS
        have hC1 := cx [] (cL)
        have hC2 := cx [] (cB)
        have fy := And.intro hg (And.intro hltI (And.intro hwi (And.intro hb1 (hd))))
        refine goR ?_ ?_ ?_ ?_ ?_ ?_ ?_ ?_ ?_ ?_ ?_ ?_ ?_ ?_ ?_ ?_
        any_goals (first | exact True.intro | skip)
        all_goals (repeat (refine Wh.mk fun hcc => ?_))
        refine ⟨N - 1, i + 1, by omega, ⟨by omega, by omega⟩, ?_⟩
        rw [hS]
        exact Norm.re [0, 1] (by decide) rfl (by first | (simp only [eq_self, heapFits, rowFits, obFits, List.getElem?_cons_zero, List.getElem?_cons_succ, renL_o, renL_b, true_and, and_true, and_self]; done) | simp [-List.map_set, -List.map_append, heapFits, rowFits, obFits, T.ren, renL]) (by simp [tmFits, T.ren, renL])
  have hige : i = W.length := by omega
  subst hige
  have hd : decide ((W.length : Int) < (W.length : Int)) = false := by simp
  have hSa : stk (G, W, ()) W.length = stuckF (G, W, ()) := stk_all (G, W, ())
  rw [hSa]
  have fy := hd
  refine goK ?_ ?_ ?_ ?_ ?_ ?_ ?_ ?_ ?_ ?_ ?_ ?_ ?_ ?_ ?_ ?_
  any_goals (first | exact True.intro | skip)
  all_goals (repeat (refine Wh.mk fun hcc => ?_))
  all_goals rfl
end Q6

namespace Q6
open Go Go.Vm Go.Proofs
set_option maxHeartbeats 4000000
set_option synthInstance.maxSize 2000
set_option synthInstance.maxHeartbeats 400000
set_option maxRecDepth 10000
set_option linter.unusedSimpArgs false
set_option linter.unusedVariables false

open Qlk

theorem filt_get {tx : Int} {l : List GrT} {j : Nat} (h : j < l.length) : (l.take (j + 1)).filter (notTx tx) = (l.take j).filter (notTx tx) ++ (if notTx tx l[j] = true then [l[j]] else []) := by
  rw [List.take_succ_eq_append_getElem h, List.filter_append]
  congr 1
  cases hb : notTx tx l[j] <;> simp [hb]

theorem delete_ok (tx : Int) (l : List GrT) (hl : l.length ≤ 1000) : CallR Try.prog 88 [.ow 3 (l.map Enc.o), .fn 87 [] [.fp (.int .i64 tx)]] [] (.ow 3 ((l.filter (notTx tx)).map Enc.o)) := by
  refine CallR.of_body (n := 42) (rs := [.tmp 4]) hY.ok Try.func88 rfl (by decide) rfl rfl rfl rfl (fun F => ?_)
  have fx := And.intro Y3 (And.intro Y4 (And.intro Y41 (And.intro Y50 (Y123))))
  have hI := idxD_ok tx l ⟨by omega, fun _ _ => ⟨trivial, trivial, trivial, trivial⟩⟩
  have hwN : IntKind.i64.wrap (-1) = -1 := rfl
  rcases idx_cases (fun x : GrT => decide (x.1 = tx)) l with ⟨i, hi, h1, h2, h3, h4⟩ | ⟨h1, h3⟩
  rotate_left
  · rw [h1] at hI
    have hf : l.filter (notTx tx) = l := by
      rw [List.filter_eq_self]; intro x hx
      rw [List.find?_eq_none] at h3
      unfold notTx; simpa using h3 x hx
    rw [hf]
    have hC1 := cx [] (hI)
    have fy := Nat.add_zero
    refine goR ?_ ?_ ?_ ?_ ?_ ?_ ?_ ?_ ?_ ?_ ?_ ?_ ?_ ?_ ?_ ?_
    any_goals (first | exact True.intro | skip)
    all_goals (repeat (refine Wh.mk fun hcc => ?_))
    all_goals exact SW.ret (show RetQ _ _ _ _ _ _ _ from RetQ.y [3] [.ow 3 (l.map Enc.o)])
  rw [h1] at hI
  have hne : ((i : Int) == -1) = false := by first | (simp; done) | (simp; omega)
  have hK0 : (l.take i).filter (notTx tx) = l.take i := by
    rw [List.filter_eq_self]; intro x hx
    obtain ⟨k, hk, rfl⟩ := List.mem_iff_getElem.1 hx
    have hk2 : k < i := by rw [List.length_take] at hk; omega
    rw [List.getElem_take]; unfold notTx; simpa using h4 k hk2
  have hK1 : (l.take (i + 1)).filter (notTx tx) = l.take i := by
    rw [filt_get hi, hK0]
    have : notTx tx l[i] = false := by unfold notTx; simpa using h2
    simp [this]
  have hwi : IntKind.i64.wrap ((i : Int) + 1) = ((i + 1 : Nat) : Int) := by rw [wrap64 _ (by omega) (by omega)]; omega
  have hC1 := cx [] (hI)
  have fy := And.intro hne (hwi)
  refine goR ?_ ?_ ?_ ?_ ?_ ?_ ?_ ?_ ?_ ?_ ?_ ?_ ?_ ?_ ?_ ?_
  any_goals (first | exact True.intro | skip)
  all_goals (repeat (refine Wh.mk fun hcc => ?_))
  refine SW.loop (fun x : Nat × List GrT => ⟨[.ref 0 0 0 l.length, .fn 87 [] [.fp (.int .i64 tx)], .undef, .undef, .undef, .int .i64 (((l.take x.1).filter (notTx tx)).length : Nat), .int .i64 (x.1 : Nat), .undef, .undef, .undef, .undef, .undef, .undef, .undef, .undef, .undef, .undef, .undef, .undef, .undef, .undef, .undef, .undef, .undef, .undef, .undef, .undef, .undef, .undef, .undef, .undef, .undef, .undef, .undef, .undef, .undef, .undef, .undef, .undef, .undef, .undef, .undef], [[.arr 3 (x.2.map Enc.o) false]]⟩)
    (fun N x => N = l.length - x.1 ∧ x.1 ≤ l.length ∧ x.2.length = l.length ∧ x.2.take ((l.take x.1).filter (notTx tx)).length = ((l.take x.1).filter (notTx tx)) ∧ (∀ k, x.1 ≤ k → x.2[k]? = l[k]?) ∧ ((l.take x.1).filter (notTx tx)).length < x.1) (n := l.length - (i + 1)) (x := (i + 1, l)) ?_ ⟨rfl, hi, rfl, by simp only [hK1]; simp, fun _ _ => rfl, by simp only [hK1, List.length_take]; omega⟩ ?_
  · simp only [hK1, List.length_take, Nat.min_eq_left (Nat.le_of_lt hi)]
    exact Norm.re [0] (by decide) rfl (by first | (simp only [eq_self, heapFits, rowFits, obFits, List.getElem?_cons_zero, List.getElem?_cons_succ, renL_o, renL_b, true_and, and_true, and_self]; done) | simp [-List.map_set, -List.map_append, heapFits, rowFits, obFits, T.ren, renL]) (by simp [tmFits, T.ren, renL])
  rintro N ⟨j, A⟩ ⟨hN, hj, hAl, hAt, hAd, hKj⟩
  simp only at hN hj hAl hAt hAd hKj ⊢
  have fy := Nat.add_zero
  refine goS ?_
  refine SW.cond rfl (fun hc => ?_) (fun hc => ?_)
  · have hlt : j < l.length := by simp at hc; omega
    have hltI : (j : Int) < (l.length : Int) := by omega
    have hg : (A.map Enc.o)[j]? = some (.nd [.int .i64 l[j].1, .int .i64 l[j].2.1, .int .i64 l[j].2.2.1]) := by rw [List.getElem?_map, hAd j (Nat.le_refl _), List.getElem?_eq_getElem hlt]; rfl
    have hF := filt_get (tx := tx) hlt
    have hC := cld_ok l[j] tx
    have hwj : IntKind.i64.wrap ((j : Int) + 1) = ((j + 1 : Nat) : Int) := by rw [wrap64 _ (by omega) (by omega)]; omega
    generalize ((l.take j).filter (notTx tx)) = K at *
    have hgK : (A.map Enc.o)[K.length]? = some (.nd [.int .i64 (((A[K.length]'(by omega))).1), .int .i64 (((A[K.length]'(by omega))).2.1), .int .i64 (((A[K.length]'(by omega))).2.2.1)]) := map_get Enc.o A K.length (by omega)
    have hset : (A.map Enc.o).set K.length (.nd [.int .i64 l[j].1, .int .i64 l[j].2.1, .int .i64 l[j].2.2.1]) = (A.set K.length l[j]).map Enc.o := by rw [List.map_set]; rfl
    have hKI : (K.length : Int) < (l.length : Int) := by omega
    have hwK : IntKind.i64.wrap ((K.length : Int) + 1) = ((K.length + 1 : Nat) : Int) := by rw [wrap64 _ (by omega) (by omega)]; omega
    have hn : notTx tx l[j] = !decide (l[j].1 = tx) := rfl
    generalize decide (l[j].1 = tx) = b at *
    generalize l[j] = y at *
    cases b
    · rw [if_pos (by rw [hn]; rfl)] at hF
      have hC1 := cx [] (hC)
      have fy := And.intro hg (And.intro hltI (And.intro hwj (And.intro hgK (And.intro hset (And.intro hKI (hwK))))))
      refine goR ?_ ?_ ?_ ?_ ?_ ?_ ?_ ?_ ?_ ?_ ?_ ?_ ?_ ?_ ?_ ?_
      any_goals (first | exact True.intro | skip)
      all_goals (repeat (refine Wh.mk fun hcc => ?_))
      refine ⟨N - 1, (j + 1, A.set K.length y), by omega, ⟨by simp only; omega, by simp only; omega, by simp [hAl], ?_, ?_, ?_⟩, ?_⟩
      · simp only [hF]; rw [List.length_append, List.length_singleton, List.take_succ_eq_append_getElem (by rw [List.length_set]; omega), List.getElem_set_self, List.take_set_of_le (Nat.le_refl _), hAt]
      · intro k hk
        simp only at hk ⊢
        rw [List.getElem?_set_ne (by omega)]; exact hAd k (by omega)
      · simp only [hF, List.length_append, List.length_singleton]; omega
      · simp only [hF, List.length_append, List.length_singleton]
        exact Norm.re [0] (by decide) rfl (by first | (simp only [eq_self, heapFits, rowFits, obFits, List.getElem?_cons_zero, List.getElem?_cons_succ, renL_o, renL_b, true_and, and_true, and_self]; done) | simp [-List.map_set, -List.map_append, heapFits, rowFits, obFits, T.ren, renL]) (by simp [tmFits, T.ren, renL])
    · rw [if_neg (by rw [hn]; decide), List.append_nil] at hF
      have hC1 := cx [] (hC)
      have fy := And.intro hg (And.intro hltI (hwj))
      refine goR ?_ ?_ ?_ ?_ ?_ ?_ ?_ ?_ ?_ ?_ ?_ ?_ ?_ ?_ ?_ ?_
      any_goals (first | exact True.intro | skip)
      all_goals (repeat (refine Wh.mk fun hcc => ?_))
      refine ⟨N - 1, (j + 1, A), by omega, ⟨by simp only; omega, by simp only; omega, hAl, by simp only [hF]; exact hAt, fun k hk => hAd k (by simp only at hk; omega), by simp only [hF]; omega⟩, ?_⟩
      simp only [hF]
      exact Norm.re [0] (by decide) rfl (by first | (simp only [eq_self, heapFits, rowFits, obFits, List.getElem?_cons_zero, List.getElem?_cons_succ, renL_o, renL_b, true_and, and_true, and_self]; done) | simp [-List.map_set, -List.map_append, heapFits, rowFits, obFits, T.ren, renL]) (by simp [tmFits, T.ren, renL])
  · have hge : j = l.length := by
      have : ¬ j < l.length := by simp at hc; omega
      omega
    subst hge
    rw [List.take_length] at hAt hKj ⊢
    generalize l.filter (notTx tx) = K at *
    have hs1 := fun (e j : Nat) (H : Heap) (q1 : H.at e j = some (.arr 3 (A.map Enc.o) false)) => show (sliceM Y 41 (.ref e j 0 l.length) (some (.int .i64 (K.length : Nat))) none none).run H = some { v := .ref e j K.length (l.length - K.length) } by simp only [sliceM, Y41, loF, hiF]; rw [if_pos ⟨by omega, by omega, Int.le_refl _⟩]; simp [RM.run, q1, Y50]
    have hs2 := fun (L : List T) (e j : Nat) (H : Heap) (q1 : H.at e j = some (.arr 3 L false)) => show (sliceM Y 41 (.ref e j 0 l.length) none (some (.int .i64 (K.length : Nat))) none).run H = some { v := .ref e j 0 K.length } by simp only [sliceM, Y41, loF, hiF]; rw [if_pos ⟨by decide, by omega, by omega⟩]; simp [RM.run, q1, Y50]
    have hcl := fun (e j : Nat) (H : Heap) (q1 : H.at e j = some (.arr 3 (A.map Enc.o) false)) => show (clearM Y 41 (.ref e j K.length (l.length - K.length))).run H = some { v := .tup [], ups := [(e, j, .arr 3 ((A.map Enc.o).take K.length ++ (List.replicate (l.length - K.length) (zeroT Y 9 50) ++ (A.map Enc.o).drop (K.length + (l.length - K.length)))) false)] } by simp only [clearM, Y41, Y50, RM.run, q1]; rw [if_pos (by refine ⟨?_, ?_, ?_, ?_⟩ <;> first | trivial | rfl | decide | (rw [List.length_map]; omega))]; simp only [RM.run]
    generalize List.replicate (l.length - K.length) (zeroT Y 9 50) ++ (A.map Enc.o).drop (K.length + (l.length - K.length)) = Z at *
    have hs2 := hs2 ((A.map Enc.o).take K.length ++ Z)
    have fy := And.intro hs1 (And.intro hs2 (hcl))
    refine goR ?_ ?_ ?_ ?_ ?_ ?_ ?_ ?_ ?_ ?_ ?_ ?_ ?_ ?_ ?_ ?_
    any_goals (first | exact True.intro | skip)
    all_goals (repeat (refine Wh.mk fun hcc => ?_))
    refine SW.norm (Norm.trunc 0 0 K.length rfl) ?_
    have htk : ((A.map Enc.o).take K.length ++ Z).take K.length = K.map Enc.o := by
      rw [← List.map_take, hAt, List.take_append_of_le_length (by simp), List.take_of_length_le (by simp)]
    simp only [Heap.put, List.getElem?_cons_zero, List.set_cons_zero, htk]
    exact SW.ret (show RetQ _ _ _ _ _ _ _ from RetQ.y [3] [.ow 3 (K.map Enc.o)])
end Q6

namespace Q6
open Go Go.Vm Go.Proofs
set_option maxHeartbeats 4000000
set_option synthInstance.maxSize 2000
set_option synthInstance.maxHeartbeats 400000
set_option maxRecDepth 10000
set_option linter.unusedSimpArgs false
set_option linter.unusedVariables false

open Qlk

noncomputable def dropAll (G W : List GrT) (tx : Int) : LkT × List Int := if lkB G W = true then dropF (G, W, ()) tx else ((G, W, ()), [])
theorem openD (tm : List T) (A ws lf : List GrT) (gt : List Int) : Norm ⟨tm, [[], [.var (.nd [.nils 3, .nils 3])], [.var (.nd [.ow 3 ((A).map Enc.o), .any])], [.arr 3 ((ws).map Enc.o) false], [.arr 3 ((lf).map Enc.o) false], [.arr 1 ((gt).map Enc.o) false]]⟩ ⟨tm, [[], [.var (.nd [.nils 3, .nils 3])], [.var (.nd [.ref 6 0 0 (A).length, .any])], [.arr 3 ((ws).map Enc.o) false], [.arr 3 ((lf).map Enc.o) false], [.arr 1 ((gt).map Enc.o) false], [.arr 3 ((A).map Enc.o) false]]⟩ := by
  have h := Norm.expelVar (tm := tm) (H := [[], [.var (.nd [.nils 3, .nils 3])], [.var (.nd [.ow 3 ((A).map Enc.o), .any])], [.arr 3 ((ws).map Enc.o) false], [.arr 3 ((lf).map Enc.o) false], [.arr 1 ((gt).map Enc.o) false]]) 2 0 rfl
  simp only [thawA, thawAL, Heap.put, List.getElem?_cons_zero, List.getElem?_cons_succ, List.set_cons_zero, List.set_cons_succ, List.length_cons, List.length_nil, List.nil_append, List.cons_append, List.append_nil, Nat.zero_add, Nat.reduceAdd, List.length_map] at h
  exact h

theorem sDropAll_ok (G W : List GrT) (hG : G.length ≤ 1048576) (hW : W.length ≤ 1048576) (tx : Int) : CallR Try.prog 26 [.nd [.sl .b (G.map Enc.b), .sl .b (W.map Enc.b)], .int .i64 tx] [] (.tup [.nd [.ow 3 ((dropAll G W tx).1.1.map Enc.o), .ow 3 ((dropAll G W tx).1.2.1.map Enc.o)], .ow 1 ((dropAll G W tx).2.map Enc.o)]) := by
  refine CallR.of_body (n := 19) (rs := [.cell 4 43, .tmp 5]) hY.ok Try.func26 rfl (by decide) rfl rfl rfl rfl (fun F => ?_)
  have fx := And.intro Y3 (And.intro Y4 (And.intro Y27 (And.intro Y41 (And.intro Y43 (And.intro Y50 (Y131))))))
  have c1 := sCopy_ok G W hG hW
  have c2 := sLocksOk_ok G W hG hW
  unfold dropAll
  cases hk : lkB G W
  · rw [hk] at c2
    rw [if_neg (by decide)]
    have hC1 := cx [] (c1)
    have hC2 := cx [] (c2)
    have fy := bs0_27
    refine goR ?_ ?_ ?_ ?_ ?_ ?_ ?_ ?_ ?_ ?_ ?_ ?_ ?_ ?_ ?_ ?_
    any_goals (first | exact True.intro | skip)
    all_goals (repeat (refine Wh.mk fun hcc => ?_))
    all_goals exact SW.ret (show RetQ _ _ _ _ _ _ _ from RetQ.y [0, 1] [.nd [.ow 3 (G.map Enc.o), .ow 3 (W.map Enc.o)], .ow 1 []])
  · rw [hk] at c2
    rw [if_pos rfl]
    have c3 := sDrop_ok G W (lkB_iff.1 hk) tx
    unfold dropF
    generalize dropR (G, W, ()) tx = s at *
    obtain ⟨A, B, C⟩ := s
    simp only at *
    have hC1 := cx [] (c1)
    have hC2 := cx [] (c2)
    have fy := bs0_27
    refine goR ?_ ?_ ?_ ?_ ?_ ?_ ?_ ?_ ?_ ?_ ?_ ?_ ?_ ?_ ?_ ?_
    any_goals (first | exact True.intro | skip)
    all_goals (repeat (refine Wh.mk fun hcc => ?_))
    have hC1 := cx [.io] (c3)
    have fy := Nat.add_zero
    refine vcall_c hC1 (hK := ?_)
    simp only [k13, upT_g, dnT_g, nb_g, dnT_b, dnT_s, dnT_0, dnT_r, fx, fy, wo, decide_true, decide_false, wz0, wz1, wz2, wz3, wz4, wz5, wz6, wz7, wz8, appM, Ty.isInt, capT, appendZM, buildM, setAll, plSt, plAr, mnmx, Int.reduceLT, vrec, List.drop_succ_cons, List.drop_zero, convertM, indexM, fieldM, Int.toNat_zero, Int.toNat_one, Int.le_refl, Int.zero_le_ofNat, Int.reduceEq, Int.reduceNe, ne_eq, not_false_eq_true, u8_wrap, marksG_len, marks_len, bne_self_eq_false, take_map_len, tgL_byte, T.asArr, T.tg, tgL, indexAddrM, wk, wl, eq_self, isCall, callT, opM, S.ev, S.put, entryS, thawAL, thawA, RM.run, RM.bind, RM.ofOpt, allocs, Heap.ups, Heap.put, Heap.at, List.replicate, Nat.reduceAdd, Nat.reduceSub, ofConst, nilAs, if_false, if_true, binT, binTy, unT, guardT, quietK, reduceIte, boxM, allocM, loadM, storeM, fieldAddrM, lenT, extractT, subM, setOb, T.get, T.setp, T.offs, T.nw, nwL, T.cel, T.isNd, T.size, sizeL, TyI.agg, Ty.agg, Ty.isFn, zeroT, Nat.reduceLT, Nat.reduceEqDiff, sumT, kill]
    try simp only [thenS, blockS, if_true, if_false, Nat.reduceEqDiff, reduceIte]
    refine SW.norm (Norm.expelVar 4 0 rfl) ?_
    simp only [thawA, thawAL, Heap.put, List.getElem?_cons_zero, List.getElem?_cons_succ, List.set_cons_zero, List.set_cons_succ, List.length_cons, List.length_nil, List.nil_append, List.cons_append, List.append_nil, Nat.zero_add, Nat.reduceAdd, List.length_map]
    have fy := Nat.add_zero
    refine goR ?_ ?_ ?_ ?_ ?_ ?_ ?_ ?_ ?_ ?_ ?_ ?_ ?_ ?_ ?_ ?_
    any_goals (first | exact True.intro | skip)
    all_goals (repeat (refine Wh.mk fun hcc => ?_))
    all_goals exact SW.ret (show RetQ _ _ _ _ _ _ _ from RetQ.y [0, 1] [.nd [.ow 3 (A.map Enc.o), .ow 3 (B.map Enc.o)], .ow 1 (C.map Enc.o)])
theorem iDropAll_ok (G W : List GrT) (hG : G.length ≤ 1048576) (hW : W.length ≤ 1048576) (tx : Int) : CallR Try.prog 28 [.nd [.sl .b (G.map Enc.b), .sl .b (W.map Enc.b)], .int .i64 tx] [] (.tup [.nd [.ow 3 ((dropAll G W tx).1.1.map Enc.o), .ow 3 ((dropAll G W tx).1.2.1.map Enc.o)], .ow 1 ((dropAll G W tx).2.map Enc.o)]) := by
  refine CallR.of_body (n := 71) (rs := [.cell 4 43, .tmp 5]) hY.ok Try.func28 rfl (by decide) rfl rfl rfl rfl (fun F => ?_)
  have fx := And.intro Y1 (And.intro Y3 (And.intro Y4 (And.intro Y27 (And.intro Y41 (And.intro Y43 (And.intro Y50 (Y123)))))))
  have c1 := cloneLocks_ok G W hG hW
  have c2 := iLocksOk_ok G W hG hW
  unfold dropAll
  cases hk : lkB G W
  · rw [hk] at c2
    rw [if_neg (by decide)]
    have hC1 := cx [] (c1)
    have hC2 := cx [] (c2)
    have fy := Nat.add_zero
    refine goR ?_ ?_ ?_ ?_ ?_ ?_ ?_ ?_ ?_ ?_ ?_ ?_ ?_ ?_ ?_ ?_
    any_goals (first | exact True.intro | skip)
    all_goals (repeat (refine Wh.mk fun hcc => ?_))
    all_goals exact SW.ret (show RetQ _ _ _ _ _ _ _ from RetQ.y [0, 1] [.nd [.ow 3 (G.map Enc.o), .ow 3 (W.map Enc.o)], .ow 1 []])
  · rw [hk] at c2
    rw [if_pos rfl]
    have hl := lkB_iff.1 hk
    have hG6 := hl.gl
    have hW6 := hl.wl
    simp only at hG6 hW6
    have hD := DI.init hl tx
    have c3 := delete_ok tx G (by omega)
    have c4 := delete_ok tx W (by omega)
    unfold dropF dropR
    simp only at hD ⊢
    have hwl : (W.filter (notTx tx)).length ≤ 60 := by have := List.length_filter_le (notTx tx) W; omega
    generalize W.filter (notTx tx) = ws at *
    generalize hs0 : ((G.filter (notTx tx), ([] : List GrT), ([] : List Int)) : DS) = s0 at *
    have e1 : G.filter (notTx tx) = s0.1 := by rw [← hs0]
    have e2 : ([] : List GrT) = s0.2.1 := by rw [← hs0]
    have e3 : ([] : List Int) = s0.2.2 := by rw [← hs0]
    rw [e1] at c3
    have hC1 := cx [] (c1)
    have hC2 := cx [] (c2)
    have hC3 := cx [.own 3] (c3)
    have hC4 := cx [.own 3] (c4)
    have fy := And.intro bs0_41 (bs0_27)
    refine goR ?_ ?_ ?_ ?_ ?_ ?_ ?_ ?_ ?_ ?_ ?_ ?_ ?_ ?_ ?_ ?_
    any_goals (first | exact True.intro | skip)
    all_goals (repeat (refine Wh.mk fun hcc => ?_))
    refine SW.loop (fun x : Nat × DS => ⟨[.undef, .undef, .undef, .undef, .ptr 1 0 [] 0, .undef, .undef, .ptr 2 0 [] 0, .undef, .ref 5 0 0 x.2.2.2.length, .ref 4 0 0 x.2.2.1.length, .undef, .undef, .undef, .undef, .undef, .undef, .undef, .undef, .undef, .undef, .undef, .undef, .undef, .undef, .undef, .undef, .undef, .undef, .undef, .undef, .undef, .undef, .undef, .ref 3 0 0 ws.length, .int .i64 (ws.length : Nat), .int .i64 (x.1 : Nat), .undef, .undef, .undef, .undef, .undef, .undef, .undef, .undef, .undef, .undef, .undef, .undef, .undef, .undef, .undef, .undef, .undef, .undef, .undef, .undef, .undef, .undef, .undef, .undef, .undef, .undef, .undef, .undef, .undef, .undef, .undef, .undef, .undef, .undef], [[], [.var (.nd [.nils 3, .nils 3])], [.var (.nd [.ref 6 0 0 (x.2.1).length, .any])], [.arr 3 ((ws).map Enc.o) false], [.arr 3 ((x.2.2.1).map Enc.o) false], [.arr 1 ((x.2.2.2).map Enc.o) false], [.arr 3 ((x.2.1).map Enc.o) false]]⟩)
      (fun N x => N = ws.length - x.1 ∧ x.1 ≤ ws.length ∧ x.2 = (ws.take x.1).foldl dropS s0 ∧ DI tx (G.length + W.length) ws.length x.2 (ws.drop x.1)) (n := ws.length) (x := (0, s0)) ?_ ⟨rfl, Nat.zero_le _, rfl, hD⟩ ?_
    · refine Norm.trans ?_ (openD _ s0.1 ws s0.2.1 s0.2.2)
      rw [← e2, ← e3]
      refine Norm.trans (Norm.forget (u := .nd [.ref 7 0 0 s0.1.length, .any]) 6 0 rfl (.inr ⟨_, rfl, ⟨_, _, rfl, .inl rfl, ⟨_, _, rfl, .inr rfl, rfl⟩⟩⟩)) ?_
      simp only [Heap.put, List.getElem?_cons_zero, List.getElem?_cons_succ, List.set_cons_succ, List.set_cons_zero]
      refine Norm.trans (Norm.soakVar 6 0 rfl) ?_
      simp only [soakS, soakL, Heap.at, Heap.put, List.getElem?_cons_zero, List.getElem?_cons_succ, List.set_cons_zero, List.set_cons_succ, List.length_map, List.length_nil, and_self, if_true]
      exact Norm.re [0, 3, 6, 8, 10, 9] (by decide) rfl (by first | (simp only [eq_self, heapFits, rowFits, obFits, List.getElem?_cons_zero, List.getElem?_cons_succ, renL_o, renL_b, true_and, and_true, and_self]; done) | simp [-List.map_set, -List.map_append, heapFits, rowFits, obFits, T.ren, renL]) (by simp [tmFits, T.ren, renL])
    clear hs0 e1 e2 e3 c1 c2 c3 c4 hD
    rintro N ⟨i, s⟩ ⟨hN, hi, hs, hd⟩
    simp only at hN hi hs hd ⊢
    have fy := Nat.add_zero
    refine goS ?_
    refine SW.cond rfl (fun hc => ?_) (fun hc => ?_)
    · have hlt : i < ws.length := by simp at hc; omega
      have hltI : (i : Int) < (ws.length : Int) := by omega
      have hg : (ws.map Enc.o)[i]? = some (.nd [.int .i64 ws[i].1, .int .i64 ws[i].2.1, .int .i64 ws[i].2.2.1]) := map_get Enc.o ws i hlt
      have hwi : IntKind.i64.wrap ((i : Int) + 1) = ((i + 1 : Nat) : Int) := by rw [wrap64 _ (by omega) (by omega)]; omega
      have hst := drop_step s0 ws i hlt
      rw [← hs] at hst
      rw [List.drop_eq_getElem_cons hlt] at hd
      have hd2 := hd.step
      have hn := hd.n
      have hk2 := hd.k
      simp only [List.length_cons] at hn hk2
      have hgr := fun x hx => (hd.g x hx).1
      have hgg := (hd.t ws[i] List.mem_cons_self).1
      have cW := would_y s.1 (by omega) ws[i]
      rw [wouldI_eq hgr hgg] at cW
      have cF := allGo_y s.1 (by omega) ws[i] (wouldF s.1 ws[i])
      have cR : CallR Try.prog _ _ _ (.bool (forRes s.2.1 ws[i].2.1)) := anyE_ok ws[i] s.2.1 ⟨by omega, fun _ _ => ⟨trivial, trivial, trivial, trivial⟩⟩
      have cG := give_y s.1 (by omega) ws[i] (wouldF s.1 ws[i])
      have hS : dropS s ws[i] = if (fitsF s.1 ws[i] (wouldF s.1 ws[i]) && !forRes s.2.1 ws[i].2.1) = true then (giveF s.1 ws[i] (wouldF s.1 ws[i]), s.2.1, s.2.2 ++ [ws[i].1]) else (s.1, s.2.1 ++ [ws[i]], s.2.2) := rfl
      generalize giveF s.1 ws[i] (wouldF s.1 ws[i]) = G2 at *
      generalize fitsF s.1 ws[i] (wouldF s.1 ws[i]) = b1 at *
      generalize forRes s.2.1 ws[i].2.1 = b2 at *
      generalize wouldF s.1 ws[i] = m at *
      generalize hgi : ws[i] = g at *
      generalize dropS s g = s2 at *
      obtain ⟨A, B, C⟩ := s
      simp only at *
      cases b2
      rotate_left
      · skip
        rw [if_neg (by simp)] at hS
        have hap := fun (own e j e2 j2 : Nat) (H : Heap) (q1 : H.at e j = some (.arr 3 ((B).map Enc.o) false)) (q2 : H.at e2 j2 = some (.arr 3 [.nd [.int .i64 g.1, .int .i64 g.2.1, .int .i64 g.2.2.1]] false)) => append_runP (Y := Y) (own := own) (t := 41) (u := 41) (e := e) (j := j) (off := 0) (n := (B).length) (e2 := e2) (j2 := j2) (f := (B).map Enc.o) (l := B) (x := g) (H := H) Y41 Y41 Y50 rfl (by decide) q1 q2 (by rw [List.drop_zero]; exact take_map_len _ _) (by simp) (by omega) rfl rfl
        have hC1 := cx [] (cW)
        have hC2 := cx [] (cR)
        have fy := And.intro hg (And.intro hltI (And.intro hwi (And.intro bs1_41 (hap))))
        refine goR ?_ ?_ ?_ ?_ ?_ ?_ ?_ ?_ ?_ ?_ ?_ ?_ ?_ ?_ ?_ ?_
        any_goals (first | exact True.intro | skip)
        all_goals (repeat (refine Wh.mk fun hcc => ?_))
        refine ⟨N - 1, (i + 1, s2), by omega, ⟨by simp only; omega, by simp only; omega, hst.symm, hd2⟩, ?_⟩
        rw [hS]
        exact Norm.re [0, 1, 2, 3, 11, 5, 6] (by decide) rfl (by first | (simp only [eq_self, heapFits, rowFits, obFits, List.getElem?_cons_zero, List.getElem?_cons_succ, renL_o, renL_b, true_and, and_true, and_self]; done) | simp [-List.map_set, -List.map_append, heapFits, rowFits, obFits, T.ren, renL]) (by simp [tmFits, T.ren, renL])
      · cases b1
        · skip
          rw [if_neg (by simp)] at hS
          have hap := fun (own e j e2 j2 : Nat) (H : Heap) (q1 : H.at e j = some (.arr 3 ((B).map Enc.o) false)) (q2 : H.at e2 j2 = some (.arr 3 [.nd [.int .i64 g.1, .int .i64 g.2.1, .int .i64 g.2.2.1]] false)) => append_runP (Y := Y) (own := own) (t := 41) (u := 41) (e := e) (j := j) (off := 0) (n := (B).length) (e2 := e2) (j2 := j2) (f := (B).map Enc.o) (l := B) (x := g) (H := H) Y41 Y41 Y50 rfl (by decide) q1 q2 (by rw [List.drop_zero]; exact take_map_len _ _) (by simp) (by omega) rfl rfl
          have hC1 := cx [] (cW)
          have hC2 := cx [] (cR)
          have hC3 := cx [] (cF)
          have fy := And.intro hg (And.intro hltI (And.intro hwi (And.intro bs1_41 (hap))))
          refine goR ?_ ?_ ?_ ?_ ?_ ?_ ?_ ?_ ?_ ?_ ?_ ?_ ?_ ?_ ?_ ?_
          any_goals (first | exact True.intro | skip)
          all_goals (repeat (refine Wh.mk fun hcc => ?_))
          refine ⟨N - 1, (i + 1, s2), by omega, ⟨by simp only; omega, by simp only; omega, hst.symm, hd2⟩, ?_⟩
          rw [hS]
          exact Norm.re [0, 1, 2, 3, 12, 5, 6] (by decide) rfl (by first | (simp only [eq_self, heapFits, rowFits, obFits, List.getElem?_cons_zero, List.getElem?_cons_succ, renL_o, renL_b, true_and, and_true, and_self]; done) | simp [-List.map_set, -List.map_append, heapFits, rowFits, obFits, T.ren, renL]) (by simp [tmFits, T.ren, renL])
        · rw [if_pos (by simp)] at hS
          have hap := fun (own e j e2 j2 : Nat) (H : Heap) (q1 : H.at e j = some (.arr 1 ((C).map Enc.o) false)) (q2 : H.at e2 j2 = some (.arr 1 [.int .i64 g.1] false)) => append_runP (Y := Y) (own := own) (t := 27) (u := 27) (e := e) (j := j) (off := 0) (n := (C).length) (e2 := e2) (j2 := j2) (f := (C).map Enc.o) (l := C) (x := g.1) (H := H) Y27 Y27 Y3 rfl (by decide) q1 q2 (by rw [List.drop_zero]; exact take_map_len _ _) (by simp) (by omega) rfl rfl
          have hC1 := cx [] (cW)
          have hC2 := cx [] (cR)
          have hC3 := cx [] (cF)
          have hC4 := cx [.io] (cG)
          have fy := And.intro hg (And.intro hltI (And.intro hwi (And.intro bs1_27 (hap))))
          refine goR ?_ ?_ ?_ ?_ ?_ ?_ ?_ ?_ ?_ ?_ ?_ ?_ ?_ ?_ ?_ ?_
          any_goals (first | exact True.intro | skip)
          all_goals (repeat (refine Wh.mk fun hcc => ?_))
          refine ⟨N - 1, (i + 1, s2), by omega, ⟨by simp only; omega, by simp only; omega, hst.symm, hd2⟩, ?_⟩
          rw [hS]
          refine Norm.trans ?_ (openD _ G2 ws B (C ++ [g.1]))
          exact Norm.re [0, 1, 2, 3, 4, 13] (by decide) rfl (by first | (simp only [eq_self, heapFits, rowFits, obFits, List.getElem?_cons_zero, List.getElem?_cons_succ, renL_o, renL_b, true_and, and_true, and_self]; done) | simp [-List.map_set, -List.map_append, heapFits, rowFits, obFits, T.ren, renL]) (by simp [tmFits, T.ren, renL])
    · have hige : i = ws.length := by
        have : ¬ i < ws.length := by simp at hc; omega
        omega
      subst hige
      rw [List.take_length] at hs
      rw [← hs]
      obtain ⟨A, B, C⟩ := s
      simp only at *
      have fy := Nat.add_zero
      refine goR ?_ ?_ ?_ ?_ ?_ ?_ ?_ ?_ ?_ ?_ ?_ ?_ ?_ ?_ ?_ ?_
      any_goals (first | exact True.intro | skip)
      all_goals (repeat (refine Wh.mk fun hcc => ?_))
      all_goals exact SW.ret (show RetQ _ _ _ _ _ _ _ from RetQ.y [0, 1] [.nd [.ow 3 (A.map Enc.o), .ow 3 (B.map Enc.o)], .ow 1 (C.map Enc.o)])
end Q6

namespace Q6
open Go Go.Vm Go.Proofs
set_option maxHeartbeats 4000000
set_option synthInstance.maxSize 2000
set_option synthInstance.maxHeartbeats 400000
set_option maxRecDepth 10000
set_option linter.unusedSimpArgs false
set_option linter.unusedVariables false

open Qlk

theorem dropAll_f {G W : List GrT} (h : LkOk (G, W, ())) (tx : Int) : dropAll G W tx = dropF (G, W, ()) tx := by unfold dropAll; rw [if_pos (lkB_iff.2 h)]
def cntW (tx : Int) (W : List GrT) (i : Nat) : Nat := ((W.take i).filter (notTx tx)).length
theorem cntW_zero (tx : Int) (W : List GrT) : cntW tx W 0 = 0 := rfl
theorem cntW_succ (tx : Int) {W : List GrT} {i : Nat} (h : i < W.length) : cntW tx W (i + 1) = cntW tx W i + (if notTx tx W[i] = true then 1 else 0) := by
  unfold cntW
  rw [List.take_succ_eq_append_getElem h, List.filter_append, List.length_append]
  congr 1
  cases hb : notTx tx W[i] <;> simp [hb]
theorem cntW_all (tx : Int) (W : List GrT) : cntW tx W W.length = (W.filter (notTx tx)).length := by unfold cntW; rw [List.take_length]
theorem cntW_le (tx : Int) (W : List GrT) (i : Nat) : cntW tx W i ≤ W.length := by
  unfold cntW
  exact Nat.le_trans (List.length_filter_le _ _) (by rw [List.length_take]; omega)

theorem droppedLaw_ok (l : List UInt8) : CallR Try.prog 7 [.sl .s (l.map Enc.b)] [] (.bool true) := by
  refine CallR.of_body (n := 108) (rs := [.tmp 2]) hY.ok Try.func7 rfl (by decide) rfl rfl rfl rfl (fun F => ?_)
  have fx := And.intro Y1 (And.intro Y3 (And.intro Y4 (And.intro Y5 (And.intro Y22 (And.intro Y27 (And.intro Y41 (And.intro Y43 (Y50))))))))
  have hbg := big_ok l
  by_cases hb : (1048576 : Int) < (l.length : Int)
  · rw [decide_eq_true hb] at hbg
    have hC1 := cx [.own 1] (hbg)
    have fy := Nat.add_zero
    refine goK ?_ ?_ ?_ ?_ ?_ ?_ ?_ ?_ ?_ ?_ ?_ ?_ ?_ ?_ ?_ ?_
    any_goals (first | exact True.intro | skip)
    all_goals (repeat (refine Wh.mk fun hcc => ?_))
    all_goals rfl
  rw [decide_eq_false hb] at hbg
  have hl1 : l.length ≤ 1048576 := by omega
  have hD := drawLocksW_ok l hl1
  obtain ⟨hL, hsz⟩ := drawLocks_ok l hl1
  generalize drawLocks l = L at *
  obtain ⟨G, W, ⟨⟩⟩ := L
  simp only at hD hsz
  have hA2 := at_ok l hl1 2 (by decide)
  obtain ⟨p2, q2⟩ := atF_rng l 2
  generalize atF l 2 = a2 at *
  simp only [Int.cast_ofNat_Int] at hA2
  have r2 : 0 ≤ a2.tmod 5 ∧ a2.tmod 5 < 5 := ⟨Int.tmod_nonneg _ p2, Int.tmod_lt_of_pos _ (by decide)⟩
  have wa2 : IntKind.i64.wrap (a2.tmod 5) = a2.tmod 5 := wrap64 _ (by omega) (by omega)
  have wb2 : IntKind.i64.wrap (1 + a2.tmod 5) = 1 + a2.tmod 5 := wrap64 _ (by omega) (by omega)
  generalize htx : 1 + a2.tmod 5 = tx at *
  have cI := iDropAll_ok G W (by omega) (by omega) tx
  have cS := sDropAll_ok G W (by omega) (by omega) tx
  rw [dropAll_f hL] at cI cS
  obtain ⟨d1, d2, _, d4, d5⟩ := drop_ok hL tx (by simp only; omega)
  have cT := iStuck_ok G W hL
  have cU := sStuck_ok G W hL
  have hsd := fun hs => stuck_drop hL (by simp only; omega) (s := stuckF (G, W, ())) hs
  generalize hst : stuckF (G, W, ()) = s at *
  have cM := iDropAll_ok G W (by omega) (by omega) s
  rw [dropAll_f hL] at cM
  obtain ⟨m1, _, _, _, _⟩ := drop_ok hL s (by simp only; omega)
  generalize dropF (G, W, ()) tx = D at *
  obtain ⟨⟨A, B, ⟨⟩⟩, C⟩ := D
  simp only at cI cS d1 d2 d4 d5
  have hAl := d1.gl
  have hBl := d1.wl
  simp only at hAl hBl
  generalize dropF (G, W, ()) s = D2 at *
  obtain ⟨⟨A2, B2, ⟨⟩⟩, C2⟩ := D2
  simp only at cM m1 hsd
  have cV := iStuck_ok A2 B2 m1
  generalize stuckF (A2, B2, ()) = s2 at *
  have cK := iLocksOk_ok A B (by omega) (by omega)
  rw [lkB_iff.2 d1] at cK
  have hCl : C.length ≤ 1000 := by have := List.length_filter_le (notTx tx) W; omega
  have cE := laws_sameInts_ok C C ⟨by omega, fun _ _ => trivial⟩
  rw [decide_eq_true rfl] at cE
  have hC1 := cx [.own 1] (hbg)
  have hC2 := cx [.own 1] (hD)
  have hC3 := cx [.own 1, .own 0] (hA2)
  have hC4 := cx [] (cI)
  have hC5 := cx [] (cS)
  have hC6 := cx [] (cE)
  have hC7 := cx [] (cK)
  have fy := And.intro wa2 (And.intro wb2 (htx))
  refine goR ?_ ?_ ?_ ?_ ?_ ?_ ?_ ?_ ?_ ?_ ?_ ?_ ?_ ?_ ?_ ?_
  any_goals (first | exact True.intro | skip)
  all_goals (repeat (refine Wh.mk fun hcc => ?_))
  refine SW.loop (fun i : Nat => ⟨[.undef, .undef, .undef, .ptr 2 0 [] 0, .int .i64 tx, .ptr 4 0 [] 0, .ref 3 2 0 C.length, .undef, .undef, .int .i64 (i : Nat), .undef, .undef, .undef, .undef, .undef, .undef, .undef, .undef, .undef, .undef, .undef, .undef, .undef, .undef, .undef, .undef, .undef, .undef, .undef, .undef, .undef, .undef, .undef, .undef, .undef, .undef, .undef, .undef, .undef, .undef, .undef, .undef, .undef, .undef, .undef, .undef, .undef, .undef, .undef, .undef, .undef, .undef, .undef, .undef, .undef, .undef, .undef, .undef, .undef, .undef, .undef, .undef, .undef, .undef, .undef, .undef, .undef, .undef, .undef, .undef, .undef, .undef, .undef, .undef, .undef, .undef, .undef, .undef, .undef, .undef, .undef, .undef, .undef, .undef, .undef, .undef, .undef, .undef, .undef, .undef, .undef, .undef, .undef, .undef, .undef, .undef, .undef, .undef, .undef, .undef, .undef, .undef, .undef, .undef, .undef, .undef, .undef, .undef], [[], [.arr 3 (G.map Enc.o) false, .arr 3 (W.map Enc.o) false], [.var (.nd [.ref 1 0 0 G.length, .ref 1 1 0 W.length])], [.arr 3 (A.map Enc.o) false, .arr 3 (B.map Enc.o) false, .arr 1 (C.map Enc.o) false], [.var (.nd [.ref 3 0 0 A.length, .ref 3 1 0 B.length])]]⟩)
    (fun N i => N = A.length - i ∧ i ≤ A.length) (n := A.length) (x := 0) ?_ ⟨rfl, Nat.zero_le _⟩ ?_
  · exact Norm.re [0, 2, 3, 5, 6] (by decide) rfl (by first | (simp only [eq_self, heapFits, rowFits, obFits, List.getElem?_cons_zero, List.getElem?_cons_succ, renL_o, renL_b, true_and, and_true, and_self]; done) | simp [-List.map_set, -List.map_append, heapFits, rowFits, obFits, T.ren, renL]) (by simp [tmFits, T.ren, renL])
  rintro N i ⟨hN, hi⟩
  have fy := Nat.add_zero
  refine goS ?_
  refine SW.cond rfl (fun hc => ?_) (fun hc => ?_)
  · have hlt : i < A.length := by simp at hc; omega
    have hltI : (i : Int) < (A.length : Int) := by omega
    have hg : (A.map Enc.o)[i]? = some (.nd [.int .i64 A[i].1, .int .i64 A[i].2.1, .int .i64 A[i].2.2.1]) := map_get Enc.o A i hlt
    have hq : (A[i].1 == tx) = false := by simp [d2 _ (List.getElem_mem hlt)]
    have hwi : IntKind.i64.wrap ((i : Int) + 1) = ((i + 1 : Nat) : Int) := by rw [wrap64 _ (by omega) (by omega)]; omega
    have fy := And.intro hg (And.intro hltI (And.intro hq (hwi)))
    refine goR ?_ ?_ ?_ ?_ ?_ ?_ ?_ ?_ ?_ ?_ ?_ ?_ ?_ ?_ ?_ ?_
    any_goals (first | exact True.intro | skip)
    all_goals (repeat (refine Wh.mk fun hcc => ?_))
    refine ⟨N - 1, i + 1, by omega, ⟨by omega, by omega⟩, ?_⟩
    exact Norm.re [0, 1, 2, 3, 4] (by decide) rfl (by first | (simp only [eq_self, heapFits, rowFits, obFits, List.getElem?_cons_zero, List.getElem?_cons_succ, renL_o, renL_b, true_and, and_true, and_self]; done) | simp [-List.map_set, -List.map_append, heapFits, rowFits, obFits, T.ren, renL]) (by simp [tmFits, T.ren, renL])
  have fy := Nat.add_zero
  refine goR ?_ ?_ ?_ ?_ ?_ ?_ ?_ ?_ ?_ ?_ ?_ ?_ ?_ ?_ ?_ ?_
  any_goals (first | exact True.intro | skip)
  all_goals (repeat (refine Wh.mk fun hcc => ?_))
  refine SW.loop (fun i : Nat => ⟨[.undef, .undef, .undef, .ptr 2 0 [] 0, .int .i64 tx, .ptr 4 0 [] 0, .ref 3 2 0 C.length, .undef, .undef, .undef, .int .i64 (cntW tx W i : Nat), .int .i64 (i : Nat), .undef, .undef, .undef, .undef, .undef, .undef, .undef, .undef, .undef, .undef, .undef, .undef, .undef, .undef, .undef, .undef, .undef, .undef, .undef, .undef, .undef, .undef, .undef, .undef, .undef, .undef, .undef, .undef, .undef, .undef, .undef, .undef, .undef, .undef, .undef, .undef, .undef, .undef, .undef, .undef, .undef, .undef, .undef, .undef, .undef, .undef, .undef, .undef, .undef, .undef, .undef, .undef, .undef, .undef, .undef, .undef, .undef, .undef, .undef, .undef, .undef, .undef, .undef, .undef, .undef, .undef, .undef, .undef, .undef, .undef, .undef, .undef, .undef, .undef, .undef, .undef, .undef, .undef, .undef, .undef, .undef, .undef, .undef, .undef, .undef, .undef, .undef, .undef, .undef, .undef, .undef, .undef, .undef, .undef, .undef, .undef], [[], [.arr 3 (G.map Enc.o) false, .arr 3 (W.map Enc.o) false], [.var (.nd [.ref 1 0 0 G.length, .ref 1 1 0 W.length])], [.arr 3 (A.map Enc.o) false, .arr 3 (B.map Enc.o) false, .arr 1 (C.map Enc.o) false], [.var (.nd [.ref 3 0 0 A.length, .ref 3 1 0 B.length])]]⟩)
    (fun N i => N = W.length - i ∧ i ≤ W.length) (n := W.length) (x := 0) ?_ ⟨rfl, Nat.zero_le _⟩ ?_
  · rw [cntW_zero]
    exact Norm.re [0, 1, 2, 3, 4] (by decide) rfl (by first | (simp only [eq_self, heapFits, rowFits, obFits, List.getElem?_cons_zero, List.getElem?_cons_succ, renL_o, renL_b, true_and, and_true, and_self]; done) | simp [-List.map_set, -List.map_append, heapFits, rowFits, obFits, T.ren, renL]) (by simp [tmFits, T.ren, renL])
  rintro N i ⟨hN, hi⟩
  have fy := Nat.add_zero
  refine goS ?_
  refine SW.cond rfl (fun hc => ?_) (fun hc => ?_)
  · have hlt : i < W.length := by simp at hc; omega
    have hltI : (i : Int) < (W.length : Int) := by omega
    have hg : (W.map Enc.o)[i]? = some (.nd [.int .i64 W[i].1, .int .i64 W[i].2.1, .int .i64 W[i].2.2.1]) := map_get Enc.o W i hlt
    have hS := cntW_succ tx hlt
    have hcl := cntW_le tx W i
    have hq : (W[i].1 != tx) = notTx tx W[i] := rfl
    have hwi : IntKind.i64.wrap ((i : Int) + 1) = ((i + 1 : Nat) : Int) := by rw [wrap64 _ (by omega) (by omega)]; omega
    generalize cntW tx W i = c at *
    generalize notTx tx W[i] = b at *
    have hwc : IntKind.i64.wrap ((c : Int) + 1) = ((c + 1 : Nat) : Int) := by rw [wrap64 _ (by omega) (by omega)]; omega
    cases b
    · rw [if_neg (by decide), Nat.add_zero] at hS
      have fy := And.intro hg (And.intro hltI (And.intro hq (And.intro hwi (hwc))))
      refine goR ?_ ?_ ?_ ?_ ?_ ?_ ?_ ?_ ?_ ?_ ?_ ?_ ?_ ?_ ?_ ?_
      any_goals (first | exact True.intro | skip)
      all_goals (repeat (refine Wh.mk fun hcc => ?_))
      refine ⟨N - 1, i + 1, by omega, ⟨by omega, by omega⟩, ?_⟩
      rw [hS]
      exact Norm.re [0, 1, 2, 3, 4] (by decide) rfl (by first | (simp only [eq_self, heapFits, rowFits, obFits, List.getElem?_cons_zero, List.getElem?_cons_succ, renL_o, renL_b, true_and, and_true, and_self]; done) | simp [-List.map_set, -List.map_append, heapFits, rowFits, obFits, T.ren, renL]) (by simp [tmFits, T.ren, renL])
    · rw [if_pos rfl] at hS
      have fy := And.intro hg (And.intro hltI (And.intro hq (And.intro hwi (hwc))))
      refine goR ?_ ?_ ?_ ?_ ?_ ?_ ?_ ?_ ?_ ?_ ?_ ?_ ?_ ?_ ?_ ?_
      any_goals (first | exact True.intro | skip)
      all_goals (repeat (refine Wh.mk fun hcc => ?_))
      refine ⟨N - 1, i + 1, by omega, ⟨by omega, by omega⟩, ?_⟩
      rw [hS]
      exact Norm.re [0, 1, 2, 3, 4] (by decide) rfl (by first | (simp only [eq_self, heapFits, rowFits, obFits, List.getElem?_cons_zero, List.getElem?_cons_succ, renL_o, renL_b, true_and, and_true, and_self]; done) | simp [-List.map_set, -List.map_append, heapFits, rowFits, obFits, T.ren, renL]) (by simp [tmFits, T.ren, renL])
  have hige : i = W.length := by
    have : ¬ i < W.length := by simp at hc; omega
    omega
  subst hige
  rw [cntW_all, ← d4]
  have hsum : IntKind.i64.wrap ((B.length : Int) + (C.length : Int)) = ((B.length + C.length : Nat) : Int) := by rw [wrap64 _ (by omega) (by omega)]; omega
  have hq0 : (s == 0) = decide (s = 0) := rfl
  by_cases hs0 : s = 0
  · rw [decide_eq_true hs0] at hq0
    have hC1 := cx [] (cT)
    have hC2 := cx [] (cM)
    have hC3 := cx [] (cU)
    have hC4 := cx [] (cV)
    have fy := And.intro hsum (hq0)
    refine goK ?_ ?_ ?_ ?_ ?_ ?_ ?_ ?_ ?_ ?_ ?_ ?_ ?_ ?_ ?_ ?_
    any_goals (first | exact True.intro | skip)
    all_goals (repeat (refine Wh.mk fun hcc => ?_))
    all_goals rfl
  · rw [decide_eq_false hs0] at hq0
    have hq1 : (s2 != s) = true := by simpa using hsd hs0
    have hC1 := cx [] (cT)
    have hC2 := cx [] (cM)
    have hC3 := cx [] (cU)
    have hC4 := cx [] (cV)
    have fy := And.intro hsum (And.intro hq0 (hq1))
    refine goK ?_ ?_ ?_ ?_ ?_ ?_ ?_ ?_ ?_ ?_ ?_ ?_ ?_ ?_ ?_ ?_
    any_goals (first | exact True.intro | skip)
    all_goals (repeat (refine Wh.mk fun hcc => ?_))
    all_goals rfl
end Q6

namespace Q6.Drpd
open Go Go.Vm Go.Proofs
set_option maxHeartbeats 4000000
set_option synthInstance.maxSize 2000
set_option synthInstance.maxHeartbeats 400000
set_option maxRecDepth 10000
set_option linter.unusedSimpArgs false
set_option linter.unusedVariables false

open Go.Proofs.Ytjodaapkfknfnaa
open Go.ChangeShapes Go.WideShapes Go.ChangeAt Go.RowKit
theorem own : ownKnob Try.prog.godebug = none := by kernel_rfl
theorem laidOut : laidOutB Try.prog = true := by kernel_rfl
theorem plain22 : plainT Y 12 22 = true := by kernel_rfl

set_option maxRecDepth 100000 in
theorem lifted (os : Os) (started : os.Started) (H : Type) (enc : TypeId × Value → H) :
    ReturnsInHanded {} Try.checked os 7 .any (Rows.fnDroppedSpec.pre6 enc Try.prog Try.f7 Rows.fnDroppedRow.domain false) (Rows.fnDroppedSpec.post enc Try.prog Try.f7 false true false false) := by
  refine returnsInHanded_of_change (C := Try.checked) own started (by kernel_rfl) Try.func7
    (ChangeSpec.witness6 (enc := enc) (C := Try.checked) false ⟨#[], #[.slice none 0 0], []⟩ 8 (by kernel_rfl) (by kernel_rfl) (by kernel_rfl) (by kernel_rfl)) ?_
  intro W base args ds gs before hval0 hW hcnd _
  have hval : ∀ (j : Nat) t v, Try.f7.params[j]? = some t → args[j]? = some v → Value.okWide Try.prog W .any base t v := hval0
  have hW' := hW
  obtain ⟨p, q, hA0, hV, rfl, _, _⟩ := hW
  have hA : DataW.TrodAll enc Try.prog W 0 (fun _ => true) true Try.f7.params.toList args.toList ds p := hA0
  have hV' : DataW.TrodVars enc Try.prog W (fun _ => true) [] gs q := hV
  obtain ⟨rfl, rfl⟩ := trodVars_none hV'
  rw [Try.params7] at hA hval
  have one := trodAll_one hA
  refine (calls_ofS hY 12 (by simp [plain22]) hA (fun j t v h1 h2 => hval j t v (by simpa using h1) (by simpa using h2)) ?_).mono ?_
  · intro us hu ht
    match us, hu with
    | [u0], _ =>
      obtain ⟨x0, rfl, hx0⟩ := Enc.dec (α := List UInt8) Y 12 22 u0 (by kernel_rfl) (ht 0 22 u0 rfl rfl)
      exact droppedLaw_ok x0
  · rintro e W' ⟨rfl, h1, h2⟩
    obtain ⟨v, d, _, rfl, _⟩ := one
    exact ⟨_, rfl, post_true (tb := 4) laidOut (by rw [Try.params7]; exact of_decide_eq_true (by kernel_rfl)) rfl hW' rfl rfl rfl rfl (by kernel_rfl) h1 h2⟩

theorem fnDropped_holds : Rows.FnDroppedSaid :=
  OpenClaim.holds_of_wide 7 Try.f7 rfl rfl rfl rfl rfl rfl rfl ⟨rfl, rfl, rfl, rfl, rfl⟩ rfl rfl rfl rfl rfl (by kernel_rfl) Try.func7 (by kernel_rfl)
    (of_decide_eq_true (by kernel_rfl)) (by unfold Func.isWrapper; first | (rw [if_pos (by decide +kernel)]; kernel_rfl) | (rw [if_neg (by decide +kernel)]; exact ⟨rfl, rfl⟩))
    (fun os started H enc _ => lifted os started H enc)
end Q6.Drpd

namespace Go.Proofs.Ytjodaapkfknfnaa
/-- For every code, the law FnDropped of the drawn locks returns true: what a dropped transaction had and waited for is gone, who was woken has what it waited for, the others wait on, and nobody who is dropped is stuck. -/
theorem fnDropped_holds : Rows.FnDroppedSaid := Q6.Drpd.fnDropped_holds
#print axioms fnDropped_holds
end Go.Proofs.Ytjodaapkfknfnaa
