/- Shows what the parts of the program do that the claim reaches: a machine of values over the model, and the contracts of functions, for all arguments within the lengths that each theorem names. -/
import Derived.Test.YtjodaapkfknfnaaLockedP1
import Derived.Test.YtjodaapkfknfnaaLockedP2
import Derived.Test.YtjodaapkfknfnaaLockedV5
set_option linter.all false

namespace Q6
open Go Go.Vm Go.Proofs
set_option maxHeartbeats 4000000
set_option synthInstance.maxSize 2000
set_option synthInstance.maxHeartbeats 400000
set_option maxRecDepth 10000
set_option linter.unusedSimpArgs false
set_option linter.unusedVariables false

open Qlk

theorem openL (tm : List T) (G W ws : List GrT) (wk : List Int) : Norm ⟨tm, [[.var (.nd [.ow 3 ((G).map Enc.o), .ow 3 ((W).map Enc.o)]), .gone, .gone], [.arr 3 ((ws).map Enc.o) false], [.arr 1 ((wk).map Enc.o) false]]⟩ ⟨tm, [[.var (.nd [.ref 3 0 0 (G).length, .ref 3 1 0 (W).length]), .gone, .gone], [.arr 3 ((ws).map Enc.o) false], [.arr 1 ((wk).map Enc.o) false], [.arr 3 ((G).map Enc.o) false, .arr 3 ((W).map Enc.o) false]]⟩ := by
  have h := Norm.expelVar (tm := tm) (H := [[.var (.nd [.ow 3 ((G).map Enc.o), .ow 3 ((W).map Enc.o)]), .gone, .gone], [.arr 3 ((ws).map Enc.o) false], [.arr 1 ((wk).map Enc.o) false]]) 0 0 rfl
  simp only [thawA, thawAL, Heap.put, List.getElem?_cons_zero, List.getElem?_cons_succ, List.set_cons_zero, List.set_cons_succ, List.length_cons, List.length_nil, List.nil_append, List.cons_append, List.append_nil, Nat.zero_add, Nat.reduceAdd, List.length_map] at h
  exact h
theorem drop_step (s0 : DS) (ws : List GrT) (i : Nat) (h : i < ws.length) : (ws.take (i + 1)).foldl dropS s0 = dropS ((ws.take i).foldl dropS s0) ws[i] := by
  rw [List.take_succ_eq_append_getElem h, List.foldl_append]; rfl

theorem sDrop_ok (G W : List GrT) (hl : LkOk (G, W, ())) (tx : Int) : CallR Try.prog 85 [.io (.nd [.ow 3 (G.map Enc.o), .ow 3 (W.map Enc.o)]), .int .i64 tx] [.nd [.ow 3 ((dropR (G, W, ()) tx).1.map Enc.o), .ow 3 ((dropR (G, W, ()) tx).2.1.map Enc.o)]] (.ow 1 ((dropR (G, W, ()) tx).2.2.map Enc.o)) := by
  refine CallR.of_body (n := 81) (rs := [.tmp 4]) hY.ok Try.func85 rfl (by decide) rfl rfl rfl rfl (fun F => ?_)
  have fx := And.intro Y1 (And.intro Y3 (And.intro Y4 (And.intro Y27 (And.intro Y41 (And.intro Y43 (And.intro Y50 (Y131)))))))
  have hG := hl.gl
  have hW := hl.wl
  simp only at hG hW
  have c1 := without_ok G (by omega) tx
  have c2 := without_ok W (by omega) tx
  have hD := DI.init hl tx
  unfold dropR
  simp only at hD ⊢
  have hwl : (W.filter (notTx tx)).length ≤ 60 := by have := List.length_filter_le (notTx tx) W; omega
  generalize W.filter (notTx tx) = ws at *
  generalize hs0 : ((G.filter (notTx tx), ([] : List GrT), ([] : List Int)) : DS) = s0 at *
  have e1 : G.filter (notTx tx) = s0.1 := by rw [← hs0]
  have e2 : ([] : List GrT) = s0.2.1 := by rw [← hs0]
  have e3 : ([] : List Int) = s0.2.2 := by rw [← hs0]
  rw [e1] at c1
  have hC1 := cx [] (c1)
  have hC2 := cx [] (c2)
  have fy := And.intro bs0_41 (bs0_27)
  have hD1 := dx 13 [7, 1, 3] [(4, 1)]
  refine goN ?_ ?_ ?_ ?_ ?_ ?_ ?_ ?_ ?_ ?_ ?_ ?_ ?_ ?_ ?_ ?_
  any_goals (first | exact True.intro | skip)
  skip
  refine SW.loop (fun x : Nat × DS => ⟨[.ptr 0 0 [] 0, .undef, .undef, .undef, .undef, .ref 1 0 0 ws.length, .ref 2 0 0 x.2.2.2.length, .int .i64 (x.1 : Nat), .undef, .undef, .undef, .undef, .undef, .undef, .undef, .undef, .undef, .undef, .undef, .undef, .undef, .undef, .undef, .undef, .undef, .undef, .undef, .undef, .undef, .undef, .undef, .undef, .undef, .undef, .undef, .undef, .undef, .undef, .undef, .undef, .undef, .undef, .undef, .undef, .undef, .undef, .undef, .undef, .undef, .undef, .undef, .undef, .undef, .undef, .undef, .undef, .undef, .undef, .undef, .undef, .undef, .undef, .undef, .undef, .undef, .undef, .undef, .undef, .undef, .undef, .undef, .undef, .undef, .undef, .undef, .undef, .undef, .undef, .undef, .undef, .undef], [[.var (.nd [.ref 3 0 0 (x.2.1).length, .ref 3 1 0 (x.2.2.1).length]), .gone, .gone], [.arr 3 ((ws).map Enc.o) false], [.arr 1 ((x.2.2.2).map Enc.o) false], [.arr 3 ((x.2.1).map Enc.o) false, .arr 3 ((x.2.2.1).map Enc.o) false]]⟩)
    (fun N x => N = ws.length - x.1 ∧ x.1 ≤ ws.length ∧ x.2 = (ws.take x.1).foldl dropS s0 ∧ DI tx (G.length + W.length) ws.length x.2 (ws.drop x.1)) (n := ws.length) (x := (0, s0)) ?_ ⟨rfl, Nat.zero_le _, rfl, hD⟩ ?_
  · refine Norm.trans (Norm.soakVar 0 0 rfl) ?_
    simp only [soakS, soakL, Heap.at, Heap.put, List.getElem?_cons_zero, List.getElem?_cons_succ, List.set_cons_zero, List.set_cons_succ, List.length_map, List.length_nil, and_self, if_true]
    refine Norm.trans ?_ (openL _ s0.1 s0.2.1 ws s0.2.2)
    rw [← e2, ← e3]
    exact Norm.re [0, 2, 4] (by decide) rfl (by first | (simp only [eq_self, heapFits, rowFits, obFits, List.getElem?_cons_zero, List.getElem?_cons_succ, renL_o, renL_b, true_and, and_true, and_self]; done) | simp [-List.map_set, -List.map_append, heapFits, rowFits, obFits, T.ren, renL]) (by simp [tmFits, T.ren, renL])
  clear hs0 e1 e2 e3 c1 c2 hD
  rintro N ⟨i, s⟩ ⟨hN, hi, hs, hd⟩
  simp only at hN hi hs hd ⊢
  have fy := Nat.add_zero
  refine goS ?_
  refine SW.cond rfl (fun hc => ?_) (fun hc => ?_)
  · have hlt : i < ws.length := by simp at hc; omega
    have hltI : (i : Int) < (ws.length : Int) := by omega
    have hg : (ws.map Enc.o)[i]? = some (.nd [.int .i64 ws[i].1, .int .i64 ws[i].2.1, .int .i64 ws[i].2.2.1]) := map_get Enc.o ws i hlt
    have hwi : IntKind.i64.wrap ((i : Int) + 1) = ((i + 1 : Nat) : Int) := by rw [wrap64 _ (by omega) (by omega)]; omega
    have hst := drop_step s0 ws i hlt
    rw [← hs] at hst
    rw [List.drop_eq_getElem_cons hlt] at hd
    have hd2 := hd.step
    have hn := hd.n
    have hk := hd.k
    simp only [List.length_cons] at hn hk
    have hgr := fun x hx => (hd.g x hx).1
    have hgg := (hd.t ws[i] List.mem_cons_self).1
    have cW := sWould_ok s.1 s.2.1 (by omega) hgr ws[i]
    have cF := sFits_ok s.1 s.2.1 (by omega) ws[i] (wouldF s.1 ws[i])
    have cR := sForRes_ok s.2.1 (by omega) ws[i].2.1
    have cG := sGive_ok s.1 s.2.1 (by omega) (by omega) ws[i] (wouldF s.1 ws[i])
    have hS : dropS s ws[i] = if (fitsF s.1 ws[i] (wouldF s.1 ws[i]) && !forRes s.2.1 ws[i].2.1) = true then (giveF s.1 ws[i] (wouldF s.1 ws[i]), s.2.1, s.2.2 ++ [ws[i].1]) else (s.1, s.2.1 ++ [ws[i]], s.2.2) := rfl
    generalize giveF s.1 ws[i] (wouldF s.1 ws[i]) = G2 at *
    generalize fitsF s.1 ws[i] (wouldF s.1 ws[i]) = b1 at *
    generalize forRes s.2.1 ws[i].2.1 = b2 at *
    generalize wouldF s.1 ws[i] = m at *
    generalize hgi : ws[i] = g at *
    generalize dropS s g = s2 at *
    obtain ⟨A, B, C⟩ := s
    simp only at *
    cases b1
    · skip
      rw [if_neg (by simp)] at hS
      have hap := fun (own e j e2 j2 : Nat) (H : Heap) (q1 : H.at e j = some (.arr 3 ((B).map Enc.o) false)) (q2 : H.at e2 j2 = some (.arr 3 [.nd [.int .i64 g.1, .int .i64 g.2.1, .int .i64 g.2.2.1]] false)) => append_runP (Y := Y) (own := own) (t := 41) (u := 41) (e := e) (j := j) (off := 0) (n := (B).length) (e2 := e2) (j2 := j2) (f := (B).map Enc.o) (l := B) (x := g) (H := H) Y41 Y41 Y50 rfl (by decide) q1 q2 (by rw [List.drop_zero]; exact take_map_len _ _) (by simp) (by omega) rfl rfl
      have hC1 := cx [] (cW)
      have hC2 := cx [] (cF)
      have fy := And.intro hg (And.intro hltI (And.intro hwi (And.intro bs1_41 (hap))))
      have hD1 := dx 13 [7, 1, 3] [(4, 1)]
      refine goR ?_ ?_ ?_ ?_ ?_ ?_ ?_ ?_ ?_ ?_ ?_ ?_ ?_ ?_ ?_ ?_
      any_goals (first | exact True.intro | skip)
      all_goals (repeat (refine Wh.mk fun hcc => ?_))
      refine ⟨N - 1, (i + 1, s2), by omega, ⟨by simp only; omega, by simp only; omega, hst.symm, hd2⟩, ?_⟩
      rw [hS]
      refine Norm.trans ?_ (openL _ A (B ++ [g]) ws C)
      refine Norm.trans (Norm.soakVar 0 0 rfl) ?_
      simp only [soakS, soakL, Heap.at, Heap.put, List.getElem?_cons_zero, List.getElem?_cons_succ, List.set_cons_zero, List.set_cons_succ, List.length_map, List.length_append, List.length_cons, List.length_nil, Nat.zero_add, and_self, if_true]
      exact Norm.re [0, 1, 2] (by decide) rfl (by first | (simp only [eq_self, heapFits, rowFits, obFits, List.getElem?_cons_zero, List.getElem?_cons_succ, renL_o, renL_b, true_and, and_true, and_self]; done) | simp [-List.map_set, -List.map_append, heapFits, rowFits, obFits, T.ren, renL]) (by simp [tmFits, T.ren, renL])
    · cases b2
      rotate_left
      · skip
        rw [if_neg (by simp)] at hS
        have hap := fun (own e j e2 j2 : Nat) (H : Heap) (q1 : H.at e j = some (.arr 3 ((B).map Enc.o) false)) (q2 : H.at e2 j2 = some (.arr 3 [.nd [.int .i64 g.1, .int .i64 g.2.1, .int .i64 g.2.2.1]] false)) => append_runP (Y := Y) (own := own) (t := 41) (u := 41) (e := e) (j := j) (off := 0) (n := (B).length) (e2 := e2) (j2 := j2) (f := (B).map Enc.o) (l := B) (x := g) (H := H) Y41 Y41 Y50 rfl (by decide) q1 q2 (by rw [List.drop_zero]; exact take_map_len _ _) (by simp) (by omega) rfl rfl
        have hC1 := cx [] (cW)
        have hC2 := cx [] (cF)
        have hC3 := cx [] (cR)
        have fy := And.intro hg (And.intro hltI (And.intro hwi (And.intro bs1_41 (hap))))
        have hD1 := dx 13 [7, 1, 3] [(4, 1)]
        refine goR ?_ ?_ ?_ ?_ ?_ ?_ ?_ ?_ ?_ ?_ ?_ ?_ ?_ ?_ ?_ ?_
        any_goals (first | exact True.intro | skip)
        all_goals (repeat (refine Wh.mk fun hcc => ?_))
        refine ⟨N - 1, (i + 1, s2), by omega, ⟨by simp only; omega, by simp only; omega, hst.symm, hd2⟩, ?_⟩
        rw [hS]
        refine Norm.trans ?_ (openL _ A (B ++ [g]) ws C)
        refine Norm.trans (Norm.soakVar 0 0 rfl) ?_
        simp only [soakS, soakL, Heap.at, Heap.put, List.getElem?_cons_zero, List.getElem?_cons_succ, List.set_cons_zero, List.set_cons_succ, List.length_map, List.length_append, List.length_cons, List.length_nil, Nat.zero_add, and_self, if_true]
        exact Norm.re [0, 1, 2] (by decide) rfl (by first | (simp only [eq_self, heapFits, rowFits, obFits, List.getElem?_cons_zero, List.getElem?_cons_succ, renL_o, renL_b, true_and, and_true, and_self]; done) | simp [-List.map_set, -List.map_append, heapFits, rowFits, obFits, T.ren, renL]) (by simp [tmFits, T.ren, renL])
      · rw [if_pos (by decide)] at hS
        have hap := fun (own e j e2 j2 : Nat) (H : Heap) (q1 : H.at e j = some (.arr 1 ((C).map Enc.o) false)) (q2 : H.at e2 j2 = some (.arr 1 [.int .i64 g.1] false)) => append_runP (Y := Y) (own := own) (t := 27) (u := 27) (e := e) (j := j) (off := 0) (n := (C).length) (e2 := e2) (j2 := j2) (f := (C).map Enc.o) (l := C) (x := g.1) (H := H) Y27 Y27 Y3 rfl (by decide) q1 q2 (by rw [List.drop_zero]; exact take_map_len _ _) (by simp) (by omega) rfl rfl
        have hC1 := cx [] (cW)
        have hC2 := cx [] (cF)
        have hC3 := cx [] (cR)
        have hC4 := cx [.io] (cG)
        have fy := And.intro hg (And.intro hltI (And.intro hwi (And.intro bs1_27 (hap))))
        have hD1 := dx 13 [7, 1, 3] [(4, 1)]
        refine goR ?_ ?_ ?_ ?_ ?_ ?_ ?_ ?_ ?_ ?_ ?_ ?_ ?_ ?_ ?_ ?_
        any_goals (first | exact True.intro | skip)
        all_goals (repeat (refine Wh.mk fun hcc => ?_))
        refine ⟨N - 1, (i + 1, s2), by omega, ⟨by simp only; omega, by simp only; omega, hst.symm, hd2⟩, ?_⟩
        rw [hS]
        refine Norm.trans ?_ (openL _ G2 B ws (C ++ [g.1]))
        simp only [List.length_append, List.length_cons, List.length_nil, Nat.zero_add]
        exact Norm.re [0, 1, 10] (by decide) rfl (by first | (simp only [eq_self, heapFits, rowFits, obFits, List.getElem?_cons_zero, List.getElem?_cons_succ, renL_o, renL_b, true_and, and_true, and_self]; done) | simp [-List.map_set, -List.map_append, heapFits, rowFits, obFits, T.ren, renL]) (by simp [tmFits, T.ren, renL])
  · have hige : i = ws.length := by
      have : ¬ i < ws.length := by simp at hc; omega
      omega
    subst hige
    rw [List.take_length] at hs
    rw [← hs]
    obtain ⟨A, B, C⟩ := s
    simp only at *
    have fy := Nat.add_zero
    have hD1 := dx 13 [7, 1, 3] [(4, 1)]
    refine goR ?_ ?_ ?_ ?_ ?_ ?_ ?_ ?_ ?_ ?_ ?_ ?_ ?_ ?_ ?_ ?_
    any_goals (first | exact True.intro | skip)
    all_goals (repeat (refine Wh.mk fun hcc => ?_))
    all_goals exact SW.ret (show RetQ _ _ _ _ _ _ _ from RetQ.y [1] [.ow 1 (C.map Enc.o)])
end Q6

namespace Go.By
open Go Go.Vm

/-! ### words -/
theorem bits64 : IntKind.i64.bits = 64 := rfl
theorem i64_and127 (a : Nat) (h : a < 2 ^ 63) : IntKind.i64.wrap ((BitVec.ofInt IntKind.i64.bits (a : Int) &&& BitVec.ofInt IntKind.i64.bits 127).toNat : Int) = ((a % 128 : Nat) : Int) := by
  have e : (BitVec.ofInt 64 (a : Int) &&& BitVec.ofInt 64 127).toNat = a % 128 := by
    rw [BitVec.toNat_and, show BitVec.ofInt 64 (127 : Int) = 127#64 from rfl, BitVec.ofInt_natCast, BitVec.toNat_ofNat, show (127#64).toNat = 2 ^ 7 - 1 from rfl, Nat.and_two_pow_sub_one_eq_mod]; omega
  rw [bits64, e, wrap64 _ (by omega) (by omega)]
theorem i64_or128 (a : Nat) (h : a < 128) : IntKind.i64.wrap ((BitVec.ofInt IntKind.i64.bits (a : Int) ||| BitVec.ofInt IntKind.i64.bits 128).toNat : Int) = ((a + 128 : Nat) : Int) := by
  have e : (BitVec.ofInt 64 (a : Int) ||| BitVec.ofInt 64 128).toNat = a + 128 := by
    rw [BitVec.toNat_or, show BitVec.ofInt 64 (128 : Int) = 128#64 from rfl, BitVec.ofInt_natCast, BitVec.toNat_ofNat, show (128#64).toNat = 2 ^ 7 * 1 from rfl, Nat.mod_eq_of_lt (by omega), Nat.or_comm, ← Nat.two_pow_add_eq_or_of_lt (by omega)]; omega
  rw [bits64, e, wrap64 _ (by omega) (by omega)]
theorem i64_shr7 (a : Nat) : ((a : Int)).fdiv (2 ^ (min (7 : Int).toNat IntKind.i64.bits)) = ((a / 128 : Nat) : Int) := by
  rw [bits64, show (min (7 : Int).toNat 64) = 7 from rfl, Int.fdiv_eq_ediv_of_nonneg _ (by decide)]
  simp
/-- a group laid upon those ahead of it -/
theorem i64_grp (n x k : Nat) (hn : n < 2 ^ (7 * k)) (hx : x < 128) (hk : k < 6) :
    IntKind.i64.wrap ((BitVec.ofInt IntKind.i64.bits (n : Int) ||| BitVec.ofInt IntKind.i64.bits (IntKind.i64.wrap ((x : Int) * 2 ^ (min (IntKind.i64.wrap (7 * (k : Int))).toNat IntKind.i64.bits)))).toNat : Int) = ((n + x * 2 ^ (7 * k) : Nat) : Int) := by
  have h7 : IntKind.i64.wrap (7 * (k : Int)) = ((7 * k : Nat) : Int) := by rw [wrap64 _ (by omega) (by omega)]; simp
  have hle : 2 ^ (7 * k) ≤ 2 ^ 35 := Nat.pow_le_pow_right (by decide) (by omega)
  have hxm : x * 2 ^ (7 * k) < 2 ^ 42 := by
    calc x * 2 ^ (7 * k) ≤ 127 * 2 ^ 35 := Nat.mul_le_mul (by omega) hle
      _ < 2 ^ 42 := by decide
  have hmin : min (((7 * k : Nat) : Int)).toNat IntKind.i64.bits = 7 * k := by rw [bits64, Int.toNat_natCast]; omega
  rw [h7, hmin]
  have e1 : (x : Int) * 2 ^ (7 * k) = ((x * 2 ^ (7 * k) : Nat) : Int) := by simp
  have hw : IntKind.i64.wrap ((x * 2 ^ (7 * k) : Nat) : Int) = ((x * 2 ^ (7 * k) : Nat) : Int) := wrap64 _ (by omega) (by omega)
  rw [e1, hw]
  have e : (BitVec.ofInt 64 (n : Int) ||| BitVec.ofInt 64 ((x * 2 ^ (7 * k) : Nat) : Int)).toNat = n + x * 2 ^ (7 * k) := by
    rw [BitVec.toNat_or, BitVec.ofInt_natCast, BitVec.ofInt_natCast, BitVec.toNat_ofNat, BitVec.toNat_ofNat, Nat.mod_eq_of_lt (by omega), Nat.mod_eq_of_lt (by omega), Nat.mul_comm x, Nat.or_comm, ← Nat.two_pow_add_eq_or_of_lt hn]; omega
  rw [bits64, e, wrap64 _ (by omega) (by omega)]

/-! ### a number's bytes -/
def M12 : Int := 1000000000000
def encN (m : Nat) : List UInt8 := if h : m ≤ 127 then [byt m] else byt ((m % 128 + 128 : Nat) : Int) :: encN (m / 128)
termination_by m
decreasing_by omega
theorem encN_lo {m : Nat} (h : m ≤ 127) : encN m = [byt m] := by rw [encN, dif_pos h]
theorem encN_hi {m : Nat} (h : ¬ m ≤ 127) : encN m = byt ((m % 128 + 128 : Nat) : Int) :: encN (m / 128) := by rw [encN, dif_neg h]
def zig (n : Int) : Nat := if n < 0 then (-2 * n - 1).toNat else (2 * n).toNat
def clampI (n : Int) : Int := if n > M12 then M12 else if n < -M12 then -M12 else n
def putI (n : Int) : List UInt8 := encN (zig (clampI n))
theorem clamp_le (n : Int) : -M12 ≤ clampI n ∧ clampI n ≤ M12 := by unfold clampI M12; split <;> (try split) <;> omega
theorem clamp_of {n : Int} (h0 : -M12 ≤ n) (h1 : n ≤ M12) : clampI n = n := by unfold clampI; rw [if_neg (by omega), if_neg (by omega)]
theorem zig_lt (n : Int) : zig (clampI n) < 2 ^ 42 := by
  have := clamp_le n
  unfold zig M12 at *; split <;> omega
theorem encN_len : ∀ (k m : Nat), m < 2 ^ (7 * (k + 1)) → (encN m).length ≤ k + 1
  | 0, m, h => by rw [encN_lo (by omega)]; simp
  | k + 1, m, h => by
    by_cases hm : m ≤ 127
    · rw [encN_lo hm]; simp
    · rw [encN_hi hm]
      have := encN_len k (m / 128) (by
        rw [Nat.div_lt_iff_lt_mul (by decide)]
        rw [show 7 * (k + 1 + 1) = 7 * (k + 1) + 7 by omega, Nat.pow_add] at h
        exact h)
      simp; omega
theorem putI_len (n : Int) : (putI n).length ≤ 6 := encN_len 5 _ (by have := zig_lt n; omega)

/-! ### and back -/
def dec : List UInt8 → Nat → Nat → Option (Nat × Nat)
  | [], _, _ => none
  | v :: l, k, acc => if 6 ≤ k then none else if v.toNat > 127 then dec l (k + 1) (acc + v.toNat % 128 * 2 ^ (7 * k)) else if v.toNat = 0 ∧ k ≠ 0 then none else some (acc + v.toNat % 128 * 2 ^ (7 * k), k + 1)
def unz (m : Nat) : Int := if m % 2 = 1 then -(((m + 1) / 2 : Nat) : Int) else ((m / 2 : Nat) : Int)
def okN (n : Int) : Bool := decide (n ≥ -M12) && decide (n ≤ M12)
def getR (l : List UInt8) (a : Nat) : Int × Nat × Bool :=
  match dec (l.drop a) 0 0 with
  | some x => if okN (unz x.1) = true then (unz x.1, a + x.2, true) else (0, 0, false)
  | none => (0, 0, false)

/-- the program's own walk: no end at six -/
def grp : List UInt8 → Nat → Nat → Bool → Nat × Nat × Bool × Bool
  | [], _, _, _ => (0, 0, false, true)
  | v :: l, k, n, g =>
    let n' := if k < 6 then n + v.toNat % 128 * 2 ^ (7 * k) else n
    let g' := if k < 6 then g else if v.toNat % 128 ≠ 0 then false else g
    if v.toNat > 127 then grp l (k + 1) n' g' else (n', k + 1, g' && (decide (v.toNat ≠ 0) || decide (k = 0)), false)

theorem grp_bad : ∀ (l : List UInt8) (k n : Nat) (g : Bool), 6 ≤ k → (grp l k n g).2.2.1 = false
  | [], _, _, _, _ => rfl
  | v :: l, k, n, g, h => by
    unfold grp
    simp only
    split
    · exact grp_bad l _ _ _ (by omega)
    · rename_i hv
      simp only
      rw [if_neg (by omega)]
      by_cases h0 : v.toNat = 0
      · simp [h0]; omega
      · have : v.toNat % 128 ≠ 0 := by omega
        rw [if_pos this]; simp
theorem grp_dec : ∀ (l : List UInt8) (k n : Nat), k ≤ 6 → (∀ x, dec l k n = some x → (grp l k n true).1 = x.1 ∧ (grp l k n true).2.1 = x.2 ∧ (grp l k n true).2.2.1 = true) ∧
    (dec l k n = none → (grp l k n true).2.2.1 = false)
  | [], _, _, _ => ⟨fun x h => (by simp [dec] at h), fun _ => rfl⟩
  | v :: l, k, n, hk => by
    by_cases h6 : 6 ≤ k
    · refine ⟨fun x h => ?_, fun _ => grp_bad _ _ _ _ h6⟩
      unfold dec at h; rw [if_pos h6] at h; cases h
    · have hk6 : k < 6 := by omega
      simp only [dec, grp, if_neg h6, if_pos hk6]
      by_cases hv : v.toNat > 127
      · rw [if_pos hv, if_pos hv]
        exact grp_dec l (k + 1) _ (by omega)
      · rw [if_neg hv, if_neg hv]
        by_cases h0 : v.toNat = 0 ∧ k ≠ 0
        · rw [if_pos h0]
          refine ⟨fun x h => (by cases h), fun _ => ?_⟩
          simp [h0.1, h0.2]
        · rw [if_neg h0]
          refine ⟨fun x h => ?_, fun h => (by cases h)⟩
          simp only [Option.some.injEq] at h; subst h
          refine ⟨rfl, rfl, ?_⟩
          simp; omega
theorem dec_lt : ∀ (l : List UInt8) (k n : Nat) {x : Nat × Nat}, n < 2 ^ (7 * k) → dec l k n = some x → x.1 < 2 ^ 42
  | [], _, _, _, _, h => by cases h
  | v :: l, k, n, x, hn, h => by
    unfold dec at h
    split at h
    · cases h
    · rename_i h6
      have hstep : n + v.toNat % 128 * 2 ^ (7 * k) < 2 ^ (7 * (k + 1)) := by
        have h1 : v.toNat % 128 * 2 ^ (7 * k) ≤ 127 * 2 ^ (7 * k) := Nat.mul_le_mul_right _ (by omega)
        rw [show 7 * (k + 1) = 7 * k + 7 by omega, Nat.pow_add]
        omega
      split at h
      · exact dec_lt l (k + 1) _ hstep h
      · split at h
        · cases h
        · simp only [Option.some.injEq] at h; subst h
          have : 2 ^ (7 * (k + 1)) ≤ 2 ^ 42 := Nat.pow_le_pow_right (by decide) (by omega)
          simp only; omega
theorem grp_big : ∀ (l : List UInt8) (k n : Nat) (g : Bool), 6 ≤ k → n < 2 ^ 42 → (grp l k n g).1 < 2 ^ 42
  | [], _, _, _, _, _ => by simp [grp]
  | v :: l, k, n, g, hk, hn => by
    have h6 : ¬ k < 6 := by omega
    simp only [grp, if_neg h6]
    split
    · exact grp_big l (k + 1) n _ (by omega) hn
    · exact hn
theorem grp_lt : ∀ (l : List UInt8) (k n : Nat) (g : Bool), k ≤ 6 → n < 2 ^ (7 * k) → (grp l k n g).1 < 2 ^ 42
  | [], _, _, _, _, _ => by simp [grp]
  | v :: l, k, n, g, hk, hn => by
    unfold grp
    simp only
    have hp : 2 ^ (7 * (k + 1)) ≤ 2 ^ 42 ∨ ¬ k < 6 := by
      by_cases h : k < 6
      · exact .inl (Nat.pow_le_pow_right (by decide) (by omega))
      · exact .inr h
    have hstep : n + v.toNat % 128 * 2 ^ (7 * k) < 2 ^ (7 * (k + 1)) := by
      have h1 : v.toNat % 128 * 2 ^ (7 * k) ≤ 127 * 2 ^ (7 * k) := Nat.mul_le_mul_right _ (by omega)
      rw [show 7 * (k + 1) = 7 * k + 7 by omega, Nat.pow_add]
      omega
    have h42 : 2 ^ (7 * k) ≤ 2 ^ 42 := Nat.pow_le_pow_right (by decide) (by omega)
    split
    · by_cases h : k < 6
      · rw [if_pos h, if_pos h]; exact grp_lt l (k + 1) _ _ (by omega) hstep
      · rw [if_neg h, if_neg h]
        have hk6 : k = 6 := by omega
        subst hk6
        exact grp_big l 7 n _ (by omega) hn
    · simp only
      by_cases h : k < 6
      · rw [if_pos h]; omega
      · rw [if_neg h]; omega

/-! ### the bytes of a number are the only ones -/
theorem byt_small {m : Nat} (h : m < 256) : (byt (m : Int)).toNat = m := by
  have := byt_nat (m : Int); omega
theorem dec_enc : ∀ (m k acc : Nat) (r : List UInt8), m < 2 ^ (42 - 7 * k) → k < 6 → (k ≠ 0 → m ≠ 0) → dec (encN m ++ r) k acc = some (acc + m * 2 ^ (7 * k), k + (encN m).length) := by
  intro m
  induction m using Nat.strongRecOn with
  | _ m ih =>
    intro k acc r hm hk h0
    by_cases h : m ≤ 127
    · rw [encN_lo h]
      have e : (byt (m : Int)).toNat = m := byt_small (by omega)
      simp only [List.cons_append, List.nil_append, dec, e]
      rw [if_neg (by omega), if_neg (by omega), if_neg (by intro hh; exact h0 hh.2 hh.1), Nat.mod_eq_of_lt (by omega)]; rfl
    · rw [encN_hi h]
      have e : (byt ((m % 128 + 128 : Nat) : Int)).toNat = m % 128 + 128 := byt_small (by omega)
      simp only [List.cons_append, dec, e]
      have hk5 : k < 5 := by
        rcases Nat.lt_or_ge k 5 with h' | h'
        · exact h'
        · exfalso
          have : k = 5 := by omega
          subst this; omega
      rw [if_neg (by omega), if_pos (by omega)]
      rw [ih (m / 128) (by omega) (k + 1) _ r (by
        rw [Nat.div_lt_iff_lt_mul (by decide)]
        have : 42 - 7 * k = (42 - 7 * (k + 1)) + 7 := by omega
        rw [this, Nat.pow_add] at hm
        exact hm) (by omega) (fun _ => by omega)]
      congr 1
      simp only [List.length_cons, Prod.mk.injEq]
      refine ⟨?_, by omega⟩
      have e1 : (m % 128 + 128) % 128 = m % 128 := by omega
      rw [e1, show 7 * (k + 1) = 7 + 7 * k by omega, Nat.pow_add, ← Nat.mul_assoc, Nat.add_assoc, ← Nat.add_mul]
      congr 2
      omega
theorem enc_dec : ∀ (l : List UInt8) (k acc : Nat) {x : Nat × Nat}, dec l k acc = some x → ∃ m r, l = encN m ++ r ∧ x.1 = acc + m * 2 ^ (7 * k) ∧ x.2 = k + (encN m).length ∧ (k ≠ 0 → m ≠ 0) ∧ m < 2 ^ (42 - 7 * k)
  | [], _, _, _, h => by cases h
  | v :: l, k, acc, x, h => by
    unfold dec at h
    split at h
    · cases h
    · rename_i h6
      have hv := v.toNat_lt
      split at h
      · rename_i hgt
        obtain ⟨m, r, rfl, h1, h2, h3, h4⟩ := enc_dec l (k + 1) _ h
        have hm0 := h3 (by omega)
        have hk5 : k < 5 := by
          rcases Nat.lt_or_ge k 5 with h' | h'
          · exact h'
          · exfalso
            have e : 42 - 7 * (k + 1) = 0 := by omega
            rw [e, Nat.pow_zero] at h4
            omega
        refine ⟨v.toNat % 128 + 128 * m, r, ?_, ?_, ?_, fun _ => by omega, ?_⟩
        · rw [encN_hi (m := v.toNat % 128 + 128 * m) (by omega)]
          have e1 : (v.toNat % 128 + 128 * m) % 128 + 128 = v.toNat := by omega
          have e2 : (v.toNat % 128 + 128 * m) / 128 = m := by omega
          rw [e1, e2, byt_of]; rfl
        · rw [h1, Nat.add_mul, show 7 * (k + 1) = 7 + 7 * k by omega, Nat.pow_add, ← Nat.mul_assoc, Nat.mul_comm m, show (2 : Nat) ^ 7 = 128 from rfl]; omega
        · rw [h2, encN_hi (m := v.toNat % 128 + 128 * m) (by omega)]
          have e2 : (v.toNat % 128 + 128 * m) / 128 = m := by omega
          rw [e2]; simp; omega
        · have e : 42 - 7 * k = (42 - 7 * (k + 1)) + 7 := by omega
          rw [e, Nat.pow_add]
          omega
      · split at h
        · cases h
        · rename_i h7 h8
          simp only [Option.some.injEq] at h; subst h
          have hvl : v.toNat ≤ 127 := by omega
          refine ⟨v.toNat, l, ?_, ?_, ?_, fun hk hz => h8 ⟨hz, hk⟩, ?_⟩
          · rw [encN_lo hvl, byt_of]; rfl
          · simp only; rw [Nat.mod_eq_of_lt (by omega)]
          · rw [encN_lo hvl]; rfl
          · have : 2 ^ 7 ≤ 2 ^ (42 - 7 * k) := Nat.pow_le_pow_right (by decide) (by omega)
            omega

theorem unz_zig {n : Int} : unz (zig n) = n := by
  unfold unz zig; split <;> split <;> omega
theorem zig_unz {m : Nat} : zig (unz m) = m := by
  unfold unz zig; split <;> split <;> omega

/-- a number taken off the front -/
def pI (l : List UInt8) : Option (Int × List UInt8) := match dec l 0 0 with
  | some x => if okN (unz x.1) = true then some (unz x.1, l.drop x.2) else none
  | none => none
theorem okN_iff {n : Int} : okN n = true ↔ -M12 ≤ n ∧ n ≤ M12 := by unfold okN; simp
theorem pI_put (n : Int) (h : okN n = true) (r : List UInt8) : pI (putI n ++ r) = some (n, r) := by
  have hc := clamp_of (okN_iff.1 h).1 (okN_iff.1 h).2
  have hz := zig_lt n
  unfold pI putI
  rw [hc] at hz ⊢
  rw [dec_enc (zig n) 0 0 r (by simpa using hz) (by decide) (fun h => absurd rfl h)]
  simp only [Nat.zero_add, Nat.mul_zero, Nat.pow_zero, Nat.mul_one, unz_zig, h, if_true, List.drop_left]
theorem pI_inv {l r : List UInt8} {n : Int} (h : pI l = some (n, r)) : l = putI n ++ r ∧ okN n = true := by
  unfold pI at h
  split at h
  · rename_i x hx
    split at h
    · rename_i hok
      simp only [Option.some.injEq, Prod.mk.injEq] at h
      obtain ⟨rfl, rfl⟩ := h
      obtain ⟨m, r, rfl, h1, h2, _, _⟩ := enc_dec l 0 0 hx
      refine ⟨?_, hok⟩
      simp only [Nat.zero_add, Nat.mul_zero, Nat.pow_zero, Nat.mul_one] at h1 h2
      rw [h2, List.drop_left]
      unfold putI
      rw [clamp_of (okN_iff.1 hok).1 (okN_iff.1 hok).2, zig_unz, h1]
    · cases h
  · cases h
theorem getR_pI (l : List UInt8) (a : Nat) (ha : a ≤ l.length) : getR l a = match pI (l.drop a) with
    | some x => (x.1, l.length - x.2.length, true)
    | none => (0, 0, false) := by
  unfold getR pI
  cases hd : dec (l.drop a) 0 0 with
  | none => rfl
  | some x =>
    simp only
    split
    · obtain ⟨m, r, hl, h1, h2, _, _⟩ := enc_dec _ 0 0 hd
      simp only [Prod.mk.injEq, and_true, true_and]
      have : (l.drop a).length = x.2 + ((l.drop a).drop x.2).length := by
        rw [List.length_drop (i := x.2)]
        have : x.2 ≤ (l.drop a).length := by rw [hl, h2]; simp
        omega
      rw [List.length_drop (i := a)] at this
      omega
    · rfl
end Go.By

namespace Q6
open Go Go.Vm Go.Proofs
set_option maxHeartbeats 4000000
set_option synthInstance.maxSize 2000
set_option synthInstance.maxHeartbeats 400000
set_option maxRecDepth 10000
set_option linter.unusedSimpArgs false
set_option linter.unusedVariables false

open Go.By

/-! ### draws: a cursor, and what comes of it -/
def xr (a b : Int) : Int := IntKind.i64.wrap ((BitVec.ofInt IntKind.i64.bits a ^^^ BitVec.ofInt IntKind.i64.bits b).toNat : Int)
def an (a b : Int) : Int := IntKind.i64.wrap ((BitVec.ofInt IntKind.i64.bits a &&& BitVec.ofInt IntKind.i64.bits b).toNat : Int)
def sr (a k : Int) : Int := a.fdiv (2 ^ (min k.toNat IntKind.i64.bits))
theorem xr_eq (a b : Int) : IntKind.i64.wrap ((BitVec.ofInt IntKind.i64.bits a ^^^ BitVec.ofInt IntKind.i64.bits b).toNat : Int) = xr a b := rfl
theorem an_eq (a b : Int) : IntKind.i64.wrap ((BitVec.ofInt IntKind.i64.bits a &&& BitVec.ofInt IntKind.i64.bits b).toNat : Int) = an a b := rfl
theorem sr_eq (a k : Int) : a.fdiv (2 ^ (min k.toNat IntKind.i64.bits)) = sr a k := rfl
theorem an_rng (a : Int) (b : Nat) (hb : b < 2 ^ 62) : 0 ≤ an a b ∧ an a b ≤ b := by
  unfold an
  have h : (BitVec.ofInt IntKind.i64.bits a &&& BitVec.ofInt IntKind.i64.bits (b : Int)).toNat ≤ b := by
    rw [BitVec.toNat_and]
    refine Nat.le_trans Nat.and_le_right ?_
    rw [show IntKind.i64.bits = 64 from rfl, BitVec.ofInt_natCast, BitVec.toNat_ofNat]
    exact Nat.mod_le _ _
  rw [wrap64 _ (by omega) (by omega)]
  omega
theorem an_255 (a : Int) : 0 ≤ an a 255 ∧ an a 255 ≤ 255 := an_rng a 255 (by decide)
def hs1 (h : Int) : Int := IntKind.i64.wrap (IntKind.i64.wrap (h * 6364136223846793005) + 1442695040888963407)
def hx1 (h : Int) : Int := an (xr (sr (hs1 h) 33) (sr (hs1 h) 47)) 255

abbrev CS := Nat × Int
theorem byte_ok (l : List UInt8) (s : CS) (hl : l.length ≤ 1048576) (hi : s.1 ≤ l.length) : ∃ (s' : CS) (x : Int), s'.1 ≤ l.length ∧ (0 ≤ x ∧ x ≤ 255) ∧ CallR Try.prog 172 [.io (.nd [.sl .s (l.map Enc.b), .int .i64 (s.1 : Nat), .int .i64 s.2])] [.nd [.sl .s (l.map Enc.b), .int .i64 (s'.1 : Nat), .int .i64 s'.2]] (.int .i64 x) := by
  obtain ⟨i, h⟩ := s
  simp only at hi ⊢
  by_cases hlt : i < l.length
  · refine ⟨(i + 1, hs1 h), an (IntKind.i64.wrap (hx1 h + (l[i].toNat : Int))) 255, hlt, an_255 _, ?_⟩
    have hg : (l.map Enc.b)[i]? = some (T.int .u8 (l[i].toNat : Int)) := map_get Enc.b l i hlt
    have hbi := byte_i64 l[i]
    generalize l[i] = v at *
    have hd : decide ((i : Int) < (l.length : Int)) = true := by simp; omega
    have hwi : IntKind.i64.wrap ((i : Int) + 1) = ((i + 1 : Nat) : Int) := by rw [wrap64 _ (by omega) (by omega)]; omega
    refine CallR.of_body (n := 58) (rs := [.tmp 2]) hY.ok Try.func172 rfl (by decide) rfl rfl rfl rfl (fun F => ?_)
    have fx := And.intro Y1 (And.intro Y2 (And.intro Y3 (And.intro Y4 (And.intro Y5 (And.intro Y22 (And.intro Y104 (And.intro Y172 (Y229))))))))
    have e1 : IntKind.i64.wrap (IntKind.i64.wrap (h * 6364136223846793005) + 1442695040888963407) = hs1 h := rfl
    have e2 : an (xr (sr (hs1 h) 33) (sr (hs1 h) 47)) 255 = hx1 h := rfl
    have fy := And.intro xr_eq (And.intro an_eq (And.intro sr_eq (And.intro e1 (And.intro e2 (And.intro hd (And.intro hg (And.intro hbi (hwi))))))))
    refine goR ?_ ?_ ?_ ?_ ?_ ?_ ?_ ?_ ?_ ?_ ?_ ?_ ?_ ?_ ?_ ?_
    any_goals (first | exact True.intro | skip)
    all_goals (repeat (refine Wh.mk fun hcc => ?_))
    all_goals exact SW.ret (show RetQ _ _ _ _ _ _ _ from RetQ.y [0] [.int .i64 (an (IntKind.i64.wrap (hx1 h + (v.toNat : Int))) 255)])
  · have hge : i = l.length := by omega
    subst hge
    refine ⟨(l.length, hs1 h), hx1 h, Nat.le_refl _, an_255 _, ?_⟩
    have hd : decide ((l.length : Int) < (l.length : Int)) = false := by simp
    refine CallR.of_body (n := 58) (rs := [.tmp 2]) hY.ok Try.func172 rfl (by decide) rfl rfl rfl rfl (fun F => ?_)
    have fx := And.intro Y1 (And.intro Y2 (And.intro Y3 (And.intro Y4 (And.intro Y5 (And.intro Y22 (And.intro Y104 (And.intro Y172 (Y229))))))))
    have e1 : IntKind.i64.wrap (IntKind.i64.wrap (h * 6364136223846793005) + 1442695040888963407) = hs1 h := rfl
    have e2 : an (xr (sr (hs1 h) 33) (sr (hs1 h) 47)) 255 = hx1 h := rfl
    have fy := And.intro xr_eq (And.intro an_eq (And.intro sr_eq (And.intro e1 (And.intro e2 (hd)))))
    refine goR ?_ ?_ ?_ ?_ ?_ ?_ ?_ ?_ ?_ ?_ ?_ ?_ ?_ ?_ ?_ ?_
    any_goals (first | exact True.intro | skip)
    all_goals (repeat (refine Wh.mk fun hcc => ?_))
    all_goals exact SW.ret (show RetQ _ _ _ _ _ _ _ from RetQ.y [0] [.int .i64 (hx1 h)])
theorem below_ok (l : List UInt8) (s : CS) (hl : l.length ≤ 1048576) (hi : s.1 ≤ l.length) (n : Int) : ∃ (s' : CS) (x : Int), s'.1 ≤ l.length ∧ (0 ≤ x ∧ (0 < n → x < n)) ∧ CallR Try.prog 127 [.io (.nd [.sl .s (l.map Enc.b), .int .i64 (s.1 : Nat), .int .i64 s.2]), .int .i64 n] [.nd [.sl .s (l.map Enc.b), .int .i64 (s'.1 : Nat), .int .i64 s'.2]] (.int .i64 x) := by
  by_cases h0 : n ≤ 0
  · refine ⟨s, 0, hi, ⟨Int.le_refl _, fun h => by omega⟩, ?_⟩
    have hd0 : decide (n ≤ 0) = true := decide_eq_true h0
    refine CallR.of_body (n := 31) (rs := [.tmp 4]) hY.ok Try.func127 rfl (by decide) rfl rfl rfl rfl (fun F => ?_)
    have fx := And.intro Y3 (And.intro Y4 (Y104))
    have fy := hd0
    refine goR ?_ ?_ ?_ ?_ ?_ ?_ ?_ ?_ ?_ ?_ ?_ ?_ ?_ ?_ ?_ ?_
    any_goals (first | exact True.intro | skip)
    all_goals (repeat (refine Wh.mk fun hcc => ?_))
    all_goals exact SW.ret (show RetQ _ _ _ _ _ _ _ from RetQ.y [0] [.int .i64 0])
  have hd0 : decide (n ≤ 0) = false := decide_eq_false h0
  have hn0 : ¬ n = 0 := by omega
  obtain ⟨s1, x1, e1, p1, c1⟩ := byte_ok l s hl hi
  by_cases h1 : n ≤ 256
  · refine ⟨s1, x1.tmod n, e1, ⟨Int.tmod_nonneg _ p1.1, fun h => Int.tmod_lt_of_pos _ h⟩, ?_⟩
    have hd1 : decide (n ≤ 256) = true := decide_eq_true h1
    refine CallR.of_body (n := 31) (rs := [.tmp 4]) hY.ok Try.func127 rfl (by decide) rfl rfl rfl rfl (fun F => ?_)
    have fx := And.intro Y3 (And.intro Y4 (Y104))
    have hC1 := cx [.io] (c1)
    have fy := And.intro hd0 (And.intro hd1 (hn0))
    refine goR ?_ ?_ ?_ ?_ ?_ ?_ ?_ ?_ ?_ ?_ ?_ ?_ ?_ ?_ ?_ ?_
    any_goals (first | exact True.intro | skip)
    all_goals (repeat (refine Wh.mk fun hcc => ?_))
    all_goals exact SW.ret (show RetQ _ _ _ _ _ _ _ from RetQ.y [0] [.int .i64 (x1.tmod n)])
  have hd1 : decide (n ≤ 256) = false := decide_eq_false h1
  obtain ⟨s2, x2, e2, p2, c2⟩ := byte_ok l s1 hl e1
  obtain ⟨s3, x3, e3, p3, c3⟩ := byte_ok l s2 hl e2
  have w1 : IntKind.i64.wrap (x1 * 65536) = x1 * 65536 := wrap64 _ (by omega) (by omega)
  have w2 : IntKind.i64.wrap (x2 * 256) = x2 * 256 := wrap64 _ (by omega) (by omega)
  have w3 : IntKind.i64.wrap (x1 * 65536 + x2 * 256) = x1 * 65536 + x2 * 256 := wrap64 _ (by omega) (by omega)
  have w4 : IntKind.i64.wrap (x1 * 65536 + x2 * 256 + x3) = x1 * 65536 + x2 * 256 + x3 := wrap64 _ (by omega) (by omega)
  refine ⟨s3, (x1 * 65536 + x2 * 256 + x3).tmod n, e3, ⟨Int.tmod_nonneg _ (by omega), fun h => Int.tmod_lt_of_pos _ h⟩, ?_⟩
  refine CallR.of_body (n := 31) (rs := [.tmp 4]) hY.ok Try.func127 rfl (by decide) rfl rfl rfl rfl (fun F => ?_)
  have fx := And.intro Y3 (And.intro Y4 (Y104))
  have hC1 := cx [.io] (c1)
  have hC2 := cx [.io] (c2)
  have hC3 := cx [.io] (c3)
  have fy := And.intro hd0 (And.intro hd1 (And.intro hn0 (And.intro w1 (And.intro w2 (And.intro w3 (w4))))))
  refine goR ?_ ?_ ?_ ?_ ?_ ?_ ?_ ?_ ?_ ?_ ?_ ?_ ?_ ?_ ?_ ?_
  any_goals (first | exact True.intro | skip)
  all_goals (repeat (refine Wh.mk fun hcc => ?_))
  all_goals exact SW.ret (show RetQ _ _ _ _ _ _ _ from RetQ.y [0] [.int .i64 ((x1 * 65536 + x2 * 256 + x3).tmod n)])
theorem once_ok (l : List UInt8) (s : CS) (hl : l.length ≤ 1048576) (hi : s.1 ≤ l.length) (n : Int) : ∃ (s' : CS) (x : Bool), s'.1 ≤ l.length ∧ CallR Try.prog 126 [.io (.nd [.sl .s (l.map Enc.b), .int .i64 (s.1 : Nat), .int .i64 s.2]), .int .i64 n] [.nd [.sl .s (l.map Enc.b), .int .i64 (s'.1 : Nat), .int .i64 s'.2]] (.bool x) := by
  obtain ⟨s1, x1, e1, p1, c1⟩ := below_ok l s hl hi n
  refine ⟨s1, (x1 == 0), e1, ?_⟩
  refine CallR.of_body (n := 9) (rs := [.tmp 4]) hY.ok Try.func126 rfl (by decide) rfl rfl rfl rfl (fun F => ?_)
  have fx := And.intro Y3 (And.intro Y4 (Y104))
  have hC1 := cx [.io] (c1)
  have fy := Nat.add_zero
  refine goR ?_ ?_ ?_ ?_ ?_ ?_ ?_ ?_ ?_ ?_ ?_ ?_ ?_ ?_ ?_ ?_
  any_goals (first | exact True.intro | skip)
  all_goals (repeat (refine Wh.mk fun hcc => ?_))
  all_goals exact SW.ret (show RetQ _ _ _ _ _ _ _ from RetQ.y [0] [.bool (x1 == 0)])
theorem int_ok (l : List UInt8) (s : CS) (hl : l.length ≤ 1048576) (hi : s.1 ≤ l.length) (ns : List Int) (h0 : 0 < ns.length) (h1 : ns.length ≤ 1048576) : ∃ (s' : CS) (x : Int), s'.1 ≤ l.length ∧ x ∈ ns ∧ CallR Try.prog 66 [.io (.nd [.sl .s (l.map Enc.b), .int .i64 (s.1 : Nat), .int .i64 s.2]), .sl .b (ns.map Enc.b)] [.nd [.sl .s (l.map Enc.b), .int .i64 (s'.1 : Nat), .int .i64 s'.2]] (.int .i64 x) := by
  obtain ⟨s1, x1, e1, p1, c1⟩ := below_ok l s hl hi (ns.length : Int)
  obtain ⟨k, rfl⟩ : ∃ k : Nat, x1 = (k : Int) := ⟨x1.toNat, by omega⟩
  have hk : k < ns.length := by have := p1.2 (by omega); omega
  refine ⟨s1, ns[k], e1, List.getElem_mem hk, ?_⟩
  have hg : (ns.map Enc.b)[k]? = some (T.int .i64 ns[k]) := map_get Enc.b ns k hk
  refine CallR.of_body (n := 12) (rs := [.tmp 4]) hY.ok Try.func66 rfl (by decide) rfl rfl rfl rfl (fun F => ?_)
  have fx := And.intro Y3 (And.intro Y27 (Y104))
  have hC1 := cx [.io] (c1)
  have fy := hg
  refine goR ?_ ?_ ?_ ?_ ?_ ?_ ?_ ?_ ?_ ?_ ?_ ?_ ?_ ?_ ?_ ?_
  any_goals (first | exact True.intro | skip)
  all_goals (repeat (refine Wh.mk fun hcc => ?_))
  all_goals exact SW.ret (show RetQ _ _ _ _ _ _ _ from RetQ.y [0] [.int .i64 ns[k]])
theorem new_ok (l : List UInt8) (hl : l.length ≤ 1048576) : ∃ h : Int, CallR Try.prog 49 [.sl .s (l.map Enc.b)] [] (.fp (.io (.nd [.sl .s (l.map Enc.b), .int .i64 0, .int .i64 h]))) := by
  let st : List UInt8 → Int := fun m => m.foldl (fun h v => an (IntKind.i64.wrap (IntKind.i64.wrap (IntKind.i64.wrap (h * 137) + (v.toNat : Int)) + 11)) 1073741823) (IntKind.i64.wrap (278278 + (l.length : Int)))
  refine ⟨st (l.take 4000), ?_⟩
  refine CallR.of_body (n := 32) (rs := [.tmp 2]) hY.ok Try.func49 rfl (by decide) rfl rfl rfl rfl (fun F => ?_)
  have fx := And.intro Y2 (And.intro Y3 (And.intro Y4 (And.intro Y5 (And.intro Y22 (And.intro Y104 (Y172))))))
  have fy := Nat.add_zero
  refine goN ?_ ?_ ?_ ?_ ?_ ?_ ?_ ?_ ?_ ?_ ?_ ?_ ?_ ?_ ?_ ?_
  any_goals (first | exact True.intro | skip)
  skip
  refine SW.loop (fun i : Nat => ⟨[.sl .s (l.map Enc.b), .undef, .undef, .int .i64 (st (l.take i)), .int .i64 (i : Nat), .undef, .undef, .undef, .undef, .undef, .undef, .undef, .undef, .undef, .undef, .undef, .undef, .undef, .undef, .undef, .undef, .undef, .undef, .undef, .undef, .undef, .undef, .undef, .undef, .undef, .undef, .undef], [[]]⟩)
    (fun N i => N = l.length - i ∧ i ≤ l.length ∧ i ≤ 4000) (n := l.length) (x := 0) (Norm.to 0 rfl (by simp [weakL, st])) ⟨rfl, Nat.zero_le _, by decide⟩ ?_
  rintro N i ⟨hn, hi, hi4⟩
  have fy := Nat.add_zero
  refine goS ?_
  by_cases hgo : i < l.length ∧ i < 4000
  · obtain ⟨hlt, h4⟩ := hgo
    have hd1 : decide ((i : Int) < (l.length : Int)) = true := by simp; omega
    have hd2 : decide ((i : Int) < 4000) = true := by simp; omega
    have hg : (l.map Enc.b)[i]? = some (T.int .u8 (l[i].toNat : Int)) := map_get Enc.b l i hlt
    have hbi := byte_i64 l[i]
    have hst : st (l.take (i + 1)) = an (IntKind.i64.wrap (IntKind.i64.wrap (IntKind.i64.wrap (st (l.take i) * 137) + (l[i].toNat : Int)) + 11)) 1073741823 := by
      show List.foldl _ _ _ = _
      rw [List.take_add_one, List.getElem?_eq_getElem hlt, List.foldl_append]; rfl
    generalize l[i] = v at *
    have hwi : IntKind.i64.wrap ((i : Int) + 1) = ((i + 1 : Nat) : Int) := by rw [wrap64 _ (by omega) (by omega)]; omega
    generalize st (List.take i l) = c at *
    have fy := And.intro hd1 (And.intro hd2 (And.intro hg (And.intro hbi (And.intro hwi (an_eq)))))
    refine goR ?_ ?_ ?_ ?_ ?_ ?_ ?_ ?_ ?_ ?_ ?_ ?_ ?_ ?_ ?_ ?_
    any_goals (first | exact True.intro | skip)
    all_goals (repeat (refine Wh.mk fun hcc => ?_))
    all_goals first | (exfalso; simp at hcc; done) | (exfalso; simp at hcc; omega) | skip
    refine ⟨N - 1, i + 1, by omega, ⟨by omega, by omega, by omega⟩, ?_⟩
    rw [hst]
    exact Norm.to 0 rfl (by simp [weakL])
  · have hd : (decide ((i : Int) < (l.length : Int)) && decide ((i : Int) < 4000)) = false := by simp; omega
    have hfin : st (l.take 4000) = st (l.take i) := by
      by_cases h4 : i = 4000
      · rw [h4]
      · have : i = l.length := by omega
        rw [this, List.take_length, List.take_of_length_le (by omega)]
    rw [hfin]
    generalize st (List.take i l) = c at *
    cases hd1 : decide ((i : Int) < (l.length : Int))
    · skip
      have fy := hd1
      refine goR ?_ ?_ ?_ ?_ ?_ ?_ ?_ ?_ ?_ ?_ ?_ ?_ ?_ ?_ ?_ ?_
      any_goals (first | exact True.intro | skip)
      all_goals (repeat (refine Wh.mk fun hcc => ?_))
      all_goals first | (exfalso; simp at hcc; done) | (exfalso; simp at hcc; omega) | exact SW.ret (show RetQ _ _ _ _ _ _ _ from RetQ.y [4294967295] [.fp (.io (.nd [.sl .s (l.map Enc.b), .int .i64 0, .int .i64 c]))])
    · have hd2 : decide ((i : Int) < 4000) = false := by rw [hd1] at hd; simpa using hd
      have fy := And.intro hd1 (hd2)
      refine goR ?_ ?_ ?_ ?_ ?_ ?_ ?_ ?_ ?_ ?_ ?_ ?_ ?_ ?_ ?_ ?_
      any_goals (first | exact True.intro | skip)
      all_goals (repeat (refine Wh.mk fun hcc => ?_))
      all_goals first | (exfalso; simp [hd2] at hcc; done) | (exfalso; simp at hcc; done) | (exfalso; simp at hcc; omega) | exact SW.ret (show RetQ _ _ _ _ _ _ _ from RetQ.y [4294967295] [.fp (.io (.nd [.sl .s (l.map Enc.b), .int .i64 0, .int .i64 c]))])
end Q6

namespace Q6
open Go Go.Vm Go.Proofs
set_option maxHeartbeats 4000000
set_option synthInstance.maxSize 2000
set_option synthInstance.maxHeartbeats 400000
set_option maxRecDepth 10000
set_option linter.unusedSimpArgs false
set_option linter.unusedVariables false


    def intB (n : Int) : Bool := decide (n ≥ -1000000) && decide (n ≤ 1000000)
    def refB (n : Int) : Bool := decide (n ≥ 0) && decide (n ≤ 31)
    def objB (x : (Int × (List Int) × (List Int) × Unit)) : Bool := (decide (x.1 ≥ 1) && decide (x.1 ≤ 99)) && decide (x.2.1.length ≤ 5) && decide (x.2.2.1.length ≤ 5) && x.2.1.all intB && x.2.2.1.all refB
    def noObjB (x : (Int × (List Int) × (List Int) × Unit)) : Bool := decide (x.1 = 0) && decide (x.2.1.length = 0) && decide (x.2.2.1.length = 0)
    def slotB (x : (Bool × ((Int × (List Int) × (List Int) × Unit)) × Unit)) : Bool := if x.1 then objB x.2.1 else noObjB x.2.1
    def viewB (l : List (Bool × ((Int × (List Int) × (List Int) × Unit)) × Unit)) : Bool := decide (l.length = 32) && (match l with | [] => false | s :: _ => !s.1) && l.all slotB
    theorem len0 (l : List Int) : ((l.length : Int) == 0) = decide (l.length = 0) := by
      by_cases h : l.length = 0
      · simp [h]
      · have : ¬ (l.length : Int) = 0 := by omega
        rw [beq_eq_false_iff_ne.2 this]; simp [h]
    theorem len5 (l : List Int) : decide ((l.length : Int) > 5) = !decide (l.length ≤ 5) := by
      by_cases h : l.length ≤ 5
      · have : ¬ (l.length : Int) > 5 := by omega
        simp [h, this]
      · have : (l.length : Int) > 5 := by omega
        simp [h, this]
    
theorem obj1_ok (x : Int) : CallR Try.prog 173 [.int .i64 x] [] (.bool (!intB x)) := by
  refine CallR.of_body (n := 6) (rs := [.tmp 2]) hY.ok Try.func173 rfl (by decide) rfl rfl rfl rfl (fun F => ?_)
  have fx := And.intro Y3 (Y4)
  have hG1 := fun u1 u2 u3 => in_ok u1 u2 u3
  have fy := Nat.add_zero
  refine goK ?_ ?_ ?_ ?_ ?_ ?_ ?_ ?_ ?_ ?_ ?_ ?_ ?_ ?_ ?_ ?_
  any_goals (first | exact True.intro | skip)
  all_goals (repeat (refine Wh.mk fun hcc => ?_))
  all_goals (first | rfl | ((try simp only [tupOf, fixEs]); (first | done | rfl | (simp_all []; done) | grind [])))
theorem obj2_ok (x : Int) : CallR Try.prog 174 [.int .i64 x] [] (.bool (!refB x)) := by
  refine CallR.of_body (n := 6) (rs := [.tmp 2]) hY.ok Try.func174 rfl (by decide) rfl rfl rfl rfl (fun F => ?_)
  have fx := And.intro Y3 (Y4)
  have hG1 := fun u1 u2 u3 => in_ok u1 u2 u3
  have fy := Nat.add_zero
  refine goK ?_ ?_ ?_ ?_ ?_ ?_ ?_ ?_ ?_ ?_ ?_ ?_ ?_ ?_ ?_ ?_
  any_goals (first | exact True.intro | skip)
  all_goals (repeat (refine Wh.mk fun hcc => ?_))
  all_goals (first | rfl | ((try simp only [tupOf, fixEs]); (first | done | rfl | (simp_all []; done) | grind [])))
theorem idxInt_ok (l : List Int) (hl : Enc.lim 1048576 l) : CallR Try.prog 128 [.sl .b (l.map Enc.b), .fn 173 [] []] [] (.int .i64 (idxOf (fun x => !intB x) l)) := by
  refine CallR.of_body (n := 19) (rs := [.tmp 4]) hY.ok Try.func128 rfl (by decide) rfl rfl rfl rfl (fun F => ?_)
  have fx := And.intro Y3 (And.intro Y4 (And.intro Y27 (Y107)))
  have hl1 : l.length ≤ 1048576 := hl.1
  have fy := Nat.add_zero
  refine goN ?_ ?_ ?_ ?_ ?_ ?_ ?_ ?_ ?_ ?_ ?_ ?_ ?_ ?_ ?_ ?_
  any_goals (first | exact True.intro | skip)
  skip
  refine SW.loop (fun i : Nat => ⟨[.sl .b (l.map Enc.b), .fn 173 [] [], .undef, .undef, .undef, .undef, .undef, .int .i64 l.length, .int .i64 i, .undef, .undef, .undef, .undef, .undef, .undef, .undef, .undef, .undef, .undef], [[]]⟩)
    (fun n i => n = l.length - i ∧ i ≤ l.length ∧ ∀ j (h : j < l.length), j < i → (fun x => !intB x) l[j] = false) (n := l.length) (x := 0) (Norm.to 0 rfl (by simp [weakL])) ⟨rfl, Nat.zero_le _, fun j _ h => absurd h (Nat.not_lt_zero _)⟩ ?_
  rintro n i ⟨hn, hi, hp⟩
  have fy := Nat.add_zero
  refine goS ?_
  refine SW.cond rfl (fun hc => ?_) (fun hc => ?_)
  · have hlt : i < l.length := by simpa using hc
    have hg : (l.map Enc.b)[i]? = some (.int .i64 l[i]) := map_get Enc.b l i hlt
    have hC1 := cx [] (obj1_ok l[i])
    have fy := hg
    refine goK ?_ ?_ ?_ ?_ ?_ ?_ ?_ ?_ ?_ ?_ ?_ ?_ ?_ ?_ ?_ ?_
    any_goals (first | exact True.intro | skip)
    all_goals (repeat (refine Wh.mk fun hcc => ?_))
    · have hx := hcc
      have hx' : (fun x => !intB x) l[i] = true := by simpa using hx
      simp only [tupOf, fixEs, idxOf_eq (fun x => !intB x) l hlt hx' (fun j hj => hp j (by omega) hj)]
    · have hx := hcc
      have hx' : (fun x => !intB x) l[i] = false := by simpa using hx
      refine ⟨n - 1, i + 1, by omega, ⟨by omega, by omega, fun j hj hji => ?_⟩, ?_⟩
      · by_cases he : j = i
        · subst he; exact hx'
        · exact hp j hj (by omega)
      · rw [wrap64 _ (by omega) (by omega)]
        first | exact Norm.to 0 rfl (by simp [weakL]) | exact Norm.to 1 rfl (by simp [weakL]) | exact Norm.to 2 rfl (by simp [weakL])
  · have hge : i = l.length := by
      have : ¬ i < l.length := by simpa using hc
      omega
    have fy := Nat.add_zero
    refine goK ?_ ?_ ?_ ?_ ?_ ?_ ?_ ?_ ?_ ?_ ?_ ?_ ?_ ?_ ?_ ?_
    any_goals (first | exact True.intro | skip)
    all_goals (repeat (refine Wh.mk fun hcc => ?_))
    simp only [tupOf, fixEs, idxOf_none (fun x => !intB x) l (fun j hj => hp j hj (by omega))]
theorem anyInt_ok (l : List Int) (hl : Enc.lim 1048576 l) : CallR Try.prog 58 [.sl .b (l.map Enc.b), .fn 173 [] []] [] (.bool (l.any (fun x => !intB x))) := by
  refine CallR.of_body (n := 9) (rs := [.tmp 4]) hY.ok Try.func58 rfl (by decide) rfl rfl rfl rfl (fun F => ?_)
  have fx := And.intro Y3 (And.intro Y4 (And.intro Y27 (Y107)))
  have hC1 := cx [] (idxInt_ok l hl)
  have fy := Nat.add_zero
  refine goK ?_ ?_ ?_ ?_ ?_ ?_ ?_ ?_ ?_ ?_ ?_ ?_ ?_ ?_ ?_ ?_
  any_goals (first | exact True.intro | skip)
  all_goals (repeat (refine Wh.mk fun hcc => ?_))
  all_goals simp only [tupOf, fixEs, ge_iff_le, idx_any]
theorem idxRef_ok (l : List Int) (hl : Enc.lim 1048576 l) : CallR Try.prog 128 [.sl .b (l.map Enc.b), .fn 174 [] []] [] (.int .i64 (idxOf (fun x => !refB x) l)) := by
  refine CallR.of_body (n := 19) (rs := [.tmp 4]) hY.ok Try.func128 rfl (by decide) rfl rfl rfl rfl (fun F => ?_)
  have fx := And.intro Y3 (And.intro Y4 (And.intro Y27 (Y107)))
  have hl1 : l.length ≤ 1048576 := hl.1
  have fy := Nat.add_zero
  refine goN ?_ ?_ ?_ ?_ ?_ ?_ ?_ ?_ ?_ ?_ ?_ ?_ ?_ ?_ ?_ ?_
  any_goals (first | exact True.intro | skip)
  skip
  refine SW.loop (fun i : Nat => ⟨[.sl .b (l.map Enc.b), .fn 174 [] [], .undef, .undef, .undef, .undef, .undef, .int .i64 l.length, .int .i64 i, .undef, .undef, .undef, .undef, .undef, .undef, .undef, .undef, .undef, .undef], [[]]⟩)
    (fun n i => n = l.length - i ∧ i ≤ l.length ∧ ∀ j (h : j < l.length), j < i → (fun x => !refB x) l[j] = false) (n := l.length) (x := 0) (Norm.to 0 rfl (by simp [weakL])) ⟨rfl, Nat.zero_le _, fun j _ h => absurd h (Nat.not_lt_zero _)⟩ ?_
  rintro n i ⟨hn, hi, hp⟩
  have fy := Nat.add_zero
  refine goS ?_
  refine SW.cond rfl (fun hc => ?_) (fun hc => ?_)
  · have hlt : i < l.length := by simpa using hc
    have hg : (l.map Enc.b)[i]? = some (.int .i64 l[i]) := map_get Enc.b l i hlt
    have hC1 := cx [] (obj2_ok l[i])
    have fy := hg
    refine goK ?_ ?_ ?_ ?_ ?_ ?_ ?_ ?_ ?_ ?_ ?_ ?_ ?_ ?_ ?_ ?_
    any_goals (first | exact True.intro | skip)
    all_goals (repeat (refine Wh.mk fun hcc => ?_))
    · have hx := hcc
      have hx' : (fun x => !refB x) l[i] = true := by simpa using hx
      simp only [tupOf, fixEs, idxOf_eq (fun x => !refB x) l hlt hx' (fun j hj => hp j (by omega) hj)]
    · have hx := hcc
      have hx' : (fun x => !refB x) l[i] = false := by simpa using hx
      refine ⟨n - 1, i + 1, by omega, ⟨by omega, by omega, fun j hj hji => ?_⟩, ?_⟩
      · by_cases he : j = i
        · subst he; exact hx'
        · exact hp j hj (by omega)
      · rw [wrap64 _ (by omega) (by omega)]
        first | exact Norm.to 0 rfl (by simp [weakL]) | exact Norm.to 1 rfl (by simp [weakL]) | exact Norm.to 2 rfl (by simp [weakL])
  · have hge : i = l.length := by
      have : ¬ i < l.length := by simpa using hc
      omega
    have fy := Nat.add_zero
    refine goK ?_ ?_ ?_ ?_ ?_ ?_ ?_ ?_ ?_ ?_ ?_ ?_ ?_ ?_ ?_ ?_
    any_goals (first | exact True.intro | skip)
    all_goals (repeat (refine Wh.mk fun hcc => ?_))
    simp only [tupOf, fixEs, idxOf_none (fun x => !refB x) l (fun j hj => hp j hj (by omega))]
theorem anyRef_ok (l : List Int) (hl : Enc.lim 1048576 l) : CallR Try.prog 58 [.sl .b (l.map Enc.b), .fn 174 [] []] [] (.bool (l.any (fun x => !refB x))) := by
  refine CallR.of_body (n := 9) (rs := [.tmp 4]) hY.ok Try.func58 rfl (by decide) rfl rfl rfl rfl (fun F => ?_)
  have fx := And.intro Y3 (And.intro Y4 (And.intro Y27 (Y107)))
  have hC1 := cx [] (idxRef_ok l hl)
  have fy := Nat.add_zero
  refine goK ?_ ?_ ?_ ?_ ?_ ?_ ?_ ?_ ?_ ?_ ?_ ?_ ?_ ?_ ?_ ?_
  any_goals (first | exact True.intro | skip)
  all_goals (repeat (refine Wh.mk fun hcc => ?_))
  all_goals simp only [tupOf, fixEs, ge_iff_le, idx_any]
theorem noObj_ok (x : (Int × (List Int) × (List Int) × Unit)) : CallR Try.prog 129 [.nd [.int .i64 x.1, .sl .b (x.2.1.map Enc.b), .sl .b (x.2.2.1.map Enc.b)]] [] (.bool (noObjB x)) := by
  refine CallR.of_body (n := 18) (rs := [.tmp 2]) hY.ok Try.func129 rfl (by decide) rfl rfl rfl rfl (fun F => ?_)
  have fx := And.intro Y1 (And.intro Y2 (And.intro Y3 (And.intro Y4 (And.intro Y27 (Y35)))))
  have fy := Nat.add_zero
  refine goK ?_ ?_ ?_ ?_ ?_ ?_ ?_ ?_ ?_ ?_ ?_ ?_ ?_ ?_ ?_ ?_
  any_goals (first | exact True.intro | skip)
  all_goals (repeat (refine Wh.mk fun hcc => ?_))
  all_goals (first | rfl | ((try simp only [tupOf, fixEs]); (first | done | rfl | (simp_all [noObjB, len0]; done) | grind [noObjB, len0])))
theorem noSlot_ok (x : (Bool × ((Int × (List Int) × (List Int) × Unit)) × Unit)) : CallR Try.prog 60 [.nd [.bool x.1, .nd [.int .i64 x.2.1.1, .sl .b (x.2.1.2.1.map Enc.b), .sl .b (x.2.1.2.2.1.map Enc.b)]]] [] (.bool (!x.1 && noObjB x.2.1)) := by
  refine CallR.of_body (n := 11) (rs := [.tmp 2]) hY.ok Try.func60 rfl (by decide) rfl rfl rfl rfl (fun F => ?_)
  have fx := And.intro Y1 (And.intro Y3 (And.intro Y4 (And.intro Y27 (And.intro Y35 (Y37)))))
  have hC1 := cx [] (noObj_ok x.2.1)
  have fy := Nat.add_zero
  refine goK ?_ ?_ ?_ ?_ ?_ ?_ ?_ ?_ ?_ ?_ ?_ ?_ ?_ ?_ ?_ ?_
  any_goals (first | exact True.intro | skip)
  all_goals (repeat (refine Wh.mk fun hcc => ?_))
  all_goals (first | rfl | ((try simp only [tupOf, fixEs]); (first | done | rfl | (simp_all []; done) | grind [])))
end Q6

namespace Q6
open Go Go.Vm Go.Proofs
set_option maxHeartbeats 4000000
set_option synthInstance.maxSize 2000
set_option synthInstance.maxHeartbeats 400000
set_option maxRecDepth 10000
set_option linter.unusedSimpArgs false
set_option linter.unusedVariables false

open Go.By

/-! ### draws as functions -/
noncomputable def pick {α : Type} [Inhabited α] (P : CS × α → Prop) : CS × α := by
  classical
  exact if h : ∃ x, P x then Classical.choose h else ((0, 0), default)
theorem pick_spec {α : Type} [Inhabited α] {P : CS × α → Prop} (h : ∃ x, P x) : P (pick P) := by
  unfold pick
  rw [dif_pos h]
  exact Classical.choose_spec h
noncomputable def belowF (l : List UInt8) (s : CS) (n : Int) : CS × Int := pick fun x => x.1.1 ≤ l.length ∧ (0 ≤ x.2 ∧ (0 < n → x.2 < n)) ∧ CallR Try.prog 127 [.io (.nd [.sl .s (l.map Enc.b), .int .i64 (s.1 : Nat), .int .i64 s.2]), .int .i64 n] [.nd [.sl .s (l.map Enc.b), .int .i64 (x.1.1 : Nat), .int .i64 x.1.2]] (.int .i64 x.2)
theorem belowF_ok (l : List UInt8) (s : CS) (n : Int) (hl : l.length ≤ 1048576) (hi : s.1 ≤ l.length) : (belowF l s n).1.1 ≤ l.length ∧ (0 ≤ (belowF l s n).2 ∧ (0 < n → (belowF l s n).2 < n)) ∧ CallR Try.prog 127 [.io (.nd [.sl .s (l.map Enc.b), .int .i64 (s.1 : Nat), .int .i64 s.2]), .int .i64 n] [.nd [.sl .s (l.map Enc.b), .int .i64 (((belowF l s n).1).1 : Nat), .int .i64 ((belowF l s n).1).2]] (.int .i64 (belowF l s n).2) :=
  pick_spec (P := fun x => x.1.1 ≤ l.length ∧ (0 ≤ x.2 ∧ (0 < n → x.2 < n)) ∧ CallR Try.prog 127 [.io (.nd [.sl .s (l.map Enc.b), .int .i64 (s.1 : Nat), .int .i64 s.2]), .int .i64 n] [.nd [.sl .s (l.map Enc.b), .int .i64 (x.1.1 : Nat), .int .i64 x.1.2]] (.int .i64 x.2)) (by
    obtain ⟨s', x, h1, h2, h3⟩ := below_ok l s hl hi n
    exact ⟨(s', x), h1, h2, h3⟩)
noncomputable def onceF (l : List UInt8) (s : CS) (n : Int) : CS × Bool := pick fun x => x.1.1 ≤ l.length ∧ CallR Try.prog 126 [.io (.nd [.sl .s (l.map Enc.b), .int .i64 (s.1 : Nat), .int .i64 s.2]), .int .i64 n] [.nd [.sl .s (l.map Enc.b), .int .i64 (x.1.1 : Nat), .int .i64 x.1.2]] (.bool x.2)
theorem onceF_ok (l : List UInt8) (s : CS) (n : Int) (hl : l.length ≤ 1048576) (hi : s.1 ≤ l.length) : (onceF l s n).1.1 ≤ l.length ∧ CallR Try.prog 126 [.io (.nd [.sl .s (l.map Enc.b), .int .i64 (s.1 : Nat), .int .i64 s.2]), .int .i64 n] [.nd [.sl .s (l.map Enc.b), .int .i64 (((onceF l s n).1).1 : Nat), .int .i64 ((onceF l s n).1).2]] (.bool (onceF l s n).2) :=
  pick_spec (P := fun x => x.1.1 ≤ l.length ∧ CallR Try.prog 126 [.io (.nd [.sl .s (l.map Enc.b), .int .i64 (s.1 : Nat), .int .i64 s.2]), .int .i64 n] [.nd [.sl .s (l.map Enc.b), .int .i64 (x.1.1 : Nat), .int .i64 x.1.2]] (.bool x.2)) (by
    obtain ⟨s', x, h1, h3⟩ := once_ok l s hl hi n
    exact ⟨(s', x), h1, h3⟩)
noncomputable def intF (l : List UInt8) (s : CS) (ns : List Int) : CS × Int := pick fun x => x.1.1 ≤ l.length ∧ x.2 ∈ ns ∧ CallR Try.prog 66 [.io (.nd [.sl .s (l.map Enc.b), .int .i64 (s.1 : Nat), .int .i64 s.2]), .sl .b (ns.map Enc.b)] [.nd [.sl .s (l.map Enc.b), .int .i64 (x.1.1 : Nat), .int .i64 x.1.2]] (.int .i64 x.2)
theorem intF_ok (l : List UInt8) (s : CS) (ns : List Int) (hl : l.length ≤ 1048576) (hi : s.1 ≤ l.length) (h0 : 0 < ns.length) (h1 : ns.length ≤ 1048576) : (intF l s ns).1.1 ≤ l.length ∧ (intF l s ns).2 ∈ ns ∧ CallR Try.prog 66 [.io (.nd [.sl .s (l.map Enc.b), .int .i64 (s.1 : Nat), .int .i64 s.2]), .sl .b (ns.map Enc.b)] [.nd [.sl .s (l.map Enc.b), .int .i64 (((intF l s ns).1).1 : Nat), .int .i64 ((intF l s ns).1).2]] (.int .i64 (intF l s ns).2) :=
  pick_spec (P := fun x => x.1.1 ≤ l.length ∧ x.2 ∈ ns ∧ CallR Try.prog 66 [.io (.nd [.sl .s (l.map Enc.b), .int .i64 (s.1 : Nat), .int .i64 s.2]), .sl .b (ns.map Enc.b)] [.nd [.sl .s (l.map Enc.b), .int .i64 (x.1.1 : Nat), .int .i64 x.1.2]] (.int .i64 x.2)) (by
    obtain ⟨s', x, h1, h2, h3⟩ := int_ok l s hl hi ns h0 h1
    exact ⟨(s', x), h1, h2, h3⟩)
theorem buildN {Y : TypeId → TyI} {own t el by' n : Nat} {k : Ty} {ps : List (Nat × T)} {r : List T} (h1 : Y t = ⟨.sl el, 1, 24⟩) (h2 : Y el = ⟨k, 1, by'⟩) (h3 : k.isFn = false) (hn : n * 1 ≤ 2 ^ 24)
    (hs : setAll (plAr 1) (List.replicate n (zeroT Y 9 el)) ps = some r) :
    buildSliceM Y own t n ps = .pure { v := .ref own 0 0 n, news := [.arr 1 r false] } := by
  simp only [buildSliceM, h1, h2, h3]
  rw [if_pos ⟨by decide, hn, trivial⟩, hs]
/-! objects -/
noncomputable def oIntsF (l : List UInt8) : Nat → CS → List Int → CS × List Int
  | 0, s, acc => (s, acc)
  | n + 1, s, acc => oIntsF l n (intF l (belowF l s 50).1 [0, 1, -1, 7, 1000000, -1000000, (belowF l s 50).2]).1 (acc ++ [(intF l (belowF l s 50).1 [0, 1, -1, 7, 1000000, -1000000, (belowF l s 50).2]).2])
noncomputable def oRefsF (l : List UInt8) : Nat → CS → List Int → CS × List Int
  | 0, s, acc => (s, acc)
  | n + 1, s, acc => oRefsF l n (intF l (belowF l s 32).1 [0, 1, 2, 3, 5, 8, 12, 31, (belowF l s 32).2]).1 (acc ++ [(intF l (belowF l s 32).1 [0, 1, 2, 3, 5, 8, 12, 31, (belowF l s 32).2]).2])
noncomputable def objF (l : List UInt8) (s : CS) : CS × ObjT :=
  let k := belowF l s 5; let n := belowF l k.1 3; let a := oIntsF l n.2.toNat n.1 []; let m := belowF l a.1 4; let b := oRefsF l m.2.toNat m.1 []
  (b.1, (1 + k.2, a.2, b.2, ()))
theorem oIntsF_ok (l : List UInt8) (hl : l.length ≤ 1048576) : ∀ (n : Nat) (s : CS) (acc : List Int), s.1 ≤ l.length → (∀ x ∈ acc, intB x = true) →
    (oIntsF l n s acc).1.1 ≤ l.length ∧ (∀ x ∈ (oIntsF l n s acc).2, intB x = true) ∧ (oIntsF l n s acc).2.length = acc.length + n
  | 0, s, acc, h, ha => ⟨h, ha, rfl⟩
  | n + 1, s, acc, h, ha => by
    obtain ⟨b1, b2, _⟩ := belowF_ok l s 50 hl h
    obtain ⟨c1, c2, _⟩ := intF_ok l (belowF l s 50).1 [0, 1, -1, 7, 1000000, -1000000, (belowF l s 50).2] hl b1 (by simp) (by simp)
    have ih := oIntsF_ok l hl n _ (acc ++ [(intF l (belowF l s 50).1 [0, 1, -1, 7, 1000000, -1000000, (belowF l s 50).2]).2]) c1 (by
      intro x hx
      rcases List.mem_append.1 hx with hx | hx
      · exact ha x hx
      · simp only [List.mem_singleton] at hx
        subst hx
        have h50 := b2.2 (by decide)
        simp only [List.mem_cons, List.not_mem_nil, or_false] at c2
        unfold intB
        simp only [Bool.and_eq_true, decide_eq_true_eq]
        omega)
    simp only [oIntsF]
    refine ⟨ih.1, ih.2.1, ?_⟩
    rw [ih.2.2, List.length_append]; simp; omega
theorem oRefsF_ok (l : List UInt8) (hl : l.length ≤ 1048576) : ∀ (n : Nat) (s : CS) (acc : List Int), s.1 ≤ l.length → (∀ x ∈ acc, refB x = true) →
    (oRefsF l n s acc).1.1 ≤ l.length ∧ (∀ x ∈ (oRefsF l n s acc).2, refB x = true) ∧ (oRefsF l n s acc).2.length = acc.length + n
  | 0, s, acc, h, ha => ⟨h, ha, rfl⟩
  | n + 1, s, acc, h, ha => by
    obtain ⟨b1, b2, _⟩ := belowF_ok l s 32 hl h
    obtain ⟨c1, c2, _⟩ := intF_ok l (belowF l s 32).1 [0, 1, 2, 3, 5, 8, 12, 31, (belowF l s 32).2] hl b1 (by simp) (by simp)
    have ih := oRefsF_ok l hl n _ (acc ++ [(intF l (belowF l s 32).1 [0, 1, 2, 3, 5, 8, 12, 31, (belowF l s 32).2]).2]) c1 (by
      intro x hx
      rcases List.mem_append.1 hx with hx | hx
      · exact ha x hx
      · simp only [List.mem_singleton] at hx
        subst hx
        have h50 := b2.2 (by decide)
        simp only [List.mem_cons, List.not_mem_nil, or_false] at c2
        unfold refB
        simp only [Bool.and_eq_true, decide_eq_true_eq]
        omega)
    simp only [oRefsF]
    refine ⟨ih.1, ih.2.1, ?_⟩
    rw [ih.2.2, List.length_append]; simp; omega
theorem objF_ok (l : List UInt8) (s : CS) (hl : l.length ≤ 1048576) (hi : s.1 ≤ l.length) : (objF l s).1.1 ≤ l.length ∧ objB (objF l s).2 = true := by
  unfold objF
  simp only
  obtain ⟨a1, a2, _⟩ := belowF_ok l s 5 hl hi
  obtain ⟨b1, b2, _⟩ := belowF_ok l _ 3 hl a1
  obtain ⟨c1, c2, c3⟩ := oIntsF_ok l hl (belowF l (belowF l s 5).1 3).2.toNat _ [] b1 (by simp)
  obtain ⟨d1, d2, _⟩ := belowF_ok l _ 4 hl c1
  obtain ⟨e1, e2, e3⟩ := oRefsF_ok l hl (belowF l (oIntsF l (belowF l (belowF l s 5).1 3).2.toNat (belowF l (belowF l s 5).1 3).1 []).1 4).2.toNat _ [] d1 (by simp)
  refine ⟨e1, ?_⟩
  have h5 := a2.2 (by decide)
  have h3 := b2.2 (by decide)
  have h4 := d2.2 (by decide)
  unfold objB
  simp only [Bool.and_eq_true, decide_eq_true_eq, List.all_eq_true]
  simp only [List.length_nil, Nat.zero_add] at c3 e3
  refine ⟨⟨⟨⟨⟨by omega, by omega⟩, by omega⟩, by omega⟩, c2⟩, e2⟩

end Q6

namespace Q6
open Go Go.Vm Go.Proofs
set_option maxHeartbeats 4000000
set_option synthInstance.maxSize 2000
set_option synthInstance.maxHeartbeats 400000
set_option maxRecDepth 10000
set_option linter.unusedSimpArgs false
set_option linter.unusedVariables false

def atF (l : List UInt8) (k : Nat) : Int := if h : k < l.length then ((l[k]).toNat : Int) else Int.tmod ((k : Int) * 31 + l.length * 7) 256
theorem atF_rng (l : List UInt8) (k : Nat) : 0 ≤ atF l k ∧ atF l k ≤ 255 := by
  unfold atF
  split
  · have := (l[k]).toNat_lt; omega
  · rw [Int.tmod_eq_emod_of_nonneg (by omega)]; omega
theorem at_ok (l : List UInt8) (hl : l.length ≤ 1048576) (k : Nat) (hk : k ≤ 1000) : CallR Try.prog 12 [.sl .s (l.map Enc.b), .int .i64 (k : Nat)] [] (.int .i64 (atF l k)) := by
  refine CallR.of_body (n := 21) (rs := [.tmp 4]) hY.ok Try.func12 rfl (by decide) rfl rfl rfl rfl (fun F => ?_)
  have fx := And.intro Y3 (And.intro Y4 (And.intro Y5 (Y22)))
  unfold atF
  by_cases h : k < l.length
  · rw [dif_pos h]
    have hd : decide ((k : Int) < (l.length : Int)) = true := by simp; omega
    have hltI : (k : Int) < (l.length : Int) := by omega
    have hg : (l.map Enc.b)[k]? = some (Enc.b l[k]) := map_get Enc.b l k h
    have hb : (Enc.b l[k] : T) = .int .u8 ((l[k]).toNat : Int) := rfl
    rw [hb] at hg
    have hc := byte_i64 l[k]
    have fy := And.intro hd (And.intro hltI (And.intro hg (hc)))
    refine goK ?_ ?_ ?_ ?_ ?_ ?_ ?_ ?_ ?_ ?_ ?_ ?_ ?_ ?_ ?_ ?_
    any_goals (first | exact True.intro | skip)
    all_goals (repeat (refine Wh.mk fun hcc => ?_))
    all_goals (first | rfl | (simp only [tupOf, fixEs]; done) | simp [tupOf, fixEs])
  · rw [dif_neg h]
    have hd : decide ((k : Int) < (l.length : Int)) = false := by simp; omega
    have w1 : IntKind.i64.wrap ((k : Int) * 31) = (k : Int) * 31 := wrap64 _ (by omega) (by omega)
    have w2 : IntKind.i64.wrap ((l.length : Int) * 7) = (l.length : Int) * 7 := wrap64 _ (by omega) (by omega)
    have w3 : IntKind.i64.wrap ((k : Int) * 31 + (l.length : Int) * 7) = (k : Int) * 31 + (l.length : Int) * 7 := wrap64 _ (by omega) (by omega)
    have h0 : 0 ≤ Int.tmod ((k : Int) * 31 + (l.length : Int) * 7) 256 ∧ Int.tmod ((k : Int) * 31 + (l.length : Int) * 7) 256 ≤ 255 := by rw [Int.tmod_eq_emod_of_nonneg (by omega)]; omega
    have w4 : IntKind.i64.wrap (Int.tmod ((k : Int) * 31 + (l.length : Int) * 7) 256) = Int.tmod ((k : Int) * 31 + (l.length : Int) * 7) 256 := wrap64 _ (by omega) (by omega)
    have fy := And.intro hd (And.intro w1 (And.intro w2 (And.intro w3 (w4))))
    refine goK ?_ ?_ ?_ ?_ ?_ ?_ ?_ ?_ ?_ ?_ ?_ ?_ ?_ ?_ ?_ ?_
    any_goals (first | exact True.intro | skip)
    all_goals (repeat (refine Wh.mk fun hcc => ?_))
    all_goals (first | rfl | (simp only [tupOf, fixEs]; done) | simp [tupOf, fixEs])
def sizeF (l : List UInt8) (most : Nat) : Nat := if 3 + l.length / 12 > most then most else 3 + l.length / 12
theorem sizeF_le (l : List UInt8) (most : Nat) : sizeF l most ≤ most := by unfold sizeF; split <;> omega
theorem l1Size_ok (l : List UInt8) (hl : l.length ≤ 1048576) (most : Nat) (hm : most ≤ 1000) : CallR Try.prog 65 [.sl .s (l.map Enc.b), .int .i64 (most : Nat)] [] (.int .i64 (sizeF l most : Nat)) := by
  refine CallR.of_body (n := 15) (rs := [.tmp 4]) hY.ok Try.func65 rfl (by decide) rfl rfl rfl rfl (fun F => ?_)
  have fx := And.intro Y3 (And.intro Y4 (And.intro Y5 (Y22)))
  unfold sizeF
  have hq : Int.tdiv (l.length : Int) 12 = ((l.length / 12 : Nat) : Int) := by rw [Int.tdiv_eq_ediv_of_nonneg (by omega)]; omega
  have w1 : IntKind.i64.wrap ((l.length / 12 : Nat) : Int) = ((l.length / 12 : Nat) : Int) := wrap64 _ (by omega) (by omega)
  have w2 : IntKind.i64.wrap (3 + ((l.length / 12 : Nat) : Int)) = ((3 + l.length / 12 : Nat) : Int) := by rw [wrap64 _ (by omega) (by omega)]; omega
  generalize 3 + l.length / 12 = n at *
  skip
  by_cases h : n > most
  · rw [if_pos h]
    have hd : decide ((n : Int) > (most : Int)) = true := by simp; omega
    have fy := And.intro hd (And.intro hq (And.intro w1 (w2)))
    refine goK ?_ ?_ ?_ ?_ ?_ ?_ ?_ ?_ ?_ ?_ ?_ ?_ ?_ ?_ ?_ ?_
    any_goals (first | exact True.intro | skip)
    all_goals (repeat (refine Wh.mk fun hcc => ?_))
    all_goals (first | rfl | (simp only [tupOf, fixEs]; done) | simp [tupOf, fixEs])
  · rw [if_neg h]
    have hd : decide ((n : Int) > (most : Int)) = false := by simp; omega
    have fy := And.intro hd (And.intro hq (And.intro w1 (w2)))
    refine goK ?_ ?_ ?_ ?_ ?_ ?_ ?_ ?_ ?_ ?_ ?_ ?_ ?_ ?_ ?_ ?_
    any_goals (first | exact True.intro | skip)
    all_goals (repeat (refine Wh.mk fun hcc => ?_))
    all_goals (first | rfl | (simp only [tupOf, fixEs]; done) | simp [tupOf, fixEs])
end Q6

namespace Go.Vm
set_option linter.unusedVariables false
/-! ### what an array's elements hold is no longer known, or nil becomes an empty slice -/
theorem fgtL_len : ∀ {l m : List T}, fgtL l m → m.length = l.length
  | [], m, h => by simp only [fgtL] at h; subst h; rfl
  | t :: l, m, h => by
    obtain ⟨u, m', rfl, _, h2⟩ := h
    simp [fgtL_len h2]
theorem fgt_rows {c : Cx} {es : Nat} : ∀ (l : List T) {m : List T} {cs : List Value} {bs : List Nat}, fgtL l m → RRows c es l cs bs → RRows c es m cs bs
  | [], m, cs, bs, h, r => by simp only [fgtL] at h; subst h; exact r
  | t :: l, m, cs, bs, h, r => by
    obtain ⟨u, m', rfl, h1, h2⟩ := h
    obtain ⟨c1, c2, b1, b2, e1, e2, e3, r1, r2⟩ := r
    exact ⟨c1, c2, b1, b2, e1, e2, e3, fgt_rc t h1 r1, fgt_rows l h2 r2⟩
theorem Norm.forgetArr {tm : List T} {H : Heap} (e j : Nat) {es : Nat} {l m : List T} (ha : H.at e j = some (.arr es l false)) (hf : fgtL l m) : Norm ⟨tm, H⟩ ⟨tm, H.put e j (.arr es m false)⟩ := fun F c a bs hi => by
  obtain ⟨p, q, r, hb, ho, hinv⟩ := HR.drop hi.h ha
  have hgone : (H.put e j .gone).at e j = some .gone := at_put (x := .gone) ha
  have hl := fgtL_len hf
  obtain ⟨i, hmu, e1, e2, e3, ho⟩ := ho
  have hnd := hi.h.nd
  rw [hb, List.nodup_append, List.nodup_append] at hnd
  have ho' : HOb c e j (.arr es m false) q := by
    refine ⟨i, hmu, e1, e2, by rw [hl]; exact e3, ?_⟩
    rcases ho with ⟨h0, h1⟩ | ⟨rows, bs', hq, hrows, hcell, hoa⟩
    · exact .inl ⟨h0, h1⟩
    · exact .inr ⟨rows, bs', hq, fgt_rows l hf hrows, hcell, hoa⟩
  obtain ⟨bs2, hfin⟩ := soak_back (q' := q) (ob := .arr es m false) hi.h hb (.refl hinv) hgone ho' (fun x hx => .inl hx) hnd.2.1.1
  rw [put_put] at hfin
  exact ⟨c, bs2, rfl, hfin, hi.tm, hi.df, hi.pin⟩
theorem fgtL_rep {t u : T} (h : fgt t u) : ∀ n : Nat, fgtL (List.replicate n t) (List.replicate n u)
  | 0 => rfl
  | n + 1 => ⟨u, _, rfl, h, fgtL_rep h n⟩
end Go.Vm

namespace Q6
open Go Go.Vm

/-! ### what is reached: the plain law -/
def mrk (m : List Bool) (i : Nat) : Bool := m.getD i false
def hasA (v : List SlotT) (i : Nat) : Bool := match v[i]? with | some s => s.1 | none => false
def refsA (v : List SlotT) (i : Nat) : List Int := match v[i]? with | some s => s.2.1.2.2.1 | none => []

structure VOk (v : List SlotT) : Prop where
  len : v.length = 32
  z : hasA v 0 = false
  rf : ∀ i, ∀ r ∈ refsA v i, 0 ≤ r ∧ r ≤ 31
  rl : ∀ i, (refsA v i).length ≤ 5

inductive Rch (v : List SlotT) (root : Nat) : Nat → Prop
  | root : hasA v root = true → Rch v root root
  | step {x : Nat} {r : Int} : Rch v root x → r ∈ refsA v x → hasA v r.toNat = true → Rch v root r.toNat

open Classical in
noncomputable def reachL (v : List SlotT) (root : Nat) : List Bool := (List.range 32).map fun i => decide (Rch v root i)

theorem reachL_len (v : List SlotT) (root : Nat) : (reachL v root).length = 32 := by simp [reachL]

theorem mrk_set {m : List Bool} {i j : Nat} (hi : i < m.length) : mrk (m.set i true) j = true ↔ (j = i ∨ mrk m j = true) := by
  unfold mrk
  by_cases h : j = i
  · subst h; simp [hi]
  · simp [List.getElem?_set_ne (Ne.symm h), h]
theorem mrk_lt {m : List Bool} {i : Nat} (h : mrk m i = true) : i < m.length := by
  unfold mrk at h
  rcases Nat.lt_or_ge i m.length with h' | h'
  · exact h'
  · simp [List.getElem?_eq_none h'] at h
theorem cnt_set : ∀ {m : List Bool} {i : Nat}, i < m.length → mrk m i = false → (m.set i true).count false + 1 = m.count false
  | [], i, h, _ => by simp at h
  | b :: m, 0, _, h => by simp [mrk] at h; subst h; simp
  | b :: m, i + 1, h, h1 => by
    have := cnt_set (m := m) (i := i) (by simpa using h) (by simpa [mrk] using h1)
    simp only [List.set_cons_succ, List.count_cons]
    omega

theorem list_of_mrk {m : List Bool} {v : List SlotT} {root : Nat} (hl : m.length = 32) (h : ∀ i, mrk m i = true ↔ Rch v root i) : m = reachL v root := by
  refine List.ext_getElem (by rw [hl, reachL_len]) fun i h1 h2 => ?_
  have := h i
  simp only [mrk, List.getD_eq_getElem?_getD, List.getElem?_eq_getElem h1, Option.getD_some] at this
  simp only [reachL, List.getElem_map, List.getElem_range]
  by_cases hr : Rch v root i
  · simp [hr, this.2 hr]
  · have : ¬ m[i] = true := fun h' => hr (this.1 h')
    simp [hr, this]

/-- the impl's walk: marks, and what waits -/
structure JI (v : List SlotT) (root : Nat) (m : List Bool) (q : List Int) : Prop where
  ml : m.length = 32
  sound : ∀ i, mrk m i = true → Rch v root i
  qs : ∀ x ∈ q, 0 ≤ x ∧ x ≤ 31 ∧ (hasA v x.toNat = true → Rch v root x.toNat)
  cl : ∀ i, mrk m i = true → ∀ r ∈ refsA v i, hasA v r.toNat = true → mrk m r.toNat = true ∨ r ∈ q
  rt : hasA v root = true → mrk m root = true ∨ (root : Int) ∈ q

theorem mrk_rep (n i : Nat) : mrk (List.replicate n false) i = false := by
  unfold mrk
  simp only [List.getD_eq_getElem?_getD, List.getElem?_replicate]
  split <;> rfl
theorem JI.init {v : List SlotT} {root : Nat} (hr : root ≤ 31) : JI v root (List.replicate 32 false) [(root : Int)] where
  ml := by simp
  sound i h := by rw [mrk_rep] at h; cases h
  qs x hx := by
    simp at hx; subst hx
    exact ⟨by omega, by omega, fun h => by simpa using Rch.root (by simpa using h)⟩
  cl i h := by rw [mrk_rep] at h; cases h
  rt _ := .inr (by simp)

theorem JI.skip {v : List SlotT} (hv : VOk v) {root : Nat} {m : List Bool} {x : Int} {q : List Int} (h : JI v root m (x :: q)) (hx : x = 0 ∨ hasA v x.toNat = false ∨ mrk m x.toNat = true) : JI v root m q where
  ml := h.ml
  sound := h.sound
  qs y hy := h.qs y (by simp [hy])
  cl i hi r hr hh := by
    rcases h.cl i hi r hr hh with h' | h'
    · exact .inl h'
    · rcases List.mem_cons.1 h' with rfl | h'
      · rcases hx with rfl | hx | hx
        · have := hv.z; simp at hh; rw [this] at hh; cases hh
        · rw [hx] at hh; cases hh
        · exact .inl hx
      · exact .inr h'
  rt hh := by
    rcases h.rt hh with h' | h'
    · exact .inl h'
    · rcases List.mem_cons.1 h' with h' | h'
      · subst h'
        rcases hx with hx | hx | hx
        · have : root = 0 := by omega
          subst this
          have := hv.z; rw [this] at hh; cases hh
        · simp at hx; rw [hx] at hh; cases hh
        · exact .inl (by simpa using hx)
      · exact .inr h'

theorem JI.take {v : List SlotT} (hv : VOk v) {root : Nat} {m : List Bool} {x : Int} {q : List Int} (h : JI v root m (x :: q)) (hh : hasA v x.toNat = true) : JI v root (m.set x.toNat true) (q ++ refsA v x.toNat) := by
  obtain ⟨q1, q2, q3⟩ := h.qs x (by simp)
  have hlt : x.toNat < m.length := by rw [h.ml]; omega
  have hx := q3 hh
  refine ⟨by simp [h.ml], fun i hi => ?_, fun y hy => ?_, fun i hi r hr hr2 => ?_, fun hr => ?_⟩
  · rcases (mrk_set hlt).1 hi with rfl | hi
    · exact hx
    · exact h.sound i hi
  · rcases List.mem_append.1 hy with hy | hy
    · exact h.qs y (by simp [hy])
    · obtain ⟨a, b⟩ := hv.rf _ y hy
      exact ⟨a, b, fun h3 => Rch.step hx hy h3⟩
  · rcases (mrk_set hlt).1 hi with rfl | hi
    · exact .inr (by simp [hr])
    · rcases h.cl i hi r hr hr2 with h' | h'
      · exact .inl ((mrk_set hlt).2 (.inr h'))
      · rcases List.mem_cons.1 h' with rfl | h'
        · exact .inl ((mrk_set hlt).2 (.inl rfl))
        · exact .inr (by simp [h'])
  · rcases h.rt hr with h' | h'
    · exact .inl ((mrk_set hlt).2 (.inr h'))
    · rcases List.mem_cons.1 h' with h' | h'
      · exact .inl ((mrk_set hlt).2 (.inl (by omega)))
      · exact .inr (by simp [h'])

theorem JI.done {v : List SlotT} {root : Nat} {m : List Bool} (h : JI v root m []) : m = reachL v root := by
  refine list_of_mrk h.ml fun i => ⟨h.sound i, fun hr => ?_⟩
  induction hr with
  | root hh => rcases h.rt hh with h' | h'
               · exact h'
               · simp at h'
  | step _ hm hh ih => rcases h.cl _ ih _ hm hh with h' | h'
                       · exact h'
                       · simp at h'

/-- the reference's walk -/
structure JS (v : List SlotT) (root : Nat) (m : List Bool) (q : List Int) (k : Nat) : Prop where
  ml : m.length = 32
  kl : k ≤ q.length
  sound : ∀ i, mrk m i = true → Rch v root i ∧ (i : Int) ∈ q
  qs : ∀ x ∈ q, 0 ≤ x ∧ x ≤ 31 ∧ Rch v root x.toNat
  cl : ∀ j x, j < k → q[j]? = some x → ∀ r ∈ refsA v x.toNat, hasA v r.toNat = true → mrk m r.toNat = true
  rt : hasA v root = true → mrk m root = true

theorem JS.init {v : List SlotT} {root : Nat} (hr : root ≤ 31) (hh : hasA v root = true) : JS v root ((List.replicate 32 false).set root true) [(root : Int)] 0 := by
  have hlt : root < (List.replicate 32 false).length := by simp; omega
  refine ⟨by simp, by simp, fun i hi => ?_, fun x hx => ?_, fun j x hj => by omega, fun _ => (mrk_set hlt).2 (.inl rfl)⟩
  · rcases (mrk_set hlt).1 hi with rfl | hi
    · exact ⟨.root hh, by simp⟩
    · rw [mrk_rep] at hi; cases hi
  · simp at hx; subst hx
    exact ⟨by omega, by omega, by simpa using Rch.root hh⟩
theorem JS.none {v : List SlotT} {root : Nat} (hh : hasA v root = false) : JS v root (List.replicate 32 false) [] 0 :=
  ⟨by simp, by simp, fun i hi => (by rw [mrk_rep] at hi; cases hi), by simp, fun j x hj => by omega, fun h => (by rw [hh] at h; cases h)⟩

structure JS2 (v : List SlotT) (root : Nat) (m : List Bool) (q : List Int) (k : Nat) (x : Int) (i : Nat) : Prop where
  js : JS v root m q k
  at_ : q[k]? = some x
  il : i ≤ (refsA v x.toNat).length
  cl : ∀ j r, j < i → (refsA v x.toNat)[j]? = some r → hasA v r.toNat = true → mrk m r.toNat = true

theorem JS2.skip {v : List SlotT} {root : Nat} {m : List Bool} {q : List Int} {k i : Nat} {x r : Int} (h : JS2 v root m q k x i) (hr : (refsA v x.toNat)[i]? = some r) (hx : hasA v r.toNat = false ∨ mrk m r.toNat = true) : JS2 v root m q k x (i + 1) where
  js := h.js
  at_ := h.at_
  il := (List.getElem?_eq_some_iff.1 hr).1
  cl j r' hj hr' hh := by
    rcases Nat.lt_or_ge j i with h' | h'
    · exact h.cl j r' h' hr' hh
    · have : j = i := by omega
      subst this
      rw [hr] at hr'; cases hr'
      rcases hx with hx | hx
      · rw [hx] at hh; cases hh
      · exact hx

theorem JS2.push {v : List SlotT} (hv : VOk v) {root : Nat} {m : List Bool} {q : List Int} {k i : Nat} {x r : Int} (h : JS2 v root m q k x i) (hr : (refsA v x.toNat)[i]? = some r) (hh : hasA v r.toNat = true) : JS2 v root (m.set r.toNat true) (q ++ [r]) k x (i + 1) := by
  have hmem : r ∈ refsA v x.toNat := List.mem_of_getElem? hr
  obtain ⟨a, b⟩ := hv.rf _ r hmem
  have hlt : r.toNat < m.length := by rw [h.js.ml]; omega
  have hxq : x ∈ q := List.mem_of_getElem? h.at_
  have hR : Rch v root r.toNat := .step (h.js.qs x hxq).2.2 hmem hh
  have hk := (List.getElem?_eq_some_iff.1 h.at_).1
  refine ⟨⟨by simp [h.js.ml], by have := h.js.kl; simp; omega, fun i hi => ?_, fun y hy => ?_, fun j y hj hy r' hr' h3 => ?_, fun h3 => (mrk_set hlt).2 (.inr (h.js.rt h3))⟩, ?_, (List.getElem?_eq_some_iff.1 hr).1, fun j r' hj hr' h3 => ?_⟩
  · rcases (mrk_set hlt).1 hi with rfl | hi
    · exact ⟨hR, by simp; right; omega⟩
    · obtain ⟨c, d⟩ := h.js.sound i hi; exact ⟨c, by simp [d]⟩
  · rcases List.mem_append.1 hy with hy | hy
    · exact h.js.qs y hy
    · simp at hy; subst hy; exact ⟨a, b, hR⟩
  · rw [List.getElem?_append_left (by omega)] at hy
    exact (mrk_set hlt).2 (.inr (h.js.cl j y hj hy r' hr' h3))
  · rw [List.getElem?_append_left hk]; exact h.at_
  · rcases Nat.lt_or_ge j i with h' | h'
    · exact (mrk_set hlt).2 (.inr (h.cl j r' h' hr' h3))
    · have : j = i := by omega
      subst this
      rw [hr] at hr'; cases hr'
      exact (mrk_set hlt).2 (.inl rfl)

theorem JS2.next {v : List SlotT} {root : Nat} {m : List Bool} {q : List Int} {k : Nat} {x : Int} (h : JS2 v root m q k x (refsA v x.toNat).length) : JS v root m q (k + 1) where
  ml := h.js.ml
  kl := (List.getElem?_eq_some_iff.1 h.at_).1
  sound := h.js.sound
  qs := h.js.qs
  cl j y hj hy r hr hh := by
    rcases Nat.lt_or_ge j k with h' | h'
    · exact h.js.cl j y h' hy r hr hh
    · have : j = k := by omega
      subst this
      rw [h.at_] at hy; cases hy
      obtain ⟨i, hi, rfl⟩ := List.getElem_of_mem hr
      exact h.cl i _ hi (List.getElem?_eq_getElem hi) hh
  rt := h.js.rt

theorem JS.done {v : List SlotT} {root : Nat} {m : List Bool} {q : List Int} (h : JS v root m q q.length) : m = reachL v root := by
  refine list_of_mrk h.ml fun i => ⟨fun hi => (h.sound i hi).1, fun hr => ?_⟩
  induction hr with
  | root hh => exact h.rt hh
  | step _ hm hh ih =>
    obtain ⟨_, hq⟩ := h.sound _ ih
    obtain ⟨j, hj, he⟩ := List.getElem_of_mem hq
    exact h.cl j _ hj (by rw [List.getElem?_eq_getElem hj, he]) _ (by simpa using hm) hh
end Q6

namespace Q6
open Go Go.Vm

/-! ### marking with a stack of so many places: the plain law -/
structure MS where
  m : List Bool
  q : List Int
  o : Bool

def lackB (v : List SlotT) (m : List Bool) (r : Int) : Bool := hasA v r.toNat && !mrk m r.toNat
def put1 (most : Int) (s : MS) (r : Int) : MS := if (s.q.length : Int) < most then ⟨s.m, s.q ++ [r], s.o⟩ else ⟨s.m, s.q, true⟩
def see1 (v : List SlotT) (most : Int) (s : MS) (r : Int) : MS := if lackB v s.m r = true then put1 most ⟨s.m.set r.toNat true, s.q, s.o⟩ r else s
def seeA (v : List SlotT) (most : Int) (s : MS) (l : List Int) : MS := l.foldl (see1 v most) s
def drainF (v : List SlotT) (most : Int) : Nat → MS → MS
  | 0, s => s
  | n + 1, s => match s.q.getLast? with
    | none => s
    | some x => drainF v most n (seeA v most ⟨s.m, s.q.dropLast, s.o⟩ (refsA v x.toNat))
def drn (v : List SlotT) (most : Int) (s : MS) : MS := drainF v most 200 s
def lacks (v : List SlotT) (m : List Bool) (i : Nat) : Bool := (refsA v i).any (lackB v m)
def scan1 (v : List SlotT) (most : Int) (s : MS) (i : Nat) : MS := if (mrk s.m i && lacks v s.m i) = true then put1 most s (i : Int) else s
def scanA (v : List SlotT) (most : Int) (s : MS) (n : Nat) : MS := (List.range n).foldl (scan1 v most) ⟨s.m, s.q, false⟩
/-- 'd': behind a drain -/
def outD (v : List SlotT) (most : Int) : Nat → MS → Nat → List Bool × Nat
  | 0, d, t => (d.m, t)
  | n + 1, d, t => if d.o = true then outD v most n (drn v most (scanA v most d 32)) (t + 1) else (d.m, t)
def outOk (v : List SlotT) (most : Int) : Nat → MS → Prop
  | 0, d => d.o = false
  | n + 1, d => d.o = true → outOk v most n (drn v most (scanA v most d 32))
def ms0 (v : List SlotT) (root : Nat) : MS := if hasA v root = true then ⟨(List.replicate 32 false).set root true, [(root : Int)], false⟩ else ⟨List.replicate 32 false, [], false⟩
def markR (v : List SlotT) (root : Nat) (most : Int) : List Bool × Nat := outD v most 34 (drn v most (ms0 v root)) 0

structure Good (most : Int) (s : MS) : Prop where
  ml : s.m.length = 32
  ql : (s.q.length : Int) ≤ most
  qr : ∀ x ∈ s.q, 0 ≤ x ∧ x ≤ 31
def meas (s : MS) : Nat := 2 * s.m.count false + s.q.length

theorem lackB_lt {v : List SlotT} {m : List Bool} {r : Int} : lackB v m r = true → mrk m r.toNat = false := by
  unfold lackB; intro h; simp at h; exact h.2

theorem Good.put1 {most : Int} {s : MS} {r : Int} (h : Good most s) (hr : 0 ≤ r ∧ r ≤ 31) : Good most (put1 most s r) := by
  unfold Q6.put1
  split
  · rename_i hlt
    refine ⟨h.ml, by simp only [List.length_append, List.length_singleton]; omega, fun x hx => ?_⟩
    rcases List.mem_append.1 hx with hx | hx
    · exact h.qr x hx
    · simp at hx; subst hx; exact hr
  · exact ⟨h.ml, h.ql, h.qr⟩
theorem put1_m {most : Int} {s : MS} {r : Int} : (put1 most s r).m = s.m := by unfold put1; split <;> rfl
theorem put1_meas {most : Int} {s : MS} {r : Int} : meas (put1 most s r) ≤ meas s + 1 := by
  unfold put1 meas; split <;> simp <;> omega

theorem Good.see1 {v : List SlotT} {most : Int} {s : MS} {r : Int} (h : Good most s) (hr : 0 ≤ r ∧ r ≤ 31) : Good most (see1 v most s r) := by
  unfold Q6.see1
  split
  · exact Good.put1 ⟨by simp [h.ml], h.ql, h.qr⟩ hr
  · exact h
theorem cnt_mark {m : List Bool} {r : Int} (hl : m.length = 32) (hr : 0 ≤ r ∧ r ≤ 31) (h : mrk m r.toNat = false) : (m.set r.toNat true).count false + 1 = m.count false := cnt_set (by omega) h
theorem see1_cnt {v : List SlotT} {most : Int} {s : MS} {r : Int} (h : Good most s) (hr : 0 ≤ r ∧ r ≤ 31) :
    (see1 v most s r).m.count false ≤ s.m.count false ∧ meas (see1 v most s r) ≤ meas s ∧ (lackB v s.m r = true → (see1 v most s r).m.count false < s.m.count false) := by
  unfold see1
  split
  · rename_i hl
    have h1 := cnt_mark h.ml hr (lackB_lt hl)
    have h2 := put1_meas (most := most) (s := ⟨s.m.set r.toNat true, s.q, s.o⟩) (r := r)
    rw [put1_m]
    refine ⟨by simp only; omega, ?_, fun _ => by simp only; omega⟩
    unfold meas at *
    simp only at h2 ⊢
    omega
  · rename_i hl
    exact ⟨Nat.le_refl _, Nat.le_refl _, fun h => absurd h hl⟩

theorem seeA_ok {v : List SlotT} {most : Int} : ∀ (l : List Int) {s : MS}, Good most s → (∀ r ∈ l, 0 ≤ r ∧ r ≤ 31) →
    Good most (seeA v most s l) ∧ (seeA v most s l).m.count false ≤ s.m.count false ∧ meas (seeA v most s l) ≤ meas s
  | [], s, h, _ => ⟨h, Nat.le_refl _, Nat.le_refl _⟩
  | r :: l, s, h, hr => by
    have h1 := h.see1 (v := v) (hr r (by simp))
    obtain ⟨h2, h3, _⟩ := see1_cnt (v := v) h (hr r (by simp))
    obtain ⟨h4, h5, h6⟩ := seeA_ok l h1 (fun x hx => hr x (by simp [hx]))
    exact ⟨h4, Nat.le_trans h5 h2, Nat.le_trans h6 h3⟩
theorem seeA_lt {v : List SlotT} {most : Int} : ∀ (l : List Int) {s : MS}, Good most s → (∀ r ∈ l, 0 ≤ r ∧ r ≤ 31) → l.any (lackB v s.m) = true → (seeA v most s l).m.count false < s.m.count false
  | [], s, h, _, ha => by simp at ha
  | r :: l, s, h, hr, ha => by
    have h1 := h.see1 (v := v) (hr r (by simp))
    obtain ⟨h2, h3, hlt⟩ := see1_cnt (v := v) h (hr r (by simp))
    obtain ⟨h4, h5, h6⟩ := seeA_ok (v := v) l h1 (fun x hx => hr x (by simp [hx]))
    cases hl : lackB v s.m r with
    | true => exact Nat.lt_of_le_of_lt h5 (hlt hl)
    | false =>
      have : see1 v most s r = s := by unfold see1; simp [hl]
      simp only [List.any_cons, hl, Bool.false_or] at ha
      show (seeA v most (see1 v most s r) l).m.count false < _
      rw [this]
      exact seeA_lt l h (fun x hx => hr x (by simp [hx])) ha

theorem last_of {q : List Int} {x : Int} (h : q.getLast? = some x) : q = q.dropLast ++ [x] ∧ x ∈ q := by
  have hne : q ≠ [] := by intro e; subst e; simp at h
  have h2 := List.dropLast_concat_getLast hne
  rw [List.getLast?_eq_some_getLast hne, Option.some.injEq] at h
  rw [h] at h2
  exact ⟨h2.symm, by rw [← h2]; simp⟩

theorem Good.pop {most : Int} {s : MS} {x : Int} (h : Good most s) (hx : s.q.getLast? = some x) : Good most ⟨s.m, s.q.dropLast, s.o⟩ ∧ (0 ≤ x ∧ x ≤ 31) ∧ meas ⟨s.m, s.q.dropLast, s.o⟩ + 1 = meas s := by
  obtain ⟨h1, h2⟩ := last_of hx
  have hlen : s.q.length = s.q.dropLast.length + 1 := by have := congrArg List.length h1; simpa using this
  refine ⟨⟨h.ml, by have := h.ql; simp only; omega, fun y hy => h.qr y (List.dropLast_subset _ hy)⟩, h.qr x h2, ?_⟩
  unfold meas; simp only; omega

theorem drainF_ok {v : List SlotT} (hv : VOk v) {most : Int} : ∀ (n : Nat) {s : MS}, Good most s → meas s ≤ n →
    Good most (drainF v most n s) ∧ (drainF v most n s).q = [] ∧ (drainF v most n s).m.count false ≤ s.m.count false
  | 0, s, h, hm => ⟨h, by unfold meas at hm; exact List.length_eq_zero_iff.1 (by show s.q.length = 0; omega), Nat.le_refl _⟩
  | n + 1, s, h, hm => by
    unfold drainF
    cases hx : s.q.getLast? with
    | none => exact ⟨h, by simpa using hx, Nat.le_refl _⟩
    | some x =>
      obtain ⟨h1, h2, h3⟩ := h.pop hx
      obtain ⟨h4, h5, h6⟩ := seeA_ok (v := v) (refsA v x.toNat) h1 (hv.rf _)
      obtain ⟨h7, h8, h9⟩ := drainF_ok hv n h4 (by omega)
      exact ⟨h7, h8, Nat.le_trans h9 h5⟩

theorem Good.meas {most : Int} {s : MS} (h : Good most s) (hm : most ≤ 40) : meas s ≤ 200 := by
  unfold Q6.meas
  have h1 := h.ql
  have h2 : s.m.count false ≤ s.m.length := List.count_le_length
  have := h.ml
  omega

theorem drn_ok {v : List SlotT} (hv : VOk v) {most : Int} (hm : most ≤ 40) {s : MS} (h : Good most s) : Good most (drn v most s) ∧ (drn v most s).q = [] ∧ (drn v most s).m.count false ≤ s.m.count false :=
  drainF_ok hv 200 h (h.meas hm)
theorem drn_nil {v : List SlotT} {most : Int} {s : MS} (h : s.q = []) : drn v most s = s := by
  unfold drn; simp [drainF, h]
theorem drn_lt {v : List SlotT} (hv : VOk v) {most : Int} (hm : most ≤ 40) {s : MS} (h : Good most s) {x : Int} (hx : s.q.getLast? = some x) (hl : lacks v s.m x.toNat = true) : (drn v most s).m.count false < s.m.count false := by
  obtain ⟨h1, h2, h3⟩ := h.pop hx
  obtain ⟨h4, h5, h6⟩ := seeA_ok (v := v) (refsA v x.toNat) h1 (hv.rf _)
  have h7 := seeA_lt (v := v) (refsA v x.toNat) h1 (hv.rf _) hl
  have hme := h.meas hm
  obtain ⟨_, _, h8⟩ := drainF_ok hv 199 h4 (by omega)
  unfold drn
  show (drainF v most (199 + 1) s).m.count false < _
  rw [drainF, hx]
  exact Nat.lt_of_le_of_lt h8 h7

theorem scanA_ok {v : List SlotT} {most : Int} (h0 : 1 ≤ most) {d : MS} (h : Good most d) (hq : d.q = []) : ∀ n, n ≤ 32 →
    Good most (scanA v most d n) ∧ (scanA v most d n).m = d.m ∧ (∀ x ∈ (scanA v most d n).q, lacks v d.m x.toNat = true) ∧ ((scanA v most d n).o = true → (scanA v most d n).q ≠ [])
  | 0, _ => by
    refine ⟨⟨h.ml, h.ql, h.qr⟩, rfl, ?_, ?_⟩
    · rw [show (scanA v most d 0).q = d.q from rfl, hq]
      intro x hx; cases hx
    · intro e; cases e
  | n + 1, hn => by
    obtain ⟨h1, h2, h3, h4⟩ := scanA_ok h0 h hq n (by omega)
    have e : scanA v most d (n + 1) = scan1 v most (scanA v most d n) n := by unfold scanA; rw [List.range_succ, List.foldl_append]; rfl
    rw [e]
    unfold scan1
    split
    · rename_i hc
      rw [Bool.and_eq_true, h2] at hc
      refine ⟨h1.put1 ⟨by omega, by omega⟩, by rw [put1_m]; exact h2, fun x hx => ?_, fun ho => ?_⟩
      · unfold put1 at hx
        split at hx
        · rcases List.mem_append.1 hx with hx | hx
          · exact h3 x hx
          · simp at hx; subst hx; simpa using hc.2
        · exact h3 x hx
      · unfold put1
        split
        · simp
        · rename_i hlt
          intro e
          have e' : (scanA v most d n).q = [] := e
          rw [e'] at hlt
          simp at hlt; omega
    · exact ⟨h1, h2, h3, h4⟩

theorem outOk_of {v : List SlotT} (hv : VOk v) {most : Int} (h0 : 1 ≤ most) (hm : most ≤ 40) : ∀ (n : Nat) {d : MS}, Good most d → d.q = [] → d.m.count false + 2 ≤ n → outOk v most n d
  | 0, d, _, _, hn => by omega
  | n + 1, d, h, hq, hn => fun ho => by
    obtain ⟨h1, h2, h3, h4⟩ := scanA_ok (v := v) h0 h hq 32 (by omega)
    cases hx : (scanA v most d 32).q.getLast? with
    | none =>
      have hnil : (scanA v most d 32).q = [] := by simpa using hx
      rw [drn_nil hnil]
      have hof : (scanA v most d 32).o = false := by
        cases hh : (scanA v most d 32).o with
        | false => rfl
        | true => exact absurd hnil (h4 hh)
      cases n with
      | zero => exact hof
      | succ n => intro h'; rw [hof] at h'; cases h'
    | some x =>
      have hl := h3 x (last_of hx).2
      have := drn_lt hv hm h1 hx (by rw [h2]; exact hl)
      obtain ⟨h5, h6, h7⟩ := drn_ok hv hm h1
      refine outOk_of hv h0 hm n h5 h6 ?_
      rw [h2] at this; omega

theorem ms0_good {v : List SlotT} {root : Nat} {most : Int} (h0 : 1 ≤ most) (hr : root ≤ 31) : Good most (ms0 v root) := by
  unfold ms0
  split
  · exact ⟨by simp, by simp; omega, fun x hx => by simp at hx; subst hx; omega⟩
  · exact ⟨by simp, by simp; omega, fun x hx => by cases hx⟩

theorem cnt_le32 {most : Int} {s : MS} (h : Good most s) : s.m.count false ≤ 32 := by rw [← h.ml]; exact List.count_le_length

theorem outD_len {v : List SlotT} (hv : VOk v) {most : Int} (h0 : 1 ≤ most) (hm : most ≤ 40) : ∀ (n : Nat) {d : MS} (t : Nat), Good most d → d.q = [] → (outD v most n d t).1.length = 32 ∧ (outD v most n d t).2 ≤ t + n
  | 0, d, t, h, _ => ⟨h.ml, by simp [outD]⟩
  | n + 1, d, t, h, hq => by
    unfold outD
    split
    · obtain ⟨h1, h2, h3, h4⟩ := scanA_ok (v := v) h0 h hq 32 (by omega)
      obtain ⟨h5, h6, h7⟩ := drn_ok hv hm h1
      have := outD_len hv h0 hm n (t + 1) h5 h6
      exact ⟨this.1, by omega⟩
    · exact ⟨h.ml, by simp⟩
end Q6

namespace Q6
open Go Go.Vm

/-! ### what is marked is what is reached, whatever room the stack has -/
theorem lackB_mono {v : List SlotT} {m : List Bool} {j : Nat} {r : Int} (h : lackB v (m.set j true) r = true) : lackB v m r = true := by
  unfold lackB at h ⊢
  simp only [Bool.and_eq_true, Bool.not_eq_true'] at h ⊢
  refine ⟨h.1, ?_⟩
  cases hm : mrk m r.toNat with
  | false => rfl
  | true =>
    exfalso
    have h2 := h.2
    rcases Nat.lt_or_ge j m.length with hj | hj
    · rw [(mrk_set hj).2 (.inr hm)] at h2; cases h2
    · rw [List.set_eq_of_length_le hj, hm] at h2; cases h2
theorem lackB_set {v : List SlotT} {m : List Bool} {r : Int} (hl : r.toNat < m.length) : lackB v (m.set r.toNat true) r = false := by
  unfold lackB
  rw [(mrk_set hl).2 (.inl rfl)]; simp
theorem lacks_mono {v : List SlotT} {m : List Bool} {i j : Nat} (h : lacks v m i = false) : lacks v (m.set j true) i = false := by
  unfold lacks at h ⊢
  rw [List.any_eq_false] at h ⊢
  exact fun r hr hh => h r hr (lackB_mono hh)

structure MI (v : List SlotT) (root : Nat) (s : MS) : Prop where
  ml : s.m.length = 32
  sound : ∀ i, mrk s.m i = true → Rch v root i
  qm : ∀ x ∈ s.q, mrk s.m x.toNat = true ∧ 0 ≤ x
  cl : s.o = false → ∀ i, mrk s.m i = true → (i : Int) ∈ s.q ∨ lacks v s.m i = false
  rt : hasA v root = true → mrk s.m root = true
/-- while the references of 'x' are looked at; 'l' is left -/
structure MI2 (v : List SlotT) (root : Nat) (s : MS) (x : Nat) (l : List Int) : Prop where
  ml : s.m.length = 32
  sound : ∀ i, mrk s.m i = true → Rch v root i
  qm : ∀ x ∈ s.q, mrk s.m x.toNat = true ∧ 0 ≤ x
  cl : s.o = false → ∀ i, mrk s.m i = true → (i : Int) ∈ s.q ∨ lacks v s.m i = false ∨ (i = x ∧ ∀ r ∈ refsA v i, lackB v s.m r = true → r ∈ l)
  rt : hasA v root = true → mrk s.m root = true
  xs : Rch v root x
  ls : ∀ r ∈ l, r ∈ refsA v x
theorem MI2.see {v : List SlotT} (hv : VOk v) {root : Nat} {most : Int} {s : MS} {x : Nat} {r : Int} {l : List Int} (h : MI2 v root s x (r :: l)) : MI2 v root (see1 v most s r) x l := by
  have hr := h.ls r (by simp)
  obtain ⟨r0, r1⟩ := hv.rf _ r hr
  have hlt : r.toNat < s.m.length := by rw [h.ml]; omega
  unfold see1
  by_cases hl : lackB v s.m r = true
  · rw [if_pos hl]
    have hh : hasA v r.toNat = true := by unfold lackB at hl; simp only [Bool.and_eq_true] at hl; exact hl.1
    have hsound : ∀ i, mrk (s.m.set r.toNat true) i = true → Rch v root i := fun i hi => by
      rcases (mrk_set hlt).1 hi with rfl | hi
      · exact .step h.xs hr hh
      · exact h.sound i hi
    have hrt : hasA v root = true → mrk (s.m.set r.toNat true) root = true := fun e => (mrk_set hlt).2 (.inr (h.rt e))
    unfold put1
    simp only
    split
    · refine ⟨by simp [h.ml], hsound, fun y hy => ?_, fun ho i hi => ?_, hrt, h.xs, fun y hy => h.ls y (by simp [hy])⟩
      · rcases List.mem_append.1 hy with hy | hy
        · exact ⟨(mrk_set hlt).2 (.inr (h.qm y hy).1), (h.qm y hy).2⟩
        · simp at hy; subst hy; exact ⟨(mrk_set hlt).2 (.inl rfl), r0⟩
      · rcases (mrk_set hlt).1 hi with rfl | hi
        · left; simp; right; omega
        · rcases h.cl ho i hi with h1 | h1 | ⟨h1, h2⟩
          · left; simp [h1]
          · exact .inr (.inl (lacks_mono h1))
          · refine .inr (.inr ⟨h1, fun y hy hly => ?_⟩)
            have := h2 y hy (lackB_mono hly)
            rcases List.mem_cons.1 this with rfl | h3
            · rw [lackB_set hlt] at hly; cases hly
            · exact h3
    · exact ⟨by simp [h.ml], hsound, fun y hy => ⟨(mrk_set hlt).2 (.inr (h.qm y hy).1), (h.qm y hy).2⟩, fun ho => (by cases ho), hrt, h.xs, fun y hy => h.ls y (by simp [hy])⟩
  · rw [if_neg hl]
    refine ⟨h.ml, h.sound, h.qm, fun ho i hi => ?_, h.rt, h.xs, fun y hy => h.ls y (by simp [hy])⟩
    rcases h.cl ho i hi with h1 | h1 | ⟨h1, h2⟩
    · exact .inl h1
    · exact .inr (.inl h1)
    · refine .inr (.inr ⟨h1, fun y hy hly => ?_⟩)
      rcases List.mem_cons.1 (h2 y hy hly) with rfl | h3
      · exact absurd hly hl
      · exact h3
theorem MI2.seeA {v : List SlotT} (hv : VOk v) {root : Nat} {most : Int} {x : Nat} : ∀ (l : List Int) {s : MS}, MI2 v root s x l → MI v root (seeA v most s l)
  | [], s, h => by
    refine ⟨h.ml, h.sound, h.qm, fun ho i hi => ?_, h.rt⟩
    rcases h.cl ho i hi with h1 | h1 | ⟨h1, h2⟩
    · exact .inl h1
    · exact .inr h1
    · right
      show lacks v s.m i = false
      unfold lacks
      rw [List.any_eq_false]
      intro r hr hh
      have := h2 r hr hh
      cases this
  | r :: l, s, h => MI2.seeA hv l (h.see (most := most) hv)
theorem MI.drainF {v : List SlotT} (hv : VOk v) {root : Nat} {most : Int} : ∀ (n : Nat) {s : MS}, MI v root s → MI v root (drainF v most n s)
  | 0, s, h => h
  | n + 1, s, h => by
    unfold Q6.drainF
    cases hx : s.q.getLast? with
    | none => exact h
    | some x =>
      obtain ⟨h1, h2⟩ := last_of hx
      obtain ⟨hm, h0⟩ := h.qm x h2
      refine MI.drainF hv n (MI2.seeA (x := x.toNat) hv _ ⟨h.ml, h.sound, fun y hy => h.qm y (List.dropLast_subset _ hy), fun ho i hi => ?_, h.rt, h.sound _ hm, fun r hr => hr⟩)
      rcases h.cl ho i hi with h3 | h3
      · rw [h1] at h3
        rcases List.mem_append.1 h3 with h3 | h3
        · exact .inl h3
        · simp at h3
          have : i = x.toNat := by omega
          subst this
          exact .inr (.inr ⟨rfl, fun r hr _ => hr⟩)
      · exact .inr (.inl h3)
theorem MI.scan {v : List SlotT} {root : Nat} {most : Int} {d : MS} (h : MI v root d) : ∀ n : Nat, n ≤ 32 →
    (scanA v most d n).m = d.m ∧ (∀ x ∈ (scanA v most d n).q, x ∈ d.q ∨ (mrk d.m x.toNat = true ∧ 0 ≤ x)) ∧ ((scanA v most d n).o = false → ∀ i, i < n → mrk d.m i = true → (i : Int) ∈ (scanA v most d n).q ∨ lacks v d.m i = false)
  | 0, _ => ⟨rfl, fun x hx => .inl hx, fun _ i hi => absurd hi (Nat.not_lt_zero _)⟩
  | n + 1, hn => by
    obtain ⟨h1, h2, h3⟩ := MI.scan (most := most) h n (by omega)
    have e : scanA v most d (n + 1) = scan1 v most (scanA v most d n) n := by unfold scanA; rw [List.range_succ, List.foldl_append]; rfl
    rw [e]
    generalize scanA v most d n = s at *
    unfold scan1
    by_cases hc : (mrk s.m n && lacks v s.m n) = true
    · rw [if_pos hc]
      rw [Bool.and_eq_true, h1] at hc
      unfold put1
      split
      · refine ⟨h1, fun x hx => ?_, fun ho i hi hm => ?_⟩
        · rcases List.mem_append.1 hx with hx | hx
          · exact h2 x hx
          · simp at hx; subst hx; right; exact ⟨by simpa using hc.1, by omega⟩
        · rcases Nat.lt_or_ge i n with h' | h'
          · rcases h3 ho i h' hm with h4 | h4
            · left; simp [h4]
            · exact .inr h4
          · have : i = n := by omega
            subst this
            left; simp
      · exact ⟨h1, h2, fun ho => (by cases ho)⟩
    · rw [if_neg hc]
      refine ⟨h1, h2, fun ho i hi hm => ?_⟩
      rcases Nat.lt_or_ge i n with h' | h'
      · exact h3 ho i h' hm
      · have : i = n := by omega
        subst this
        right
        rw [h1, hm, Bool.true_and] at hc
        simpa using hc
theorem MI.scanA {v : List SlotT} {root : Nat} {most : Int} {d : MS} (h : MI v root d) : MI v root (scanA v most d 32) := by
  obtain ⟨h1, h2, h3⟩ := MI.scan (most := most) h 32 (Nat.le_refl _)
  refine ⟨by rw [h1]; exact h.ml, fun i hi => h.sound i (by rw [← h1]; exact hi), fun x hx => ?_, fun ho i hi => ?_, fun e => by rw [h1]; exact h.rt e⟩
  · rw [h1]
    rcases h2 x hx with h4 | h4
    · exact h.qm x h4
    · exact h4
  · rw [h1] at hi ⊢
    exact h3 ho i (by have := mrk_lt hi; rw [h.ml] at this; exact this) hi
theorem MI.done {v : List SlotT} {root : Nat} {d : MS} (h : MI v root d) (hq : d.q = []) (ho : d.o = false) : d.m = reachL v root := by
  refine list_of_mrk h.ml fun i => ⟨h.sound i, fun hr => ?_⟩
  induction hr with
  | root hh => exact h.rt hh
  | step _ hm hh ih =>
    rename_i x r _
    rcases h.cl ho _ ih with h1 | h1
    · rw [hq] at h1; cases h1
    · unfold lacks at h1
      rw [List.any_eq_false] at h1
      have := h1 _ hm
      unfold lackB at this
      rw [hh] at this
      simpa using this
theorem MI.out {v : List SlotT} (hv : VOk v) {root : Nat} {most : Int} (h0 : 1 ≤ most) (hm : most ≤ 40) : ∀ (n : Nat) {d : MS} (t : Nat), MI v root d → Good most d → d.q = [] → outOk v most n d → (outD v most n d t).1 = reachL v root
  | 0, d, t, h, _, hq, ho => h.done hq ho
  | n + 1, d, t, h, hg, hq, ho => by
    unfold outD
    by_cases hd : d.o = true
    · rw [if_pos hd]
      obtain ⟨h1, h2, h3, h4⟩ := scanA_ok (v := v) h0 hg hq 32 (by omega)
      obtain ⟨h5, h6, h7⟩ := drn_ok hv hm h1
      exact MI.out hv h0 hm n (t + 1) (MI.drainF hv 200 h.scanA) h5 h6 (ho hd)
    · rw [if_neg hd]
      exact h.done hq (by simpa using hd)
theorem MI.init {v : List SlotT} {root : Nat} (hr : root ≤ 31) : MI v root (ms0 v root) := by
  unfold ms0
  by_cases hh : hasA v root = true
  · rw [if_pos hh]
    have hlt : root < (List.replicate 32 false).length := by simp; omega
    refine ⟨by simp, fun i hi => ?_, fun x hx => ?_, fun _ i hi => ?_, fun _ => (mrk_set hlt).2 (.inl rfl)⟩
    · rcases (mrk_set hlt).1 hi with rfl | hi
      · exact .root hh
      · rw [mrk_rep] at hi; cases hi
    · simp at hx; subst hx
      exact ⟨(mrk_set hlt).2 (.inl (by simp)), by omega⟩
    · rcases (mrk_set hlt).1 hi with rfl | hi
      · left; simp
      · rw [mrk_rep] at hi; cases hi
  · rw [if_neg hh]
    exact ⟨by simp, fun i hi => (by rw [mrk_rep] at hi; cases hi), fun x hx => (by cases hx), fun _ i hi => (by rw [mrk_rep] at hi; cases hi), fun e => absurd e hh⟩
/-- WHAT IS MARKED IS WHAT IS REACHED -/
theorem mark_reach {v : List SlotT} (hv : VOk v) {root : Nat} (hr : root ≤ 31) {most : Int} (h0 : 1 ≤ most) (hm : most ≤ 40) : (markR v root most).1 = reachL v root := by
  have hg := ms0_good (v := v) h0 hr
  obtain ⟨h5, h6, h7⟩ := drn_ok hv hm hg
  unfold markR
  refine MI.out hv h0 hm 34 0 (MI.drainF hv 200 (MI.init hr)) h5 h6 (outOk_of hv h0 hm 34 h5 h6 ?_)
  have := cnt_le32 h5
  omega
/-! with room for forty nothing is looked through anew -/
def Small (s : MS) : Prop := s.m.length = 32 ∧ s.q.length + s.m.count false ≤ 32 ∧ s.o = false ∧ ∀ x ∈ s.q, 0 ≤ x ∧ x ≤ 31
theorem Small.see {v : List SlotT} {s : MS} {r : Int} (h : Small s) (hr : 0 ≤ r ∧ r ≤ 31) : Small (see1 v 40 s r) := by
  obtain ⟨h1, h2, h3, h4⟩ := h
  unfold see1
  split
  · rename_i hl
    have hc := cnt_mark h1 hr (lackB_lt hl)
    unfold put1
    rw [if_pos (by simp only; omega)]
    refine ⟨by simp [h1], by simp only [List.length_append, List.length_singleton]; omega, h3, fun x hx => ?_⟩
    rcases List.mem_append.1 hx with hx | hx
    · exact h4 x hx
    · simp at hx; subst hx; exact hr
  · exact ⟨h1, h2, h3, h4⟩
theorem Small.seeA {v : List SlotT} : ∀ (l : List Int) {s : MS}, Small s → (∀ r ∈ l, 0 ≤ r ∧ r ≤ 31) → Small (seeA v 40 s l)
  | [], _, h, _ => h
  | r :: l, _, h, hr => Small.seeA l (h.see (hr r (by simp))) (fun x hx => hr x (by simp [hx]))
theorem Small.drain {v : List SlotT} (hv : VOk v) : ∀ (n : Nat) {s : MS}, Small s → Small (drainF v 40 n s)
  | 0, _, h => h
  | n + 1, s, h => by
    unfold drainF
    cases hx : s.q.getLast? with
    | none => exact h
    | some x =>
      obtain ⟨h1, h2, h3, h4⟩ := h
      have hl : s.q.dropLast.length ≤ s.q.length := by simp
      exact Small.drain hv n (Small.seeA _ ⟨h1, by simp only; omega, h3, fun y hy => h4 y (List.dropLast_subset _ hy)⟩ (hv.rf _))
theorem mark_none {v : List SlotT} (hv : VOk v) {root : Nat} (hr : root ≤ 31) : (markR v root 40).2 = 0 := by
  have hs : Small (ms0 v root) := by
    unfold ms0
    split
    · have hc := cnt_set (m := List.replicate 32 false) (i := root) (by simp; omega) (mrk_rep _ _)
      rw [List.count_replicate_self] at hc
      exact ⟨by simp, by simp only [List.length_singleton]; omega, rfl, fun x hx => by simp at hx; subst hx; omega⟩
    · exact ⟨by simp, by simp, rfl, fun x hx => by cases hx⟩
  have hd := (Small.drain hv 200 hs).2.2.1
  unfold markR
  show (outD v 40 (33 + 1) (drn v 40 (ms0 v root)) 0).2 = 0
  unfold outD
  rw [if_neg (by unfold drn; rw [hd]; decide)]
end Q6

namespace Q6
open Go Go.Vm

/-! ### what is garbage: the plain law -/
abbrev PairT' := Int × Int × Unit
def slotN : SlotT := (false, (0, [], [], ()), ())
def garbQ (l : List SlotT) (m : List Bool) (i : Nat) : Bool := hasA l i && !mrk m i
def dRowQ (l : List SlotT) (i : Nat) (rs : List Int) : List PairT' := (rs.filter fun r => decide (0 < r) && !hasA l r.toNat).map fun r => ((i : Int), r, ())
def dAllQ (l : List SlotT) (n : Nat) : List PairT' := (List.range n).flatMap fun i => dRowQ l i (refsA l i)
theorem Rch.has {v : List SlotT} {root i : Nat} (h : Rch v root i) : hasA v i = true := by
  cases h with
  | root h => exact h
  | step _ _ h => exact h
theorem hasA_lt {v : List SlotT} {i : Nat} (h : hasA v i = true) : i < v.length := by
  unfold hasA at h
  split at h
  · rename_i s hs; exact (List.getElem?_eq_some_iff.1 hs).1
  · cases h
theorem mrk_reachL {v : List SlotT} (hl : v.length = 32) {root i : Nat} : mrk (reachL v root) i = true ↔ Rch v root i := by
  constructor
  · intro h
    have hlt := mrk_lt h
    rw [reachL_len] at hlt
    unfold mrk at h
    rw [List.getD_eq_getElem?_getD, List.getElem?_eq_getElem (by rw [reachL_len]; exact hlt), Option.getD_some] at h
    simp only [reachL, List.getElem_map, List.getElem_range, decide_eq_true_eq] at h
    exact h
  · intro h
    have hlt := hasA_lt h.has
    rw [hl] at hlt
    unfold mrk
    rw [List.getD_eq_getElem?_getD, List.getElem?_eq_getElem (by rw [reachL_len]; exact hlt), Option.getD_some]
    simp only [reachL, List.getElem_map, List.getElem_range, decide_eq_true_eq]
    exact h
theorem idxs_mem {p : Nat → Bool} {n : Nat} {x : Int} : x ∈ idxs p n ↔ ∃ i : Nat, x = i ∧ i < n ∧ p i = true := by
  unfold idxs
  simp only [List.mem_map, List.mem_filter, List.mem_range]
  constructor
  · rintro ⟨i, ⟨h1, h2⟩, rfl⟩; exact ⟨i, rfl, h1, h2⟩
  · rintro ⟨i, rfl, h1, h2⟩; exact ⟨i, ⟨h1, h2⟩, rfl⟩
theorem garb_iff {v : List SlotT} (hl : v.length = 32) {root i : Nat} : garbQ v (reachL v root) i = true ↔ hasA v i = true ∧ ¬ Rch v root i := by
  unfold garbQ
  rw [Bool.and_eq_true, Bool.not_eq_true', ← Bool.not_eq_true, mrk_reachL hl]
theorem idxs_split {p q r : Nat → Bool} (h : ∀ i, r i = (p i || q i)) (hd : ∀ i, p i = true → q i = false) : ∀ n, (idxs p n).length + (idxs q n).length = (idxs r n).length
  | 0 => rfl
  | n + 1 => by
    have ih := idxs_split h hd n
    have hn := h n
    cases hp : p n with
    | true =>
      have hq := hd n hp
      rw [hp] at hn
      rw [idxs_yes hp, idxs_no hq, idxs_yes (p := r) (by rw [hn]; rfl)]
      simp only [List.length_append, List.length_singleton]; omega
    | false =>
      rw [hp, Bool.false_or] at hn
      cases hq : q n with
      | true => rw [hq] at hn; rw [idxs_no hp, idxs_yes hq, idxs_yes hn]; simp only [List.length_append, List.length_singleton]; omega
      | false => rw [hq] at hn; rw [idxs_no hp, idxs_no hq, idxs_no hn]; exact ih
/-- each object is reached or garbage -/
theorem garb_count {v : List SlotT} (hl : v.length = 32) (root n : Nat) : (idxs (mrk (reachL v root)) n).length + (idxs (garbQ v (reachL v root)) n).length = (idxs (hasA v) n).length := by
  refine idxs_split (fun i => ?_) (fun i hi => ?_) n
  · unfold garbQ
    cases hm : mrk (reachL v root) i with
    | true => rw [((mrk_reachL hl).1 hm).has]; rfl
    | false => simp
  · unfold garbQ; rw [hi]; simp
/-- what is reached names no garbage -/
theorem garb_free {v : List SlotT} (hv : VOk v) {root : Nat} {x r : Int} (hx : x ∈ idxs (mrk (reachL v root)) 32) (hr : r ∈ refsA v x.toNat) : r ∉ idxs (garbQ v (reachL v root)) 32 := by
  intro hg
  obtain ⟨i, rfl, _, hi⟩ := idxs_mem.1 hx
  obtain ⟨k, rfl, _, hk⟩ := idxs_mem.1 hg
  obtain ⟨h1, h2⟩ := (garb_iff hv.len).1 hk
  have := Rch.step ((mrk_reachL hv.len).1 hi) hr (by simpa using h1)
  exact h2 (by simpa using this)
/-! without the garbage -/
def cutV (v : List SlotT) (g : List Int) : List SlotT := g.foldl (fun w i => w.set i.toNat slotN) v
theorem cutV_len : ∀ (g : List Int) (v : List SlotT), (cutV v g).length = v.length
  | [], v => rfl
  | x :: g, v => by
    show (cutV (v.set x.toNat slotN) g).length = _
    rw [cutV_len g, List.length_set]
theorem cutV_get : ∀ (g : List Int) (v : List SlotT) (j : Nat), j < v.length → (∀ x ∈ g, 0 ≤ x) → (cutV v g)[j]? = if (j : Int) ∈ g then some slotN else v[j]?
  | [], v, j, _, _ => by simp [cutV]
  | x :: g, v, j, hj, h0 => by
    show (cutV (v.set x.toNat slotN) g)[j]? = _
    rw [cutV_get g _ j (by rw [List.length_set]; exact hj) (fun y hy => h0 y (by simp [hy]))]
    have hx := h0 x (by simp)
    by_cases hg : (j : Int) ∈ g
    · rw [if_pos hg, if_pos (by simp [hg])]
    · rw [if_neg hg]
      by_cases he : x.toNat = j
      · subst he
        rw [List.getElem?_set_self hj, if_pos (by simp; left; omega)]
      · rw [List.getElem?_set_ne he, if_neg]
        simp only [List.mem_cons, not_or]
        exact ⟨by omega, hg⟩
theorem cut_has {v : List SlotT} {g : List Int} (h0 : ∀ x ∈ g, 0 ≤ x) {j : Nat} : hasA (cutV v g) j = (hasA v j && !decide ((j : Int) ∈ g)) := by
  rcases Nat.lt_or_ge j v.length with hj | hj
  · unfold hasA
    rw [cutV_get g v j hj h0]
    by_cases hg : (j : Int) ∈ g <;> simp [hg, slotN]
  · have h1 : hasA v j = false := by unfold hasA; rw [List.getElem?_eq_none hj]
    have h2 : hasA (cutV v g) j = false := by unfold hasA; rw [List.getElem?_eq_none (by rw [cutV_len]; exact hj)]
    rw [h1, h2]; rfl
theorem cut_refs {v : List SlotT} {g : List Int} (h0 : ∀ x ∈ g, 0 ≤ x) {j : Nat} : refsA (cutV v g) j = if (j : Int) ∈ g then [] else refsA v j := by
  rcases Nat.lt_or_ge j v.length with hj | hj
  · unfold refsA
    rw [cutV_get g v j hj h0]
    by_cases hg : (j : Int) ∈ g <;> simp [hg, slotN]
  · have h1 : refsA v j = [] := by unfold refsA; rw [List.getElem?_eq_none hj]
    have h2 : refsA (cutV v g) j = [] := by unfold refsA; rw [List.getElem?_eq_none (by rw [cutV_len]; exact hj)]
    rw [h1, h2]; split <;> rfl
section
variable {v : List SlotT} {root : Nat}
noncomputable def grb (v : List SlotT) (root : Nat) : List Int := idxs (garbQ v (reachL v root)) 32
theorem grb_pos : ∀ x ∈ grb v root, 0 ≤ x := fun x hx => by obtain ⟨i, rfl, _⟩ := idxs_mem.1 hx; omega
theorem grb_mem (hv : VOk v) {i : Nat} : (i : Int) ∈ grb v root ↔ hasA v i = true ∧ ¬ Rch v root i := by
  constructor
  · intro h
    obtain ⟨k, hk, _, h2⟩ := idxs_mem.1 h
    have : k = i := by omega
    subst this
    exact (garb_iff hv.len).1 h2
  · intro h
    have := hasA_lt h.1
    rw [hv.len] at this
    exact idxs_mem.2 ⟨i, rfl, this, (garb_iff hv.len).2 h⟩
theorem cut_has' (hv : VOk v) {i : Nat} : hasA (cutV v (grb v root)) i = true ↔ Rch v root i := by
  rw [cut_has grb_pos, Bool.and_eq_true, Bool.not_eq_true', decide_eq_false_iff_not, grb_mem hv]
  constructor
  · intro ⟨h1, h2⟩
    exact Classical.byContradiction fun h => h2 ⟨h1, h⟩
  · intro h
    exact ⟨h.has, fun ⟨_, h2⟩ => h2 h⟩
theorem Rch_cut (hv : VOk v) {i : Nat} : Rch (cutV v (grb v root)) root i ↔ Rch v root i := by
  constructor
  · intro h
    exact (cut_has' hv).1 h.has
  · intro h
    induction h with
    | root hh => exact .root ((cut_has' hv).2 (.root hh))
    | step h hm hh ih =>
      refine .step ih ?_ ((cut_has' hv).2 (.step h hm hh))
      rw [cut_refs grb_pos, if_neg (fun hg => ((grb_mem hv).1 hg).2 h)]
      exact hm
/-- without the garbage the same is reached -/
theorem reach_cut (hv : VOk v) : reachL (cutV v (grb v root)) root = reachL v root := by
  unfold reachL
  refine List.map_congr_left fun i _ => ?_
  simp only [decide_eq_decide]
  exact Rch_cut hv
theorem garb_cut (hv : VOk v) : idxs (garbQ (cutV v (grb v root)) (reachL (cutV v (grb v root)) root)) 32 = [] := by
  rw [List.eq_nil_iff_forall_not_mem]
  intro x hx
  obtain ⟨i, rfl, _, hi⟩ := idxs_mem.1 hx
  have hl : (cutV v (grb v root)).length = 32 := by rw [cutV_len]; exact hv.len
  obtain ⟨h1, h2⟩ := (garb_iff hl).1 hi
  exact h2 ((Rch_cut hv).2 ((cut_has' hv).1 h1))
theorem dang_row (hv : VOk v) (hn : ∀ i, hasA v i = false → refsA v i = []) (i : Nat) : (dRowQ (cutV v (grb v root)) i (refsA (cutV v (grb v root)) i)).length ≤ (dRowQ v i (refsA v i)).length := by
  rw [cut_refs grb_pos]
  split
  · simp [dRowQ]
  · rename_i hg
    by_cases hr : Rch v root i
    · unfold dRowQ
      rw [List.length_map, List.length_map]
      rw [List.filter_congr (q := fun r => decide (0 < r) && !hasA v r.toNat)]
      · exact Nat.le_refl _
      · intro r hm
        congr 2
        cases hh : hasA v r.toNat with
        | true => exact (cut_has' hv).2 (.step hr hm hh)
        | false => rw [cut_has grb_pos, hh]; rfl
    · have : hasA v i = false := by
        cases hh : hasA v i with
        | false => rfl
        | true => exact absurd ((grb_mem hv).2 ⟨hh, hr⟩) hg
      rw [hn i this]
      simp [dRowQ]
theorem dang_cut (hv : VOk v) (hn : ∀ i, hasA v i = false → refsA v i = []) : ∀ n, (dAllQ (cutV v (grb v root)) n).length ≤ (dAllQ v n).length
  | 0 => Nat.le_refl _
  | n + 1 => by
    have ih := dang_cut hv hn n
    have h1 := dang_row (root := root) hv hn n
    simp only [dAllQ, List.range_succ, List.flatMap_append, List.length_append, List.flatMap_cons, List.flatMap_nil, List.append_nil] at ih ⊢
    omega
end
end Q6

namespace Q6
open Go Go.Vm Go.Proofs
set_option maxHeartbeats 4000000
set_option synthInstance.maxSize 2000
set_option synthInstance.maxHeartbeats 400000
set_option maxRecDepth 10000
set_option linter.unusedSimpArgs false
set_option linter.unusedVariables false


theorem vok_of {v : List SlotT} (h : viewB v = true) : VOk v := by
  unfold viewB at h
  simp only [Bool.and_eq_true, decide_eq_true_eq] at h
  obtain ⟨⟨h1, h2⟩, h3⟩ := h
  have each : ∀ i s, v[i]? = some s → slotB s = true := fun i s hs => List.all_eq_true.1 h3 s (List.mem_of_getElem? hs)
  have refs : ∀ s, slotB s = true → s.2.1.2.2.1.length ≤ 5 ∧ ∀ r ∈ s.2.1.2.2.1, 0 ≤ r ∧ r ≤ 31 := fun s hs => by
    unfold slotB at hs
    split at hs
    · simp only [objB, Bool.and_eq_true, decide_eq_true_eq] at hs
      refine ⟨hs.1.1.2, fun r hr => ?_⟩
      have := List.all_eq_true.1 hs.2 r hr
      simp only [refB, Bool.and_eq_true, decide_eq_true_eq] at this
      omega
    · simp only [noObjB, Bool.and_eq_true, decide_eq_true_eq] at hs
      have h0 := List.length_eq_zero_iff.1 hs.2
      rw [h0]; simp
  refine ⟨h1, ?_, fun i r hr => ?_, fun i => ?_⟩
  · cases v with
    | nil => simp at h1
    | cons s v => simpa [hasA] using h2
  · unfold refsA at hr
    split at hr
    · rename_i s hs; exact (refs s (each i s hs)).2 r hr
    · simp at hr
  · unfold refsA
    split
    · rename_i s hs; exact (refs s (each i s hs)).1
    · simp

def rep32 : List Bool := List.replicate 32 false
theorem rep32_get (i : Nat) (h : i < rep32.length) : rep32[i] = false := by unfold rep32; exact List.getElem_replicate ..
theorem mk32 (own : Nat) : makeSliceM Y own 29 (.int .i64 32) (.int .i64 32) = .pure { v := .ref own 0 0 32, news := [.arr 1 (rep32.map Enc.o) false] } := rfl
theorem set_o {α : Type} [Enc α] (m : List α) (i : Nat) (x : α) : (m.map Enc.o).set i (Enc.o x) = (m.set i x).map Enc.o := by rw [List.map_set]

end Q6
