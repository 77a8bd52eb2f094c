/- FnExactGetRec: the program's GetRec returns what the reference's returns, for all arguments. -/
import Derived.Test.YtalhmcbkmpggiaaXGetRecP1
import Derived.Test.YtalhmcbkmpggiaaVm5
import Derived.Test.YtalhmcbkmpggiaaXGetRecP3
import Derived.Test.YtalhmcbkmpggiaaVm4
import Derived.Test.YtalhmcbkmpggiaaRows
import Derived.ProofKit
set_option linter.all false

namespace Q6
open Go Go.Vm Go.Proofs
set_option maxHeartbeats 4000000
set_option synthInstance.maxSize 2000
set_option synthInstance.maxHeartbeats 400000
set_option maxRecDepth 10000
set_option linter.unusedSimpArgs false
set_option linter.unusedVariables false

theorem markInt_ok (l : List Int) (k : Int) (hl : l.length ≤ 1048576) (h0 : 0 ≤ k) (h1 : k ≤ 1125899906842624) : CallR Try.prog 72 [.io (.tup [.ow 1 (l.map Enc.o)]), .int .i64 k] [.tup [.ow 1 ((marksG id l.length k).map Enc.o)]] (.int .i64 (k + l.length)) := by
  refine CallR.of_body (n := 19) (rs := [.tmp 4]) hY.ok Try.func72 rfl (by decide) rfl rfl rfl rfl (fun F => ?_)
  have fx := And.intro Y3 (And.intro Y4 (Y34))
  have fy := Nat.add_zero
  refine goN ?_ ?_ ?_ ?_ ?_ ?_ ?_ ?_ ?_ ?_ ?_ ?_ ?_ ?_ ?_ ?_
  any_goals (first | exact True.intro | skip)
  skip
  refine SW.loop (fun i : Nat => ⟨[.ref 0 0 0 l.length, .int .i64 (k + (i : Nat)), .undef, .undef, .undef, .int .i64 i, .undef, .undef, .undef, .undef, .undef, .undef, .undef, .undef, .undef, .undef, .undef, .undef, .undef], [[.arr 1 ((mixG id l k i).map Enc.o) false]]⟩)
    (fun n i => n = l.length - i ∧ i ≤ l.length) (n := l.length) (x := 0) (Norm.re [0] (by decide) rfl (by simp [heapFits, rowFits, obFits, mixG_zero]) (by simp [tmFits, T.ren])) ⟨rfl, Nat.zero_le _⟩ ?_
  rintro n i ⟨hn, hi⟩
  have fy := Nat.add_zero
  refine goS ?_
  refine SW.cond rfl (fun hc => ?_) (fun hc => ?_)
  · have hlt : i < l.length := by simp at hc; omega
    have hltI : (i : Int) < (l.length : Int) := by omega
    have hg : ((mixG id l k i).map Enc.o)[i]? = some (.int .i64 l[i]) := mixG_get id l k i hlt
    have hs : ((mixG id l k i).map Enc.o).set i (.int .i64 (k + (i : Nat))) = (mixG id l k (i + 1)).map Enc.o := mixG_set id l k i hlt
    have fy := And.intro hg (And.intro hs (And.intro hltI (And.intro Nat.zero_add (Int.toNat_natCast))))
    refine goR ?_ ?_ ?_ ?_ ?_ ?_ ?_ ?_ ?_ ?_ ?_ ?_ ?_ ?_ ?_ ?_
    any_goals (first | exact True.intro | skip)
    all_goals (repeat (refine Wh.mk fun hcc => ?_))
    refine ⟨n - 1, i + 1, by omega, ⟨by omega, by omega⟩, ?_⟩
    rw [wrap64 _ (by omega) (by omega), wrap64 _ (by omega) (by omega), show k + (i : Int) + 1 = k + ((i + 1 : Nat) : Int) by omega]
    exact Norm.re [0] (by decide) rfl (by simp only [eq_self, heapFits, rowFits, obFits, List.getElem?_cons_zero, List.getElem?_cons_succ, renL_o, renL_b, true_and, and_true, and_self]) (by simp [tmFits, T.ren])
  · have hge : i = l.length := by
      have : ¬ i < l.length := by simp at hc; omega
      omega
    subst hge
    rw [mixG_all]
    have fy := Nat.add_zero
    refine goR ?_ ?_ ?_ ?_ ?_ ?_ ?_ ?_ ?_ ?_ ?_ ?_ ?_ ?_ ?_ ?_
    any_goals (first | exact True.intro | skip)
    all_goals (repeat (refine Wh.mk fun hcc => ?_))
    refine SW.ret (show RetQ _ _ _ _ _ _ _ from ⟨.inr rfl, _, [0], [.int .i64 (k + l.length)], ?_, ⟨rfl, ?_, rfl, rfl, ?_, rfl⟩⟩)
    rotate_left
    · (simp [-List.map_set, -List.map_append, pass1, modeOf, giveS, giveSL, Heap.at, Heap.put, fixEs, ioAt, ioAtT, ioKs, ioKT, ioM, ioT, thawA, thawAL, T.asArr, T.cel, T.clo, cloL, T.cloA, cloAL]; rfl)
    · simp [cloOL, T.cloO, T.asArr]
theorem heldInt_ok (n : Nat) (k : Int) (hl : n ≤ 1048576) (h0 : 0 ≤ k) (h1 : k ≤ 1125899906842624) : CallR Try.prog 119 [.sl .b ((marksG id n k).map Enc.b), .int .i64 k] [] (.int .i64 (k + n)) := by
  refine CallR.of_body (n := 21) (rs := [.tmp 4]) hY.ok Try.func119 rfl (by decide) rfl rfl rfl rfl (fun F => ?_)
  have fx := And.intro Y3 (And.intro Y4 (Y34))
  have fy := Nat.add_zero
  refine goN ?_ ?_ ?_ ?_ ?_ ?_ ?_ ?_ ?_ ?_ ?_ ?_ ?_ ?_ ?_ ?_
  any_goals (first | exact True.intro | skip)
  skip
  refine SW.loop (fun i : Nat => ⟨[.sl .b ((marksG id n k).map Enc.b), .int .i64 (k + (i : Nat)), .undef, .undef, .undef, .int .i64 i, .undef, .undef, .undef, .undef, .undef, .undef, .undef, .undef, .undef, .undef, .undef, .undef, .undef, .undef, .undef], [[]]⟩)
    (fun N i => N = n - i ∧ i ≤ n) (n := n) (x := 0) (Norm.to 0 rfl (by simp [weakL])) ⟨rfl, Nat.zero_le _⟩ ?_
  rintro N i ⟨hn, hi⟩
  have fy := Nat.add_zero
  refine goS ?_
  refine SW.cond rfl (fun hc => ?_) (fun hc => ?_)
  · have hlt : i < n := by simp at hc; omega
    have hg : ((marksG id n k).map Enc.b)[i]? = some (.int .i64 (k + (i : Nat))) := by rw [map_get Enc.b _ i (by rw [marksG_len]; exact hlt), marksG_get id n k i hlt]; rfl
    have fy := And.intro hg (And.intro Nat.zero_add (Int.toNat_natCast))
    refine goR ?_ ?_ ?_ ?_ ?_ ?_ ?_ ?_ ?_ ?_ ?_ ?_ ?_ ?_ ?_ ?_
    any_goals (first | exact True.intro | skip)
    all_goals (repeat (refine Wh.mk fun hcc => ?_))
    all_goals first | (exfalso; simp at hcc; done) | skip
    refine ⟨N - 1, i + 1, by omega, ⟨by omega, by omega⟩, ?_⟩
    rw [wrap64 _ (by omega) (by omega), wrap64 _ (by omega) (by omega), show k + (i : Int) + 1 = k + ((i + 1 : Nat) : Int) by omega]
    exact Norm.to 0 rfl (by simp [weakL])
  · have hge : i = n := by
      have : ¬ i < n := by simp at hc; omega
      omega
    subst hge
    have fy := Nat.add_zero
    refine goK ?_ ?_ ?_ ?_ ?_ ?_ ?_ ?_ ?_ ?_ ?_ ?_ ?_ ?_ ?_ ?_
    any_goals (first | exact True.intro | skip)
    all_goals (repeat (refine Wh.mk fun hcc => ?_))
    simp [tupOf, fixEs]
end Q6

namespace Q6
open Go Go.Vm Go.Proofs
set_option maxHeartbeats 4000000
set_option synthInstance.maxSize 2000
set_option synthInstance.maxHeartbeats 400000
set_option maxRecDepth 10000
set_option linter.unusedSimpArgs false
set_option linter.unusedVariables false

theorem markObj_ok (x : (Int × (List Int) × (List Int) × Unit)) (k : Int) (hx : x.2.1.length ≤ 1048576 ∧ x.2.2.1.length ≤ 1048576) (h0 : 0 ≤ k) (h1 : k ≤ 562949953421312) : CallR Try.prog 157 [.nd [.int .i64 x.1, .io (.tup [.ow 1 (x.2.1.map Enc.o)]), .io (.tup [.ow 1 (x.2.2.1.map Enc.o)])], .int .i64 k] [.tup [.ow 1 ((marksG id x.2.1.length (k)).map Enc.o)], .tup [.ow 1 ((marksG id x.2.2.1.length (k + x.2.1.length)).map Enc.o)]] (.int .i64 (k + x.2.1.length + x.2.2.1.length)) := by
  refine CallR.of_body (n := 14) (rs := [.tmp 4]) hY.ok Try.func157 rfl (by decide) rfl rfl rfl rfl (fun F => ?_)
  have fx := And.intro Y1 (And.intro Y2 (And.intro Y3 (And.intro Y34 (Y36))))
  have hC1 := cx [.ios] (markInt_ok x.2.1 k hx.1 h0 (by omega))
  have hC2 := cx [.ios] (markInt_ok x.2.2.1 (k + x.2.1.length) hx.2 (by omega) (by omega))
  have fy := Nat.add_zero
  refine goR ?_ ?_ ?_ ?_ ?_ ?_ ?_ ?_ ?_ ?_ ?_ ?_ ?_ ?_ ?_ ?_
  any_goals (first | exact True.intro | skip)
  all_goals (repeat (refine Wh.mk fun hcc => ?_))
  all_goals exact SW.ret (show RetQ _ _ _ _ _ _ _ from RetQ.y [0] [.int .i64 (k + x.2.1.length + x.2.2.1.length)])
theorem heldObj_ok (y : Int) (n m : Nat) (k : Int) (hn : n ≤ 1048576) (hm : m ≤ 1048576) (h0 : 0 ≤ k) (h1 : k ≤ 562949953421312) : CallR Try.prog 158 [.nd [.int .i64 y, .sl .b ((marksG id n (k)).map Enc.b), .sl .b ((marksG id m (k + n)).map Enc.b)], .int .i64 k] [] (.int .i64 (k + n + m)) := by
  refine CallR.of_body (n := 18) (rs := [.tmp 4]) hY.ok Try.func158 rfl (by decide) rfl rfl rfl rfl (fun F => ?_)
  have fx := And.intro Y1 (And.intro Y2 (And.intro Y3 (And.intro Y4 (And.intro Y34 (Y36)))))
  have hq0 : decide (k + (n : Int) < 0) = false := by simp; omega
  have hq1 : decide (k + (n : Int) + (m : Int) < 0) = false := by simp; omega
  have hC1 := cx [] (heldInt_ok n k hn h0 (by omega))
  have hC2 := cx [] (heldInt_ok m (k + n) hm (by omega) (by omega))
  have fy := And.intro hq0 (hq1)
  refine goK ?_ ?_ ?_ ?_ ?_ ?_ ?_ ?_ ?_ ?_ ?_ ?_ ?_ ?_ ?_ ?_
  any_goals (first | exact True.intro | skip)
  all_goals (repeat (refine Wh.mk fun hcc => ?_))
  all_goals simp [tupOf, fixEs]
theorem markSlot_ok (x : (Bool × ((Int × (List Int) × (List Int) × Unit)) × Unit)) (k : Int) (hx : x.2.1.2.1.length ≤ 1048576 ∧ x.2.1.2.2.1.length ≤ 1048576) (h0 : 0 ≤ k) (h1 : k ≤ 562949953421312) : CallR Try.prog 112 [.nd [.bool x.1, .nd [.int .i64 x.2.1.1, .io (.tup [.ow 1 (x.2.1.2.1.map Enc.o)]), .io (.tup [.ow 1 (x.2.1.2.2.1.map Enc.o)])]], .int .i64 k] [.tup [.ow 1 ((marksG id x.2.1.2.1.length (k)).map Enc.o)], .tup [.ow 1 ((marksG id x.2.1.2.2.1.length (k + x.2.1.2.1.length)).map Enc.o)]] (.int .i64 (k + x.2.1.2.1.length + x.2.1.2.2.1.length)) := by
  refine CallR.of_body (n := 10) (rs := [.tmp 4]) hY.ok Try.func112 rfl (by decide) rfl rfl rfl rfl (fun F => ?_)
  have fx := And.intro Y1 (And.intro Y3 (And.intro Y4 (And.intro Y34 (And.intro Y36 (Y38)))))
  have hC1 := cx [.iov] (markObj_ok x.2.1 k hx h0 h1)
  have fy := Nat.add_zero
  refine goR ?_ ?_ ?_ ?_ ?_ ?_ ?_ ?_ ?_ ?_ ?_ ?_ ?_ ?_ ?_ ?_
  any_goals (first | exact True.intro | skip)
  all_goals (repeat (refine Wh.mk fun hcc => ?_))
  all_goals exact SW.ret (show RetQ _ _ _ _ _ _ _ from RetQ.y [0] [.int .i64 (k + x.2.1.2.1.length + x.2.1.2.2.1.length)])
theorem heldSlot_ok (b : Bool) (y : Int) (n m : Nat) (k : Int) (hn : n ≤ 1048576) (hm : m ≤ 1048576) (h0 : 0 ≤ k) (h1 : k ≤ 562949953421312) : CallR Try.prog 114 [.nd [.bool b, .nd [.int .i64 y, .sl .b ((marksG id n (k)).map Enc.b), .sl .b ((marksG id m (k + n)).map Enc.b)]], .int .i64 k] [] (.int .i64 (k + n + m)) := by
  refine CallR.of_body (n := 12) (rs := [.tmp 4]) hY.ok Try.func114 rfl (by decide) rfl rfl rfl rfl (fun F => ?_)
  have fx := And.intro Y1 (And.intro Y3 (And.intro Y4 (And.intro Y34 (And.intro Y36 (Y38)))))
  have hq1 : decide (k + (n : Int) + (m : Int) < 0) = false := by simp; omega
  have hC1 := cx [] (heldObj_ok y n m k hn hm h0 h1)
  have fy := hq1
  refine goK ?_ ?_ ?_ ?_ ?_ ?_ ?_ ?_ ?_ ?_ ?_ ?_ ?_ ?_ ?_ ?_
  any_goals (first | exact True.intro | skip)
  all_goals (repeat (refine Wh.mk fun hcc => ?_))
  all_goals simp [tupOf, fixEs]
end Q6

namespace Q6
open Go Go.Vm Go.Proofs
set_option maxHeartbeats 4000000
set_option synthInstance.maxSize 2000
set_option synthInstance.maxHeartbeats 400000
set_option maxRecDepth 10000
set_option linter.unusedSimpArgs false
set_option linter.unusedVariables false

def lvM (k j : Int) : (Int × Int × Bool × Unit) := (k + 3 * j, k + 3 * j + 1, (Int.tmod (k + 3 * j + 2) 3 == 0), ())
theorem markLive_ok (l : List (Int × Int × Bool × Unit)) (k : Int) (hl : l.length ≤ 1048576) (h0 : 0 ≤ k) (h1 : k ≤ 562949953421312) : CallR Try.prog 113 [.io (.tup [.ow 3 (l.map Enc.o)]), .int .i64 k] [.tup [.ow 3 ((marksG (lvM k) l.length 0).map Enc.o)]] (.int .i64 (k + 3 * l.length)) := by
  refine CallR.of_body (n := 36) (rs := [.tmp 4]) hY.ok Try.func113 rfl (by decide) rfl rfl rfl rfl (fun F => ?_)
  have fx := And.intro Y1 (And.intro Y2 (And.intro Y3 (And.intro Y4 (And.intro Y39 (Y91)))))
  have fy := Nat.add_zero
  refine goN ?_ ?_ ?_ ?_ ?_ ?_ ?_ ?_ ?_ ?_ ?_ ?_ ?_ ?_ ?_ ?_
  any_goals (first | exact True.intro | skip)
  skip
  refine SW.loop (fun i : Nat => ⟨[.ref 0 0 0 l.length, .int .i64 (k + 3 * (i : Nat)), .undef, .undef, .undef, .int .i64 (i : Nat), .undef, .undef, .undef, .undef, .undef, .undef, .undef, .undef, .undef, .undef, .undef, .undef, .undef, .undef, .undef, .undef, .undef, .undef, .undef, .undef, .undef, .undef, .undef, .undef, .undef, .undef, .undef, .undef, .undef, .undef], [[.arr 3 ((mixG (lvM k) l 0 i).map Enc.o) false]]⟩)
    (fun n i => n = l.length - i ∧ i ≤ l.length) (n := l.length) (x := 0) (Norm.re [0] (by decide) rfl (by simp [heapFits, rowFits, obFits, mixG_zero]) (by simp [tmFits, T.ren])) ⟨rfl, Nat.zero_le _⟩ ?_
  rintro n i ⟨hn, hi⟩
  have fy := Nat.add_zero
  refine goS ?_
  refine SW.cond rfl (fun hc => ?_) (fun hc => ?_)
  · have hlt : i < l.length := by simp at hc; omega
    have hltI : (i : Int) < (l.length : Int) := by omega
    have hg : ((mixG (lvM k) l 0 i).map Enc.o)[i]? = some (.nd [.int .i64 l[i].1, .int .i64 l[i].2.1, .bool l[i].2.2.1]) := mixG_get (lvM k) l 0 i hlt
    have hlen : ((mixG (lvM k) l 0 i).map (Enc.o : _ → T)).length = l.length := by rw [List.length_map, mixG_len _ _ _ _ hi]
    have hs : ((mixG (lvM k) l 0 i).map Enc.o).set i (.nd [.int .i64 (k + 3 * (i : Nat)), .int .i64 (k + 3 * (i : Nat) + 1), .bool (Int.tmod (k + 3 * (i : Nat) + 2) 3 == 0)]) = (mixG (lvM k) l 0 (i + 1)).map Enc.o := by
      have := mixG_set (lvM k) l 0 i hlt
      rw [Int.zero_add] at this
      exact this
    generalize hL : (mixG (lvM k) l 0 i).map (Enc.o : _ → T) = L at *
    have hg1 : ∀ a : T, (L.set i a)[i]? = some a := fun a => by rw [List.getElem?_set_self (by omega)]
    have hs1 : ∀ a b : T, (L.set i a).set i b = L.set i b := fun a b => List.set_set ..
    have hl1 : ∀ a : T, (L.set i a).length = L.length := fun a => List.length_set ..
    have hw1 : IntKind.i64.wrap (k + 3 * (i : Int) + 1) = k + 3 * (i : Int) + 1 := wrap64 _ (by omega) (by omega)
    have hw2 : IntKind.i64.wrap (k + 3 * (i : Int) + 1 + 1) = k + 3 * (i : Int) + 2 := by rw [wrap64 _ (by omega) (by omega)]; omega
    have hw3 : IntKind.i64.wrap (k + 3 * (i : Int) + 2 + 1) = k + 3 * ((i + 1 : Nat) : Int) := by rw [wrap64 _ (by omega) (by omega)]; omega
    have hw4 : IntKind.i64.wrap ((i : Int) + 1) = ((i + 1 : Nat) : Int) := by rw [wrap64 _ (by omega) (by omega)]; omega
    have fy := And.intro hg (And.intro hg1 (And.intro hs1 (And.intro hl1 (And.intro hltI (And.intro hw1 (And.intro hw2 (And.intro hw3 (And.intro hw4 (And.intro Nat.zero_add (Int.toNat_natCast))))))))))
    refine goR ?_ ?_ ?_ ?_ ?_ ?_ ?_ ?_ ?_ ?_ ?_ ?_ ?_ ?_ ?_ ?_
    any_goals (first | exact True.intro | skip)
    all_goals (repeat (refine Wh.mk fun hcc => ?_))
    refine ⟨n - 1, i + 1, by omega, ⟨by omega, by omega⟩, ?_⟩
    rw [hs]
    exact Norm.re [0] (by decide) rfl (by first | (simp only [eq_self, heapFits, rowFits, obFits, List.getElem?_cons_zero, List.getElem?_cons_succ, renL_o, renL_b, true_and, and_true, and_self]; done) | simp [-List.map_append, heapFits, rowFits, obFits, T.ren, renL]) (by simp [tmFits, T.ren])
  · have hge : i = l.length := by
      have : ¬ i < l.length := by simp at hc; omega
      omega
    subst hge
    rw [mixG_all]
    have fy := Nat.add_zero
    refine goR ?_ ?_ ?_ ?_ ?_ ?_ ?_ ?_ ?_ ?_ ?_ ?_ ?_ ?_ ?_ ?_
    any_goals (first | exact True.intro | skip)
    all_goals (repeat (refine Wh.mk fun hcc => ?_))
    all_goals exact SW.ret (show RetQ _ _ _ _ _ _ _ from RetQ.y [0] [.int .i64 (k + 3 * l.length)])
end Q6

namespace Q6
open Go Go.Vm Go.Proofs
set_option maxHeartbeats 4000000
set_option synthInstance.maxSize 2000
set_option synthInstance.maxHeartbeats 400000
set_option maxRecDepth 10000
set_option linter.unusedSimpArgs false
set_option linter.unusedVariables false

theorem heldLive_ok (n : Nat) (k : Int) (hl : n ≤ 1048576) (h0 : 0 ≤ k) (h1 : k ≤ 562949953421312) : CallR Try.prog 115 [.sl .b ((marksG (lvM k) n 0).map Enc.b), .int .i64 k] [] (.int .i64 (k + 3 * n)) := by
  refine CallR.of_body (n := 42) (rs := [.tmp 4]) hY.ok Try.func115 rfl (by decide) rfl rfl rfl rfl (fun F => ?_)
  have fx := And.intro Y1 (And.intro Y2 (And.intro Y3 (And.intro Y4 (And.intro Y39 (Y91)))))
  have fy := Nat.add_zero
  refine goN ?_ ?_ ?_ ?_ ?_ ?_ ?_ ?_ ?_ ?_ ?_ ?_ ?_ ?_ ?_ ?_
  any_goals (first | exact True.intro | skip)
  skip
  refine SW.loop (fun i : Nat => ⟨[.sl .b ((marksG (lvM k) n 0).map Enc.b), .int .i64 (k + 3 * (i : Nat)), .undef, .undef, .undef, .int .i64 (i : Nat), .undef, .undef, .undef, .undef, .undef, .undef, .undef, .undef, .undef, .undef, .undef, .undef, .undef, .undef, .undef, .undef, .undef, .undef, .undef, .undef, .undef, .undef, .undef, .undef, .undef, .undef, .undef, .undef, .undef, .undef, .undef, .undef, .undef, .undef, .undef, .undef], [[]]⟩)
    (fun N i => N = n - i ∧ i ≤ n) (n := n) (x := 0) (Norm.to 0 rfl (by simp [weakL])) ⟨rfl, Nat.zero_le _⟩ ?_
  rintro N i ⟨hn, hi⟩
  have fy := Nat.add_zero
  refine goS ?_
  refine SW.cond rfl (fun hc => ?_) (fun hc => ?_)
  · have hlt : i < n := by simp at hc; omega
    have hg : ((marksG (lvM k) n 0).map Enc.b)[i]? = some (.nd [.int .i64 (k + 3 * (i : Nat)), .int .i64 (k + 3 * (i : Nat) + 1), .bool (Int.tmod (k + 3 * (i : Nat) + 2) 3 == 0)]) := by
      rw [map_get Enc.b _ i (by rw [marksG_len]; exact hlt), marksG_get (lvM k) n 0 i hlt, Int.zero_add]; rfl
    have hw1 : IntKind.i64.wrap (k + 3 * (i : Int) + 1) = k + 3 * (i : Int) + 1 := wrap64 _ (by omega) (by omega)
    have hw2 : IntKind.i64.wrap (k + 3 * (i : Int) + 1 + 1) = k + 3 * (i : Int) + 2 := by rw [wrap64 _ (by omega) (by omega)]; omega
    have hw3 : IntKind.i64.wrap (k + 3 * (i : Int) + 2 + 1) = k + 3 * ((i + 1 : Nat) : Int) := by rw [wrap64 _ (by omega) (by omega)]; omega
    have hw4 : IntKind.i64.wrap ((i : Int) + 1) = ((i + 1 : Nat) : Int) := by rw [wrap64 _ (by omega) (by omega)]; omega
    have fy := And.intro hg (And.intro hw1 (And.intro hw2 (And.intro hw3 (And.intro hw4 (And.intro Nat.zero_add (Int.toNat_natCast))))))
    refine goR ?_ ?_ ?_ ?_ ?_ ?_ ?_ ?_ ?_ ?_ ?_ ?_ ?_ ?_ ?_ ?_
    any_goals (first | exact True.intro | skip)
    all_goals (repeat (refine Wh.mk fun hcc => ?_))
    all_goals first | (exfalso; simp at hcc; done) | skip
    refine ⟨N - 1, i + 1, by omega, ⟨by omega, by omega⟩, ?_⟩
    exact Norm.to 0 rfl (by simp [weakL])
  · have hge : i = n := by
      have : ¬ i < n := by simp at hc; omega
      omega
    subst hge
    have fy := Nat.add_zero
    refine goK ?_ ?_ ?_ ?_ ?_ ?_ ?_ ?_ ?_ ?_ ?_ ?_ ?_ ?_ ?_ ?_
    any_goals (first | exact True.intro | skip)
    all_goals (repeat (refine Wh.mk fun hcc => ?_))
    simp [tupOf, fixEs]
end Q6

namespace Q6
open Go Go.Vm Go.Proofs
set_option maxHeartbeats 4000000
set_option synthInstance.maxSize 2000
set_option synthInstance.maxHeartbeats 400000
set_option maxRecDepth 10000
set_option linter.unusedSimpArgs false
set_option linter.unusedVariables false

abbrev recEndK (x : (Int × Int × Int × Int × Int × ((Bool × ((Int × (List Int) × (List Int) × Unit)) × Unit)) × ((Bool × ((Int × (List Int) × (List Int) × Unit)) × Unit)) × Int × (List ((Int × Int × Bool × Unit))) × Unit)) (k : Int) : Int := k + x.2.2.2.2.2.1.2.1.2.1.length + x.2.2.2.2.2.1.2.1.2.2.1.length + x.2.2.2.2.2.2.1.2.1.2.1.length + x.2.2.2.2.2.2.1.2.1.2.2.1.length + 3 * x.2.2.2.2.2.2.2.2.1.length
theorem markRec_ok (x : (Int × Int × Int × Int × Int × ((Bool × ((Int × (List Int) × (List Int) × Unit)) × Unit)) × ((Bool × ((Int × (List Int) × (List Int) × Unit)) × Unit)) × Int × (List ((Int × Int × Bool × Unit))) × Unit)) (k : Int) (hx : Enc.lim 1048576 x) (h0 : 0 ≤ k) (h1 : k ≤ 281474976710656) : CallR Try.prog 44 [.nd [.int .i64 x.1, .int .i64 x.2.1, .int .i64 x.2.2.1, .int .i64 x.2.2.2.1, .int .i64 x.2.2.2.2.1, .nd [.bool x.2.2.2.2.2.1.1, .nd [.int .i64 x.2.2.2.2.2.1.2.1.1, .io (.tup [.ow 1 (x.2.2.2.2.2.1.2.1.2.1.map Enc.o)]), .io (.tup [.ow 1 (x.2.2.2.2.2.1.2.1.2.2.1.map Enc.o)])]], .nd [.bool x.2.2.2.2.2.2.1.1, .nd [.int .i64 x.2.2.2.2.2.2.1.2.1.1, .io (.tup [.ow 1 (x.2.2.2.2.2.2.1.2.1.2.1.map Enc.o)]), .io (.tup [.ow 1 (x.2.2.2.2.2.2.1.2.1.2.2.1.map Enc.o)])]], .int .i64 x.2.2.2.2.2.2.2.1, .io (.tup [.ow 3 (x.2.2.2.2.2.2.2.2.1.map Enc.o)])], .int .i64 k] [.tup [.ow 1 ((marksG id x.2.2.2.2.2.1.2.1.2.1.length (k)).map Enc.o)], .tup [.ow 1 ((marksG id x.2.2.2.2.2.1.2.1.2.2.1.length (k + x.2.2.2.2.2.1.2.1.2.1.length)).map Enc.o)], .tup [.ow 1 ((marksG id x.2.2.2.2.2.2.1.2.1.2.1.length (k + x.2.2.2.2.2.1.2.1.2.1.length + x.2.2.2.2.2.1.2.1.2.2.1.length)).map Enc.o)], .tup [.ow 1 ((marksG id x.2.2.2.2.2.2.1.2.1.2.2.1.length (k + x.2.2.2.2.2.1.2.1.2.1.length + x.2.2.2.2.2.1.2.1.2.2.1.length + x.2.2.2.2.2.2.1.2.1.2.1.length)).map Enc.o)], .tup [.ow 3 ((marksG (lvM (k + x.2.2.2.2.2.1.2.1.2.1.length + x.2.2.2.2.2.1.2.1.2.2.1.length + x.2.2.2.2.2.2.1.2.1.2.1.length + x.2.2.2.2.2.2.1.2.1.2.2.1.length)) x.2.2.2.2.2.2.2.2.1.length 0).map Enc.o)]] (.int .i64 (k + x.2.2.2.2.2.1.2.1.2.1.length + x.2.2.2.2.2.1.2.1.2.2.1.length + x.2.2.2.2.2.2.1.2.1.2.1.length + x.2.2.2.2.2.2.1.2.1.2.2.1.length + 3 * x.2.2.2.2.2.2.2.2.1.length)) := by
  refine CallR.of_body (n := 18) (rs := [.tmp 4]) hY.ok Try.func44 rfl (by decide) rfl rfl rfl rfl (fun F => ?_)
  have fx := And.intro Y2 (And.intro Y3 (And.intro Y4 (And.intro Y5 (And.intro Y6 (And.intro Y8 (And.intro Y34 (And.intro Y36 (And.intro Y38 (And.intro Y39 (And.intro Y41 (Y91)))))))))))
  have ha := hx.2.2.2.2.2.1.2.1.2.1.1
  have hb := hx.2.2.2.2.2.1.2.1.2.2.1.1
  have hc := hx.2.2.2.2.2.2.1.2.1.2.1.1
  have hd := hx.2.2.2.2.2.2.1.2.1.2.2.1.1
  have he := hx.2.2.2.2.2.2.2.2.1.1
  have m1 := markSlot_ok x.2.2.2.2.2.1 k ⟨ha, hb⟩ h0 (by omega)
  have m2 := markSlot_ok x.2.2.2.2.2.2.1 (k + x.2.2.2.2.2.1.2.1.2.1.length + x.2.2.2.2.2.1.2.1.2.2.1.length) ⟨hc, hd⟩ (by omega) (by omega)
  have m3 := markLive_ok x.2.2.2.2.2.2.2.2.1 (k + x.2.2.2.2.2.1.2.1.2.1.length + x.2.2.2.2.2.1.2.1.2.2.1.length + x.2.2.2.2.2.2.1.2.1.2.1.length + x.2.2.2.2.2.2.1.2.1.2.2.1.length) he (by omega) (by omega)
  have hC1 := cx [.iov] (m1)
  have hC2 := cx [.iov] (m2)
  have hC3 := cx [.ios] (m3)
  have fy := Nat.add_zero
  refine goR ?_ ?_ ?_ ?_ ?_ ?_ ?_ ?_ ?_ ?_ ?_ ?_ ?_ ?_ ?_ ?_
  any_goals (first | exact True.intro | skip)
  all_goals (repeat (refine Wh.mk fun hcc => ?_))
  all_goals exact SW.ret (show RetQ _ _ _ _ _ _ _ from RetQ.y [0] [.int .i64 (k + x.2.2.2.2.2.1.2.1.2.1.length + x.2.2.2.2.2.1.2.1.2.2.1.length + x.2.2.2.2.2.2.1.2.1.2.1.length + x.2.2.2.2.2.2.1.2.1.2.2.1.length + 3 * x.2.2.2.2.2.2.2.2.1.length)])
theorem heldRec_ok (x1 x2 x3 x4 x5 x8 u v : Int) (p q : Bool) (a b c d e : Nat) (k : Int) (ha : a ≤ 1048576) (hb : b ≤ 1048576) (hc : c ≤ 1048576) (hd : d ≤ 1048576) (he : e ≤ 1048576) (h0 : 0 ≤ k) (h1 : k ≤ 281474976710656) : CallR Try.prog 45 [.nd [.int .i64 x1, .int .i64 x2, .int .i64 x3, .int .i64 x4, .int .i64 x5, .nd [.bool p, .nd [.int .i64 u, .sl .b ((marksG id a (k)).map Enc.b), .sl .b ((marksG id b (k + a)).map Enc.b)]], .nd [.bool q, .nd [.int .i64 v, .sl .b ((marksG id c (k + a + b)).map Enc.b), .sl .b ((marksG id d (k + a + b + c)).map Enc.b)]], .int .i64 x8, .sl .b ((marksG (lvM (k + a + b + c + d)) e 0).map Enc.b)], .int .i64 k] [] (.int .i64 (k + a + b + c + d + 3 * e)) := by
  refine CallR.of_body (n := 24) (rs := [.tmp 4]) hY.ok Try.func45 rfl (by decide) rfl rfl rfl rfl (fun F => ?_)
  have fx := And.intro Y2 (And.intro Y3 (And.intro Y4 (And.intro Y5 (And.intro Y6 (And.intro Y8 (And.intro Y34 (And.intro Y36 (And.intro Y38 (And.intro Y39 (And.intro Y41 (Y91)))))))))))
  have hq1 : decide (k + (a : Int) + (b : Int) < 0) = false := by simp; omega
  have hq2 : decide (k + (a : Int) + (b : Int) + (c : Int) + (d : Int) < 0) = false := by simp; omega
  have hq3 : decide (k + (a : Int) + (b : Int) + (c : Int) + (d : Int) + 3 * (e : Int) < 0) = false := by simp; omega
  have hC1 := cx [] (heldSlot_ok p u a b k ha hb h0 (by omega))
  have hC2 := cx [] (heldSlot_ok q v c d (k + a + b) hc hd (by omega) (by omega))
  have hC3 := cx [] (heldLive_ok e (k + a + b + c + d) he (by omega) (by omega))
  have fy := And.intro hq1 (And.intro hq2 (hq3))
  refine goK ?_ ?_ ?_ ?_ ?_ ?_ ?_ ?_ ?_ ?_ ?_ ?_ ?_ ?_ ?_ ?_
  any_goals (first | exact True.intro | skip)
  all_goals (repeat (refine Wh.mk fun hcc => ?_))
  all_goals simp [tupOf, fixEs]
end Q6

namespace Q6
open Go Go.Vm Go.Proofs
set_option maxHeartbeats 4000000
set_option synthInstance.maxSize 2000
set_option synthInstance.maxHeartbeats 400000
set_option maxRecDepth 10000
set_option linter.unusedSimpArgs false
set_option linter.unusedVariables false

theorem markByte_ok (l : List UInt8) (k : Int) (hl : l.length ≤ 1048576) (h0 : 0 ≤ k) (h1 : k ≤ 1125899906842624) : CallR Try.prog 18 [.io (.tup [.ow 1 (l.map Enc.o)]), .int .i64 k] [.tup [.ow 1 ((marksG byt l.length k).map Enc.o)]] (.int .i64 (k + l.length)) := by
  refine CallR.of_body (n := 20) (rs := [.tmp 4]) hY.ok Try.func18 rfl (by decide) rfl rfl rfl rfl (fun F => ?_)
  have fx := And.intro Y3 (And.intro Y4 (And.intro Y5 (Y24)))
  have fy := Nat.add_zero
  refine goN ?_ ?_ ?_ ?_ ?_ ?_ ?_ ?_ ?_ ?_ ?_ ?_ ?_ ?_ ?_ ?_
  any_goals (first | exact True.intro | skip)
  skip
  refine SW.loop (fun i : Nat => ⟨[.ref 0 0 0 l.length, .int .i64 (k + (i : Nat)), .undef, .undef, .undef, .int .i64 i, .undef, .undef, .undef, .undef, .undef, .undef, .undef, .undef, .undef, .undef, .undef, .undef, .undef, .undef], [[.arr 1 ((mixG byt l k i).map Enc.o) false]]⟩)
    (fun n i => n = l.length - i ∧ i ≤ l.length) (n := l.length) (x := 0) (Norm.re [0] (by decide) rfl (by simp [heapFits, rowFits, obFits, mixG_zero]) (by simp [tmFits, T.ren])) ⟨rfl, Nat.zero_le _⟩ ?_
  rintro n i ⟨hn, hi⟩
  have fy := Nat.add_zero
  refine goS ?_
  refine SW.cond rfl (fun hc => ?_) (fun hc => ?_)
  · have hlt : i < l.length := by simp at hc; omega
    have hltI : (i : Int) < (l.length : Int) := by omega
    have hg : ((mixG byt l k i).map Enc.o)[i]? = some (.int .u8 (l[i].toNat : Int)) := mixG_get byt l k i hlt
    have hs : ((mixG byt l k i).map Enc.o).set i (.int .u8 ((byt (k + (i : Nat))).toNat : Int)) = (mixG byt l k (i + 1)).map Enc.o := mixG_set byt l k i hlt
    have fy := And.intro hg (And.intro hs (And.intro hltI (And.intro Nat.zero_add (Int.toNat_natCast))))
    refine goR ?_ ?_ ?_ ?_ ?_ ?_ ?_ ?_ ?_ ?_ ?_ ?_ ?_ ?_ ?_ ?_
    any_goals (first | exact True.intro | skip)
    all_goals (repeat (refine Wh.mk fun hcc => ?_))
    refine ⟨n - 1, i + 1, by omega, ⟨by omega, by omega⟩, ?_⟩
    rw [wrap64 _ (by omega) (by omega), wrap64 _ (by omega) (by omega), show k + (i : Int) + 1 = k + ((i + 1 : Nat) : Int) by omega]
    exact Norm.re [0] (by decide) rfl (by simp only [eq_self, heapFits, rowFits, obFits, List.getElem?_cons_zero, List.getElem?_cons_succ, renL_o, renL_b, true_and, and_true, and_self]) (by simp [tmFits, T.ren])
  · have hge : i = l.length := by
      have : ¬ i < l.length := by simp at hc; omega
      omega
    subst hge
    rw [mixG_all]
    have fy := Nat.add_zero
    refine goR ?_ ?_ ?_ ?_ ?_ ?_ ?_ ?_ ?_ ?_ ?_ ?_ ?_ ?_ ?_ ?_
    any_goals (first | exact True.intro | skip)
    all_goals (repeat (refine Wh.mk fun hcc => ?_))
    refine SW.ret (show RetQ _ _ _ _ _ _ _ from ⟨.inr rfl, _, [0], [.int .i64 (k + l.length)], ?_, ⟨rfl, ?_, rfl, rfl, ?_, rfl⟩⟩)
    rotate_left
    · (simp [-List.map_set, -List.map_append, pass1, modeOf, giveS, giveSL, Heap.at, Heap.put, fixEs, ioAt, ioAtT, ioKs, ioKT, ioM, ioT, thawA, thawAL, T.asArr, T.cel, T.clo, cloL, T.cloA, cloAL]; rfl)
    · simp [cloOL, T.cloO, T.asArr]
theorem heldByte_ok (n : Nat) (k : Int) (hl : n ≤ 1048576) (h0 : 0 ≤ k) (h1 : k ≤ 1125899906842624) : CallR Try.prog 19 [.sl .b ((marksG byt n k).map Enc.b), .int .i64 k] [] (.int .i64 (k + n)) := by
  refine CallR.of_body (n := 22) (rs := [.tmp 4]) hY.ok Try.func19 rfl (by decide) rfl rfl rfl rfl (fun F => ?_)
  have fx := And.intro Y3 (And.intro Y4 (And.intro Y5 (Y24)))
  have fy := Nat.add_zero
  refine goN ?_ ?_ ?_ ?_ ?_ ?_ ?_ ?_ ?_ ?_ ?_ ?_ ?_ ?_ ?_ ?_
  any_goals (first | exact True.intro | skip)
  skip
  refine SW.loop (fun i : Nat => ⟨[.sl .b ((marksG byt n k).map Enc.b), .int .i64 (k + (i : Nat)), .undef, .undef, .undef, .int .i64 i, .undef, .undef, .undef, .undef, .undef, .undef, .undef, .undef, .undef, .undef, .undef, .undef, .undef, .undef, .undef, .undef], [[]]⟩)
    (fun N i => N = n - i ∧ i ≤ n) (n := n) (x := 0) (Norm.to 0 rfl (by simp [weakL])) ⟨rfl, Nat.zero_le _⟩ ?_
  rintro N i ⟨hn, hi⟩
  have fy := Nat.add_zero
  refine goS ?_
  refine SW.cond rfl (fun hc => ?_) (fun hc => ?_)
  · have hlt : i < n := by simp at hc; omega
    have hg : ((marksG byt n k).map Enc.b)[i]? = some (.int .u8 ((byt (k + (i : Nat))).toNat : Int)) := by rw [map_get Enc.b _ i (by rw [marksG_len]; exact hlt), marksG_get byt n k i hlt]; rfl
    have fy := And.intro hg (And.intro Nat.zero_add (Int.toNat_natCast))
    refine goR ?_ ?_ ?_ ?_ ?_ ?_ ?_ ?_ ?_ ?_ ?_ ?_ ?_ ?_ ?_ ?_
    any_goals (first | exact True.intro | skip)
    all_goals (repeat (refine Wh.mk fun hcc => ?_))
    all_goals first | (exfalso; simp at hcc; done) | skip
    refine ⟨N - 1, i + 1, by omega, ⟨by omega, by omega⟩, ?_⟩
    rw [wrap64 _ (by omega) (by omega), wrap64 _ (by omega) (by omega), show k + (i : Int) + 1 = k + ((i + 1 : Nat) : Int) by omega]
    exact Norm.to 0 rfl (by simp [weakL])
  · have hge : i = n := by
      have : ¬ i < n := by simp at hc; omega
      omega
    subst hge
    have fy := Nat.add_zero
    refine goK ?_ ?_ ?_ ?_ ?_ ?_ ?_ ?_ ?_ ?_ ?_ ?_ ?_ ?_ ?_ ?_
    any_goals (first | exact True.intro | skip)
    all_goals (repeat (refine Wh.mk fun hcc => ?_))
    simp [tupOf, fixEs]
end Q6

namespace Q6
open Go Go.Vm Go.Proofs
set_option maxHeartbeats 4000000
set_option synthInstance.maxSize 2000
set_option synthInstance.maxHeartbeats 400000
set_option maxRecDepth 10000
set_option linter.unusedSimpArgs false
set_option linter.unusedVariables false

open Go.By

theorem grec_lim (l : List UInt8) : Enc.lim 1048576 (grecI l).1 := by
  rw [grec_eq]
  have hs : ∀ s, Enc.lim 1048576 (slotS l s).1 := fun s => ⟨trivial, ⟨trivial, ⟨by have := (slotS_lim l s).1; omega, fun _ _ => trivial⟩, ⟨by have := (slotS_lim l s).2; omega, fun _ _ => trivial⟩, trivial⟩, trivial⟩
  have hn : ∀ (n : Nat) (s : RS), (livesS l n s).1.length ≤ n := by
    intro n
    induction n with
    | zero => intro s; exact Nat.le_refl _
    | succ n ih =>
      intro s
      unfold livesS
      split
      · exact Nat.zero_le _
      · have := ih (liveS l s).2
        simp only [List.length_cons]; omega
  unfold grecS
  simp only
  unfold grecKS recEnd
  split
  · refine ⟨trivial, trivial, trivial, trivial, trivial, hs _, hs _, trivial, ⟨?_, fun _ _ => ⟨trivial, trivial, trivial, trivial⟩⟩, trivial⟩
    exact Nat.le_trans (hn _ _) (Nat.le_trans (Nat.min_le_right _ _) (by decide))
  · unfold rec0 slot0'
    exact ⟨trivial, trivial, trivial, trivial, trivial, ⟨trivial, ⟨trivial, ⟨Nat.zero_le _, fun _ _ => trivial⟩, ⟨Nat.zero_le _, fun _ _ => trivial⟩, trivial⟩, trivial⟩, ⟨trivial, ⟨trivial, ⟨Nat.zero_le _, fun _ _ => trivial⟩, ⟨Nat.zero_le _, fun _ _ => trivial⟩, trivial⟩, trivial⟩, trivial, ⟨Nat.zero_le _, fun _ _ => ⟨trivial, trivial, trivial, trivial⟩⟩, trivial⟩

end Q6

namespace Q6
open Go Go.Vm Go.Proofs
set_option maxHeartbeats 4000000
set_option synthInstance.maxSize 2000
set_option synthInstance.maxHeartbeats 400000
set_option maxRecDepth 10000
set_option linter.unusedSimpArgs false
set_option linter.unusedVariables false

theorem laws_toIntS_ok (l : List Int) (hl : Enc.lim 1048576 l) : CallR Try.prog 163 [.sl .b (l.map Enc.b)] [] (.ow 1 (l.map Enc.o)) := by
  refine CallR.of_body (n := 22) (rs := [.tmp 2]) hY.ok Try.func163 rfl (by decide) rfl rfl rfl rfl (fun F => ?_)
  have fx := And.intro Y3 (And.intro Y4 (Y34))
  have hl1 : l.length ≤ 1048576 := hl.1
  have fy := (fun u1 => mk_fill u1 34 l hl.1 (.int .i64 0) 1 8 _ Y34 Y3 rfl rfl (by decide))
  refine goN ?_ ?_ ?_ ?_ ?_ ?_ ?_ ?_ ?_ ?_ ?_ ?_ ?_ ?_ ?_ ?_
  any_goals (first | exact True.intro | skip)
  skip
  refine SW.loop (fun i : Nat => ⟨[.sl .b (l.map Enc.b), .undef, .undef, .ref 1 0 0 l.length, .int .i64 i, .undef, .undef, .undef, .undef, .undef, .undef, .undef, .undef, .undef, .undef, .undef, .undef, .undef, .undef, .undef, .undef, .undef], [[], [.arr 1 (fillG (.int .i64 0) l i) false]]⟩)
    (fun n i => n = l.length - i ∧ i ≤ l.length) (n := l.length) (x := 0) (Norm.to 0 rfl (by simp [weakL])) ⟨rfl, Nat.zero_le _⟩ ?_
  rintro n i ⟨hn, hi⟩
  have fy := Nat.add_zero
  refine goS ?_
  refine SW.cond rfl (fun hc => ?_) (fun hc => ?_)
  · have hlt : i < l.length := by simpa using hc
    have hltI : (i : Int) < (l.length : Int) := by omega
    have hg : (l.map Enc.b)[i]? = some (.int .i64 l[i]) := map_get Enc.b l i hlt
    have hf : (fillG (.int .i64 0) l i)[i]? = some (.int .i64 0) := fill_get _ l i hlt
    have hfl : (fillG (.int .i64 0) l i).length = l.length := fill_len _ l i hi
    have fy := And.intro hg (And.intro hf (And.intro hfl (And.intro hltI (Nat.zero_add))))
    refine goR ?_ ?_ ?_ ?_ ?_ ?_ ?_ ?_ ?_ ?_ ?_ ?_ ?_ ?_ ?_ ?_
    any_goals (first | exact True.intro | skip)
    all_goals (repeat (refine Wh.mk fun hcc => ?_))
    refine ⟨n - 1, i + 1, by omega, ⟨by omega, by omega⟩, ?_⟩
    rw [wrap64 _ (by omega) (by omega)]
    refine Norm.trans (Norm.fill (l := l) 1 0 rfl hlt (by first | rfl | (simp [soakS, soakL, Heap.at, Heap.put]; rfl))) ?_
    refine Norm.re [0, 1] (by decide) rfl ?_ (by simp [tmFits, T.ren])
    first | (simp [heapFits, rowFits, obFits, soakS, soakL, Heap.at, Heap.put]; exact renL_fill _ _ _ _ rfl) | exact ⟨trivial, ⟨rfl, rfl, renL_fill _ _ _ _ rfl⟩, trivial⟩
  · have hge : i = l.length := by
      have : ¬ i < l.length := by simpa using hc
      omega
    subst hge
    have fy := Nat.add_zero
    refine goR ?_ ?_ ?_ ?_ ?_ ?_ ?_ ?_ ?_ ?_ ?_ ?_ ?_ ?_ ?_ ?_
    any_goals (first | exact True.intro | skip)
    all_goals (repeat (refine Wh.mk fun hcc => ?_))
    refine SW.ret (show RetQ _ _ _ _ _ _ _ from ⟨.inr rfl, [.ref 1 0 0 l.length], [1], [.ow 1 (l.map Enc.o)], [[], [.gone]], ⟨rfl, ?_, rfl, ?_, rfl, rfl⟩⟩)
    · simp [pass1, modeOf, giveS, Heap.at, Heap.put, fill_all, fixEs, ioAt, ioAtT, ioKs, ioKT, ioM, ioT, T.cel, T.clo, T.cloA, cloAL]
    · simp [cloL, T.clo, T.clP, clPL]
theorem laws_toByteS_ok (l : List UInt8) (hl : Enc.lim 1048576 l) : CallR Try.prog 38 [.sl .b (l.map Enc.b)] [] (.ow 1 (l.map Enc.o)) := by
  refine CallR.of_body (n := 22) (rs := [.tmp 2]) hY.ok Try.func38 rfl (by decide) rfl rfl rfl rfl (fun F => ?_)
  have fx := And.intro Y3 (And.intro Y4 (And.intro Y5 (Y24)))
  have hl1 : l.length ≤ 1048576 := hl.1
  have fy := (fun u1 => mk_fill u1 24 l hl.1 (.int .u8 0) 1 1 _ Y24 Y5 rfl rfl (by decide))
  refine goN ?_ ?_ ?_ ?_ ?_ ?_ ?_ ?_ ?_ ?_ ?_ ?_ ?_ ?_ ?_ ?_
  any_goals (first | exact True.intro | skip)
  skip
  refine SW.loop (fun i : Nat => ⟨[.sl .b (l.map Enc.b), .undef, .undef, .ref 1 0 0 l.length, .int .i64 i, .undef, .undef, .undef, .undef, .undef, .undef, .undef, .undef, .undef, .undef, .undef, .undef, .undef, .undef, .undef, .undef, .undef], [[], [.arr 1 (fillG (.int .u8 0) l i) false]]⟩)
    (fun n i => n = l.length - i ∧ i ≤ l.length) (n := l.length) (x := 0) (Norm.to 0 rfl (by simp [weakL])) ⟨rfl, Nat.zero_le _⟩ ?_
  rintro n i ⟨hn, hi⟩
  have fy := Nat.add_zero
  refine goS ?_
  refine SW.cond rfl (fun hc => ?_) (fun hc => ?_)
  · have hlt : i < l.length := by simpa using hc
    have hltI : (i : Int) < (l.length : Int) := by omega
    have hg : (l.map Enc.b)[i]? = some (.int .u8 (l[i].toNat : Int)) := map_get Enc.b l i hlt
    have hf : (fillG (.int .u8 0) l i)[i]? = some (.int .u8 0) := fill_get _ l i hlt
    have hfl : (fillG (.int .u8 0) l i).length = l.length := fill_len _ l i hi
    have fy := And.intro hg (And.intro hf (And.intro hfl (And.intro hltI (Nat.zero_add))))
    refine goR ?_ ?_ ?_ ?_ ?_ ?_ ?_ ?_ ?_ ?_ ?_ ?_ ?_ ?_ ?_ ?_
    any_goals (first | exact True.intro | skip)
    all_goals (repeat (refine Wh.mk fun hcc => ?_))
    refine ⟨n - 1, i + 1, by omega, ⟨by omega, by omega⟩, ?_⟩
    rw [wrap64 _ (by omega) (by omega)]
    refine Norm.trans (Norm.fill (l := l) 1 0 rfl hlt (by first | rfl | (simp [soakS, soakL, Heap.at, Heap.put]; rfl))) ?_
    refine Norm.re [0, 1] (by decide) rfl ?_ (by simp [tmFits, T.ren])
    first | (simp [heapFits, rowFits, obFits, soakS, soakL, Heap.at, Heap.put]; exact renL_fill _ _ _ _ rfl) | exact ⟨trivial, ⟨rfl, rfl, renL_fill _ _ _ _ rfl⟩, trivial⟩
  · have hge : i = l.length := by
      have : ¬ i < l.length := by simpa using hc
      omega
    subst hge
    have fy := Nat.add_zero
    refine goR ?_ ?_ ?_ ?_ ?_ ?_ ?_ ?_ ?_ ?_ ?_ ?_ ?_ ?_ ?_ ?_
    any_goals (first | exact True.intro | skip)
    all_goals (repeat (refine Wh.mk fun hcc => ?_))
    refine SW.ret (show RetQ _ _ _ _ _ _ _ from ⟨.inr rfl, [.ref 1 0 0 l.length], [1], [.ow 1 (l.map Enc.o)], [[], [.gone]], ⟨rfl, ?_, rfl, ?_, rfl, rfl⟩⟩)
    · simp [pass1, modeOf, giveS, Heap.at, Heap.put, fill_all, fixEs, ioAt, ioAtT, ioKs, ioKT, ioM, ioT, T.cel, T.clo, T.cloA, cloAL]
    · simp [cloL, T.clo, T.clP, clPL]
theorem laws_toObj_ok (x : (Int × (List Int) × (List Int) × Unit)) (hx : Enc.lim 1048576 x) : CallR Try.prog 131 [.nd [.int .i64 x.1, .sl .b (x.2.1.map Enc.b), .sl .b (x.2.2.1.map Enc.b)]] [] (.nd [.int .i64 x.1, .ow 1 (x.2.1.map Enc.o), .ow 1 (x.2.2.1.map Enc.o)]) := by
  refine CallR.of_body (n := 16) (rs := [.cell 2 36]) hY.ok Try.func131 rfl (by decide) rfl rfl rfl rfl (fun F => ?_)
  have fx := And.intro Y1 (And.intro Y2 (And.intro Y3 (And.intro Y34 (And.intro Y36 (Y77)))))
  have hC1 := cx [] (laws_toIntS_ok x.2.1 hx.2.1)
  have hC2 := cx [] (laws_toIntS_ok x.2.2.1 hx.2.2.1)
  have fy := Nat.add_zero
  refine goR ?_ ?_ ?_ ?_ ?_ ?_ ?_ ?_ ?_ ?_ ?_ ?_ ?_ ?_ ?_ ?_
  any_goals (first | exact True.intro | skip)
  all_goals (repeat (refine Wh.mk fun hcc => ?_))
  refine SW.ret (show RetQ _ _ _ _ _ _ _ from ⟨.inr rfl, _, [0], [.nd [.int .i64 x.1, .ow 1 (x.2.1.map Enc.o), .ow 1 (x.2.2.1.map Enc.o)]], ?_, ⟨rfl, ?_, rfl, ?_, rfl, rfl⟩⟩)
  rotate_left
  · first | rfl | (simp [pass1, modeOf, giveS, giveSL, Heap.at, Heap.put, fixEs, ioAt, ioAtT, ioKs, ioKT, ioM, ioT, T.cel, T.clo, cloL, T.cloA, cloAL]; rfl)
  · first | rfl | simp [cloL, T.clo, T.clP, clPL]
theorem laws_toSlot_ok (x : (Bool × ((Int × (List Int) × (List Int) × Unit)) × Unit)) (hx : Enc.lim 1048576 x) : CallR Try.prog 65 [.nd [.bool x.1, .nd [.int .i64 x.2.1.1, .sl .b (x.2.1.2.1.map Enc.b), .sl .b (x.2.1.2.2.1.map Enc.b)]]] [] (.nd [.bool x.1, .nd [.int .i64 x.2.1.1, .ow 1 (x.2.1.2.1.map Enc.o), .ow 1 (x.2.1.2.2.1.map Enc.o)]]) := by
  refine CallR.of_body (n := 12) (rs := [.cell 2 38]) hY.ok Try.func65 rfl (by decide) rfl rfl rfl rfl (fun F => ?_)
  have fx := And.intro Y1 (And.intro Y3 (And.intro Y4 (And.intro Y34 (And.intro Y36 (And.intro Y38 (And.intro Y77 (Y79)))))))
  have hC1 := cx [] (laws_toObj_ok x.2.1 hx.2.1)
  have fy := Nat.add_zero
  refine goR ?_ ?_ ?_ ?_ ?_ ?_ ?_ ?_ ?_ ?_ ?_ ?_ ?_ ?_ ?_ ?_
  any_goals (first | exact True.intro | skip)
  all_goals (repeat (refine Wh.mk fun hcc => ?_))
  refine SW.ret (show RetQ _ _ _ _ _ _ _ from ⟨.inr rfl, _, [0], [.nd [.bool x.1, .nd [.int .i64 x.2.1.1, .ow 1 (x.2.1.2.1.map Enc.o), .ow 1 (x.2.1.2.2.1.map Enc.o)]]], ?_, ⟨rfl, ?_, rfl, ?_, rfl, rfl⟩⟩)
  rotate_left
  · first | rfl | (simp [pass1, modeOf, giveS, giveSL, Heap.at, Heap.put, fixEs, ioAt, ioAtT, ioKs, ioKT, ioM, ioT, T.cel, T.clo, cloL, T.cloA, cloAL]; rfl)
  · first | rfl | simp [cloL, T.clo, T.clP, clPL]
theorem laws_toSlotS_ok (l : List ((Bool × ((Int × (List Int) × (List Int) × Unit)) × Unit))) (hl : Enc.lim 1048576 l) : CallR Try.prog 13 [.sl .b (l.map Enc.b)] [] (.ow 4 (l.map Enc.o)) := by
  refine CallR.of_body (n := 23) (rs := [.tmp 2]) hY.ok Try.func13 rfl (by decide) rfl rfl rfl rfl (fun F => ?_)
  have fx := And.intro Y3 (And.intro Y4 (And.intro Y22 (And.intro Y26 (And.intro Y34 (And.intro Y36 (And.intro Y38 (And.intro Y77 (Y79))))))))
  have hl1 : l.length ≤ 1048576 := hl.1
  have fy := (fun u1 => mk_fill u1 26 l hl.1 (.nd [.bool false, .nd [.int .i64 0, .nils 1, .nils 1]]) 4 64 _ Y26 Y38 rfl rfl (by decide))
  refine goN ?_ ?_ ?_ ?_ ?_ ?_ ?_ ?_ ?_ ?_ ?_ ?_ ?_ ?_ ?_ ?_
  any_goals (first | exact True.intro | skip)
  skip
  refine SW.loop (fun i : Nat => ⟨[.sl .b (l.map Enc.b), .undef, .undef, .ref 1 0 0 l.length, .int .i64 i, .undef, .undef, .undef, .undef, .undef, .undef, .undef, .undef, .undef, .undef, .undef, .undef, .undef, .undef, .undef, .undef, .undef, .undef], [[], [.arr 4 (fillG (.nd [.bool false, .nd [.int .i64 0, .nils 1, .nils 1]]) l i) false]]⟩)
    (fun n i => n = l.length - i ∧ i ≤ l.length) (n := l.length) (x := 0) (Norm.to 0 rfl (by simp [weakL])) ⟨rfl, Nat.zero_le _⟩ ?_
  rintro n i ⟨hn, hi⟩
  have fy := Nat.add_zero
  refine goS ?_
  refine SW.cond rfl (fun hc => ?_) (fun hc => ?_)
  · have hlt : i < l.length := by simpa using hc
    have hltI : (i : Int) < (l.length : Int) := by omega
    have hg : (l.map Enc.b)[i]? = some (.nd [.bool l[i].1, .nd [.int .i64 l[i].2.1.1, .sl .b (l[i].2.1.2.1.map Enc.b), .sl .b (l[i].2.1.2.2.1.map Enc.b)]]) := map_get Enc.b l i hlt
    have hf : (fillG (.nd [.bool false, .nd [.int .i64 0, .nils 1, .nils 1]]) l i)[i]? = some (.nd [.bool false, .nd [.int .i64 0, .nils 1, .nils 1]]) := fill_get _ l i hlt
    have hfl : (fillG (.nd [.bool false, .nd [.int .i64 0, .nils 1, .nils 1]]) l i).length = l.length := fill_len _ l i hi
    have hC1 := cx [] (laws_toSlot_ok l[i] (hl.2 _ (List.getElem_mem hlt)))
    have fy := And.intro hg (And.intro hf (And.intro hfl (And.intro hltI (Nat.zero_add))))
    refine goR ?_ ?_ ?_ ?_ ?_ ?_ ?_ ?_ ?_ ?_ ?_ ?_ ?_ ?_ ?_ ?_
    any_goals (first | exact True.intro | skip)
    all_goals (repeat (refine Wh.mk fun hcc => ?_))
    refine ⟨n - 1, i + 1, by omega, ⟨by omega, by omega⟩, ?_⟩
    rw [wrap64 _ (by omega) (by omega)]
    refine Norm.trans (Norm.fill (l := l) 1 0 rfl hlt (by first | rfl | (simp [soakS, soakL, Heap.at, Heap.put]; rfl))) ?_
    refine Norm.re [0, 1] (by decide) rfl ?_ (by simp [tmFits, T.ren])
    first | (simp [heapFits, rowFits, obFits, soakS, soakL, Heap.at, Heap.put]; exact renL_fill _ _ _ _ rfl) | exact ⟨trivial, ⟨rfl, rfl, renL_fill _ _ _ _ rfl⟩, trivial⟩
  · have hge : i = l.length := by
      have : ¬ i < l.length := by simpa using hc
      omega
    subst hge
    have fy := Nat.add_zero
    refine goR ?_ ?_ ?_ ?_ ?_ ?_ ?_ ?_ ?_ ?_ ?_ ?_ ?_ ?_ ?_ ?_
    any_goals (first | exact True.intro | skip)
    all_goals (repeat (refine Wh.mk fun hcc => ?_))
    refine SW.ret (show RetQ _ _ _ _ _ _ _ from ⟨.inr rfl, [.ref 1 0 0 l.length], [4], [.ow 4 (l.map Enc.o)], [[], [.gone]], ⟨rfl, ?_, rfl, ?_, rfl, rfl⟩⟩)
    · simp [pass1, modeOf, giveS, Heap.at, Heap.put, fill_all, fixEs, ioAt, ioAtT, ioKs, ioKT, ioM, ioT, T.cel, T.clo, T.cloA, cloAL]
    · simp [cloL, T.clo, T.clP, clPL]
end Q6

namespace Q6
open Go Go.Vm Go.Proofs
set_option maxHeartbeats 4000000
set_option synthInstance.maxSize 2000
set_option synthInstance.maxHeartbeats 400000
set_option maxRecDepth 10000
set_option linter.unusedSimpArgs false
set_option linter.unusedVariables false

open Go.By
theorem getRecLaw_ok (l : List UInt8) (hl : Enc.lim maxLen l) : CallR Try.prog 7 [.sl .b (l.map Enc.b)] [] (.bool true) := by
  refine CallR.of_body (n := 93) (rs := [.tmp 2]) hY.ok Try.func7 rfl (by decide) rfl rfl rfl rfl (fun F => ?_)
  have fx := And.intro Y1 (And.intro Y3 (And.intro Y4 (And.intro Y5 (And.intro Y24 (And.intro Y34 (And.intro Y36 (And.intro Y38 (And.intro Y39 (And.intro Y41 (Y91))))))))))
  by_cases hb : l.length > 1048576
  · have hd : decide ((l.length : Int) > 1048576) = true := by simp; omega
    have fy := hd
    refine goK ?_ ?_ ?_ ?_ ?_ ?_ ?_ ?_ ?_ ?_ ?_ ?_ ?_ ?_ ?_ ?_
    any_goals (first | exact True.intro | skip)
    all_goals (repeat (refine Wh.mk fun hcc => ?_))
    all_goals rfl
  have hd : decide ((l.length : Int) > 1048576) = false := by simp; omega
  have hf : Enc.lim 1048576 l := ⟨by omega, fun _ _ => trivial⟩
  have hl1 : l.length ≤ 1048576 := by omega
  have hT := laws_toByteS_ok l hf
  have hS := grecS_ok l hl1
  rw [← grec_eq] at hS
  have hI := grecI_ok l hl1
  have hx := grec_lim l
  generalize grecI l = R at *
  obtain ⟨⟨x1, x2, x3, x4, x5, ⟨p, ⟨u, A, B, u1⟩, u2⟩, ⟨q, ⟨v, C, D, u3⟩, u4⟩, x8, E, u5⟩, b⟩ := R
  have hE := eqRec_ok (x1, x2, x3, x4, x5, (p, (u, A, B, u1), u2), (q, (v, C, D, u3), u4), x8, E, u5) (x1, x2, x3, x4, x5, (p, (u, A, B, u1), u2), (q, (v, C, D, u3), u4), x8, E, u5) hx
  have hE2 := laws_eqByteS_ok l l hf
  rw [decide_eq_true rfl] at hE hE2
  have hM := markByte_ok l 1 hl1 (by decide) (by decide)
  have hk0 : decide (1 + (l.length : Int) < 0) = false := by simp; omega
  have hO := markRec_ok (x1, x2, x3, x4, x5, (p, (u, A, B, u1), u2), (q, (v, C, D, u3), u4), x8, E, u5) 1 hx (by decide) (by decide)
  have hH := heldRec_ok x1 x2 x3 x4 x5 x8 u v p q A.length B.length C.length D.length E.length 1 hx.2.2.2.2.2.1.2.1.2.1.1 hx.2.2.2.2.2.1.2.1.2.2.1.1 hx.2.2.2.2.2.2.1.2.1.2.1.1 hx.2.2.2.2.2.2.1.2.1.2.2.1.1 hx.2.2.2.2.2.2.2.2.1.1 (by decide) (by decide)
  simp only at hS hI hE hO
  have hq0 : decide (1 + (A.length : Int) + (B.length : Int) + (C.length : Int) + (D.length : Int) + 3 * (E.length : Int) < 0) = false := by simp; omega
  clear hx hf hl hb
  have hC1 := cx [] (hT)
  have hC2 := cx [] (hS)
  have hC3 := cx [] (hI)
  have hC4 := cx [] (hE)
  have hC5 := cx [] (hE2)
  have hC6 := cx [.ios] (hM)
  have hC7 := cx [.iov] (hO)
  have hC8 := cx [] (hH)
  have fy := And.intro hd (And.intro hk0 (hq0))
  refine goK ?_ ?_ ?_ ?_ ?_ ?_ ?_ ?_ ?_ ?_ ?_ ?_ ?_ ?_ ?_ ?_
  any_goals (first | exact True.intro | skip)
  all_goals (repeat (refine Wh.mk fun hcc => ?_))
  all_goals first | rfl | (exfalso; simp at hcc; done)
end Q6

namespace Q6.GetRec
open Go Go.Vm Go.Proofs
set_option maxHeartbeats 4000000
set_option synthInstance.maxSize 2000
set_option synthInstance.maxHeartbeats 400000
set_option maxRecDepth 10000
set_option linter.unusedSimpArgs false
set_option linter.unusedVariables false

open Go.Proofs.Ytalhmcbkmpggiaa
open Go.ChangeShapes Go.WideShapes Go.ChangeAt Go.RowKit
theorem own : ownKnob Try.prog.godebug = none := by kernel_rfl
theorem laidOut : laidOutB Try.prog = true := by kernel_rfl
theorem plain24 : plainT Y 12 24 = true := by kernel_rfl

set_option maxRecDepth 100000 in
theorem lifted (os : Os) (started : os.Started) (H : Type) (enc : TypeId × Value → H) :
    ReturnsInHanded {} Try.checked os 7 .any (Rows.fnExactGetRecSpec.pre6 enc Try.prog Try.f7 Rows.fnExactGetRecRow.domain false) (Rows.fnExactGetRecSpec.post enc Try.prog Try.f7 false true false false) := by
  refine returnsInHanded_of_change (C := Try.checked) own started (by kernel_rfl) Try.func7
    (ChangeSpec.witness6 (enc := enc) (C := Try.checked) false ⟨#[], #[.slice none 0 0], []⟩ 8 (by kernel_rfl) (by kernel_rfl) (by kernel_rfl) (by kernel_rfl)) ?_
  intro W base args ds gs before hval0 hW hcnd _
  have hval : ∀ (j : Nat) t v, Try.f7.params[j]? = some t → args[j]? = some v → Value.okWide Try.prog W .any base t v := hval0
  have hW' := hW
  obtain ⟨p, q, hA0, hV, rfl, _, _⟩ := hW
  have hA : DataW.TrodAll enc Try.prog W 0 (fun _ => true) true Try.f7.params.toList args.toList ds p := hA0
  have hV' : DataW.TrodVars enc Try.prog W (fun _ => true) [] gs q := hV
  obtain ⟨rfl, rfl⟩ := trodVars_none hV'
  rw [Try.params7] at hA hval
  have one := trodAll_one hA
  refine (calls_of hY 12 (by simp [plain24]) hA (fun j t v h1 h2 => hval j t v (by simpa using h1) (by simpa using h2)) ?_).mono ?_
  · intro us hu ht
    match us, hu with
    | [u0], _ =>
      obtain ⟨x0, rfl, hx0⟩ := Enc.dec (α := List UInt8) Y 12 24 u0 (by kernel_rfl) (ht 0 24 u0 rfl rfl)
      exact getRecLaw_ok x0 hx0
  · rintro e W' ⟨rfl, h1, h2⟩
    obtain ⟨v, d, _, rfl, _⟩ := one
    exact ⟨_, rfl, post_true (tb := 4) laidOut (by rw [Try.params7]; exact of_decide_eq_true (by kernel_rfl)) rfl hW' rfl rfl rfl rfl (by kernel_rfl) h1 h2⟩

theorem fnExactGetRec_holds : Rows.FnExactGetRecSaid :=
  OpenClaim.holds_of_wide 7 Try.f7 rfl rfl rfl rfl rfl rfl rfl ⟨rfl, rfl, rfl, rfl, rfl⟩ rfl rfl rfl rfl rfl (by kernel_rfl) Try.func7 (by kernel_rfl)
    (of_decide_eq_true (by kernel_rfl)) (by unfold Func.isWrapper; first | (rw [if_pos (by decide +kernel)]; kernel_rfl) | (rw [if_neg (by decide +kernel)]; exact ⟨rfl, rfl⟩))
    (fun os started H enc _ => lifted os started H enc)
end Q6.GetRec

namespace Go.Proofs.Ytalhmcbkmpggiaa
/-- FnExactGetRec: the program's GetRec returns what the reference's returns, for all arguments. -/
theorem fnExactGetRec_holds : Rows.FnExactGetRecSaid := Q6.GetRec.fnExactGetRec_holds
#print axioms fnExactGetRec_holds
end Go.Proofs.Ytalhmcbkmpggiaa
