/- A drawn record that is right comes back of its bytes, and of its bytes without the last one no record is read: the law laws.FnRecords answers true whatever bytes it is given; no conditions. -/
import Derived.Test.YtalhmcbkmpggiaaRecordsP1
import Derived.Test.YtalhmcbkmpggiaaRecordsP5
import Derived.Test.YtalhmcbkmpggiaaVm5
import Derived.Test.YtalhmcbkmpggiaaRows
import Derived.ProofKit
set_option linter.all false

namespace Q6
open Go Go.Vm Go.Proofs
set_option maxHeartbeats 4000000
set_option synthInstance.maxSize 2000
set_option synthInstance.maxHeartbeats 400000
set_option maxRecDepth 10000
set_option linter.unusedSimpArgs false
set_option linter.unusedVariables false

abbrev recEndK (x : (Int × Int × Int × Int × Int × ((Bool × ((Int × (List Int) × (List Int) × Unit)) × Unit)) × ((Bool × ((Int × (List Int) × (List Int) × Unit)) × Unit)) × Int × (List ((Int × Int × Bool × Unit))) × Unit)) (k : Int) : Int := k + x.2.2.2.2.2.1.2.1.2.1.length + x.2.2.2.2.2.1.2.1.2.2.1.length + x.2.2.2.2.2.2.1.2.1.2.1.length + x.2.2.2.2.2.2.1.2.1.2.2.1.length + 3 * x.2.2.2.2.2.2.2.2.1.length
theorem markRec_ok (x : (Int × Int × Int × Int × Int × ((Bool × ((Int × (List Int) × (List Int) × Unit)) × Unit)) × ((Bool × ((Int × (List Int) × (List Int) × Unit)) × Unit)) × Int × (List ((Int × Int × Bool × Unit))) × Unit)) (k : Int) (hx : Enc.lim 1048576 x) (h0 : 0 ≤ k) (h1 : k ≤ 281474976710656) : CallR Try.prog 44 [.nd [.int .i64 x.1, .int .i64 x.2.1, .int .i64 x.2.2.1, .int .i64 x.2.2.2.1, .int .i64 x.2.2.2.2.1, .nd [.bool x.2.2.2.2.2.1.1, .nd [.int .i64 x.2.2.2.2.2.1.2.1.1, .io (.tup [.ow 1 (x.2.2.2.2.2.1.2.1.2.1.map Enc.o)]), .io (.tup [.ow 1 (x.2.2.2.2.2.1.2.1.2.2.1.map Enc.o)])]], .nd [.bool x.2.2.2.2.2.2.1.1, .nd [.int .i64 x.2.2.2.2.2.2.1.2.1.1, .io (.tup [.ow 1 (x.2.2.2.2.2.2.1.2.1.2.1.map Enc.o)]), .io (.tup [.ow 1 (x.2.2.2.2.2.2.1.2.1.2.2.1.map Enc.o)])]], .int .i64 x.2.2.2.2.2.2.2.1, .io (.tup [.ow 3 (x.2.2.2.2.2.2.2.2.1.map Enc.o)])], .int .i64 k] [.tup [.ow 1 ((marksG id x.2.2.2.2.2.1.2.1.2.1.length (k)).map Enc.o)], .tup [.ow 1 ((marksG id x.2.2.2.2.2.1.2.1.2.2.1.length (k + x.2.2.2.2.2.1.2.1.2.1.length)).map Enc.o)], .tup [.ow 1 ((marksG id x.2.2.2.2.2.2.1.2.1.2.1.length (k + x.2.2.2.2.2.1.2.1.2.1.length + x.2.2.2.2.2.1.2.1.2.2.1.length)).map Enc.o)], .tup [.ow 1 ((marksG id x.2.2.2.2.2.2.1.2.1.2.2.1.length (k + x.2.2.2.2.2.1.2.1.2.1.length + x.2.2.2.2.2.1.2.1.2.2.1.length + x.2.2.2.2.2.2.1.2.1.2.1.length)).map Enc.o)], .tup [.ow 3 ((marksG (lvM (k + x.2.2.2.2.2.1.2.1.2.1.length + x.2.2.2.2.2.1.2.1.2.2.1.length + x.2.2.2.2.2.2.1.2.1.2.1.length + x.2.2.2.2.2.2.1.2.1.2.2.1.length)) x.2.2.2.2.2.2.2.2.1.length 0).map Enc.o)]] (.int .i64 (k + x.2.2.2.2.2.1.2.1.2.1.length + x.2.2.2.2.2.1.2.1.2.2.1.length + x.2.2.2.2.2.2.1.2.1.2.1.length + x.2.2.2.2.2.2.1.2.1.2.2.1.length + 3 * x.2.2.2.2.2.2.2.2.1.length)) := by
  refine CallR.of_body (n := 18) (rs := [.tmp 4]) hY.ok Try.func44 rfl (by decide) rfl rfl rfl rfl (fun F => ?_)
  have fx := And.intro Y2 (And.intro Y3 (And.intro Y4 (And.intro Y5 (And.intro Y6 (And.intro Y8 (And.intro Y34 (And.intro Y36 (And.intro Y38 (And.intro Y39 (And.intro Y41 (Y91)))))))))))
  have ha := hx.2.2.2.2.2.1.2.1.2.1.1
  have hb := hx.2.2.2.2.2.1.2.1.2.2.1.1
  have hc := hx.2.2.2.2.2.2.1.2.1.2.1.1
  have hd := hx.2.2.2.2.2.2.1.2.1.2.2.1.1
  have he := hx.2.2.2.2.2.2.2.2.1.1
  have m1 := markSlot_ok x.2.2.2.2.2.1 k ⟨ha, hb⟩ h0 (by omega)
  have m2 := markSlot_ok x.2.2.2.2.2.2.1 (k + x.2.2.2.2.2.1.2.1.2.1.length + x.2.2.2.2.2.1.2.1.2.2.1.length) ⟨hc, hd⟩ (by omega) (by omega)
  have m3 := markLive_ok x.2.2.2.2.2.2.2.2.1 (k + x.2.2.2.2.2.1.2.1.2.1.length + x.2.2.2.2.2.1.2.1.2.2.1.length + x.2.2.2.2.2.2.1.2.1.2.1.length + x.2.2.2.2.2.2.1.2.1.2.2.1.length) he (by omega) (by omega)
  have hC1 := cx [.iov] (m1)
  have hC2 := cx [.iov] (m2)
  have hC3 := cx [.ios] (m3)
  have fy := Nat.add_zero
  refine goR ?_ ?_ ?_ ?_ ?_ ?_ ?_ ?_ ?_ ?_ ?_ ?_ ?_ ?_ ?_ ?_
  any_goals (first | exact True.intro | skip)
  all_goals (repeat (refine Wh.mk fun hcc => ?_))
  all_goals exact SW.ret (show RetQ _ _ _ _ _ _ _ from RetQ.y [0] [.int .i64 (k + x.2.2.2.2.2.1.2.1.2.1.length + x.2.2.2.2.2.1.2.1.2.2.1.length + x.2.2.2.2.2.2.1.2.1.2.1.length + x.2.2.2.2.2.2.1.2.1.2.2.1.length + 3 * x.2.2.2.2.2.2.2.2.1.length)])
theorem heldRec_ok (x1 x2 x3 x4 x5 x8 u v : Int) (p q : Bool) (a b c d e : Nat) (k : Int) (ha : a ≤ 1048576) (hb : b ≤ 1048576) (hc : c ≤ 1048576) (hd : d ≤ 1048576) (he : e ≤ 1048576) (h0 : 0 ≤ k) (h1 : k ≤ 281474976710656) : CallR Try.prog 45 [.nd [.int .i64 x1, .int .i64 x2, .int .i64 x3, .int .i64 x4, .int .i64 x5, .nd [.bool p, .nd [.int .i64 u, .sl .b ((marksG id a (k)).map Enc.b), .sl .b ((marksG id b (k + a)).map Enc.b)]], .nd [.bool q, .nd [.int .i64 v, .sl .b ((marksG id c (k + a + b)).map Enc.b), .sl .b ((marksG id d (k + a + b + c)).map Enc.b)]], .int .i64 x8, .sl .b ((marksG (lvM (k + a + b + c + d)) e 0).map Enc.b)], .int .i64 k] [] (.int .i64 (k + a + b + c + d + 3 * e)) := by
  refine CallR.of_body (n := 24) (rs := [.tmp 4]) hY.ok Try.func45 rfl (by decide) rfl rfl rfl rfl (fun F => ?_)
  have fx := And.intro Y2 (And.intro Y3 (And.intro Y4 (And.intro Y5 (And.intro Y6 (And.intro Y8 (And.intro Y34 (And.intro Y36 (And.intro Y38 (And.intro Y39 (And.intro Y41 (Y91)))))))))))
  have hq1 : decide (k + (a : Int) + (b : Int) < 0) = false := by simp; omega
  have hq2 : decide (k + (a : Int) + (b : Int) + (c : Int) + (d : Int) < 0) = false := by simp; omega
  have hq3 : decide (k + (a : Int) + (b : Int) + (c : Int) + (d : Int) + 3 * (e : Int) < 0) = false := by simp; omega
  have hC1 := cx [] (heldSlot_ok p u a b k ha hb h0 (by omega))
  have hC2 := cx [] (heldSlot_ok q v c d (k + a + b) hc hd (by omega) (by omega))
  have hC3 := cx [] (heldLive_ok e (k + a + b + c + d) he (by omega) (by omega))
  have fy := And.intro hq1 (And.intro hq2 (hq3))
  refine goK ?_ ?_ ?_ ?_ ?_ ?_ ?_ ?_ ?_ ?_ ?_ ?_ ?_ ?_ ?_ ?_
  any_goals (first | exact True.intro | skip)
  all_goals (repeat (refine Wh.mk fun hcc => ?_))
  all_goals simp [tupOf, fixEs]
end Q6

namespace Q6
open Go Go.Vm Go.Proofs
set_option maxHeartbeats 4000000
set_option synthInstance.maxSize 2000
set_option synthInstance.maxHeartbeats 400000
set_option maxRecDepth 10000
set_option linter.unusedSimpArgs false
set_option linter.unusedVariables false

theorem markByte_ok (l : List UInt8) (k : Int) (hl : l.length ≤ 1048576) (h0 : 0 ≤ k) (h1 : k ≤ 1125899906842624) : CallR Try.prog 18 [.io (.tup [.ow 1 (l.map Enc.o)]), .int .i64 k] [.tup [.ow 1 ((marksG byt l.length k).map Enc.o)]] (.int .i64 (k + l.length)) := by
  refine CallR.of_body (n := 20) (rs := [.tmp 4]) hY.ok Try.func18 rfl (by decide) rfl rfl rfl rfl (fun F => ?_)
  have fx := And.intro Y3 (And.intro Y4 (And.intro Y5 (Y24)))
  have fy := Nat.add_zero
  refine goN ?_ ?_ ?_ ?_ ?_ ?_ ?_ ?_ ?_ ?_ ?_ ?_ ?_ ?_ ?_ ?_
  any_goals (first | exact True.intro | skip)
  skip
  refine SW.loop (fun i : Nat => ⟨[.ref 0 0 0 l.length, .int .i64 (k + (i : Nat)), .undef, .undef, .undef, .int .i64 i, .undef, .undef, .undef, .undef, .undef, .undef, .undef, .undef, .undef, .undef, .undef, .undef, .undef, .undef], [[.arr 1 ((mixG byt l k i).map Enc.o) false]]⟩)
    (fun n i => n = l.length - i ∧ i ≤ l.length) (n := l.length) (x := 0) (Norm.re [0] (by decide) rfl (by simp [heapFits, rowFits, obFits, mixG_zero]) (by simp [tmFits, T.ren])) ⟨rfl, Nat.zero_le _⟩ ?_
  rintro n i ⟨hn, hi⟩
  have fy := Nat.add_zero
  refine goS ?_
  refine SW.cond rfl (fun hc => ?_) (fun hc => ?_)
  · have hlt : i < l.length := by simp at hc; omega
    have hltI : (i : Int) < (l.length : Int) := by omega
    have hg : ((mixG byt l k i).map Enc.o)[i]? = some (.int .u8 (l[i].toNat : Int)) := mixG_get byt l k i hlt
    have hs : ((mixG byt l k i).map Enc.o).set i (.int .u8 ((byt (k + (i : Nat))).toNat : Int)) = (mixG byt l k (i + 1)).map Enc.o := mixG_set byt l k i hlt
    have fy := And.intro hg (And.intro hs (And.intro hltI (And.intro Nat.zero_add (Int.toNat_natCast))))
    refine goR ?_ ?_ ?_ ?_ ?_ ?_ ?_ ?_ ?_ ?_ ?_ ?_ ?_ ?_ ?_ ?_
    any_goals (first | exact True.intro | skip)
    all_goals (repeat (refine Wh.mk fun hcc => ?_))
    refine ⟨n - 1, i + 1, by omega, ⟨by omega, by omega⟩, ?_⟩
    rw [wrap64 _ (by omega) (by omega), wrap64 _ (by omega) (by omega), show k + (i : Int) + 1 = k + ((i + 1 : Nat) : Int) by omega]
    exact Norm.re [0] (by decide) rfl (by simp only [eq_self, heapFits, rowFits, obFits, List.getElem?_cons_zero, List.getElem?_cons_succ, renL_o, renL_b, true_and, and_true, and_self]) (by simp [tmFits, T.ren])
  · have hge : i = l.length := by
      have : ¬ i < l.length := by simp at hc; omega
      omega
    subst hge
    rw [mixG_all]
    have fy := Nat.add_zero
    refine goR ?_ ?_ ?_ ?_ ?_ ?_ ?_ ?_ ?_ ?_ ?_ ?_ ?_ ?_ ?_ ?_
    any_goals (first | exact True.intro | skip)
    all_goals (repeat (refine Wh.mk fun hcc => ?_))
    refine SW.ret (show RetQ _ _ _ _ _ _ _ from ⟨.inr rfl, _, [0], [.int .i64 (k + l.length)], ?_, ⟨rfl, ?_, rfl, rfl, ?_, rfl⟩⟩)
    rotate_left
    · (simp [-List.map_set, -List.map_append, pass1, modeOf, giveS, giveSL, Heap.at, Heap.put, fixEs, ioAt, ioAtT, ioKs, ioKT, ioM, ioT, thawA, thawAL, T.asArr, T.cel, T.clo, cloL, T.cloA, cloAL]; rfl)
    · simp [cloOL, T.cloO, T.asArr]
theorem heldByte_ok (n : Nat) (k : Int) (hl : n ≤ 1048576) (h0 : 0 ≤ k) (h1 : k ≤ 1125899906842624) : CallR Try.prog 19 [.sl .b ((marksG byt n k).map Enc.b), .int .i64 k] [] (.int .i64 (k + n)) := by
  refine CallR.of_body (n := 22) (rs := [.tmp 4]) hY.ok Try.func19 rfl (by decide) rfl rfl rfl rfl (fun F => ?_)
  have fx := And.intro Y3 (And.intro Y4 (And.intro Y5 (Y24)))
  have fy := Nat.add_zero
  refine goN ?_ ?_ ?_ ?_ ?_ ?_ ?_ ?_ ?_ ?_ ?_ ?_ ?_ ?_ ?_ ?_
  any_goals (first | exact True.intro | skip)
  skip
  refine SW.loop (fun i : Nat => ⟨[.sl .b ((marksG byt n k).map Enc.b), .int .i64 (k + (i : Nat)), .undef, .undef, .undef, .int .i64 i, .undef, .undef, .undef, .undef, .undef, .undef, .undef, .undef, .undef, .undef, .undef, .undef, .undef, .undef, .undef, .undef], [[]]⟩)
    (fun N i => N = n - i ∧ i ≤ n) (n := n) (x := 0) (Norm.to 0 rfl (by simp [weakL])) ⟨rfl, Nat.zero_le _⟩ ?_
  rintro N i ⟨hn, hi⟩
  have fy := Nat.add_zero
  refine goS ?_
  refine SW.cond rfl (fun hc => ?_) (fun hc => ?_)
  · have hlt : i < n := by simp at hc; omega
    have hg : ((marksG byt n k).map Enc.b)[i]? = some (.int .u8 ((byt (k + (i : Nat))).toNat : Int)) := by rw [map_get Enc.b _ i (by rw [marksG_len]; exact hlt), marksG_get byt n k i hlt]; rfl
    have fy := And.intro hg (And.intro Nat.zero_add (Int.toNat_natCast))
    refine goR ?_ ?_ ?_ ?_ ?_ ?_ ?_ ?_ ?_ ?_ ?_ ?_ ?_ ?_ ?_ ?_
    any_goals (first | exact True.intro | skip)
    all_goals (repeat (refine Wh.mk fun hcc => ?_))
    all_goals first | (exfalso; simp at hcc; done) | skip
    refine ⟨N - 1, i + 1, by omega, ⟨by omega, by omega⟩, ?_⟩
    rw [wrap64 _ (by omega) (by omega), wrap64 _ (by omega) (by omega), show k + (i : Int) + 1 = k + ((i + 1 : Nat) : Int) by omega]
    exact Norm.to 0 rfl (by simp [weakL])
  · have hge : i = n := by
      have : ¬ i < n := by simp at hc; omega
      omega
    subst hge
    have fy := Nat.add_zero
    refine goK ?_ ?_ ?_ ?_ ?_ ?_ ?_ ?_ ?_ ?_ ?_ ?_ ?_ ?_ ?_ ?_
    any_goals (first | exact True.intro | skip)
    all_goals (repeat (refine Wh.mk fun hcc => ?_))
    simp [tupOf, fixEs]
end Q6

namespace Q6
open Go Go.Vm Go.Proofs
set_option maxHeartbeats 4000000
set_option synthInstance.maxSize 2000
set_option synthInstance.maxHeartbeats 400000
set_option maxRecDepth 10000
set_option linter.unusedSimpArgs false
set_option linter.unusedVariables false

open Go.By

theorem grec_lim (l : List UInt8) : Enc.lim 1048576 (grecI l).1 := by
  rw [grec_eq]
  have hs : ∀ s, Enc.lim 1048576 (slotS l s).1 := fun s => ⟨trivial, ⟨trivial, ⟨by have := (slotS_lim l s).1; omega, fun _ _ => trivial⟩, ⟨by have := (slotS_lim l s).2; omega, fun _ _ => trivial⟩, trivial⟩, trivial⟩
  have hn : ∀ (n : Nat) (s : RS), (livesS l n s).1.length ≤ n := by
    intro n
    induction n with
    | zero => intro s; exact Nat.le_refl _
    | succ n ih =>
      intro s
      unfold livesS
      split
      · exact Nat.zero_le _
      · have := ih (liveS l s).2
        simp only [List.length_cons]; omega
  unfold grecS
  simp only
  unfold grecKS recEnd
  split
  · refine ⟨trivial, trivial, trivial, trivial, trivial, hs _, hs _, trivial, ⟨?_, fun _ _ => ⟨trivial, trivial, trivial, trivial⟩⟩, trivial⟩
    exact Nat.le_trans (hn _ _) (Nat.le_trans (Nat.min_le_right _ _) (by decide))
  · unfold rec0 slot0'
    exact ⟨trivial, trivial, trivial, trivial, trivial, ⟨trivial, ⟨trivial, ⟨Nat.zero_le _, fun _ _ => trivial⟩, ⟨Nat.zero_le _, fun _ _ => trivial⟩, trivial⟩, trivial⟩, ⟨trivial, ⟨trivial, ⟨Nat.zero_le _, fun _ _ => trivial⟩, ⟨Nat.zero_le _, fun _ _ => trivial⟩, trivial⟩, trivial⟩, trivial, ⟨Nat.zero_le _, fun _ _ => ⟨trivial, trivial, trivial, trivial⟩⟩, trivial⟩

end Q6

namespace Q6
open Go Go.Vm Go.Proofs
set_option maxHeartbeats 4000000
set_option synthInstance.maxSize 2000
set_option synthInstance.maxHeartbeats 400000
set_option maxRecDepth 10000
set_option linter.unusedSimpArgs false
set_option linter.unusedVariables false

open Go.By

theorem recL_lim {x : RecT} {n : Nat} (h : recL x n) (hn : n ≤ 1000) : Enc.lim 1048576 x := by
  obtain ⟨h1, h2, h3⟩ := h
  have g1 := slotB_lim h1
  have g2 := slotB_lim h2
  exact ⟨trivial, trivial, trivial, trivial, trivial, ⟨trivial, ⟨trivial, ⟨by omega, fun _ _ => trivial⟩, ⟨by omega, fun _ _ => trivial⟩, trivial⟩, trivial⟩, ⟨trivial, ⟨trivial, ⟨by omega, fun _ _ => trivial⟩, ⟨by omega, fun _ _ => trivial⟩, trivial⟩, trivial⟩, trivial, ⟨by omega, fun _ _ => ⟨trivial, trivial, trivial, trivial⟩⟩, trivial⟩
theorem drawPut_lim (l : List UInt8) (hl : l.length ≤ 1048576) : Enc.lim 1048576 (drawPutF l) := recL_lim (recAnyF_ok l (0, newF l) hl (Nat.zero_le _)).2 (by decide)
@[local simp] theorem lendKL_tk {α : Type} [Enc α] (k : T → RM T) (n : Nat) (l : List α) : lendKL (lendA k) ((l.map Enc.o).take n) = .pure ((l.map Enc.b).take n) := by
  rw [← List.map_take, ← List.map_take]; exact lendKL_o k _
theorem putRec_pos (x : RecT) : 0 < (putRec x).length := by
  have := putI_pos x.2.2.2.2.2.2.2.2.1.length
  unfold putRec
  simp only [List.length_append]
  omega

theorem recordsLaw_ok (l : List UInt8) : CallR Try.prog 4 [.sl .s (l.map Enc.b)] [] (.bool true) := by
  refine CallR.of_body (n := 85) (rs := [.tmp 2]) hY.ok Try.func4 rfl (by decide) rfl rfl rfl rfl (fun F => ?_)
  have fx := And.intro Y1 (And.intro Y2 (And.intro Y3 (And.intro Y4 (And.intro Y5 (And.intro Y6 (And.intro Y8 (And.intro Y24 (And.intro Y34 (And.intro Y36 (And.intro Y38 (And.intro Y39 (And.intro Y41 (Y91)))))))))))))
  have hbg := big_ok l
  by_cases hb : (1048576 : Int) < (l.length : Int)
  · rw [decide_eq_true hb] at hbg
    have hC1 := cx [.own 1] (hbg)
    have fy := Nat.add_zero
    refine goK ?_ ?_ ?_ ?_ ?_ ?_ ?_ ?_ ?_ ?_ ?_ ?_ ?_ ?_ ?_ ?_
    any_goals (first | exact True.intro | skip)
    all_goals (repeat (refine Wh.mk fun hcc => ?_))
    all_goals rfl
  rw [decide_eq_false hb] at hbg
  have hl1 : l.length ≤ 1048576 := by omega
  have hD := drawPutW_ok l hl1
  have hx := drawPut_lim l hl1
  generalize drawPutF l = x at *
  have hS := specRecOk_ok x hx
  have hI := implRecOk_ok x hx
  cases hr : recB x
  · have hP := iPutRec_n x hx hr
    rw [hr] at hS hI
    clear hx hr
    obtain ⟨r1, r2, r3, r4, r5, ⟨rp, ⟨ru, rA, rB, ⟨⟩⟩, ⟨⟩⟩, ⟨rq, ⟨rv, rC, rD, ⟨⟩⟩, ⟨⟩⟩, r8, rE, ⟨⟩⟩ := x
    simp only at hD hP hS hI
    have hC1 := cx [.own 1] (hbg)
    have hC2 := cx [.own 1] (hD)
    have hC3 := cx [] (hP)
    have hC4 := cx [] (hS)
    have hC5 := cx [] (hI)
    have fy := Nat.add_zero
    refine goK ?_ ?_ ?_ ?_ ?_ ?_ ?_ ?_ ?_ ?_ ?_ ?_ ?_ ?_ ?_ ?_
    any_goals (first | exact True.intro | skip)
    all_goals (repeat (refine Wh.mk fun hcc => ?_))
    all_goals (first | (simp only [tupOf, fixEs]; done) | (simp only [tupOf, fixEs]; rfl) | rfl)
  · have hP := iPutRec_y x hx hr
    rw [hr] at hS hI
    have hlen := putRec_len hr
    have hpos := putRec_pos x
    have hG := grecI_ok (putRec x) hlen
    rw [grec_put hr] at hG
    have hcl : ((putRec x).take ((putRec x).length - 1)).length ≤ 1048576 := by rw [List.length_take]; omega
    have hC := grecI_ok _ hcl
    rw [grec_eq] at hC
    have hcf := grec_cut hr hpos
    generalize grecS ((putRec x).take ((putRec x).length - 1)) = z at *
    obtain ⟨z, zb⟩ := z
    simp only at hcf
    subst hcf
    have hE := laws_sameBytes_ok (putRec x) (putRec x) ⟨hlen, fun _ _ => trivial⟩
    rw [decide_eq_true rfl] at hE
    clear hx hr hcl
    generalize hp : putRec x = p at *
    have hsub : IntKind.i64.wrap ((p.length : Int) - 1) = ((p.length - 1 : Nat) : Int) := by rw [wrap64 _ (by omega) (by omega)]; omega
    clear hp
    have hsr := fun (e j : Nat) (H : Heap) (q1 : H.at e j = some (.arr 1 (p.map Enc.o) false)) => show (sliceM Y 24 (.ref e j 0 p.length) none (some (.int .i64 ((p.length - 1 : Nat) : Int))) none).run H = some { v := .ref e j 0 (p.length - 1) } by simp [sliceM, Y24, Y5, loF, hiF, RM.run, q1]
    obtain ⟨r1, r2, r3, r4, r5, ⟨rp, ⟨ru, rA, rB, ⟨⟩⟩, ⟨⟩⟩, ⟨rq, ⟨rv, rC, rD, ⟨⟩⟩, ⟨⟩⟩, r8, rE, ⟨⟩⟩ := x
    obtain ⟨z1, z2, z3, z4, z5, ⟨zp, ⟨zu, zA, zB, ⟨⟩⟩, ⟨⟩⟩, ⟨zq, ⟨zv, zC, zD, ⟨⟩⟩, ⟨⟩⟩, z8, zE, ⟨⟩⟩ := z
    simp only at hD hP hS hI hG hC
    rw [List.map_take] at hC
    have hC1 := cx [.own 1] (hbg)
    have hC2 := cx [.own 1] (hD)
    have hC3 := cx [] (hP)
    have hC4 := cx [] (hS)
    have hC5 := cx [] (hI)
    have hC6 := cx [] (hG)
    have hC7 := cx [] (hC)
    have hC8 := cx [] (hE)
    have fy := And.intro hsub (hsr)
    refine goK ?_ ?_ ?_ ?_ ?_ ?_ ?_ ?_ ?_ ?_ ?_ ?_ ?_ ?_ ?_ ?_
    any_goals (first | exact True.intro | skip)
    all_goals (repeat (refine Wh.mk fun hcc => ?_))
    all_goals (first | (simp only [tupOf, fixEs]; done) | (simp only [tupOf, fixEs]; rfl) | rfl)
end Q6

namespace Q6.Records
open Go Go.Vm Go.Proofs
set_option maxHeartbeats 4000000
set_option synthInstance.maxSize 2000
set_option synthInstance.maxHeartbeats 400000
set_option maxRecDepth 10000
set_option linter.unusedSimpArgs false
set_option linter.unusedVariables false

open Go.Proofs.Ytalhmcbkmpggiaa
open Go.ChangeShapes Go.WideShapes Go.ChangeAt Go.RowKit
theorem own : ownKnob Try.prog.godebug = none := by kernel_rfl
theorem laidOut : laidOutB Try.prog = true := by kernel_rfl
theorem plain24 : plainT Y 12 24 = true := by kernel_rfl

set_option maxRecDepth 100000 in
theorem lifted (os : Os) (started : os.Started) (H : Type) (enc : TypeId × Value → H) :
    ReturnsInHanded {} Try.checked os 4 .any (Rows.fnRecordsSpec.pre6 enc Try.prog Try.f4 Rows.fnRecordsRow.domain false) (Rows.fnRecordsSpec.post enc Try.prog Try.f4 false true false false) := by
  refine returnsInHanded_of_change (C := Try.checked) own started (by kernel_rfl) Try.func4
    (ChangeSpec.witness6 (enc := enc) (C := Try.checked) false ⟨#[], #[.slice none 0 0], []⟩ 8 (by kernel_rfl) (by kernel_rfl) (by kernel_rfl) (by kernel_rfl)) ?_
  intro W base args ds gs before hval0 hW hcnd _
  have hval : ∀ (j : Nat) t v, Try.f4.params[j]? = some t → args[j]? = some v → Value.okWide Try.prog W .any base t v := hval0
  have hW' := hW
  obtain ⟨p, q, hA0, hV, rfl, _, _⟩ := hW
  have hA : DataW.TrodAll enc Try.prog W 0 (fun _ => true) true Try.f4.params.toList args.toList ds p := hA0
  have hV' : DataW.TrodVars enc Try.prog W (fun _ => true) [] gs q := hV
  obtain ⟨rfl, rfl⟩ := trodVars_none hV'
  rw [Try.params4] at hA hval
  have one := trodAll_one hA
  refine (calls_ofS hY 12 (by simp [plain24]) hA (fun j t v h1 h2 => hval j t v (by simpa using h1) (by simpa using h2)) ?_).mono ?_
  · intro us hu ht
    match us, hu with
    | [u0], _ =>
      obtain ⟨x0, rfl, hx0⟩ := Enc.dec (α := List UInt8) Y 12 24 u0 (by kernel_rfl) (ht 0 24 u0 rfl rfl)
      exact recordsLaw_ok x0
  · rintro e W' ⟨rfl, h1, h2⟩
    obtain ⟨v, d, _, rfl, _⟩ := one
    exact ⟨_, rfl, post_true (tb := 4) laidOut (by rw [Try.params4]; exact of_decide_eq_true (by kernel_rfl)) rfl hW' rfl rfl rfl rfl (by kernel_rfl) h1 h2⟩

theorem fnRecords_holds : Rows.FnRecordsSaid :=
  OpenClaim.holds_of_wide 4 Try.f4 rfl rfl rfl rfl rfl rfl rfl ⟨rfl, rfl, rfl, rfl, rfl⟩ rfl rfl rfl rfl rfl (by kernel_rfl) Try.func4 (by kernel_rfl)
    (of_decide_eq_true (by kernel_rfl)) (by unfold Func.isWrapper; first | (rw [if_pos (by decide +kernel)]; kernel_rfl) | (rw [if_neg (by decide +kernel)]; exact ⟨rfl, rfl⟩))
    (fun os started H enc _ => lifted os started H enc)
end Q6.Records

namespace Go.Proofs.Ytalhmcbkmpggiaa
/-- A drawn record that is right comes back of its bytes, and of its bytes without the last one no record is read: the law laws.FnRecords answers true whatever bytes it is given; no conditions. -/
theorem fnRecords_holds : Rows.FnRecordsSaid := Q6.Records.fnRecords_holds
#print axioms fnRecords_holds
end Go.Proofs.Ytalhmcbkmpggiaa
