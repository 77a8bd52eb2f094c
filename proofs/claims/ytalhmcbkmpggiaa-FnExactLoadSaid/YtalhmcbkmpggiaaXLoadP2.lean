/- Shows what the parts of the program do that the claim reaches: a machine of values over the model, and the contracts of functions, for all arguments within the lengths that each theorem names. -/
import Derived.Test.YtalhmcbkmpggiaaXLoadP1
import Derived.Test.YtalhmcbkmpggiaaXLoadV5
set_option linter.all false

namespace Q6
open Go Go.Vm Go.Proofs
set_option maxHeartbeats 4000000
set_option synthInstance.maxSize 2000
set_option synthInstance.maxHeartbeats 400000
set_option maxRecDepth 10000
set_option linter.unusedSimpArgs false
set_option linter.unusedVariables false

abbrev PageT := (Int × ((((Bool × ((Int × (List Int) × (List Int) × Unit)) × Unit)) × ((Bool × ((Int × (List Int) × (List Int) × Unit)) × Unit)) × ((Bool × ((Int × (List Int) × (List Int) × Unit)) × Unit)) × ((Bool × ((Int × (List Int) × (List Int) × Unit)) × Unit)) × Unit)) × Unit)
def pageB (x : PageT) : Bool := rng x.1 0 1000000 && (slotB x.2.1.1 && (slotB x.2.1.2.1 && (slotB x.2.1.2.2.1 && slotB x.2.1.2.2.2.1)))
theorem page1_ok (x : SlotT) (hx : Enc.lim 1048576 x) : CallR Try.prog 96 [.nd [.bool x.1, .nd [.int .i64 x.2.1.1, .sl .b (x.2.1.2.1.map Enc.b), .sl .b (x.2.1.2.2.1.map Enc.b)]]] [] (.bool (!slotB x)) := by
  refine CallR.of_body (n := 6) (rs := [.tmp 2]) hY.ok Try.func96 rfl (by decide) rfl rfl rfl rfl (fun F => ?_)
  have fx := And.intro Y3 (And.intro Y4 (And.intro Y34 (And.intro Y36 (Y38))))
  have hC1 := cx [] (slotOk_ok x hx)
  have fy := Nat.add_zero
  refine goK ?_ ?_ ?_ ?_ ?_ ?_ ?_ ?_ ?_ ?_ ?_ ?_ ?_ ?_ ?_ ?_
  any_goals (first | exact True.intro | skip)
  all_goals (repeat (refine Wh.mk fun hcc => ?_))
  all_goals (first | rfl | ((try simp only [tupOf, fixEs]); (first | done | rfl | (simp_all []; done) | grind [])))
theorem idxSlotP_ok (l : List ((Bool × ((Int × (List Int) × (List Int) × Unit)) × Unit))) (hl : Enc.lim 1048576 l) : CallR Try.prog 101 [.sl .b (l.map Enc.b), .fn 96 [] []] [] (.int .i64 (idxOf (fun x => !slotB x) l)) := by
  refine CallR.of_body (n := 19) (rs := [.tmp 4]) hY.ok Try.func101 rfl (by decide) rfl rfl rfl rfl (fun F => ?_)
  have fx := And.intro Y3 (And.intro Y4 (And.intro Y26 (And.intro Y34 (And.intro Y36 (And.intro Y38 (Y93))))))
  have hl1 : l.length ≤ 1048576 := hl.1
  have fy := Nat.add_zero
  refine goN ?_ ?_ ?_ ?_ ?_ ?_ ?_ ?_ ?_ ?_ ?_ ?_ ?_ ?_ ?_ ?_
  any_goals (first | exact True.intro | skip)
  skip
  refine SW.loop (fun i : Nat => ⟨[.sl .b (l.map Enc.b), .fn 96 [] [], .undef, .undef, .undef, .undef, .undef, .int .i64 l.length, .int .i64 i, .undef, .undef, .undef, .undef, .undef, .undef, .undef, .undef, .undef, .undef], [[]]⟩)
    (fun n i => n = l.length - i ∧ i ≤ l.length ∧ ∀ j (h : j < l.length), j < i → (fun x => !slotB x) l[j] = false) (n := l.length) (x := 0) (Norm.to 0 rfl (by simp [weakL])) ⟨rfl, Nat.zero_le _, fun j _ h => absurd h (Nat.not_lt_zero _)⟩ ?_
  rintro n i ⟨hn, hi, hp⟩
  have fy := Nat.add_zero
  refine goS ?_
  refine SW.cond rfl (fun hc => ?_) (fun hc => ?_)
  · have hlt : i < l.length := by simpa using hc
    have hg : (l.map Enc.b)[i]? = some (.nd [.bool l[i].1, .nd [.int .i64 l[i].2.1.1, .sl .b (l[i].2.1.2.1.map Enc.b), .sl .b (l[i].2.1.2.2.1.map Enc.b)]]) := map_get Enc.b l i hlt
    have hC1 := cx [] (page1_ok l[i] (hl.2 _ (List.getElem_mem hlt)))
    have fy := hg
    refine goK ?_ ?_ ?_ ?_ ?_ ?_ ?_ ?_ ?_ ?_ ?_ ?_ ?_ ?_ ?_ ?_
    any_goals (first | exact True.intro | skip)
    all_goals (repeat (refine Wh.mk fun hcc => ?_))
    · have hx := hcc
      have hx' : (fun x => !slotB x) l[i] = true := by simpa using hx
      simp only [tupOf, fixEs, idxOf_eq (fun x => !slotB x) l hlt hx' (fun j hj => hp j (by omega) hj)]
    · have hx := hcc
      have hx' : (fun x => !slotB x) l[i] = false := by simpa using hx
      refine ⟨n - 1, i + 1, by omega, ⟨by omega, by omega, fun j hj hji => ?_⟩, ?_⟩
      · by_cases he : j = i
        · subst he; exact hx'
        · exact hp j hj (by omega)
      · rw [wrap64 _ (by omega) (by omega)]
        first | exact Norm.to 0 rfl (by simp [weakL]) | exact Norm.to 1 rfl (by simp [weakL]) | exact Norm.to 2 rfl (by simp [weakL])
  · have hge : i = l.length := by
      have : ¬ i < l.length := by simpa using hc
      omega
    have fy := Nat.add_zero
    refine goK ?_ ?_ ?_ ?_ ?_ ?_ ?_ ?_ ?_ ?_ ?_ ?_ ?_ ?_ ?_ ?_
    any_goals (first | exact True.intro | skip)
    all_goals (repeat (refine Wh.mk fun hcc => ?_))
    simp only [tupOf, fixEs, idxOf_none (fun x => !slotB x) l (fun j hj => hp j hj (by omega))]
theorem anySlotP_ok (l : List ((Bool × ((Int × (List Int) × (List Int) × Unit)) × Unit))) (hl : Enc.lim 1048576 l) : CallR Try.prog 95 [.sl .b (l.map Enc.b), .fn 96 [] []] [] (.bool (l.any (fun x => !slotB x))) := by
  refine CallR.of_body (n := 9) (rs := [.tmp 4]) hY.ok Try.func95 rfl (by decide) rfl rfl rfl rfl (fun F => ?_)
  have fx := And.intro Y3 (And.intro Y4 (And.intro Y26 (And.intro Y34 (And.intro Y36 (And.intro Y38 (Y93))))))
  have hC1 := cx [] (idxSlotP_ok l hl)
  have fy := Nat.add_zero
  refine goK ?_ ?_ ?_ ?_ ?_ ?_ ?_ ?_ ?_ ?_ ?_ ?_ ?_ ?_ ?_ ?_
  any_goals (first | exact True.intro | skip)
  all_goals (repeat (refine Wh.mk fun hcc => ?_))
  all_goals simp only [tupOf, fixEs, ge_iff_le, idx_any]
theorem implPageOk_ok (x : PageT) (hx : Enc.lim 1048576 x) : CallR Try.prog 31 [.nd [.int .i64 x.1, .nd [.nd [.bool x.2.1.1.1, .nd [.int .i64 x.2.1.1.2.1.1, .sl .b (x.2.1.1.2.1.2.1.map Enc.b), .sl .b (x.2.1.1.2.1.2.2.1.map Enc.b)]], .nd [.bool x.2.1.2.1.1, .nd [.int .i64 x.2.1.2.1.2.1.1, .sl .b (x.2.1.2.1.2.1.2.1.map Enc.b), .sl .b (x.2.1.2.1.2.1.2.2.1.map Enc.b)]], .nd [.bool x.2.1.2.2.1.1, .nd [.int .i64 x.2.1.2.2.1.2.1.1, .sl .b (x.2.1.2.2.1.2.1.2.1.map Enc.b), .sl .b (x.2.1.2.2.1.2.1.2.2.1.map Enc.b)]], .nd [.bool x.2.1.2.2.2.1.1, .nd [.int .i64 x.2.1.2.2.2.1.2.1.1, .sl .b (x.2.1.2.2.2.1.2.1.2.1.map Enc.b), .sl .b (x.2.1.2.2.2.1.2.1.2.2.1.map Enc.b)]]]]] [] (.bool (pageB x)) := by
  refine CallR.of_body (n := 12) (rs := [.tmp 2]) hY.ok Try.func31 rfl (by decide) rfl rfl rfl rfl (fun F => ?_)
  have fx := And.intro Y1 (And.intro Y3 (And.intro Y4 (And.intro Y26 (And.intro Y34 (And.intro Y36 (And.intro Y38 (And.intro Y47 (And.intro Y49 (Y93)))))))))
  obtain ⟨lsn, ⟨a, b, c, d, ⟨⟩⟩, ⟨⟩⟩ := x
  have hL : Enc.lim 1048576 [a, b, c, d] := ⟨by simp, fun y hy => by
    simp only [List.mem_cons, List.not_mem_nil, or_false] at hy
    rcases hy with rfl | rfl | rfl | rfl
    · exact hx.2.1.1
    · exact hx.2.1.2.1
    · exact hx.2.1.2.2.1
    · exact hx.2.1.2.2.2.1⟩
  have hA0 := anySlotP_ok [a, b, c, d] hL
  rw [show ([a, b, c, d] : List SlotT).any (fun x => !slotB x) = !(slotB a && (slotB b && (slotB c && slotB d))) by simp] at hA0
  have hA : CallR Try.prog 95 [.sl .b [.nd [.bool a.1, .nd [.int .i64 a.2.1.1, .sl .b (a.2.1.2.1.map Enc.b), .sl .b (a.2.1.2.2.1.map Enc.b)]], .nd [.bool b.1, .nd [.int .i64 b.2.1.1, .sl .b (b.2.1.2.1.map Enc.b), .sl .b (b.2.1.2.2.1.map Enc.b)]], .nd [.bool c.1, .nd [.int .i64 c.2.1.1, .sl .b (c.2.1.2.1.map Enc.b), .sl .b (c.2.1.2.2.1.map Enc.b)]], .nd [.bool d.1, .nd [.int .i64 d.2.1.1, .sl .b (d.2.1.2.1.map Enc.b), .sl .b (d.2.1.2.2.1.map Enc.b)]]], .fn 96 [] []] [] (.bool (!(slotB a && (slotB b && (slotB c && slotB d))))) := hA0
  have hs4 : ∀ e j p o, sliceM Y 47 (.ptr e j p o) none none none = .pure { v := .vr e j p o 4 0 4 } := fun e j p o => by simp [sliceM, Y47, Y38]
  have hI := inR_ok lsn 0 1000000
  unfold pageB
  simp only
  generalize (slotB a && (slotB b && (slotB c && slotB d))) = q at *
  generalize rng lsn 0 1000000 = r at *
  have hC1 := cx [] (hI)
  have hC2 := cx [] (hA)
  have fy := And.intro nc4 (And.intro nc8 (And.intro wa (And.intro tn (hs4))))
  refine goK ?_ ?_ ?_ ?_ ?_ ?_ ?_ ?_ ?_ ?_ ?_ ?_ ?_ ?_ ?_ ?_
  any_goals (first | exact True.intro | skip)
  all_goals (repeat (refine Wh.mk fun hcc => ?_))
  all_goals (first | rfl | ((try simp only [tupOf, fixEs]); (first | done | rfl | (simp_all []; done) | grind [])))
theorem specPageOk_ok (x : PageT) (hx : Enc.lim 1048576 x) : CallR Try.prog 29 [.nd [.int .i64 x.1, .nd [.nd [.bool x.2.1.1.1, .nd [.int .i64 x.2.1.1.2.1.1, .sl .b (x.2.1.1.2.1.2.1.map Enc.b), .sl .b (x.2.1.1.2.1.2.2.1.map Enc.b)]], .nd [.bool x.2.1.2.1.1, .nd [.int .i64 x.2.1.2.1.2.1.1, .sl .b (x.2.1.2.1.2.1.2.1.map Enc.b), .sl .b (x.2.1.2.1.2.1.2.2.1.map Enc.b)]], .nd [.bool x.2.1.2.2.1.1, .nd [.int .i64 x.2.1.2.2.1.2.1.1, .sl .b (x.2.1.2.2.1.2.1.2.1.map Enc.b), .sl .b (x.2.1.2.2.1.2.1.2.2.1.map Enc.b)]], .nd [.bool x.2.1.2.2.2.1.1, .nd [.int .i64 x.2.1.2.2.2.1.2.1.1, .sl .b (x.2.1.2.2.2.1.2.1.2.1.map Enc.b), .sl .b (x.2.1.2.2.2.1.2.1.2.2.1.map Enc.b)]]]]] [] (.bool (pageB x)) := by
  refine CallR.of_body (n := 17) (rs := [.tmp 2]) hY.ok Try.func29 rfl (by decide) rfl rfl rfl rfl (fun F => ?_)
  have fx := And.intro Y1 (And.intro Y3 (And.intro Y4 (And.intro Y34 (And.intro Y36 (And.intro Y38 (And.intro Y47 (Y49)))))))
  obtain ⟨lsn, ⟨a, b, c, d, ⟨⟩⟩, ⟨⟩⟩ := x
  have hA := l3Slot_ok a hx.2.1.1
  have hB := l3Slot_ok b hx.2.1.2.1
  have hC := l3Slot_ok c hx.2.1.2.2.1
  have hD := l3Slot_ok d hx.2.1.2.2.2.1
  have hI := l1InR_ok lsn 0 1000000
  unfold pageB
  simp only
  generalize slotB a = p1 at *
  generalize slotB b = p2 at *
  generalize slotB c = p3 at *
  generalize slotB d = p4 at *
  generalize rng lsn 0 1000000 = r at *
  have hC1 := cx [] (hI)
  have hC2 := cx [] (hA)
  have hC3 := cx [] (hB)
  have hC4 := cx [] (hC)
  have hC5 := cx [] (hD)
  have fy := And.intro nc4 (And.intro nc8 (And.intro wa (tn)))
  refine goV ?_ ?_ ?_ ?_ ?_ ?_ ?_ ?_ ?_ ?_ ?_ ?_ ?_ ?_ ?_ ?_
  any_goals (first | exact True.intro | skip)
  all_goals (repeat (refine Wh.mk fun hcc => ?_))
  all_goals (first | rfl | ((try simp only [tupOf, fixEs]); (first | done | rfl | (simp_all []; done) | grind [])))
end Q6

namespace Q6
open Go Go.Vm Go.Proofs
set_option maxHeartbeats 4000000
set_option synthInstance.maxSize 2000
set_option synthInstance.maxHeartbeats 400000
set_option maxRecDepth 10000
set_option linter.unusedSimpArgs false
set_option linter.unusedVariables false

theorem markInt_ok (l : List Int) (k : Int) (hl : l.length ≤ 1048576) (h0 : 0 ≤ k) (h1 : k ≤ 1125899906842624) : CallR Try.prog 72 [.io (.tup [.ow 1 (l.map Enc.o)]), .int .i64 k] [.tup [.ow 1 ((marksG id l.length k).map Enc.o)]] (.int .i64 (k + l.length)) := by
  refine CallR.of_body (n := 19) (rs := [.tmp 4]) hY.ok Try.func72 rfl (by decide) rfl rfl rfl rfl (fun F => ?_)
  have fx := And.intro Y3 (And.intro Y4 (Y34))
  have fy := Nat.add_zero
  refine goN ?_ ?_ ?_ ?_ ?_ ?_ ?_ ?_ ?_ ?_ ?_ ?_ ?_ ?_ ?_ ?_
  any_goals (first | exact True.intro | skip)
  skip
  refine SW.loop (fun i : Nat => ⟨[.ref 0 0 0 l.length, .int .i64 (k + (i : Nat)), .undef, .undef, .undef, .int .i64 i, .undef, .undef, .undef, .undef, .undef, .undef, .undef, .undef, .undef, .undef, .undef, .undef, .undef], [[.arr 1 ((mixG id l k i).map Enc.o) false]]⟩)
    (fun n i => n = l.length - i ∧ i ≤ l.length) (n := l.length) (x := 0) (Norm.re [0] (by decide) rfl (by simp [heapFits, rowFits, obFits, mixG_zero]) (by simp [tmFits, T.ren])) ⟨rfl, Nat.zero_le _⟩ ?_
  rintro n i ⟨hn, hi⟩
  have fy := Nat.add_zero
  refine goS ?_
  refine SW.cond rfl (fun hc => ?_) (fun hc => ?_)
  · have hlt : i < l.length := by simp at hc; omega
    have hltI : (i : Int) < (l.length : Int) := by omega
    have hg : ((mixG id l k i).map Enc.o)[i]? = some (.int .i64 l[i]) := mixG_get id l k i hlt
    have hs : ((mixG id l k i).map Enc.o).set i (.int .i64 (k + (i : Nat))) = (mixG id l k (i + 1)).map Enc.o := mixG_set id l k i hlt
    have fy := And.intro hg (And.intro hs (And.intro hltI (And.intro Nat.zero_add (Int.toNat_natCast))))
    refine goR ?_ ?_ ?_ ?_ ?_ ?_ ?_ ?_ ?_ ?_ ?_ ?_ ?_ ?_ ?_ ?_
    any_goals (first | exact True.intro | skip)
    all_goals (repeat (refine Wh.mk fun hcc => ?_))
    refine ⟨n - 1, i + 1, by omega, ⟨by omega, by omega⟩, ?_⟩
    rw [wrap64 _ (by omega) (by omega), wrap64 _ (by omega) (by omega), show k + (i : Int) + 1 = k + ((i + 1 : Nat) : Int) by omega]
    exact Norm.re [0] (by decide) rfl (by simp only [eq_self, heapFits, rowFits, obFits, List.getElem?_cons_zero, List.getElem?_cons_succ, renL_o, renL_b, true_and, and_true, and_self]) (by simp [tmFits, T.ren])
  · have hge : i = l.length := by
      have : ¬ i < l.length := by simp at hc; omega
      omega
    subst hge
    rw [mixG_all]
    have fy := Nat.add_zero
    refine goR ?_ ?_ ?_ ?_ ?_ ?_ ?_ ?_ ?_ ?_ ?_ ?_ ?_ ?_ ?_ ?_
    any_goals (first | exact True.intro | skip)
    all_goals (repeat (refine Wh.mk fun hcc => ?_))
    refine SW.ret (show RetQ _ _ _ _ _ _ _ from ⟨.inr rfl, _, [0], [.int .i64 (k + l.length)], ?_, ⟨rfl, ?_, rfl, rfl, ?_, rfl⟩⟩)
    rotate_left
    · (simp [-List.map_set, -List.map_append, pass1, modeOf, giveS, giveSL, Heap.at, Heap.put, fixEs, ioAt, ioAtT, ioKs, ioKT, ioM, ioT, thawA, thawAL, T.asArr, T.cel, T.clo, cloL, T.cloA, cloAL]; rfl)
    · simp [cloOL, T.cloO, T.asArr]
theorem heldInt_ok (n : Nat) (k : Int) (hl : n ≤ 1048576) (h0 : 0 ≤ k) (h1 : k ≤ 1125899906842624) : CallR Try.prog 119 [.sl .b ((marksG id n k).map Enc.b), .int .i64 k] [] (.int .i64 (k + n)) := by
  refine CallR.of_body (n := 21) (rs := [.tmp 4]) hY.ok Try.func119 rfl (by decide) rfl rfl rfl rfl (fun F => ?_)
  have fx := And.intro Y3 (And.intro Y4 (Y34))
  have fy := Nat.add_zero
  refine goN ?_ ?_ ?_ ?_ ?_ ?_ ?_ ?_ ?_ ?_ ?_ ?_ ?_ ?_ ?_ ?_
  any_goals (first | exact True.intro | skip)
  skip
  refine SW.loop (fun i : Nat => ⟨[.sl .b ((marksG id n k).map Enc.b), .int .i64 (k + (i : Nat)), .undef, .undef, .undef, .int .i64 i, .undef, .undef, .undef, .undef, .undef, .undef, .undef, .undef, .undef, .undef, .undef, .undef, .undef, .undef, .undef], [[]]⟩)
    (fun N i => N = n - i ∧ i ≤ n) (n := n) (x := 0) (Norm.to 0 rfl (by simp [weakL])) ⟨rfl, Nat.zero_le _⟩ ?_
  rintro N i ⟨hn, hi⟩
  have fy := Nat.add_zero
  refine goS ?_
  refine SW.cond rfl (fun hc => ?_) (fun hc => ?_)
  · have hlt : i < n := by simp at hc; omega
    have hg : ((marksG id n k).map Enc.b)[i]? = some (.int .i64 (k + (i : Nat))) := by rw [map_get Enc.b _ i (by rw [marksG_len]; exact hlt), marksG_get id n k i hlt]; rfl
    have fy := And.intro hg (And.intro Nat.zero_add (Int.toNat_natCast))
    refine goR ?_ ?_ ?_ ?_ ?_ ?_ ?_ ?_ ?_ ?_ ?_ ?_ ?_ ?_ ?_ ?_
    any_goals (first | exact True.intro | skip)
    all_goals (repeat (refine Wh.mk fun hcc => ?_))
    all_goals first | (exfalso; simp at hcc; done) | skip
    refine ⟨N - 1, i + 1, by omega, ⟨by omega, by omega⟩, ?_⟩
    rw [wrap64 _ (by omega) (by omega), wrap64 _ (by omega) (by omega), show k + (i : Int) + 1 = k + ((i + 1 : Nat) : Int) by omega]
    exact Norm.to 0 rfl (by simp [weakL])
  · have hge : i = n := by
      have : ¬ i < n := by simp at hc; omega
      omega
    subst hge
    have fy := Nat.add_zero
    refine goK ?_ ?_ ?_ ?_ ?_ ?_ ?_ ?_ ?_ ?_ ?_ ?_ ?_ ?_ ?_ ?_
    any_goals (first | exact True.intro | skip)
    all_goals (repeat (refine Wh.mk fun hcc => ?_))
    simp [tupOf, fixEs]
end Q6

namespace Q6
open Go Go.Vm Go.Proofs
set_option maxHeartbeats 4000000
set_option synthInstance.maxSize 2000
set_option synthInstance.maxHeartbeats 400000
set_option maxRecDepth 10000
set_option linter.unusedSimpArgs false
set_option linter.unusedVariables false

theorem markObj_ok (x : (Int × (List Int) × (List Int) × Unit)) (k : Int) (hx : x.2.1.length ≤ 1048576 ∧ x.2.2.1.length ≤ 1048576) (h0 : 0 ≤ k) (h1 : k ≤ 562949953421312) : CallR Try.prog 157 [.nd [.int .i64 x.1, .io (.tup [.ow 1 (x.2.1.map Enc.o)]), .io (.tup [.ow 1 (x.2.2.1.map Enc.o)])], .int .i64 k] [.tup [.ow 1 ((marksG id x.2.1.length (k)).map Enc.o)], .tup [.ow 1 ((marksG id x.2.2.1.length (k + x.2.1.length)).map Enc.o)]] (.int .i64 (k + x.2.1.length + x.2.2.1.length)) := by
  refine CallR.of_body (n := 14) (rs := [.tmp 4]) hY.ok Try.func157 rfl (by decide) rfl rfl rfl rfl (fun F => ?_)
  have fx := And.intro Y1 (And.intro Y2 (And.intro Y3 (And.intro Y34 (Y36))))
  have hC1 := cx [.ios] (markInt_ok x.2.1 k hx.1 h0 (by omega))
  have hC2 := cx [.ios] (markInt_ok x.2.2.1 (k + x.2.1.length) hx.2 (by omega) (by omega))
  have fy := Nat.add_zero
  refine goR ?_ ?_ ?_ ?_ ?_ ?_ ?_ ?_ ?_ ?_ ?_ ?_ ?_ ?_ ?_ ?_
  any_goals (first | exact True.intro | skip)
  all_goals (repeat (refine Wh.mk fun hcc => ?_))
  all_goals exact SW.ret (show RetQ _ _ _ _ _ _ _ from RetQ.y [0] [.int .i64 (k + x.2.1.length + x.2.2.1.length)])
theorem heldObj_ok (y : Int) (n m : Nat) (k : Int) (hn : n ≤ 1048576) (hm : m ≤ 1048576) (h0 : 0 ≤ k) (h1 : k ≤ 562949953421312) : CallR Try.prog 158 [.nd [.int .i64 y, .sl .b ((marksG id n (k)).map Enc.b), .sl .b ((marksG id m (k + n)).map Enc.b)], .int .i64 k] [] (.int .i64 (k + n + m)) := by
  refine CallR.of_body (n := 18) (rs := [.tmp 4]) hY.ok Try.func158 rfl (by decide) rfl rfl rfl rfl (fun F => ?_)
  have fx := And.intro Y1 (And.intro Y2 (And.intro Y3 (And.intro Y4 (And.intro Y34 (Y36)))))
  have hq0 : decide (k + (n : Int) < 0) = false := by simp; omega
  have hq1 : decide (k + (n : Int) + (m : Int) < 0) = false := by simp; omega
  have hC1 := cx [] (heldInt_ok n k hn h0 (by omega))
  have hC2 := cx [] (heldInt_ok m (k + n) hm (by omega) (by omega))
  have fy := And.intro hq0 (hq1)
  refine goK ?_ ?_ ?_ ?_ ?_ ?_ ?_ ?_ ?_ ?_ ?_ ?_ ?_ ?_ ?_ ?_
  any_goals (first | exact True.intro | skip)
  all_goals (repeat (refine Wh.mk fun hcc => ?_))
  all_goals simp [tupOf, fixEs]
theorem markSlot_ok (x : (Bool × ((Int × (List Int) × (List Int) × Unit)) × Unit)) (k : Int) (hx : x.2.1.2.1.length ≤ 1048576 ∧ x.2.1.2.2.1.length ≤ 1048576) (h0 : 0 ≤ k) (h1 : k ≤ 562949953421312) : CallR Try.prog 112 [.nd [.bool x.1, .nd [.int .i64 x.2.1.1, .io (.tup [.ow 1 (x.2.1.2.1.map Enc.o)]), .io (.tup [.ow 1 (x.2.1.2.2.1.map Enc.o)])]], .int .i64 k] [.tup [.ow 1 ((marksG id x.2.1.2.1.length (k)).map Enc.o)], .tup [.ow 1 ((marksG id x.2.1.2.2.1.length (k + x.2.1.2.1.length)).map Enc.o)]] (.int .i64 (k + x.2.1.2.1.length + x.2.1.2.2.1.length)) := by
  refine CallR.of_body (n := 10) (rs := [.tmp 4]) hY.ok Try.func112 rfl (by decide) rfl rfl rfl rfl (fun F => ?_)
  have fx := And.intro Y1 (And.intro Y3 (And.intro Y4 (And.intro Y34 (And.intro Y36 (Y38)))))
  have hC1 := cx [.iov] (markObj_ok x.2.1 k hx h0 h1)
  have fy := Nat.add_zero
  refine goR ?_ ?_ ?_ ?_ ?_ ?_ ?_ ?_ ?_ ?_ ?_ ?_ ?_ ?_ ?_ ?_
  any_goals (first | exact True.intro | skip)
  all_goals (repeat (refine Wh.mk fun hcc => ?_))
  all_goals exact SW.ret (show RetQ _ _ _ _ _ _ _ from RetQ.y [0] [.int .i64 (k + x.2.1.2.1.length + x.2.1.2.2.1.length)])
theorem heldSlot_ok (b : Bool) (y : Int) (n m : Nat) (k : Int) (hn : n ≤ 1048576) (hm : m ≤ 1048576) (h0 : 0 ≤ k) (h1 : k ≤ 562949953421312) : CallR Try.prog 114 [.nd [.bool b, .nd [.int .i64 y, .sl .b ((marksG id n (k)).map Enc.b), .sl .b ((marksG id m (k + n)).map Enc.b)]], .int .i64 k] [] (.int .i64 (k + n + m)) := by
  refine CallR.of_body (n := 12) (rs := [.tmp 4]) hY.ok Try.func114 rfl (by decide) rfl rfl rfl rfl (fun F => ?_)
  have fx := And.intro Y1 (And.intro Y3 (And.intro Y4 (And.intro Y34 (And.intro Y36 (Y38)))))
  have hq1 : decide (k + (n : Int) + (m : Int) < 0) = false := by simp; omega
  have hC1 := cx [] (heldObj_ok y n m k hn hm h0 h1)
  have fy := hq1
  refine goK ?_ ?_ ?_ ?_ ?_ ?_ ?_ ?_ ?_ ?_ ?_ ?_ ?_ ?_ ?_ ?_
  any_goals (first | exact True.intro | skip)
  all_goals (repeat (refine Wh.mk fun hcc => ?_))
  all_goals simp [tupOf, fixEs]
end Q6

namespace Q6
open Go Go.Vm Go.Proofs
set_option maxHeartbeats 4000000
set_option synthInstance.maxSize 2000
set_option synthInstance.maxHeartbeats 400000
set_option maxRecDepth 10000
set_option linter.unusedSimpArgs false
set_option linter.unusedVariables false

set_option synthInstance.maxHeartbeats 4000000
set_option synthInstance.maxSize 20000
abbrev Slot4T := (((Bool × ((Int × (List Int) × (List Int) × Unit)) × Unit)) × ((Bool × ((Int × (List Int) × (List Int) × Unit)) × Unit)) × ((Bool × ((Int × (List Int) × (List Int) × Unit)) × Unit)) × ((Bool × ((Int × (List Int) × (List Int) × Unit)) × Unit)) × Unit)
theorem laws_eqSlotA4_ok (x y : Slot4T) (hx : Enc.lim 1048576 x) : CallR Try.prog 108 [.nd [.nd [.bool x.1.1, .nd [.int .i64 x.1.2.1.1, .sl .b (x.1.2.1.2.1.map Enc.b), .sl .b (x.1.2.1.2.2.1.map Enc.b)]], .nd [.bool x.2.1.1, .nd [.int .i64 x.2.1.2.1.1, .sl .b (x.2.1.2.1.2.1.map Enc.b), .sl .b (x.2.1.2.1.2.2.1.map Enc.b)]], .nd [.bool x.2.2.1.1, .nd [.int .i64 x.2.2.1.2.1.1, .sl .b (x.2.2.1.2.1.2.1.map Enc.b), .sl .b (x.2.2.1.2.1.2.2.1.map Enc.b)]], .nd [.bool x.2.2.2.1.1, .nd [.int .i64 x.2.2.2.1.2.1.1, .sl .b (x.2.2.2.1.2.1.2.1.map Enc.b), .sl .b (x.2.2.2.1.2.1.2.2.1.map Enc.b)]]], .nd [.nd [.bool y.1.1, .nd [.int .i64 y.1.2.1.1, .sl .b (y.1.2.1.2.1.map Enc.b), .sl .b (y.1.2.1.2.2.1.map Enc.b)]], .nd [.bool y.2.1.1, .nd [.int .i64 y.2.1.2.1.1, .sl .b (y.2.1.2.1.2.1.map Enc.b), .sl .b (y.2.1.2.1.2.2.1.map Enc.b)]], .nd [.bool y.2.2.1.1, .nd [.int .i64 y.2.2.1.2.1.1, .sl .b (y.2.2.1.2.1.2.1.map Enc.b), .sl .b (y.2.2.1.2.1.2.2.1.map Enc.b)]], .nd [.bool y.2.2.2.1.1, .nd [.int .i64 y.2.2.2.1.2.1.1, .sl .b (y.2.2.2.1.2.1.2.1.map Enc.b), .sl .b (y.2.2.2.1.2.1.2.2.1.map Enc.b)]]]] [] (.bool (decide (x = y))) := by
  refine CallR.of_body (n := 18) (rs := [.tmp 4]) hY.ok Try.func108 rfl (by decide) rfl rfl rfl rfl (fun F => ?_)
  have fx := And.intro Y3 (And.intro Y4 (And.intro Y34 (And.intro Y36 (And.intro Y38 (Y47)))))
  obtain ⟨a, b, c, d, ⟨⟩⟩ := x
  obtain ⟨a', b', c', d', ⟨⟩⟩ := y
  have h1 := laws_eqSlot_ok a a' hx.1
  have h2 := laws_eqSlot_ok b b' hx.2.1
  have h3 := laws_eqSlot_ok c c' hx.2.2.1
  have h4 := laws_eqSlot_ok d d' hx.2.2.2.1
  rw [show decide ((a, b, c, d, ()) = (a', b', c', d', ())) = (decide (a = a') && (decide (b = b') && (decide (c = c') && decide (d = d')))) by simp]
  generalize decide (a = a') = p1 at *
  generalize decide (b = b') = p2 at *
  generalize decide (c = c') = p3 at *
  generalize decide (d = d') = p4 at *
  have hC1 := cx [] (h1)
  have hC2 := cx [] (h2)
  have hC3 := cx [] (h3)
  have hC4 := cx [] (h4)
  have fy := And.intro nc4 (And.intro nc8 (And.intro wa (tn)))
  refine goV ?_ ?_ ?_ ?_ ?_ ?_ ?_ ?_ ?_ ?_ ?_ ?_ ?_ ?_ ?_ ?_
  any_goals (first | exact True.intro | skip)
  all_goals (repeat (refine Wh.mk fun hcc => ?_))
  all_goals (first | rfl | ((try simp only [tupOf, fixEs]); (first | done | rfl | (simp_all []; done) | grind [])))
theorem eqPage_ok (x y : PageT) (hx : Enc.lim 1048576 x) : CallR Try.prog 39 [.nd [.int .i64 x.1, .nd [.nd [.bool x.2.1.1.1, .nd [.int .i64 x.2.1.1.2.1.1, .sl .b (x.2.1.1.2.1.2.1.map Enc.b), .sl .b (x.2.1.1.2.1.2.2.1.map Enc.b)]], .nd [.bool x.2.1.2.1.1, .nd [.int .i64 x.2.1.2.1.2.1.1, .sl .b (x.2.1.2.1.2.1.2.1.map Enc.b), .sl .b (x.2.1.2.1.2.1.2.2.1.map Enc.b)]], .nd [.bool x.2.1.2.2.1.1, .nd [.int .i64 x.2.1.2.2.1.2.1.1, .sl .b (x.2.1.2.2.1.2.1.2.1.map Enc.b), .sl .b (x.2.1.2.2.1.2.1.2.2.1.map Enc.b)]], .nd [.bool x.2.1.2.2.2.1.1, .nd [.int .i64 x.2.1.2.2.2.1.2.1.1, .sl .b (x.2.1.2.2.2.1.2.1.2.1.map Enc.b), .sl .b (x.2.1.2.2.2.1.2.1.2.2.1.map Enc.b)]]]], .nd [.int .i64 y.1, .nd [.nd [.bool y.2.1.1.1, .nd [.int .i64 y.2.1.1.2.1.1, .sl .b (y.2.1.1.2.1.2.1.map Enc.b), .sl .b (y.2.1.1.2.1.2.2.1.map Enc.b)]], .nd [.bool y.2.1.2.1.1, .nd [.int .i64 y.2.1.2.1.2.1.1, .sl .b (y.2.1.2.1.2.1.2.1.map Enc.b), .sl .b (y.2.1.2.1.2.1.2.2.1.map Enc.b)]], .nd [.bool y.2.1.2.2.1.1, .nd [.int .i64 y.2.1.2.2.1.2.1.1, .sl .b (y.2.1.2.2.1.2.1.2.1.map Enc.b), .sl .b (y.2.1.2.2.1.2.1.2.2.1.map Enc.b)]], .nd [.bool y.2.1.2.2.2.1.1, .nd [.int .i64 y.2.1.2.2.2.1.2.1.1, .sl .b (y.2.1.2.2.2.1.2.1.2.1.map Enc.b), .sl .b (y.2.1.2.2.2.1.2.1.2.2.1.map Enc.b)]]]]] [] (.bool (decide (x = y))) := by
  refine CallR.of_body (n := 16) (rs := [.tmp 4]) hY.ok Try.func39 rfl (by decide) rfl rfl rfl rfl (fun F => ?_)
  have fx := And.intro Y1 (And.intro Y3 (And.intro Y4 (And.intro Y34 (And.intro Y36 (And.intro Y38 (And.intro Y47 (Y49)))))))
  obtain ⟨a, ⟨s1, s2, s3, s4, ⟨⟩⟩, ⟨⟩⟩ := x
  obtain ⟨a', ⟨t1, t2, t3, t4, ⟨⟩⟩, ⟨⟩⟩ := y
  have h1 := laws_eqSlotA4_ok (s1, s2, s3, s4, ()) (t1, t2, t3, t4, ()) hx.2.1
  rw [show decide ((a, (s1, s2, s3, s4, ()), ()) = (a', (t1, t2, t3, t4, ()), ())) = (decide (a = a') && decide ((s1, s2, s3, s4, ()) = (t1, t2, t3, t4, ()))) by simp]
  simp only at h1
  generalize decide ((s1, s2, s3, s4, ()) = (t1, t2, t3, t4, ())) = p1 at *
  have hne : (a != a') = !decide (a = a') := by by_cases h : a = a' <;> simp [h]
  generalize decide (a = a') = p2 at *
  clear hx
  have hC1 := cx [] (h1)
  have fy := hne
  refine goK ?_ ?_ ?_ ?_ ?_ ?_ ?_ ?_ ?_ ?_ ?_ ?_ ?_ ?_ ?_ ?_
  any_goals (first | exact True.intro | skip)
  all_goals (repeat (refine Wh.mk fun hcc => ?_))
  all_goals (first | rfl | ((try simp only [tupOf, fixEs]); (first | done | rfl | (simp_all []; done) | grind [])))
theorem markSlotA4_ok (x : (((Bool × ((Int × (List Int) × (List Int) × Unit)) × Unit)) × ((Bool × ((Int × (List Int) × (List Int) × Unit)) × Unit)) × ((Bool × ((Int × (List Int) × (List Int) × Unit)) × Unit)) × ((Bool × ((Int × (List Int) × (List Int) × Unit)) × Unit)) × Unit)) (k : Int) (hx : Enc.lim 1048576 x) (h0 : 0 ≤ k) (h1 : k ≤ 281474976710656) : CallR Try.prog 109 [.nd [.nd [.bool x.1.1, .nd [.int .i64 x.1.2.1.1, .io (.tup [.ow 1 (x.1.2.1.2.1.map Enc.o)]), .io (.tup [.ow 1 (x.1.2.1.2.2.1.map Enc.o)])]], .nd [.bool x.2.1.1, .nd [.int .i64 x.2.1.2.1.1, .io (.tup [.ow 1 (x.2.1.2.1.2.1.map Enc.o)]), .io (.tup [.ow 1 (x.2.1.2.1.2.2.1.map Enc.o)])]], .nd [.bool x.2.2.1.1, .nd [.int .i64 x.2.2.1.2.1.1, .io (.tup [.ow 1 (x.2.2.1.2.1.2.1.map Enc.o)]), .io (.tup [.ow 1 (x.2.2.1.2.1.2.2.1.map Enc.o)])]], .nd [.bool x.2.2.2.1.1, .nd [.int .i64 x.2.2.2.1.2.1.1, .io (.tup [.ow 1 (x.2.2.2.1.2.1.2.1.map Enc.o)]), .io (.tup [.ow 1 (x.2.2.2.1.2.1.2.2.1.map Enc.o)])]]], .int .i64 k] [.tup [.ow 1 ((marksG id x.1.2.1.2.1.length (k)).map Enc.o)], .tup [.ow 1 ((marksG id x.1.2.1.2.2.1.length (k + x.1.2.1.2.1.length)).map Enc.o)], .tup [.ow 1 ((marksG id x.2.1.2.1.2.1.length (k + x.1.2.1.2.1.length + x.1.2.1.2.2.1.length)).map Enc.o)], .tup [.ow 1 ((marksG id x.2.1.2.1.2.2.1.length (k + x.1.2.1.2.1.length + x.1.2.1.2.2.1.length + x.2.1.2.1.2.1.length)).map Enc.o)], .tup [.ow 1 ((marksG id x.2.2.1.2.1.2.1.length (k + x.1.2.1.2.1.length + x.1.2.1.2.2.1.length + x.2.1.2.1.2.1.length + x.2.1.2.1.2.2.1.length)).map Enc.o)], .tup [.ow 1 ((marksG id x.2.2.1.2.1.2.2.1.length (k + x.1.2.1.2.1.length + x.1.2.1.2.2.1.length + x.2.1.2.1.2.1.length + x.2.1.2.1.2.2.1.length + x.2.2.1.2.1.2.1.length)).map Enc.o)], .tup [.ow 1 ((marksG id x.2.2.2.1.2.1.2.1.length (k + x.1.2.1.2.1.length + x.1.2.1.2.2.1.length + x.2.1.2.1.2.1.length + x.2.1.2.1.2.2.1.length + x.2.2.1.2.1.2.1.length + x.2.2.1.2.1.2.2.1.length)).map Enc.o)], .tup [.ow 1 ((marksG id x.2.2.2.1.2.1.2.2.1.length (k + x.1.2.1.2.1.length + x.1.2.1.2.2.1.length + x.2.1.2.1.2.1.length + x.2.1.2.1.2.2.1.length + x.2.2.1.2.1.2.1.length + x.2.2.1.2.1.2.2.1.length + x.2.2.2.1.2.1.2.1.length)).map Enc.o)]] (.int .i64 (k + x.1.2.1.2.1.length + x.1.2.1.2.2.1.length + x.2.1.2.1.2.1.length + x.2.1.2.1.2.2.1.length + x.2.2.1.2.1.2.1.length + x.2.2.1.2.1.2.2.1.length + x.2.2.2.1.2.1.2.1.length + x.2.2.2.1.2.1.2.2.1.length)) := by
  refine CallR.of_body (n := 16) (rs := [.tmp 4]) hY.ok Try.func109 rfl (by decide) rfl rfl rfl rfl (fun F => ?_)
  have fx := And.intro Y3 (And.intro Y4 (And.intro Y34 (And.intro Y36 (And.intro Y38 (Y47)))))
  have q1 := hx.1.2.1.2.1.1
  have q2 := hx.1.2.1.2.2.1.1
  have q3 := hx.2.1.2.1.2.1.1
  have q4 := hx.2.1.2.1.2.2.1.1
  have q5 := hx.2.2.1.2.1.2.1.1
  have q6 := hx.2.2.1.2.1.2.2.1.1
  have q7 := hx.2.2.2.1.2.1.2.1.1
  have q8 := hx.2.2.2.1.2.1.2.2.1.1
  have hC1 := cx [.iov] (markSlot_ok x.1 (k) ⟨q1, q2⟩ (by omega) (by omega))
  have hC2 := cx [.iov] (markSlot_ok x.2.1 (k + x.1.2.1.2.1.length + x.1.2.1.2.2.1.length) ⟨q3, q4⟩ (by omega) (by omega))
  have hC3 := cx [.iov] (markSlot_ok x.2.2.1 (k + x.1.2.1.2.1.length + x.1.2.1.2.2.1.length + x.2.1.2.1.2.1.length + x.2.1.2.1.2.2.1.length) ⟨q5, q6⟩ (by omega) (by omega))
  have hC4 := cx [.iov] (markSlot_ok x.2.2.2.1 (k + x.1.2.1.2.1.length + x.1.2.1.2.2.1.length + x.2.1.2.1.2.1.length + x.2.1.2.1.2.2.1.length + x.2.2.1.2.1.2.1.length + x.2.2.1.2.1.2.2.1.length) ⟨q7, q8⟩ (by omega) (by omega))
  have fy := And.intro nc4 (And.intro nc8 (And.intro wa (tn)))
  refine goU ?_ ?_ ?_ ?_ ?_ ?_ ?_ ?_ ?_ ?_ ?_ ?_ ?_ ?_ ?_ ?_
  any_goals (first | exact True.intro | skip)
  all_goals (repeat (refine Wh.mk fun hcc => ?_))
  all_goals exact SW.ret (show RetQ _ _ _ _ _ _ _ from RetQ.y [0] [.int .i64 (k + x.1.2.1.2.1.length + x.1.2.1.2.2.1.length + x.2.1.2.1.2.1.length + x.2.1.2.1.2.2.1.length + x.2.2.1.2.1.2.1.length + x.2.2.1.2.1.2.2.1.length + x.2.2.2.1.2.1.2.1.length + x.2.2.2.1.2.1.2.2.1.length)])
end Q6

namespace Go.By
open Go Go.Vm

/-! ### words -/
theorem bits64 : IntKind.i64.bits = 64 := rfl
theorem i64_and127 (a : Nat) (h : a < 2 ^ 63) : IntKind.i64.wrap ((BitVec.ofInt IntKind.i64.bits (a : Int) &&& BitVec.ofInt IntKind.i64.bits 127).toNat : Int) = ((a % 128 : Nat) : Int) := by
  have e : (BitVec.ofInt 64 (a : Int) &&& BitVec.ofInt 64 127).toNat = a % 128 := by
    rw [BitVec.toNat_and, show BitVec.ofInt 64 (127 : Int) = 127#64 from rfl, BitVec.ofInt_natCast, BitVec.toNat_ofNat, show (127#64).toNat = 2 ^ 7 - 1 from rfl, Nat.and_two_pow_sub_one_eq_mod]; omega
  rw [bits64, e, wrap64 _ (by omega) (by omega)]
theorem i64_or128 (a : Nat) (h : a < 128) : IntKind.i64.wrap ((BitVec.ofInt IntKind.i64.bits (a : Int) ||| BitVec.ofInt IntKind.i64.bits 128).toNat : Int) = ((a + 128 : Nat) : Int) := by
  have e : (BitVec.ofInt 64 (a : Int) ||| BitVec.ofInt 64 128).toNat = a + 128 := by
    rw [BitVec.toNat_or, show BitVec.ofInt 64 (128 : Int) = 128#64 from rfl, BitVec.ofInt_natCast, BitVec.toNat_ofNat, show (128#64).toNat = 2 ^ 7 * 1 from rfl, Nat.mod_eq_of_lt (by omega), Nat.or_comm, ← Nat.two_pow_add_eq_or_of_lt (by omega)]; omega
  rw [bits64, e, wrap64 _ (by omega) (by omega)]
theorem i64_shr7 (a : Nat) : ((a : Int)).fdiv (2 ^ (min (7 : Int).toNat IntKind.i64.bits)) = ((a / 128 : Nat) : Int) := by
  rw [bits64, show (min (7 : Int).toNat 64) = 7 from rfl, Int.fdiv_eq_ediv_of_nonneg _ (by decide)]
  simp
/-- a group laid upon those ahead of it -/
theorem i64_grp (n x k : Nat) (hn : n < 2 ^ (7 * k)) (hx : x < 128) (hk : k < 6) :
    IntKind.i64.wrap ((BitVec.ofInt IntKind.i64.bits (n : Int) ||| BitVec.ofInt IntKind.i64.bits (IntKind.i64.wrap ((x : Int) * 2 ^ (min (IntKind.i64.wrap (7 * (k : Int))).toNat IntKind.i64.bits)))).toNat : Int) = ((n + x * 2 ^ (7 * k) : Nat) : Int) := by
  have h7 : IntKind.i64.wrap (7 * (k : Int)) = ((7 * k : Nat) : Int) := by rw [wrap64 _ (by omega) (by omega)]; simp
  have hle : 2 ^ (7 * k) ≤ 2 ^ 35 := Nat.pow_le_pow_right (by decide) (by omega)
  have hxm : x * 2 ^ (7 * k) < 2 ^ 42 := by
    calc x * 2 ^ (7 * k) ≤ 127 * 2 ^ 35 := Nat.mul_le_mul (by omega) hle
      _ < 2 ^ 42 := by decide
  have hmin : min (((7 * k : Nat) : Int)).toNat IntKind.i64.bits = 7 * k := by rw [bits64, Int.toNat_natCast]; omega
  rw [h7, hmin]
  have e1 : (x : Int) * 2 ^ (7 * k) = ((x * 2 ^ (7 * k) : Nat) : Int) := by simp
  have hw : IntKind.i64.wrap ((x * 2 ^ (7 * k) : Nat) : Int) = ((x * 2 ^ (7 * k) : Nat) : Int) := wrap64 _ (by omega) (by omega)
  rw [e1, hw]
  have e : (BitVec.ofInt 64 (n : Int) ||| BitVec.ofInt 64 ((x * 2 ^ (7 * k) : Nat) : Int)).toNat = n + x * 2 ^ (7 * k) := by
    rw [BitVec.toNat_or, BitVec.ofInt_natCast, BitVec.ofInt_natCast, BitVec.toNat_ofNat, BitVec.toNat_ofNat, Nat.mod_eq_of_lt (by omega), Nat.mod_eq_of_lt (by omega), Nat.mul_comm x, Nat.or_comm, ← Nat.two_pow_add_eq_or_of_lt hn]; omega
  rw [bits64, e, wrap64 _ (by omega) (by omega)]

/-! ### a number's bytes -/
def M12 : Int := 1000000000000
def encN (m : Nat) : List UInt8 := if h : m ≤ 127 then [byt m] else byt ((m % 128 + 128 : Nat) : Int) :: encN (m / 128)
termination_by m
decreasing_by omega
theorem encN_lo {m : Nat} (h : m ≤ 127) : encN m = [byt m] := by rw [encN, dif_pos h]
theorem encN_hi {m : Nat} (h : ¬ m ≤ 127) : encN m = byt ((m % 128 + 128 : Nat) : Int) :: encN (m / 128) := by rw [encN, dif_neg h]
def zig (n : Int) : Nat := if n < 0 then (-2 * n - 1).toNat else (2 * n).toNat
def clampI (n : Int) : Int := if n > M12 then M12 else if n < -M12 then -M12 else n
def putI (n : Int) : List UInt8 := encN (zig (clampI n))
theorem clamp_le (n : Int) : -M12 ≤ clampI n ∧ clampI n ≤ M12 := by unfold clampI M12; split <;> (try split) <;> omega
theorem clamp_of {n : Int} (h0 : -M12 ≤ n) (h1 : n ≤ M12) : clampI n = n := by unfold clampI; rw [if_neg (by omega), if_neg (by omega)]
theorem zig_lt (n : Int) : zig (clampI n) < 2 ^ 42 := by
  have := clamp_le n
  unfold zig M12 at *; split <;> omega
theorem encN_len : ∀ (k m : Nat), m < 2 ^ (7 * (k + 1)) → (encN m).length ≤ k + 1
  | 0, m, h => by rw [encN_lo (by omega)]; simp
  | k + 1, m, h => by
    by_cases hm : m ≤ 127
    · rw [encN_lo hm]; simp
    · rw [encN_hi hm]
      have := encN_len k (m / 128) (by
        rw [Nat.div_lt_iff_lt_mul (by decide)]
        rw [show 7 * (k + 1 + 1) = 7 * (k + 1) + 7 by omega, Nat.pow_add] at h
        exact h)
      simp; omega
theorem putI_len (n : Int) : (putI n).length ≤ 6 := encN_len 5 _ (by have := zig_lt n; omega)

/-! ### and back -/
def dec : List UInt8 → Nat → Nat → Option (Nat × Nat)
  | [], _, _ => none
  | v :: l, k, acc => if 6 ≤ k then none else if v.toNat > 127 then dec l (k + 1) (acc + v.toNat % 128 * 2 ^ (7 * k)) else if v.toNat = 0 ∧ k ≠ 0 then none else some (acc + v.toNat % 128 * 2 ^ (7 * k), k + 1)
def unz (m : Nat) : Int := if m % 2 = 1 then -(((m + 1) / 2 : Nat) : Int) else ((m / 2 : Nat) : Int)
def okN (n : Int) : Bool := decide (n ≥ -M12) && decide (n ≤ M12)
def getR (l : List UInt8) (a : Nat) : Int × Nat × Bool :=
  match dec (l.drop a) 0 0 with
  | some x => if okN (unz x.1) = true then (unz x.1, a + x.2, true) else (0, 0, false)
  | none => (0, 0, false)

/-- the program's own walk: no end at six -/
def grp : List UInt8 → Nat → Nat → Bool → Nat × Nat × Bool × Bool
  | [], _, _, _ => (0, 0, false, true)
  | v :: l, k, n, g =>
    let n' := if k < 6 then n + v.toNat % 128 * 2 ^ (7 * k) else n
    let g' := if k < 6 then g else if v.toNat % 128 ≠ 0 then false else g
    if v.toNat > 127 then grp l (k + 1) n' g' else (n', k + 1, g' && (decide (v.toNat ≠ 0) || decide (k = 0)), false)

theorem grp_bad : ∀ (l : List UInt8) (k n : Nat) (g : Bool), 6 ≤ k → (grp l k n g).2.2.1 = false
  | [], _, _, _, _ => rfl
  | v :: l, k, n, g, h => by
    unfold grp
    simp only
    split
    · exact grp_bad l _ _ _ (by omega)
    · rename_i hv
      simp only
      rw [if_neg (by omega)]
      by_cases h0 : v.toNat = 0
      · simp [h0]; omega
      · have : v.toNat % 128 ≠ 0 := by omega
        rw [if_pos this]; simp
theorem grp_dec : ∀ (l : List UInt8) (k n : Nat), k ≤ 6 → (∀ x, dec l k n = some x → (grp l k n true).1 = x.1 ∧ (grp l k n true).2.1 = x.2 ∧ (grp l k n true).2.2.1 = true) ∧
    (dec l k n = none → (grp l k n true).2.2.1 = false)
  | [], _, _, _ => ⟨fun x h => (by simp [dec] at h), fun _ => rfl⟩
  | v :: l, k, n, hk => by
    by_cases h6 : 6 ≤ k
    · refine ⟨fun x h => ?_, fun _ => grp_bad _ _ _ _ h6⟩
      unfold dec at h; rw [if_pos h6] at h; cases h
    · have hk6 : k < 6 := by omega
      simp only [dec, grp, if_neg h6, if_pos hk6]
      by_cases hv : v.toNat > 127
      · rw [if_pos hv, if_pos hv]
        exact grp_dec l (k + 1) _ (by omega)
      · rw [if_neg hv, if_neg hv]
        by_cases h0 : v.toNat = 0 ∧ k ≠ 0
        · rw [if_pos h0]
          refine ⟨fun x h => (by cases h), fun _ => ?_⟩
          simp [h0.1, h0.2]
        · rw [if_neg h0]
          refine ⟨fun x h => ?_, fun h => (by cases h)⟩
          simp only [Option.some.injEq] at h; subst h
          refine ⟨rfl, rfl, ?_⟩
          simp; omega
theorem dec_lt : ∀ (l : List UInt8) (k n : Nat) {x : Nat × Nat}, n < 2 ^ (7 * k) → dec l k n = some x → x.1 < 2 ^ 42
  | [], _, _, _, _, h => by cases h
  | v :: l, k, n, x, hn, h => by
    unfold dec at h
    split at h
    · cases h
    · rename_i h6
      have hstep : n + v.toNat % 128 * 2 ^ (7 * k) < 2 ^ (7 * (k + 1)) := by
        have h1 : v.toNat % 128 * 2 ^ (7 * k) ≤ 127 * 2 ^ (7 * k) := Nat.mul_le_mul_right _ (by omega)
        rw [show 7 * (k + 1) = 7 * k + 7 by omega, Nat.pow_add]
        omega
      split at h
      · exact dec_lt l (k + 1) _ hstep h
      · split at h
        · cases h
        · simp only [Option.some.injEq] at h; subst h
          have : 2 ^ (7 * (k + 1)) ≤ 2 ^ 42 := Nat.pow_le_pow_right (by decide) (by omega)
          simp only; omega
theorem grp_big : ∀ (l : List UInt8) (k n : Nat) (g : Bool), 6 ≤ k → n < 2 ^ 42 → (grp l k n g).1 < 2 ^ 42
  | [], _, _, _, _, _ => by simp [grp]
  | v :: l, k, n, g, hk, hn => by
    have h6 : ¬ k < 6 := by omega
    simp only [grp, if_neg h6]
    split
    · exact grp_big l (k + 1) n _ (by omega) hn
    · exact hn
theorem grp_lt : ∀ (l : List UInt8) (k n : Nat) (g : Bool), k ≤ 6 → n < 2 ^ (7 * k) → (grp l k n g).1 < 2 ^ 42
  | [], _, _, _, _, _ => by simp [grp]
  | v :: l, k, n, g, hk, hn => by
    unfold grp
    simp only
    have hp : 2 ^ (7 * (k + 1)) ≤ 2 ^ 42 ∨ ¬ k < 6 := by
      by_cases h : k < 6
      · exact .inl (Nat.pow_le_pow_right (by decide) (by omega))
      · exact .inr h
    have hstep : n + v.toNat % 128 * 2 ^ (7 * k) < 2 ^ (7 * (k + 1)) := by
      have h1 : v.toNat % 128 * 2 ^ (7 * k) ≤ 127 * 2 ^ (7 * k) := Nat.mul_le_mul_right _ (by omega)
      rw [show 7 * (k + 1) = 7 * k + 7 by omega, Nat.pow_add]
      omega
    have h42 : 2 ^ (7 * k) ≤ 2 ^ 42 := Nat.pow_le_pow_right (by decide) (by omega)
    split
    · by_cases h : k < 6
      · rw [if_pos h, if_pos h]; exact grp_lt l (k + 1) _ _ (by omega) hstep
      · rw [if_neg h, if_neg h]
        have hk6 : k = 6 := by omega
        subst hk6
        exact grp_big l 7 n _ (by omega) hn
    · simp only
      by_cases h : k < 6
      · rw [if_pos h]; omega
      · rw [if_neg h]; omega

/-! ### the bytes of a number are the only ones -/
theorem byt_small {m : Nat} (h : m < 256) : (byt (m : Int)).toNat = m := by
  have := byt_nat (m : Int); omega
theorem dec_enc : ∀ (m k acc : Nat) (r : List UInt8), m < 2 ^ (42 - 7 * k) → k < 6 → (k ≠ 0 → m ≠ 0) → dec (encN m ++ r) k acc = some (acc + m * 2 ^ (7 * k), k + (encN m).length) := by
  intro m
  induction m using Nat.strongRecOn with
  | _ m ih =>
    intro k acc r hm hk h0
    by_cases h : m ≤ 127
    · rw [encN_lo h]
      have e : (byt (m : Int)).toNat = m := byt_small (by omega)
      simp only [List.cons_append, List.nil_append, dec, e]
      rw [if_neg (by omega), if_neg (by omega), if_neg (by intro hh; exact h0 hh.2 hh.1), Nat.mod_eq_of_lt (by omega)]; rfl
    · rw [encN_hi h]
      have e : (byt ((m % 128 + 128 : Nat) : Int)).toNat = m % 128 + 128 := byt_small (by omega)
      simp only [List.cons_append, dec, e]
      have hk5 : k < 5 := by
        rcases Nat.lt_or_ge k 5 with h' | h'
        · exact h'
        · exfalso
          have : k = 5 := by omega
          subst this; omega
      rw [if_neg (by omega), if_pos (by omega)]
      rw [ih (m / 128) (by omega) (k + 1) _ r (by
        rw [Nat.div_lt_iff_lt_mul (by decide)]
        have : 42 - 7 * k = (42 - 7 * (k + 1)) + 7 := by omega
        rw [this, Nat.pow_add] at hm
        exact hm) (by omega) (fun _ => by omega)]
      congr 1
      simp only [List.length_cons, Prod.mk.injEq]
      refine ⟨?_, by omega⟩
      have e1 : (m % 128 + 128) % 128 = m % 128 := by omega
      rw [e1, show 7 * (k + 1) = 7 + 7 * k by omega, Nat.pow_add, ← Nat.mul_assoc, Nat.add_assoc, ← Nat.add_mul]
      congr 2
      omega
theorem enc_dec : ∀ (l : List UInt8) (k acc : Nat) {x : Nat × Nat}, dec l k acc = some x → ∃ m r, l = encN m ++ r ∧ x.1 = acc + m * 2 ^ (7 * k) ∧ x.2 = k + (encN m).length ∧ (k ≠ 0 → m ≠ 0) ∧ m < 2 ^ (42 - 7 * k)
  | [], _, _, _, h => by cases h
  | v :: l, k, acc, x, h => by
    unfold dec at h
    split at h
    · cases h
    · rename_i h6
      have hv := v.toNat_lt
      split at h
      · rename_i hgt
        obtain ⟨m, r, rfl, h1, h2, h3, h4⟩ := enc_dec l (k + 1) _ h
        have hm0 := h3 (by omega)
        have hk5 : k < 5 := by
          rcases Nat.lt_or_ge k 5 with h' | h'
          · exact h'
          · exfalso
            have e : 42 - 7 * (k + 1) = 0 := by omega
            rw [e, Nat.pow_zero] at h4
            omega
        refine ⟨v.toNat % 128 + 128 * m, r, ?_, ?_, ?_, fun _ => by omega, ?_⟩
        · rw [encN_hi (m := v.toNat % 128 + 128 * m) (by omega)]
          have e1 : (v.toNat % 128 + 128 * m) % 128 + 128 = v.toNat := by omega
          have e2 : (v.toNat % 128 + 128 * m) / 128 = m := by omega
          rw [e1, e2, byt_of]; rfl
        · rw [h1, Nat.add_mul, show 7 * (k + 1) = 7 + 7 * k by omega, Nat.pow_add, ← Nat.mul_assoc, Nat.mul_comm m, show (2 : Nat) ^ 7 = 128 from rfl]; omega
        · rw [h2, encN_hi (m := v.toNat % 128 + 128 * m) (by omega)]
          have e2 : (v.toNat % 128 + 128 * m) / 128 = m := by omega
          rw [e2]; simp; omega
        · have e : 42 - 7 * k = (42 - 7 * (k + 1)) + 7 := by omega
          rw [e, Nat.pow_add]
          omega
      · split at h
        · cases h
        · rename_i h7 h8
          simp only [Option.some.injEq] at h; subst h
          have hvl : v.toNat ≤ 127 := by omega
          refine ⟨v.toNat, l, ?_, ?_, ?_, fun hk hz => h8 ⟨hz, hk⟩, ?_⟩
          · rw [encN_lo hvl, byt_of]; rfl
          · simp only; rw [Nat.mod_eq_of_lt (by omega)]
          · rw [encN_lo hvl]; rfl
          · have : 2 ^ 7 ≤ 2 ^ (42 - 7 * k) := Nat.pow_le_pow_right (by decide) (by omega)
            omega

theorem unz_zig {n : Int} : unz (zig n) = n := by
  unfold unz zig; split <;> split <;> omega
theorem zig_unz {m : Nat} : zig (unz m) = m := by
  unfold unz zig; split <;> split <;> omega

/-- a number taken off the front -/
def pI (l : List UInt8) : Option (Int × List UInt8) := match dec l 0 0 with
  | some x => if okN (unz x.1) = true then some (unz x.1, l.drop x.2) else none
  | none => none
theorem okN_iff {n : Int} : okN n = true ↔ -M12 ≤ n ∧ n ≤ M12 := by unfold okN; simp
theorem pI_put (n : Int) (h : okN n = true) (r : List UInt8) : pI (putI n ++ r) = some (n, r) := by
  have hc := clamp_of (okN_iff.1 h).1 (okN_iff.1 h).2
  have hz := zig_lt n
  unfold pI putI
  rw [hc] at hz ⊢
  rw [dec_enc (zig n) 0 0 r (by simpa using hz) (by decide) (fun h => absurd rfl h)]
  simp only [Nat.zero_add, Nat.mul_zero, Nat.pow_zero, Nat.mul_one, unz_zig, h, if_true, List.drop_left]
theorem pI_inv {l r : List UInt8} {n : Int} (h : pI l = some (n, r)) : l = putI n ++ r ∧ okN n = true := by
  unfold pI at h
  split at h
  · rename_i x hx
    split at h
    · rename_i hok
      simp only [Option.some.injEq, Prod.mk.injEq] at h
      obtain ⟨rfl, rfl⟩ := h
      obtain ⟨m, r, rfl, h1, h2, _, _⟩ := enc_dec l 0 0 hx
      refine ⟨?_, hok⟩
      simp only [Nat.zero_add, Nat.mul_zero, Nat.pow_zero, Nat.mul_one] at h1 h2
      rw [h2, List.drop_left]
      unfold putI
      rw [clamp_of (okN_iff.1 hok).1 (okN_iff.1 hok).2, zig_unz, h1]
    · cases h
  · cases h
theorem getR_pI (l : List UInt8) (a : Nat) (ha : a ≤ l.length) : getR l a = match pI (l.drop a) with
    | some x => (x.1, l.length - x.2.length, true)
    | none => (0, 0, false) := by
  unfold getR pI
  cases hd : dec (l.drop a) 0 0 with
  | none => rfl
  | some x =>
    simp only
    split
    · obtain ⟨m, r, hl, h1, h2, _, _⟩ := enc_dec _ 0 0 hd
      simp only [Prod.mk.injEq, and_true, true_and]
      have : (l.drop a).length = x.2 + ((l.drop a).drop x.2).length := by
        rw [List.length_drop (i := x.2)]
        have : x.2 ≤ (l.drop a).length := by rw [hl, h2]; simp
        omega
      rw [List.length_drop (i := a)] at this
      omega
    · rfl
end Go.By

namespace Q6
open Go Go.Vm Go.Proofs
set_option maxHeartbeats 4000000
set_option synthInstance.maxSize 2000
set_option synthInstance.maxHeartbeats 400000
set_option maxRecDepth 10000
set_option linter.unusedSimpArgs false
set_option linter.unusedVariables false

open Go.By

theorem zig_wrap {c : Int} (h0 : -1000000000000 ≤ c) (h1 : c ≤ 1000000000000) (hc : ¬ c < 0) : IntKind.i64.wrap (2 * c) = (zig c : Int) := by
  rw [wrap64 _ (by omega) (by omega)]; unfold zig; rw [if_neg hc]; omega
theorem zig_wrapn {c : Int} (h0 : -1000000000000 ≤ c) (h1 : c ≤ 1000000000000) (hc : c < 0) : IntKind.i64.wrap (IntKind.i64.wrap (-2 * c) - 1) = (zig c : Int) := by
  rw [wrap64 (-2 * c) (by omega) (by omega), wrap64 _ (by omega) (by omega)]; unfold zig; rw [if_pos hc]; omega
theorem clampMM (n : Int) : (if (if (1000000000000 : Int) < n then 1000000000000 else n) > -1000000000000 then (if (1000000000000 : Int) < n then 1000000000000 else n) else -1000000000000) = clampI n := by
  unfold clampI M12; split <;> split <;> (try split) <;> omega
theorem put_cases (n c : Int) (hcn : clampI n = c) (h0 : -1000000000000 ≤ c) (h1 : c ≤ 1000000000000) : (decide (n > 1000000000000) = true ∧ c = 1000000000000 ∧ IntKind.i64.wrap (2 * c) = (zig c : Int)) ∨
    (decide (n > 1000000000000) = false ∧ decide (n < -1000000000000) = true ∧ c = -1000000000000 ∧ IntKind.i64.wrap (IntKind.i64.wrap (-2 * c) - 1) = (zig c : Int)) ∨
    (decide (n > 1000000000000) = false ∧ decide (n < -1000000000000) = false ∧ n = c ∧ decide (c < 0) = true ∧ IntKind.i64.wrap (IntKind.i64.wrap (-2 * c) - 1) = (zig c : Int)) ∨
    (decide (n > 1000000000000) = false ∧ decide (n < -1000000000000) = false ∧ n = c ∧ decide (c < 0) = false ∧ IntKind.i64.wrap (2 * c) = (zig c : Int)) := by
  have hz1 := @zig_wrap c h0 h1
  have hz2 := @zig_wrapn c h0 h1
  unfold clampI M12 at hcn
  split at hcn
  · subst hcn; rename_i h; exact .inl ⟨by simpa using h, rfl, hz1 (by decide)⟩
  · rename_i h
    split at hcn
    · rename_i h2; subst hcn; exact .inr (.inl ⟨by simpa using h, by simpa using h2, rfl, hz2 (by decide)⟩)
    · rename_i h2
      by_cases h3 : c < 0
      · exact .inr (.inr (.inl ⟨by simpa using h, by simpa using h2, hcn, by simpa using h3, hz2 h3⟩))
      · exact .inr (.inr (.inr ⟨by simpa using h, by simpa using h2, hcn, by simpa using h3, hz1 h3⟩))

theorem putInt_ok (l : List UInt8) (n : Int) (hl : l.length ≤ 268435456) : CallR Try.prog 68 [.ow 1 (l.map Enc.o), .int .i64 n] [] (.ow 1 ((l ++ putI n).map Enc.o)) := by
  refine CallR.of_body (n := 32) (rs := [.tmp 4]) hY.ok Try.func68 rfl (by decide) rfl rfl rfl rfl (fun F => ?_)
  have fx := And.intro Y1 (And.intro Y3 (And.intro Y4 (And.intro Y5 (And.intro Y24 (Y133)))))
  obtain ⟨hc0, hc1⟩ := clamp_le n
  unfold M12 at hc0 hc1
  have hz := zig_lt n
  have hpl : putI n = encN (zig (clampI n)) := rfl
  have hp6 := putI_len n
  rw [hpl] at hp6 ⊢
  have hcl := clampMM n
  generalize clampI n = c at *
  have hcs2 : (decide (c < 0) = true ∧ IntKind.i64.wrap (IntKind.i64.wrap (-2 * c) - 1) = (zig c : Int)) ∨ (decide (c < 0) = false ∧ IntKind.i64.wrap (2 * c) = (zig c : Int)) := by
    by_cases h : c < 0
    · exact .inl ⟨by simpa using h, zig_wrapn hc0 hc1 h⟩
    · exact .inr ⟨by simpa using h, zig_wrap hc0 hc1 h⟩
  generalize zig c = z at *
  rcases hcs2 with ⟨hd, hw⟩ | ⟨hd, hw⟩
  all_goals
    have fy := And.intro hcl (And.intro hd (hw))
    refine goR ?_ ?_ ?_ ?_ ?_ ?_ ?_ ?_ ?_ ?_ ?_ ?_ ?_ ?_ ?_ ?_
    any_goals (first | exact True.intro | skip)
    all_goals (repeat (refine Wh.mk fun hcc => ?_))
    all_goals
      refine SW.loop (fun x : Nat × List UInt8 => ⟨[.ref 1 0 0 x.2.length, .undef, .undef, .undef, .undef, .int .i64 (x.1 : Nat), .undef, .undef, .undef, .undef, .undef, .undef, .undef, .undef, .undef, .undef, .undef, .undef, .undef, .undef, .undef, .undef, .undef, .undef, .undef, .undef, .undef, .undef, .undef, .undef, .undef, .undef], [[.gone], [.arr 1 (x.2.map Enc.o) false]]⟩)
        (fun N x => N = x.1 ∧ x.2 ++ encN x.1 = l ++ encN z ∧ x.1 < 2 ^ 42) (n := z) (x := (z, l)) (by refine Norm.trans (Norm.mv 0 rfl) ?_; simp only [List.map_cons, List.map_nil, mvR, List.length_cons, List.length_nil, Heap.put, List.getElem?_cons_zero, List.set_cons_zero, and_self, if_true, Nat.zero_add, List.cons_append, List.nil_append]; exact Norm.to 0 rfl (by simp [weakL])) ⟨rfl, rfl, hz⟩ ?_
      rintro N ⟨m, acc⟩ ⟨hN, hacc, hm⟩
      simp only at hN hacc hm ⊢
      have hlen : acc.length + (encN m).length = l.length + (encN z).length := by have := congrArg List.length hacc; simpa using this
      have fy := Nat.add_zero
      refine goS ?_
      refine SW.cond rfl (fun hc => ?_) (fun hc => ?_)
      · have hgt : ¬ m ≤ 127 := by simp at hc; omega
        have e1 := i64_and127 m (by omega)
        have e2 := i64_or128 (m % 128) (by omega)
        have e3 := i64_shr7 m
        rw [encN_hi hgt] at hacc hlen
        simp only [List.length_cons] at hlen
        have hap := append_runP (Y := Y) (H := [[.gone], [.arr 1 (acc.map Enc.o) false], [.arr 1 [Enc.o (byt ((m % 128 + 128 : Nat) : Int))] false], []]) (own := 3) (t := 24) (u := 24) (e := 1) (j := 0) (off := 0) (n := acc.length) (e2 := 2) (j2 := 0) (f := acc.map Enc.o) (l := acc) (x := byt ((m % 128 + 128 : Nat) : Int)) Y24 Y24 Y5 rfl (by decide) rfl rfl (by simp) (by simp) (by omega) rfl rfl
        simp only [o_byte] at hap
        have fy := And.intro e1 (And.intro e2 (And.intro e3 (And.intro hap (bs1_24))))
        refine goN ?_ ?_ ?_ ?_ ?_ ?_ ?_ ?_ ?_ ?_ ?_ ?_ ?_ ?_ ?_ ?_
        any_goals (first | exact True.intro | skip)
        skip
        refine ⟨m / 128, (m / 128, acc ++ [byt ((m % 128 + 128 : Nat) : Int)]), by omega, ⟨rfl, by simp only; rw [← hacc]; simp, by simp only; omega⟩, ?_⟩
        exact Norm.re [0, 3] (by decide) rfl (by simp only [eq_self, heapFits, rowFits, obFits, List.getElem?_cons_zero, List.getElem?_cons_succ, renL_o, renL_b, true_and, and_true, and_self]) (by simp [tmFits, T.ren])
      · have hle : m ≤ 127 := by simp at hc; omega
        rw [encN_lo hle] at hacc hlen
        have hap := append_runP (Y := Y) (H := [[.gone], [.arr 1 (acc.map Enc.o) false], [.arr 1 [Enc.o (byt ((m : Nat) : Int))] false], []]) (own := 3) (t := 24) (u := 24) (e := 1) (j := 0) (off := 0) (n := acc.length) (e2 := 2) (j2 := 0) (f := acc.map Enc.o) (l := acc) (x := byt ((m : Nat) : Int)) Y24 Y24 Y5 rfl (by decide) rfl rfl (by simp) (by simp) (by omega) rfl rfl
        simp only [o_byte] at hap
        have fy := And.intro hap (bs1_24)
        refine goN ?_ ?_ ?_ ?_ ?_ ?_ ?_ ?_ ?_ ?_ ?_ ?_ ?_ ?_ ?_ ?_
        any_goals (first | exact True.intro | skip)
        skip
        rw [← hacc]
        exact SW.ret (show RetQ _ _ _ _ _ _ _ from RetQ.y [1] [.ow 1 ((acc ++ [byt ((m : Nat) : Int)]).map Enc.o)])
theorem PutInt_ok (l : List UInt8) (n : Int) (hl : l.length ≤ 268435456) : CallR Try.prog 63 [.sl .b (l.map Enc.b), .int .i64 n] [] (.ow 1 ((l ++ putI n).map Enc.o)) := by
  refine CallR.of_body (n := 37) (rs := [.tmp 4]) hY.ok Try.func63 rfl (by decide) rfl rfl rfl rfl (fun F => ?_)
  have fx := And.intro Y1 (And.intro Y3 (And.intro Y4 (And.intro Y5 (And.intro Y24 (Y133)))))
  obtain ⟨hc0, hc1⟩ := clamp_le n
  unfold M12 at hc0 hc1
  have hz := zig_lt n
  have hpl : putI n = encN (zig (clampI n)) := rfl
  have hp6 := putI_len n
  rw [hpl] at hp6 ⊢
  have hcl := clampMM n
  have hcs := put_cases n _ rfl hc0 hc1
  generalize clampI n = c at *
  have hap0 := append_runB (Y := Y) (H := [[], [.arr 1 [] false], []]) (own := 2) (t := 24) (u := 24) (e := 1) (j := 0) (off := 0) (n := 0) (f := []) (l := []) (g := .b) (m := l) Y24 Y24 Y5 rfl (by decide) rfl rfl (Nat.le_refl _) (by omega) rfl b_byte
  simp only [Nat.zero_add, List.nil_append] at hap0
  have hd3' : decide ((1000000000000 : Int) < 0) = false := by decide
  have hd4' : decide ((-1000000000000 : Int) < 0) = true := by decide
  have hd5' : decide ((1000000000000 : Int) < -1000000000000) = false := by decide
  generalize zig c = z at *
  have hcs : (decide (n > 1000000000000) = true ∧ decide (n < n) = false ∧ decide (n < n) = false ∧ c = 1000000000000 ∧ IntKind.i64.wrap (2 * c) = (z : Int)) ∨ (decide (n > 1000000000000) = false ∧ decide (n < -1000000000000) = true ∧ decide (n < n) = false ∧ c = -1000000000000 ∧ IntKind.i64.wrap (IntKind.i64.wrap (-2 * c) - 1) = (z : Int)) ∨ (decide (n > 1000000000000) = false ∧ decide (n < -1000000000000) = false ∧ decide (c < 0) = true ∧ n = c ∧ IntKind.i64.wrap (IntKind.i64.wrap (-2 * c) - 1) = (z : Int)) ∨ (decide (n > 1000000000000) = false ∧ decide (n < -1000000000000) = false ∧ decide (c < 0) = false ∧ n = c ∧ IntKind.i64.wrap (2 * c) = (z : Int)) := by
    have hnn : decide (n < n) = false := by simp
    rcases hcs with ⟨hd, hc, hw⟩ | ⟨hd, hd2, hc, hw⟩ | ⟨hd, hd2, hc, hd3, hw⟩ | ⟨hd, hd2, hc, hd3, hw⟩
    · exact .inl ⟨hd, hnn, hnn, hc, hw⟩
    · exact .inr (.inl ⟨hd, hd2, hnn, hc, hw⟩)
    · exact .inr (.inr (.inl ⟨hd, hd2, hd3, hc, hw⟩))
    · exact .inr (.inr (.inr ⟨hd, hd2, hd3, hc, hw⟩))
  rcases hcs with ⟨hd, hd2, hd3, hc, hw⟩ | ⟨hd, hd2, hd3, hc, hw⟩ | ⟨hd, hd2, hd3, hc, hw⟩ | ⟨hd, hd2, hd3, hc, hw⟩ <;> subst hc
  all_goals
    have fy := And.intro hap0 (And.intro hd (And.intro hd2 (And.intro hd3 (And.intro hd3' (And.intro hd4' (And.intro hd5' (And.intro hw (bs0_24))))))))
    refine goR ?_ ?_ ?_ ?_ ?_ ?_ ?_ ?_ ?_ ?_ ?_ ?_ ?_ ?_ ?_ ?_
    any_goals (first | exact True.intro | skip)
    all_goals (repeat (refine Wh.mk fun hcc => ?_))
    all_goals
      refine SW.loop (fun x : Nat × List UInt8 => ⟨[.sl .b (l.map Enc.b), .undef, .undef, .undef, .undef, .ref 1 0 0 x.2.length, .int .i64 (x.1 : Nat), .undef, .undef, .undef, .undef, .undef, .undef, .undef, .undef, .undef, .undef, .undef, .undef, .undef, .undef, .undef, .undef, .undef, .undef, .undef, .undef, .undef, .undef, .undef, .undef, .undef, .undef, .undef, .undef, .undef, .undef], [[], [.arr 1 (x.2.map Enc.o) false]]⟩)
        (fun N x => N = x.1 ∧ x.2 ++ encN x.1 = l ++ encN z ∧ x.1 < 2 ^ 42) (n := z) (x := (z, l)) (by refine Norm.re [0, 2] (by decide) rfl (by simp only [eq_self, heapFits, rowFits, obFits, List.getElem?_cons_zero, List.getElem?_cons_succ, renL_o, renL_b, true_and, and_true, and_self]) (by simp [tmFits, T.ren])) ⟨rfl, rfl, hz⟩ ?_
      rintro N ⟨m, acc⟩ ⟨hN, hacc, hm⟩
      simp only at hN hacc hm ⊢
      have hlen : acc.length + (encN m).length = l.length + (encN z).length := by have := congrArg List.length hacc; simpa using this
      have fy := Nat.add_zero
      refine goS ?_
      refine SW.cond rfl (fun hc => ?_) (fun hc => ?_)
      · have hgt : ¬ m ≤ 127 := by simp at hc; omega
        have e1 := i64_and127 m (by omega)
        have e2 := i64_or128 (m % 128) (by omega)
        have e3 := i64_shr7 m
        rw [encN_hi hgt] at hacc hlen
        simp only [List.length_cons] at hlen
        have hap := append_runP (Y := Y) (H := [[], [.arr 1 (acc.map Enc.o) false], [.arr 1 [Enc.o (byt ((m % 128 + 128 : Nat) : Int))] false], []]) (own := 3) (t := 24) (u := 24) (e := 1) (j := 0) (off := 0) (n := acc.length) (e2 := 2) (j2 := 0) (f := acc.map Enc.o) (l := acc) (x := byt ((m % 128 + 128 : Nat) : Int)) Y24 Y24 Y5 rfl (by decide) rfl rfl (by simp) (by simp) (by omega) rfl rfl
        simp only [o_byte] at hap
        have fy := And.intro e1 (And.intro e2 (And.intro e3 (And.intro hap (bs1_24))))
        refine goN ?_ ?_ ?_ ?_ ?_ ?_ ?_ ?_ ?_ ?_ ?_ ?_ ?_ ?_ ?_ ?_
        any_goals (first | exact True.intro | skip)
        skip
        refine ⟨m / 128, (m / 128, acc ++ [byt ((m % 128 + 128 : Nat) : Int)]), by omega, ⟨rfl, by simp only; rw [← hacc]; simp, by simp only; omega⟩, ?_⟩
        exact Norm.re [0, 3] (by decide) rfl (by simp only [eq_self, heapFits, rowFits, obFits, List.getElem?_cons_zero, List.getElem?_cons_succ, renL_o, renL_b, true_and, and_true, and_self]) (by simp [tmFits, T.ren])
      · have hle : m ≤ 127 := by simp at hc; omega
        rw [encN_lo hle] at hacc hlen
        have hap := append_runP (Y := Y) (H := [[], [.arr 1 (acc.map Enc.o) false], [.arr 1 [Enc.o (byt ((m : Nat) : Int))] false], []]) (own := 3) (t := 24) (u := 24) (e := 1) (j := 0) (off := 0) (n := acc.length) (e2 := 2) (j2 := 0) (f := acc.map Enc.o) (l := acc) (x := byt ((m : Nat) : Int)) Y24 Y24 Y5 rfl (by decide) rfl rfl (by simp) (by simp) (by omega) rfl rfl
        simp only [o_byte] at hap
        have fy := And.intro hap (bs1_24)
        refine goN ?_ ?_ ?_ ?_ ?_ ?_ ?_ ?_ ?_ ?_ ?_ ?_ ?_ ?_ ?_ ?_
        any_goals (first | exact True.intro | skip)
        skip
        rw [← hacc]
        exact SW.ret (show RetQ _ _ _ _ _ _ _ from RetQ.y [1] [.ow 1 ((acc ++ [byt ((m : Nat) : Int)]).map Enc.o)])
end Q6

namespace Q6
open Go Go.Vm Go.Proofs
set_option maxHeartbeats 4000000
set_option synthInstance.maxSize 2000
set_option synthInstance.maxHeartbeats 400000
set_option maxRecDepth 10000
set_option linter.unusedSimpArgs false
set_option linter.unusedVariables false

open Go.By
theorem spec_l2Same_ok (l m : List UInt8) (hl : Enc.lim 1048576 l) : CallR Try.prog 106 [.sl .b (l.map Enc.b), .sl .b (m.map Enc.b)] [] (.bool (decide (l = m))) := by
  refine CallR.of_body (n := 26) (rs := [.tmp 4]) hY.ok Try.func106 rfl (by decide) rfl rfl rfl rfl (fun F => ?_)
  have fx := And.intro Y3 (And.intro Y4 (And.intro Y5 (Y24)))
  have hl1 : l.length ≤ 1048576 := hl.1
  have fy := Nat.add_zero
  refine goS ?_
  refine SW.cond rfl (fun hc => ?_) (fun hc => ?_)
  · have hne : ¬ l = m := by intro e; subst e; simp at hc
    have fy := Nat.add_zero
    refine goK ?_ ?_ ?_ ?_ ?_ ?_ ?_ ?_ ?_ ?_ ?_ ?_ ?_ ?_ ?_ ?_
    any_goals (first | exact True.intro | skip)
    all_goals (repeat (refine Wh.mk fun hcc => ?_))
    simp [tupOf, fixEs, hne]
  have hlen : l.length = m.length := by have : (l.length : Int) = m.length := by simpa using hc
                                        omega
  refine SW.skip ?_
  simp only [thenS]
  have fy := Nat.add_zero
  refine goN ?_ ?_ ?_ ?_ ?_ ?_ ?_ ?_ ?_ ?_ ?_ ?_ ?_ ?_ ?_ ?_
  any_goals (first | exact True.intro | skip)
  skip
  refine SW.loop (fun i : Nat => ⟨[.sl .b (l.map Enc.b), .sl .b (m.map Enc.b), .undef, .undef, .undef, .int .i64 i, .undef, .undef, .undef, .undef, .undef, .undef, .undef, .undef, .undef, .undef, .undef, .undef, .undef, .undef, .undef, .undef, .undef, .undef, .undef, .undef], [[]]⟩)
    (fun n i => n = l.length - i ∧ i ≤ l.length ∧ ∀ j (h : j < l.length), j < i → l[j] = m[j]'(by omega)) (n := l.length) (x := 0) (Norm.to 0 rfl (by simp [weakL])) ⟨rfl, Nat.zero_le _, fun j _ h => absurd h (Nat.not_lt_zero _)⟩ ?_
  rintro n i ⟨hn, hi, hp⟩
  have fy := Nat.add_zero
  refine goS ?_
  refine SW.cond rfl (fun hc => ?_) (fun hc => ?_)
  · have hlt : i < l.length := by simpa using hc
    have hlt' : i < m.length := by omega
    have hgl : (l.map Enc.b)[i]? = some (.int .u8 (l[i].toNat : Int)) := map_get Enc.b l i hlt
    have hgm : (m.map Enc.b)[i]? = some (.int .u8 (m[i].toNat : Int)) := map_get Enc.b m i hlt'
    have fy := And.intro hgl (hgm)
    refine goK ?_ ?_ ?_ ?_ ?_ ?_ ?_ ?_ ?_ ?_ ?_ ?_ ?_ ?_ ?_ ?_
    any_goals (first | exact True.intro | skip)
    all_goals (repeat (refine Wh.mk fun hcc => ?_))
    · have hx := hcc
      have hne : ¬ l[i] = m[i] := by intro e; simp [e] at hx
      have hlm : ¬ l = m := by intro e; subst e; exact hne rfl
      simp [tupOf, fixEs, hlm]
    · have hx := hcc
      have hx' : l[i] = m[i] := by first | (simpa using hx; done) | (apply UInt8.toNat_inj.1; simp at hx; omega)
      refine ⟨n - 1, i + 1, by omega, ⟨by omega, by omega, fun j hj hji => ?_⟩, ?_⟩
      · by_cases he : j = i
        · subst he; exact hx'
        · exact hp j hj (by omega)
      · rw [wrap64 _ (by omega) (by omega)]
        first | exact Norm.to 0 rfl (by simp [weakL]) | exact Norm.to 1 rfl (by simp [weakL])
  · have hge : i = l.length := by
      have : ¬ i < l.length := by simpa using hc
      omega
    have hlm : l = m := List.ext_getElem hlen fun j h1 h2 => hp j h1 (by omega)
    have fy := Nat.add_zero
    refine goK ?_ ?_ ?_ ?_ ?_ ?_ ?_ ?_ ?_ ?_ ?_ ?_ ?_ ?_ ?_ ?_
    any_goals (first | exact True.intro | skip)
    all_goals (repeat (refine Wh.mk fun hcc => ?_))
    simp [tupOf, fixEs, hlm]

def putL (l : List Int) : List UInt8 := putI l.length ++ l.flatMap putI
theorem putF_len : ∀ l : List Int, (l.flatMap putI).length ≤ 6 * l.length
  | [] => by simp
  | x :: l => by have := putF_len l; have := putI_len x; simp only [List.flatMap_cons, List.length_append, List.length_cons]; omega
theorem objB_len {x : Int × List Int × List Int × Unit} (h : objB x = true) : x.2.1.length ≤ 5 ∧ x.2.2.1.length ≤ 5 := by
  unfold objB at h; simp only [Bool.and_eq_true, decide_eq_true_eq] at h; exact ⟨h.1.1.1.2, h.1.1.2⟩
def putObj (x : Int × List Int × List Int × Unit) : List UInt8 := putI x.1 ++ putL x.2.1 ++ putL x.2.2.1
theorem putL_len (l : List Int) : (putL l).length ≤ 6 + 6 * l.length := by
  unfold putL; have := putF_len l; have := putI_len l.length; simp only [List.length_append]; omega

theorem putList_ok (b : List UInt8) (l : List Int) (hb : b.length ≤ 1048576) (hl : l.length ≤ 1048576) : CallR Try.prog 128 [.sl .b (b.map Enc.b), .sl .b (l.map Enc.b)] [] (.ow 1 ((b ++ putL l).map Enc.o)) := by
  refine CallR.of_body (n := 23) (rs := [.tmp 4]) hY.ok Try.func128 rfl (by decide) rfl rfl rfl rfl (fun F => ?_)
  have fx := And.intro Y3 (And.intro Y4 (And.intro Y5 (And.intro Y24 (Y34))))
  have h0 := PutInt_ok b l.length (by omega)
  have hpl := putI_len l.length
  have hC1 := cx [] (h0)
  have fy := Nat.add_zero
  refine goN ?_ ?_ ?_ ?_ ?_ ?_ ?_ ?_ ?_ ?_ ?_ ?_ ?_ ?_ ?_ ?_
  any_goals (first | exact True.intro | skip)
  skip
  refine SW.loop (fun x : Nat × List UInt8 => ⟨[.ref 1 0 0 x.2.length, .sl .b (l.map Enc.b), .undef, .undef, .undef, .int .i64 (x.1 : Nat), .undef, .undef, .undef, .undef, .undef, .undef, .undef, .undef, .undef, .undef, .undef, .undef, .undef, .undef, .undef, .undef, .undef], [[], [.arr 1 (x.2.map Enc.o) false]]⟩)
    (fun N x => N = l.length - x.1 ∧ x.1 ≤ l.length ∧ x.2 = b ++ putI l.length ++ (l.take x.1).flatMap putI) (n := l.length) (x := (0, b ++ putI l.length)) (Norm.re [0, 1] (by decide) rfl (by simp [-List.map_append, heapFits, rowFits, obFits, T.ren, renL]) (by simp [tmFits, T.ren])) ⟨rfl, Nat.zero_le _, by simp⟩ ?_
  rintro N ⟨i, acc⟩ ⟨hN, hi, hac⟩
  simp only at hN hi hac ⊢
  have hacl : acc.length ≤ 8388608 := by
    have h1 := putF_len (l.take i)
    have h2 : (l.take i).length ≤ l.length := by rw [List.length_take]; omega
    rw [hac]; simp only [List.length_append]; omega
  have fy := Nat.add_zero
  refine goS ?_
  refine SW.cond rfl (fun hc => ?_) (fun hc => ?_)
  · have hlt : i < l.length := by simp at hc; omega
    have hg : (l.map Enc.b)[i]? = some (.int .i64 l[i]) := map_get Enc.b l i hlt
    have hwi : IntKind.i64.wrap ((i : Int) + 1) = ((i + 1 : Nat) : Int) := by rw [wrap64 _ (by omega) (by omega)]; omega
    have h1 := PutInt_ok acc l[i] (by omega)
    have hC1 := cx [] (h1)
    have fy := And.intro hg (hwi)
    refine goN ?_ ?_ ?_ ?_ ?_ ?_ ?_ ?_ ?_ ?_ ?_ ?_ ?_ ?_ ?_ ?_
    any_goals (first | exact True.intro | skip)
    skip
    refine ⟨N - 1, (i + 1, acc ++ putI l[i]), by omega, ⟨by simp only; omega, by simp only; omega, ?_⟩, ?_⟩
    · simp only; rw [hac, List.take_succ_eq_append_getElem hlt, List.flatMap_append, ← List.append_assoc]; simp only [List.flatMap_cons, List.flatMap_nil, List.append_nil]
    · exact Norm.re [0, 2] (by decide) rfl (by simp [-List.map_append, heapFits, rowFits, obFits, T.ren, renL]) (by simp [tmFits, T.ren])
  · have hge : i = l.length := by
      have : ¬ i < l.length := by simp at hc; omega
      omega
    subst hge
    have hfin : b ++ putL l = acc := by rw [hac, List.take_length]; unfold putL; simp
    rw [hfin]
    have fy := Nat.add_zero
    refine goR ?_ ?_ ?_ ?_ ?_ ?_ ?_ ?_ ?_ ?_ ?_ ?_ ?_ ?_ ?_ ?_
    any_goals (first | exact True.intro | skip)
    all_goals (repeat (refine Wh.mk fun hcc => ?_))
    exact SW.ret (show RetQ _ _ _ _ _ _ _ from RetQ.y [1] [.ow 1 (acc.map Enc.o)])
theorem sPutObj_y (x : (Int × (List Int) × (List Int) × Unit)) (hx : Enc.lim 1048576 x) (ho : objB x = true) : CallR Try.prog 62 [.nd [.int .i64 x.1, .sl .b (x.2.1.map Enc.b), .sl .b (x.2.2.1.map Enc.b)]] [] (.ow 1 ((putObj x).map Enc.o)) := by
  refine CallR.of_body (n := 17) (rs := [.tmp 2]) hY.ok Try.func62 rfl (by decide) rfl rfl rfl rfl (fun F => ?_)
  have fx := And.intro Y1 (And.intro Y2 (And.intro Y3 (And.intro Y4 (And.intro Y5 (And.intro Y24 (And.intro Y34 (Y36)))))))
  have hO := specObjOk_ok x hx
  rw [ho] at hO
  have h1 := PutInt_ok [] x.1 (by simp)
  rw [List.nil_append] at h1
  have hp1 := putI_len x.1
  have h2 := putList_ok (putI x.1) x.2.1 (by omega) hx.2.1.1
  have hp2 := putL_len x.2.1
  have hb5 : x.2.1.length ≤ 5 ∧ x.2.2.1.length ≤ 5 := objB_len ho
  have h3 := putList_ok (putI x.1 ++ putL x.2.1) x.2.2.1 (by simp only [List.length_append]; omega) hx.2.2.1.1
  have hpo : putObj x = putI x.1 ++ putL x.2.1 ++ putL x.2.2.1 := rfl
  rw [hpo]
  generalize putI x.1 ++ putL x.2.1 = P2 at *
  generalize P2 ++ putL x.2.2.1 = P3 at *
  generalize putI x.1 = P1 at *
  have hC1 := cx [] (hO)
  have hC2 := cx [] (h1)
  have hC3 := cx [] (h2)
  have hC4 := cx [] (h3)
  have fy := bs0_24
  have hD1 := dx 3 [1, 3, 3, 3] [(2, 0), (5, 0), (5, 1), (8, 0), (8, 1), (8, 2)]
  refine goR ?_ ?_ ?_ ?_ ?_ ?_ ?_ ?_ ?_ ?_ ?_ ?_ ?_ ?_ ?_ ?_
  any_goals (first | exact True.intro | skip)
  all_goals (repeat (refine Wh.mk fun hcc => ?_))
  exact SW.ret (show RetQ _ _ _ _ _ _ _ from RetQ.y [1] [.ow 1 (P3.map Enc.o)])
theorem sPutObj_n (x : (Int × (List Int) × (List Int) × Unit)) (hx : Enc.lim 1048576 x) (ho : objB x = false) : CallR Try.prog 62 [.nd [.int .i64 x.1, .sl .b (x.2.1.map Enc.b), .sl .b (x.2.2.1.map Enc.b)]] [] (.ow 1 (([] : List UInt8).map Enc.o)) := by
  refine CallR.of_body (n := 17) (rs := [.tmp 2]) hY.ok Try.func62 rfl (by decide) rfl rfl rfl rfl (fun F => ?_)
  have fx := And.intro Y1 (And.intro Y2 (And.intro Y3 (And.intro Y4 (And.intro Y5 (And.intro Y24 (And.intro Y34 (Y36)))))))
  have hO := specObjOk_ok x hx
  rw [ho] at hO
  have hC1 := cx [] (hO)
  have fy := bs0_24
  have hD1 := dx 3 [1, 3, 3, 3] [(2, 0), (5, 0), (5, 1), (8, 0), (8, 1), (8, 2)]
  refine goR ?_ ?_ ?_ ?_ ?_ ?_ ?_ ?_ ?_ ?_ ?_ ?_ ?_ ?_ ?_ ?_
  any_goals (first | exact True.intro | skip)
  all_goals (repeat (refine Wh.mk fun hcc => ?_))
  exact SW.ret (show RetQ _ _ _ _ _ _ _ from RetQ.y [1] [.ow 1 []])
end Q6

namespace Q6
open Go Go.Vm Go.Proofs
set_option maxHeartbeats 4000000
set_option synthInstance.maxSize 2000
set_option synthInstance.maxHeartbeats 400000
set_option maxRecDepth 10000
set_option linter.unusedSimpArgs false
set_option linter.unusedVariables false


def pvL (l : List LiveT) (i : Nat) : Option LiveT := if i = 0 then none else l[i - 1]?
theorem pvL_zero (l : List LiveT) : pvL l 0 = none := rfl
theorem pvL_succ (l : List LiveT) (i : Nat) (h : i < l.length) : pvL l (i + 1) = some l[i] := by unfold pvL; rw [if_neg (by omega), Nat.add_sub_cancel, List.getElem?_eq_getElem h]
theorem pvL_pos (l : List LiveT) (i : Nat) (h : i < l.length) (h0 : ¬ i = 0) : pvL l i = some (l[i - 1]'(by omega)) := by unfold pvL; rw [if_neg h0, List.getElem?_eq_getElem (by omega)]


theorem live_get (l : List LiveT) (i : Nat) (h : i < l.length) : (l.map Enc.b)[i]? = some (.nd [.int .i64 l[i].1, .int .i64 l[i].2.1, .bool l[i].2.2.1]) := map_get Enc.b l i h

theorem livesOk_ok (l : List LiveT) (lsn : Int) (hl : l.length ≤ 1048576) (h1 : 1 ≤ lsn) (h2 : lsn ≤ 1000000) : CallR Try.prog 81 [.sl .b (l.map Enc.b), .int .i64 lsn] [] (.bool (livesB l lsn)) := by
  refine CallR.of_body (n := 45) (rs := [.tmp 4]) hY.ok Try.func81 rfl (by decide) rfl rfl rfl rfl (fun F => ?_)
  have fx := And.intro Y1 (And.intro Y3 (And.intro Y4 (And.intro Y39 (Y91))))
  have hwl : IntKind.i64.wrap (lsn - 1) = lsn - 1 := wrap64 _ (by omega) (by omega)
  have fy := Nat.add_zero
  refine goN ?_ ?_ ?_ ?_ ?_ ?_ ?_ ?_ ?_ ?_ ?_ ?_ ?_ ?_ ?_ ?_
  any_goals (first | exact True.intro | skip)
  skip
  refine SW.loop (fun i : Nat => ⟨[.sl .b (l.map Enc.b), .int .i64 lsn, .undef, .undef, .undef, .undef, .undef, .sl .b (l.map Enc.b), .int .i64 l.length, .int .i64 i, .undef, .undef, .undef, .undef, .undef, .undef, .undef, .undef, .undef, .undef, .undef, .undef, .undef, .undef, .undef, .undef, .undef, .undef, .undef, .undef, .undef, .undef, .undef, .undef, .undef, .undef, .undef, .undef, .undef, .undef, .undef, .undef, .undef, .undef, .undef], [[]]⟩)
    (fun n i => n = l.length - i ∧ i ≤ l.length ∧ livesL lsn (pvL l i) (l.drop i) = livesL lsn none l) (n := l.length) (x := 0) (Norm.re [0] (by decide) rfl (by first | (simp only [eq_self, heapFits, rowFits, obFits, List.getElem?_cons_zero, List.getElem?_cons_succ, renL_o, renL_b, true_and, and_true, and_self]; done) | simp [-List.map_append, heapFits, rowFits, obFits, T.ren, renL]) (by simp [tmFits, T.ren])) ⟨rfl, Nat.zero_le _, rfl⟩ ?_
  rintro n i ⟨hn, hi, hfd⟩
  have fy := Nat.add_zero
  refine goS ?_
  refine SW.cond rfl (fun hc => ?_) (fun hc => ?_)
  · have hlt : i < l.length := by simpa using hc
    have hg := live_get l i hlt
    have hltI : (i : Int) < (l.length : Int) := by omega
    rw [List.drop_eq_getElem_cons hlt, livesL] at hfd
    have hA := isTx_ok l[i].1
    have hB := inR_ok l[i].2.1 1 (lsn - 1)
    have hcon : ∀ b, liveB lsn (pvL l i) l[i] = b → (b = false → livesB l lsn = false) := fun b hb h => by subst h; rw [hb] at hfd; unfold livesB; rw [← hfd]; rfl
    have hgo : liveB lsn (pvL l i) l[i] = true → livesL lsn (pvL l (i + 1)) (l.drop (i + 1)) = livesL lsn none l := fun hb => by rw [hb, Bool.true_and] at hfd; rw [pvL_succ l i hlt]; exact hfd
    have hlb : liveB lsn (pvL l i) l[i] = ((rng l[i].1 1 1000 && rng l[i].2.1 1 (lsn - 1)) && (match pvL l i with | none => true | some q => decide (q.1 < l[i].1))) := rfl
    have hz : (i = 0 ∧ decide ((i : Int) > 0) = false ∧ (match pvL l i with | none => true | some q => decide (q.1 < l[i].1)) = true) ∨ (¬ i = 0 ∧ decide ((i : Int) > 0) = true) := by
      by_cases h : i = 0
      · subst h; exact .inl ⟨rfl, rfl, rfl⟩
      · exact .inr ⟨h, by simp; omega⟩
    cases hAv : rng l[i].1 1 1000
    · rw [hAv] at hA
      have hC1 := cx [] (hA)
      have hC2 := cx [] (hB)
      have fy := And.intro hg (And.intro hltI (hwl))
      refine goK ?_ ?_ ?_ ?_ ?_ ?_ ?_ ?_ ?_ ?_ ?_ ?_ ?_ ?_ ?_ ?_
      any_goals (first | exact True.intro | skip)
      all_goals (repeat (refine Wh.mk fun hcc => ?_))
      all_goals (simp only [tupOf, fixEs]; rw [hcon _ rfl (by rw [hlb]; simp_all)])
    · rw [hAv] at hA
      cases hBv : rng l[i].2.1 1 (lsn - 1)
      · rw [hBv] at hB
        have hC1 := cx [] (hA)
        have hC2 := cx [] (hB)
        have fy := And.intro hg (And.intro hltI (hwl))
        refine goK ?_ ?_ ?_ ?_ ?_ ?_ ?_ ?_ ?_ ?_ ?_ ?_ ?_ ?_ ?_ ?_
        any_goals (first | exact True.intro | skip)
        all_goals (repeat (refine Wh.mk fun hcc => ?_))
        all_goals (simp only [tupOf, fixEs]; rw [hcon _ rfl (by rw [hlb]; simp_all)])
      · rw [hBv] at hB
        rcases hz with ⟨hi0, hzd, hzm⟩ | ⟨hi0, hzd⟩
        · skip
          have hC1 := cx [] (hA)
          have hC2 := cx [] (hB)
          have fy := And.intro hg (And.intro hltI (And.intro hwl (hzd)))
          refine goK ?_ ?_ ?_ ?_ ?_ ?_ ?_ ?_ ?_ ?_ ?_ ?_ ?_ ?_ ?_ ?_
          any_goals (first | exact True.intro | skip)
          all_goals (repeat (refine Wh.mk fun hcc => ?_))
          all_goals (refine ⟨n - 1, i + 1, by omega, ⟨by omega, by omega, hgo (by rw [hlb]; simp_all)⟩, ?_⟩; rw [wrap64 _ (by omega) (by omega)]; exact Norm.re [0] (by decide) rfl (by first | (simp only [eq_self, heapFits, rowFits, obFits, List.getElem?_cons_zero, List.getElem?_cons_succ, renL_o, renL_b, true_and, and_true, and_self]; done) | simp [-List.map_append, heapFits, rowFits, obFits, T.ren, renL]) (by simp [tmFits, T.ren]))
        · have hgp : (l.map Enc.b)[i - 1]? = some (.nd [.int .i64 (((l[i - 1]'(by omega))).1), .int .i64 (((l[i - 1]'(by omega))).2.1), .bool (((l[i - 1]'(by omega))).2.2.1)]) := map_get Enc.b l (i - 1) (by omega)
          have hwi : IntKind.i64.wrap ((i : Int) - 1) = ((i - 1 : Nat) : Int) := by rw [wrap64 _ (by omega) (by omega)]; omega
          have hpI : ((i - 1 : Nat) : Int) < (l.length : Int) := by omega
          have hpm : (match pvL l i with | none => true | some q => decide (q.1 < l[i].1)) = decide ((l[i - 1]'(by omega)).1 < l[i].1) := by rw [pvL_pos l i hlt hi0]
          rw [hpm] at hlb
          by_cases hC : (l[i - 1]'(by omega)).1 < l[i].1
          · have hCd : decide ((l[i - 1]'(by omega)).1 ≥ l[i].1) = false := by simp; omega
            have hC1 := cx [] (hA)
            have hC2 := cx [] (hB)
            have fy := And.intro hg (And.intro hltI (And.intro hwl (And.intro hzd (And.intro hgp (And.intro hwi (And.intro hpI (hCd)))))))
            refine goK ?_ ?_ ?_ ?_ ?_ ?_ ?_ ?_ ?_ ?_ ?_ ?_ ?_ ?_ ?_ ?_
            any_goals (first | exact True.intro | skip)
            all_goals (repeat (refine Wh.mk fun hcc => ?_))
            all_goals (refine ⟨n - 1, i + 1, by omega, ⟨by omega, by omega, hgo (by rw [hlb]; simp_all)⟩, ?_⟩; rw [wrap64 _ (by omega) (by omega)]; exact Norm.re [0] (by decide) rfl (by first | (simp only [eq_self, heapFits, rowFits, obFits, List.getElem?_cons_zero, List.getElem?_cons_succ, renL_o, renL_b, true_and, and_true, and_self]; done) | simp [-List.map_append, heapFits, rowFits, obFits, T.ren, renL]) (by simp [tmFits, T.ren]))
          · have hCd : decide ((l[i - 1]'(by omega)).1 ≥ l[i].1) = true := by simp; omega
            have hC1 := cx [] (hA)
            have hC2 := cx [] (hB)
            have fy := And.intro hg (And.intro hltI (And.intro hwl (And.intro hzd (And.intro hgp (And.intro hwi (And.intro hpI (hCd)))))))
            refine goK ?_ ?_ ?_ ?_ ?_ ?_ ?_ ?_ ?_ ?_ ?_ ?_ ?_ ?_ ?_ ?_
            any_goals (first | exact True.intro | skip)
            all_goals (repeat (refine Wh.mk fun hcc => ?_))
            all_goals (simp only [tupOf, fixEs]; rw [hcon _ rfl (by rw [hlb]; simp_all)])
  · have hge : i = l.length := by
      have : ¬ i < l.length := by simpa using hc
      omega
    subst hge
    rw [List.drop_length] at hfd
    have hlv : livesB l lsn = decide ((l.length : Int) ≤ 20) := by
      unfold livesB; rw [← hfd]; simp only [livesL, Bool.true_and]; exact decide_eq_decide.2 (by omega)
    have fy := Nat.add_zero
    refine goK ?_ ?_ ?_ ?_ ?_ ?_ ?_ ?_ ?_ ?_ ?_ ?_ ?_ ?_ ?_ ?_
    any_goals (first | exact True.intro | skip)
    all_goals (repeat (refine Wh.mk fun hcc => ?_))
    all_goals simp only [tupOf, fixEs, hlv]
theorem l4Lives_ok (l : List LiveT) (lsn : Int) (a2 a3 a4 a5 a8 : Int) (s1 s2 : SlotT) (hl : l.length ≤ 1048576) (h1 : 1 ≤ lsn) (h2 : lsn ≤ 1000000) : CallR Try.prog 78 [.nd [.int .i64 lsn, .int .i64 a2, .int .i64 a3, .int .i64 a4, .int .i64 a5, .nd [.bool s1.1, .nd [.int .i64 s1.2.1.1, .sl .b (s1.2.1.2.1.map Enc.b), .sl .b (s1.2.1.2.2.1.map Enc.b)]], .nd [.bool s2.1, .nd [.int .i64 s2.2.1.1, .sl .b (s2.2.1.2.1.map Enc.b), .sl .b (s2.2.1.2.2.1.map Enc.b)]], .int .i64 a8, .sl .b (l.map Enc.b)]] [] (.bool (livesB l lsn)) := by
  refine CallR.of_body (n := 56) (rs := [.tmp 2]) hY.ok Try.func78 rfl (by decide) rfl rfl rfl rfl (fun F => ?_)
  have fx := And.intro Y1 (And.intro Y2 (And.intro Y3 (And.intro Y4 (And.intro Y6 (And.intro Y8 (And.intro Y34 (And.intro Y36 (And.intro Y38 (And.intro Y39 (And.intro Y41 (Y91)))))))))))
  have hwl : IntKind.i64.wrap (lsn - 1) = lsn - 1 := wrap64 _ (by omega) (by omega)
  have fy := Nat.add_zero
  refine goN ?_ ?_ ?_ ?_ ?_ ?_ ?_ ?_ ?_ ?_ ?_ ?_ ?_ ?_ ?_ ?_
  any_goals (first | exact True.intro | skip)
  skip
  refine SW.loop (fun i : Nat => ⟨[.undef, .ptr 1 0 [] 0, .undef, .int .i64 i, .undef, .undef, .undef, .undef, .undef, .undef, .undef, .undef, .undef, .undef, .undef, .undef, .undef, .undef, .undef, .undef, .undef, .undef, .undef, .undef, .undef, .undef, .undef, .undef, .undef, .undef, .undef, .undef, .undef, .undef, .undef, .undef, .undef, .undef, .undef, .undef, .undef, .undef, .undef, .undef, .undef, .undef, .undef, .undef, .undef, .undef, .undef, .undef, .undef, .undef, .undef, .undef], [[], [.var (.nd [.int .i64 lsn, .int .i64 a2, .int .i64 a3, .int .i64 a4, .int .i64 a5, .nd [.bool s1.1, .nd [.int .i64 s1.2.1.1, .sl .b (s1.2.1.2.1.map Enc.b), .sl .b (s1.2.1.2.2.1.map Enc.b)]], .nd [.bool s2.1, .nd [.int .i64 s2.2.1.1, .sl .b (s2.2.1.2.1.map Enc.b), .sl .b (s2.2.1.2.2.1.map Enc.b)]], .int .i64 a8, .sl .b (l.map Enc.b)])]]⟩)
    (fun n i => n = l.length - i ∧ i ≤ l.length ∧ livesL lsn (pvL l i) (l.drop i) = livesL lsn none l) (n := l.length) (x := 0) (Norm.re [0, 1] (by decide) rfl (by first | (simp only [eq_self, heapFits, rowFits, obFits, List.getElem?_cons_zero, List.getElem?_cons_succ, renL_o, renL_b, true_and, and_true, and_self]; done) | simp [-List.map_append, heapFits, rowFits, obFits, T.ren, renL]) (by simp [tmFits, T.ren])) ⟨rfl, Nat.zero_le _, rfl⟩ ?_
  rintro n i ⟨hn, hi, hfd⟩
  have fy := Nat.add_zero
  refine goS ?_
  refine SW.cond rfl (fun hc => ?_) (fun hc => ?_)
  · have hlt : i < l.length := by simpa using hc
    have hg := live_get l i hlt
    have hltI : (i : Int) < (l.length : Int) := by omega
    rw [List.drop_eq_getElem_cons hlt, livesL] at hfd
    have hA := l1InR_ok l[i].1 1 1000
    have hB := l1InR_ok l[i].2.1 1 (lsn - 1)
    have hcon : ∀ b, liveB lsn (pvL l i) l[i] = b → (b = false → livesB l lsn = false) := fun b hb h => by subst h; rw [hb] at hfd; unfold livesB; rw [← hfd]; rfl
    have hgo : liveB lsn (pvL l i) l[i] = true → livesL lsn (pvL l (i + 1)) (l.drop (i + 1)) = livesL lsn none l := fun hb => by rw [hb, Bool.true_and] at hfd; rw [pvL_succ l i hlt]; exact hfd
    have hlb : liveB lsn (pvL l i) l[i] = ((rng l[i].1 1 1000 && rng l[i].2.1 1 (lsn - 1)) && (match pvL l i with | none => true | some q => decide (q.1 < l[i].1))) := rfl
    have hz : (i = 0 ∧ decide ((i : Int) > 0) = false ∧ (match pvL l i with | none => true | some q => decide (q.1 < l[i].1)) = true) ∨ (¬ i = 0 ∧ decide ((i : Int) > 0) = true) := by
      by_cases h : i = 0
      · subst h; exact .inl ⟨rfl, rfl, rfl⟩
      · exact .inr ⟨h, by simp; omega⟩
    cases hAv : rng l[i].1 1 1000
    · rw [hAv] at hA
      have hC1 := cx [] (hA)
      have hC2 := cx [] (hB)
      have fy := And.intro hg (And.intro hltI (hwl))
      refine goK ?_ ?_ ?_ ?_ ?_ ?_ ?_ ?_ ?_ ?_ ?_ ?_ ?_ ?_ ?_ ?_
      any_goals (first | exact True.intro | skip)
      all_goals (repeat (refine Wh.mk fun hcc => ?_))
      all_goals (simp only [tupOf, fixEs]; rw [hcon _ rfl (by rw [hlb]; simp_all)])
    · rw [hAv] at hA
      cases hBv : rng l[i].2.1 1 (lsn - 1)
      · rw [hBv] at hB
        have hC1 := cx [] (hA)
        have hC2 := cx [] (hB)
        have fy := And.intro hg (And.intro hltI (hwl))
        refine goK ?_ ?_ ?_ ?_ ?_ ?_ ?_ ?_ ?_ ?_ ?_ ?_ ?_ ?_ ?_ ?_
        any_goals (first | exact True.intro | skip)
        all_goals (repeat (refine Wh.mk fun hcc => ?_))
        all_goals (simp only [tupOf, fixEs]; rw [hcon _ rfl (by rw [hlb]; simp_all)])
      · rw [hBv] at hB
        rcases hz with ⟨hi0, hzd, hzm⟩ | ⟨hi0, hzd⟩
        · skip
          have hC1 := cx [] (hA)
          have hC2 := cx [] (hB)
          have fy := And.intro hg (And.intro hltI (And.intro hwl (hzd)))
          refine goK ?_ ?_ ?_ ?_ ?_ ?_ ?_ ?_ ?_ ?_ ?_ ?_ ?_ ?_ ?_ ?_
          any_goals (first | exact True.intro | skip)
          all_goals (repeat (refine Wh.mk fun hcc => ?_))
          all_goals (refine ⟨n - 1, i + 1, by omega, ⟨by omega, by omega, hgo (by rw [hlb]; simp_all)⟩, ?_⟩; rw [wrap64 _ (by omega) (by omega)]; exact Norm.re [0, 1] (by decide) rfl (by first | (simp only [eq_self, heapFits, rowFits, obFits, List.getElem?_cons_zero, List.getElem?_cons_succ, renL_o, renL_b, true_and, and_true, and_self]; done) | simp [-List.map_append, heapFits, rowFits, obFits, T.ren, renL]) (by simp [tmFits, T.ren]))
        · have hgp : (l.map Enc.b)[i - 1]? = some (.nd [.int .i64 (((l[i - 1]'(by omega))).1), .int .i64 (((l[i - 1]'(by omega))).2.1), .bool (((l[i - 1]'(by omega))).2.2.1)]) := map_get Enc.b l (i - 1) (by omega)
          have hwi : IntKind.i64.wrap ((i : Int) - 1) = ((i - 1 : Nat) : Int) := by rw [wrap64 _ (by omega) (by omega)]; omega
          have hpI : ((i - 1 : Nat) : Int) < (l.length : Int) := by omega
          have hpm : (match pvL l i with | none => true | some q => decide (q.1 < l[i].1)) = decide ((l[i - 1]'(by omega)).1 < l[i].1) := by rw [pvL_pos l i hlt hi0]
          rw [hpm] at hlb
          by_cases hC : (l[i - 1]'(by omega)).1 < l[i].1
          · have hCd : decide ((l[i - 1]'(by omega)).1 ≥ l[i].1) = false := by simp; omega
            have hC1 := cx [] (hA)
            have hC2 := cx [] (hB)
            have fy := And.intro hg (And.intro hltI (And.intro hwl (And.intro hzd (And.intro hgp (And.intro hwi (And.intro hpI (hCd)))))))
            refine goK ?_ ?_ ?_ ?_ ?_ ?_ ?_ ?_ ?_ ?_ ?_ ?_ ?_ ?_ ?_ ?_
            any_goals (first | exact True.intro | skip)
            all_goals (repeat (refine Wh.mk fun hcc => ?_))
            all_goals (refine ⟨n - 1, i + 1, by omega, ⟨by omega, by omega, hgo (by rw [hlb]; simp_all)⟩, ?_⟩; rw [wrap64 _ (by omega) (by omega)]; exact Norm.re [0, 1] (by decide) rfl (by first | (simp only [eq_self, heapFits, rowFits, obFits, List.getElem?_cons_zero, List.getElem?_cons_succ, renL_o, renL_b, true_and, and_true, and_self]; done) | simp [-List.map_append, heapFits, rowFits, obFits, T.ren, renL]) (by simp [tmFits, T.ren]))
          · have hCd : decide ((l[i - 1]'(by omega)).1 ≥ l[i].1) = true := by simp; omega
            have hC1 := cx [] (hA)
            have hC2 := cx [] (hB)
            have fy := And.intro hg (And.intro hltI (And.intro hwl (And.intro hzd (And.intro hgp (And.intro hwi (And.intro hpI (hCd)))))))
            refine goK ?_ ?_ ?_ ?_ ?_ ?_ ?_ ?_ ?_ ?_ ?_ ?_ ?_ ?_ ?_ ?_
            any_goals (first | exact True.intro | skip)
            all_goals (repeat (refine Wh.mk fun hcc => ?_))
            all_goals (simp only [tupOf, fixEs]; rw [hcon _ rfl (by rw [hlb]; simp_all)])
  · have hge : i = l.length := by
      have : ¬ i < l.length := by simpa using hc
      omega
    subst hge
    rw [List.drop_length] at hfd
    have hlv : livesB l lsn = decide ((l.length : Int) ≤ 20) := by
      unfold livesB; rw [← hfd]; simp only [livesL, Bool.true_and]; exact decide_eq_decide.2 (by omega)
    have fy := Nat.add_zero
    refine goK ?_ ?_ ?_ ?_ ?_ ?_ ?_ ?_ ?_ ?_ ?_ ?_ ?_ ?_ ?_ ?_
    any_goals (first | exact True.intro | skip)
    all_goals (repeat (refine Wh.mk fun hcc => ?_))
    all_goals simp only [tupOf, fixEs, hlv]
end Q6

namespace Q6
open Go Go.Vm Go.Proofs
set_option maxHeartbeats 4000000
set_option synthInstance.maxSize 2000
set_option synthInstance.maxHeartbeats 400000
set_option maxRecDepth 10000
set_option linter.unusedSimpArgs false
set_option linter.unusedVariables false


def slot0 : SlotT := (false, (0, [], [], ()), ())
theorem noSlot_eq (s : SlotT) : decide (s = slot0) = noSlotB s := by
  obtain ⟨b, ⟨k, i, r, u⟩, u'⟩ := s
  unfold noSlotB noObjB slot0
  simp only [Prod.mk.injEq, List.length_eq_zero_iff, and_true]
  cases b <;> simp [Bool.and_assoc]
theorem sNoSlot_ok (s : SlotT) (hs : Enc.lim 1048576 s) : CallR Try.prog 139 [.nd [.bool s.1, .nd [.int .i64 s.2.1.1, .sl .b (s.2.1.2.1.map Enc.b), .sl .b (s.2.1.2.2.1.map Enc.b)]], .nd [.bool false, .nd [.int .i64 0, .sl .b [], .sl .b []]]] [] (.bool (noSlotB s)) := by
  rw [← noSlot_eq]; exact sSameSlot_ok s slot0 hs
def z6 (x : RecT) : Bool := ((((decide (x.2.1 = 0) && decide (x.2.2.1 = 0)) && (decide (x.2.2.2.2.1 = 0) && noSlotB x.2.2.2.2.2.2.1)) && noSlotB x.2.2.2.2.2.1) && decide (x.2.2.2.2.2.2.2.1 = 0))
def z1 (x : RecT) : Bool := decide (x.2.2.2.2.2.2.2.1 = 0) && decide (x.2.2.2.2.2.2.2.2.1.length = 0)
def z4 (x : RecT) : Bool := noSlotB x.2.2.2.2.2.1 && decide (x.2.2.2.2.2.2.2.2.1.length = 0)
def z2 (x : RecT) : Bool := (((decide (x.2.2.2.2.1 = 0) && noSlotB x.2.2.2.2.2.2.1) && noSlotB x.2.2.2.2.2.1) && decide (x.2.2.2.2.2.2.2.1 = 0)) && decide (x.2.2.2.2.2.2.2.2.1.length = 0)

theorem l4Zero_z6 (x : RecT) (hx : Enc.lim 1048576 x) : CallR Try.prog 77 [.nd [.int .i64 x.1, .int .i64 x.2.1, .int .i64 x.2.2.1, .int .i64 x.2.2.2.1, .int .i64 x.2.2.2.2.1, .nd [.bool x.2.2.2.2.2.1.1, .nd [.int .i64 x.2.2.2.2.2.1.2.1.1, .sl .b (x.2.2.2.2.2.1.2.1.2.1.map Enc.b), .sl .b (x.2.2.2.2.2.1.2.1.2.2.1.map Enc.b)]], .nd [.bool x.2.2.2.2.2.2.1.1, .nd [.int .i64 x.2.2.2.2.2.2.1.2.1.1, .sl .b (x.2.2.2.2.2.2.1.2.1.2.1.map Enc.b), .sl .b (x.2.2.2.2.2.2.1.2.1.2.2.1.map Enc.b)]], .int .i64 x.2.2.2.2.2.2.2.1, .sl .b (x.2.2.2.2.2.2.2.2.1.map Enc.b)], .bool false, .bool false, .bool false, .bool false, .bool true] [] (.bool (z6 x)) := by
  refine CallR.of_body (n := 66) (rs := [.tmp 12]) hY.ok Try.func77 rfl (by decide) rfl rfl rfl rfl (fun F => ?_)
  have fx := And.intro Y1 (And.intro Y2 (And.intro Y3 (And.intro Y4 (And.intro Y5 (And.intro Y6 (And.intro Y7 (And.intro Y8 (And.intro Y34 (And.intro Y36 (And.intro Y38 (And.intro Y39 (And.intro Y41 (Y91)))))))))))))
  have hA := sNoSlot_ok x.2.2.2.2.2.2.1 hx.2.2.2.2.2.2.1
  have hB := sNoSlot_ok x.2.2.2.2.2.1 hx.2.2.2.2.2.1
  have hq1 : (x.2.1 == 0) = decide (x.2.1 = 0) := rfl
  have hq2 : (x.2.2.1 == 0) = decide (x.2.2.1 = 0) := rfl
  have hq3 : (x.2.2.2.2.1 == 0) = decide (x.2.2.2.2.1 = 0) := rfl
  have hq4 : (x.2.2.2.2.2.2.2.1 == 0) = decide (x.2.2.2.2.2.2.2.1 = 0) := rfl
  have hq5 : ((x.2.2.2.2.2.2.2.2.1.length : Int) == 0) = decide (x.2.2.2.2.2.2.2.2.1.length = 0) := by
    by_cases h : x.2.2.2.2.2.2.2.2.1.length = 0
    · simp [h]
    · have : ¬ (x.2.2.2.2.2.2.2.2.1.length : Int) = 0 := by omega
      rw [beq_eq_false_iff_ne.2 this]; simp [h]
  unfold z6
  generalize noSlotB x.2.2.2.2.2.2.1 = sa at *
  generalize noSlotB x.2.2.2.2.2.1 = sb at *
  generalize decide (x.2.1 = 0) = d1 at *
  generalize decide (x.2.2.1 = 0) = d2 at *
  generalize decide (x.2.2.2.2.1 = 0) = d3 at *
  generalize decide (x.2.2.2.2.2.2.2.1 = 0) = d4 at *
  generalize decide (x.2.2.2.2.2.2.2.2.1.length = 0) = d5 at *
  have hC1 := cx [] (hA)
  have hC2 := cx [] (hB)
  have fy := And.intro hq1 (And.intro hq2 (And.intro hq3 (And.intro hq4 (hq5))))
  refine goK ?_ ?_ ?_ ?_ ?_ ?_ ?_ ?_ ?_ ?_ ?_ ?_ ?_ ?_ ?_ ?_
  any_goals (first | exact True.intro | skip)
  all_goals (repeat (refine Wh.mk fun hcc => ?_))
  all_goals (first | rfl | ((try simp only [tupOf, fixEs]); (first | done | (revert d1 d2 d3 d4 d5 sa sb; decide) | (simp_all; done) | grind)))
theorem l4Zero_z1 (x : RecT) (hx : Enc.lim 1048576 x) : CallR Try.prog 77 [.nd [.int .i64 x.1, .int .i64 x.2.1, .int .i64 x.2.2.1, .int .i64 x.2.2.2.1, .int .i64 x.2.2.2.2.1, .nd [.bool x.2.2.2.2.2.1.1, .nd [.int .i64 x.2.2.2.2.2.1.2.1.1, .sl .b (x.2.2.2.2.2.1.2.1.2.1.map Enc.b), .sl .b (x.2.2.2.2.2.1.2.1.2.2.1.map Enc.b)]], .nd [.bool x.2.2.2.2.2.2.1.1, .nd [.int .i64 x.2.2.2.2.2.2.1.2.1.1, .sl .b (x.2.2.2.2.2.2.1.2.1.2.1.map Enc.b), .sl .b (x.2.2.2.2.2.2.1.2.1.2.2.1.map Enc.b)]], .int .i64 x.2.2.2.2.2.2.2.1, .sl .b (x.2.2.2.2.2.2.2.2.1.map Enc.b)], .bool true, .bool true, .bool true, .bool false, .bool false] [] (.bool (z1 x)) := by
  refine CallR.of_body (n := 66) (rs := [.tmp 12]) hY.ok Try.func77 rfl (by decide) rfl rfl rfl rfl (fun F => ?_)
  have fx := And.intro Y1 (And.intro Y2 (And.intro Y3 (And.intro Y4 (And.intro Y5 (And.intro Y6 (And.intro Y7 (And.intro Y8 (And.intro Y34 (And.intro Y36 (And.intro Y38 (And.intro Y39 (And.intro Y41 (Y91)))))))))))))
  have hA := sNoSlot_ok x.2.2.2.2.2.2.1 hx.2.2.2.2.2.2.1
  have hB := sNoSlot_ok x.2.2.2.2.2.1 hx.2.2.2.2.2.1
  have hq1 : (x.2.1 == 0) = decide (x.2.1 = 0) := rfl
  have hq2 : (x.2.2.1 == 0) = decide (x.2.2.1 = 0) := rfl
  have hq3 : (x.2.2.2.2.1 == 0) = decide (x.2.2.2.2.1 = 0) := rfl
  have hq4 : (x.2.2.2.2.2.2.2.1 == 0) = decide (x.2.2.2.2.2.2.2.1 = 0) := rfl
  have hq5 : ((x.2.2.2.2.2.2.2.2.1.length : Int) == 0) = decide (x.2.2.2.2.2.2.2.2.1.length = 0) := by
    by_cases h : x.2.2.2.2.2.2.2.2.1.length = 0
    · simp [h]
    · have : ¬ (x.2.2.2.2.2.2.2.2.1.length : Int) = 0 := by omega
      rw [beq_eq_false_iff_ne.2 this]; simp [h]
  unfold z1
  generalize noSlotB x.2.2.2.2.2.2.1 = sa at *
  generalize noSlotB x.2.2.2.2.2.1 = sb at *
  generalize decide (x.2.1 = 0) = d1 at *
  generalize decide (x.2.2.1 = 0) = d2 at *
  generalize decide (x.2.2.2.2.1 = 0) = d3 at *
  generalize decide (x.2.2.2.2.2.2.2.1 = 0) = d4 at *
  generalize decide (x.2.2.2.2.2.2.2.2.1.length = 0) = d5 at *
  have hC1 := cx [] (hA)
  have hC2 := cx [] (hB)
  have fy := And.intro hq1 (And.intro hq2 (And.intro hq3 (And.intro hq4 (hq5))))
  refine goK ?_ ?_ ?_ ?_ ?_ ?_ ?_ ?_ ?_ ?_ ?_ ?_ ?_ ?_ ?_ ?_
  any_goals (first | exact True.intro | skip)
  all_goals (repeat (refine Wh.mk fun hcc => ?_))
  all_goals (first | rfl | ((try simp only [tupOf, fixEs]); (first | done | (revert d1 d2 d3 d4 d5 sa sb; decide) | (simp_all; done) | grind)))
theorem l4Zero_z4 (x : RecT) (hx : Enc.lim 1048576 x) : CallR Try.prog 77 [.nd [.int .i64 x.1, .int .i64 x.2.1, .int .i64 x.2.2.1, .int .i64 x.2.2.2.1, .int .i64 x.2.2.2.2.1, .nd [.bool x.2.2.2.2.2.1.1, .nd [.int .i64 x.2.2.2.2.2.1.2.1.1, .sl .b (x.2.2.2.2.2.1.2.1.2.1.map Enc.b), .sl .b (x.2.2.2.2.2.1.2.1.2.2.1.map Enc.b)]], .nd [.bool x.2.2.2.2.2.2.1.1, .nd [.int .i64 x.2.2.2.2.2.2.1.2.1.1, .sl .b (x.2.2.2.2.2.2.1.2.1.2.1.map Enc.b), .sl .b (x.2.2.2.2.2.2.1.2.1.2.2.1.map Enc.b)]], .int .i64 x.2.2.2.2.2.2.2.1, .sl .b (x.2.2.2.2.2.2.2.2.1.map Enc.b)], .bool true, .bool true, .bool false, .bool true, .bool false] [] (.bool (z4 x)) := by
  refine CallR.of_body (n := 66) (rs := [.tmp 12]) hY.ok Try.func77 rfl (by decide) rfl rfl rfl rfl (fun F => ?_)
  have fx := And.intro Y1 (And.intro Y2 (And.intro Y3 (And.intro Y4 (And.intro Y5 (And.intro Y6 (And.intro Y7 (And.intro Y8 (And.intro Y34 (And.intro Y36 (And.intro Y38 (And.intro Y39 (And.intro Y41 (Y91)))))))))))))
  have hA := sNoSlot_ok x.2.2.2.2.2.2.1 hx.2.2.2.2.2.2.1
  have hB := sNoSlot_ok x.2.2.2.2.2.1 hx.2.2.2.2.2.1
  have hq1 : (x.2.1 == 0) = decide (x.2.1 = 0) := rfl
  have hq2 : (x.2.2.1 == 0) = decide (x.2.2.1 = 0) := rfl
  have hq3 : (x.2.2.2.2.1 == 0) = decide (x.2.2.2.2.1 = 0) := rfl
  have hq4 : (x.2.2.2.2.2.2.2.1 == 0) = decide (x.2.2.2.2.2.2.2.1 = 0) := rfl
  have hq5 : ((x.2.2.2.2.2.2.2.2.1.length : Int) == 0) = decide (x.2.2.2.2.2.2.2.2.1.length = 0) := by
    by_cases h : x.2.2.2.2.2.2.2.2.1.length = 0
    · simp [h]
    · have : ¬ (x.2.2.2.2.2.2.2.2.1.length : Int) = 0 := by omega
      rw [beq_eq_false_iff_ne.2 this]; simp [h]
  unfold z4
  generalize noSlotB x.2.2.2.2.2.2.1 = sa at *
  generalize noSlotB x.2.2.2.2.2.1 = sb at *
  generalize decide (x.2.1 = 0) = d1 at *
  generalize decide (x.2.2.1 = 0) = d2 at *
  generalize decide (x.2.2.2.2.1 = 0) = d3 at *
  generalize decide (x.2.2.2.2.2.2.2.1 = 0) = d4 at *
  generalize decide (x.2.2.2.2.2.2.2.2.1.length = 0) = d5 at *
  have hC1 := cx [] (hA)
  have hC2 := cx [] (hB)
  have fy := And.intro hq1 (And.intro hq2 (And.intro hq3 (And.intro hq4 (hq5))))
  refine goK ?_ ?_ ?_ ?_ ?_ ?_ ?_ ?_ ?_ ?_ ?_ ?_ ?_ ?_ ?_ ?_
  any_goals (first | exact True.intro | skip)
  all_goals (repeat (refine Wh.mk fun hcc => ?_))
  all_goals (first | rfl | ((try simp only [tupOf, fixEs]); (first | done | (revert d1 d2 d3 d4 d5 sa sb; decide) | (simp_all; done) | grind)))
theorem l4Zero_z2 (x : RecT) (hx : Enc.lim 1048576 x) : CallR Try.prog 77 [.nd [.int .i64 x.1, .int .i64 x.2.1, .int .i64 x.2.2.1, .int .i64 x.2.2.2.1, .int .i64 x.2.2.2.2.1, .nd [.bool x.2.2.2.2.2.1.1, .nd [.int .i64 x.2.2.2.2.2.1.2.1.1, .sl .b (x.2.2.2.2.2.1.2.1.2.1.map Enc.b), .sl .b (x.2.2.2.2.2.1.2.1.2.2.1.map Enc.b)]], .nd [.bool x.2.2.2.2.2.2.1.1, .nd [.int .i64 x.2.2.2.2.2.2.1.2.1.1, .sl .b (x.2.2.2.2.2.2.1.2.1.2.1.map Enc.b), .sl .b (x.2.2.2.2.2.2.1.2.1.2.2.1.map Enc.b)]], .int .i64 x.2.2.2.2.2.2.2.1, .sl .b (x.2.2.2.2.2.2.2.2.1.map Enc.b)], .bool true, .bool false, .bool false, .bool false, .bool false] [] (.bool (z2 x)) := by
  refine CallR.of_body (n := 66) (rs := [.tmp 12]) hY.ok Try.func77 rfl (by decide) rfl rfl rfl rfl (fun F => ?_)
  have fx := And.intro Y1 (And.intro Y2 (And.intro Y3 (And.intro Y4 (And.intro Y5 (And.intro Y6 (And.intro Y7 (And.intro Y8 (And.intro Y34 (And.intro Y36 (And.intro Y38 (And.intro Y39 (And.intro Y41 (Y91)))))))))))))
  have hA := sNoSlot_ok x.2.2.2.2.2.2.1 hx.2.2.2.2.2.2.1
  have hB := sNoSlot_ok x.2.2.2.2.2.1 hx.2.2.2.2.2.1
  have hq1 : (x.2.1 == 0) = decide (x.2.1 = 0) := rfl
  have hq2 : (x.2.2.1 == 0) = decide (x.2.2.1 = 0) := rfl
  have hq3 : (x.2.2.2.2.1 == 0) = decide (x.2.2.2.2.1 = 0) := rfl
  have hq4 : (x.2.2.2.2.2.2.2.1 == 0) = decide (x.2.2.2.2.2.2.2.1 = 0) := rfl
  have hq5 : ((x.2.2.2.2.2.2.2.2.1.length : Int) == 0) = decide (x.2.2.2.2.2.2.2.2.1.length = 0) := by
    by_cases h : x.2.2.2.2.2.2.2.2.1.length = 0
    · simp [h]
    · have : ¬ (x.2.2.2.2.2.2.2.2.1.length : Int) = 0 := by omega
      rw [beq_eq_false_iff_ne.2 this]; simp [h]
  unfold z2
  generalize noSlotB x.2.2.2.2.2.2.1 = sa at *
  generalize noSlotB x.2.2.2.2.2.1 = sb at *
  generalize decide (x.2.1 = 0) = d1 at *
  generalize decide (x.2.2.1 = 0) = d2 at *
  generalize decide (x.2.2.2.2.1 = 0) = d3 at *
  generalize decide (x.2.2.2.2.2.2.2.1 = 0) = d4 at *
  generalize decide (x.2.2.2.2.2.2.2.2.1.length = 0) = d5 at *
  have hC1 := cx [] (hA)
  have hC2 := cx [] (hB)
  have fy := And.intro hq1 (And.intro hq2 (And.intro hq3 (And.intro hq4 (hq5))))
  refine goK ?_ ?_ ?_ ?_ ?_ ?_ ?_ ?_ ?_ ?_ ?_ ?_ ?_ ?_ ?_ ?_
  any_goals (first | exact True.intro | skip)
  all_goals (repeat (refine Wh.mk fun hcc => ?_))
  all_goals (first | rfl | ((try simp only [tupOf, fixEs]); (first | done | (revert d1 d2 d3 d4 d5 sa sb; decide) | (simp_all; done) | grind)))
end Q6

namespace Q6
open Go Go.Vm Go.Proofs
set_option maxHeartbeats 4000000
set_option synthInstance.maxSize 2000
set_option synthInstance.maxHeartbeats 400000
set_option maxRecDepth 10000
set_option linter.unusedSimpArgs false
set_option linter.unusedVariables false


theorem noSlot_slot {s : SlotT} (h : noSlotB s = true) : slotB s = true := by
  unfold noSlotB at h; simp only [Bool.and_eq_true, Bool.not_eq_true'] at h
  unfold slotB; rw [h.1]; simpa using h.2

theorem specRecOk_ok (x : RecT) (hx : Enc.lim 1048576 x) : CallR Try.prog 23 [.nd [.int .i64 x.1, .int .i64 x.2.1, .int .i64 x.2.2.1, .int .i64 x.2.2.2.1, .int .i64 x.2.2.2.2.1, .nd [.bool x.2.2.2.2.2.1.1, .nd [.int .i64 x.2.2.2.2.2.1.2.1.1, .sl .b (x.2.2.2.2.2.1.2.1.2.1.map Enc.b), .sl .b (x.2.2.2.2.2.1.2.1.2.2.1.map Enc.b)]], .nd [.bool x.2.2.2.2.2.2.1.1, .nd [.int .i64 x.2.2.2.2.2.2.1.2.1.1, .sl .b (x.2.2.2.2.2.2.1.2.1.2.1.map Enc.b), .sl .b (x.2.2.2.2.2.2.1.2.1.2.2.1.map Enc.b)]], .int .i64 x.2.2.2.2.2.2.2.1, .sl .b (x.2.2.2.2.2.2.2.2.1.map Enc.b)]] [] (.bool (recB x)) := by
  refine CallR.of_body (n := 75) (rs := [.tmp 2]) hY.ok Try.func23 rfl (by decide) rfl rfl rfl rfl (fun F => ?_)
  have fx := And.intro Y1 (And.intro Y2 (And.intro Y3 (And.intro Y4 (And.intro Y5 (And.intro Y6 (And.intro Y7 (And.intro Y34 (And.intro Y36 (And.intro Y38 (And.intro Y39 (And.intro Y41 (Y91))))))))))))
  have hk6 : (x.2.2.2.1 == 6) = decide (x.2.2.2.1 = 6) := rfl
  have hk1 : (x.2.2.2.1 == 1) = decide (x.2.2.2.1 = 1) := rfl
  have hk2 : (x.2.2.2.1 == 2) = decide (x.2.2.2.1 = 2) := rfl
  have hk3 : (x.2.2.2.1 == 3) = decide (x.2.2.2.1 = 3) := rfl
  have hk4 : (x.2.2.2.1 == 4) = decide (x.2.2.2.1 = 4) := rfl
  have hk5 : (x.2.2.2.1 == 5) = decide (x.2.2.2.1 = 5) := rfl
  have hI := l1InR_ok x.1 1 1000000
  have hSA := l3Slot_ok x.2.2.2.2.2.1 hx.2.2.2.2.2.1
  have hSB := l3Slot_ok x.2.2.2.2.2.2.1 hx.2.2.2.2.2.2.1
  have hn1 := @noSlot_slot x.2.2.2.2.2.1
  have hn2 := @noSlot_slot x.2.2.2.2.2.2.1
  cases hL : (rng x.1 1 1000000 && slotB x.2.2.2.2.2.1 && slotB x.2.2.2.2.2.2.1)
  · have hL2 : (!rng x.1 1 1000000 || !slotB x.2.2.2.2.2.1 || !slotB x.2.2.2.2.2.2.1) = true := by rw [← Bool.not_and, ← Bool.not_and, hL]; rfl
    have hG1 := fun u1 u2 u3 => l1InR_ok u1 u2 u3
    have hC1 := cx [] (hSA)
    have hC2 := cx [] (hSB)
    have fy := hL2
    refine goK ?_ ?_ ?_ ?_ ?_ ?_ ?_ ?_ ?_ ?_ ?_ ?_ ?_ ?_ ?_ ?_
    any_goals (first | exact True.intro | skip)
    all_goals (repeat (refine Wh.mk fun hcc => ?_))
    all_goals (try simp only [tupOf, fixEs])
    all_goals (simp only [recB])
    all_goals (try (exfalso; simp_all; done))
    all_goals (congr 1; revert hL hn1 hn2; cases rng x.1 1 1000000 <;> cases slotB x.2.2.2.2.2.1 <;> cases slotB x.2.2.2.2.2.2.1 <;> simp_all)
  · have hL2 : (!rng x.1 1 1000000 || !slotB x.2.2.2.2.2.1 || !slotB x.2.2.2.2.2.2.1) = false := by rw [← Bool.not_and, ← Bool.not_and, hL]; rfl
    have hb := hL
    simp only [Bool.and_eq_true] at hb
    obtain ⟨⟨hr, hs1⟩, hs2⟩ := hb
    have hb := hr
    unfold rng at hb
    simp only [Bool.and_eq_true, decide_eq_true_eq] at hb
    have hw : IntKind.i64.wrap (x.1 - 1) = x.1 - 1 := wrap64 _ (by omega) (by omega)
    have hV := l4Lives_ok x.2.2.2.2.2.2.2.2.1 x.1 x.2.1 x.2.2.1 x.2.2.2.1 x.2.2.2.2.1 x.2.2.2.2.2.2.2.1 x.2.2.2.2.2.1 x.2.2.2.2.2.2.1 hx.2.2.2.2.2.2.2.2.1.1 (by omega) (by omega)
    have hT := l1InR_ok x.2.1 1 1000
    have hP := l1InR_ok x.2.2.1 0 (x.1 - 1)
    have hN := l1InR_ok x.2.2.2.2.2.2.2.1 0 (x.1 - 1)
    have hO := l1InR_ok x.2.2.2.2.1 1 31
    have hz6 := l4Zero_z6 x hx
    have hz1 := l4Zero_z1 x hx
    have hz4 := l4Zero_z4 x hx
    have hz2 := l4Zero_z2 x hx
    have hG1 := fun u1 u2 u3 => l1InR_ok u1 u2 u3
    have hC1 := cx [] (hSA)
    have hC2 := cx [] (hSB)
    have hC3 := cx [] (hV)
    have hC4 := cx [] (hz6)
    have hC5 := cx [] (hz1)
    have hC6 := cx [] (hz4)
    have hC7 := cx [] (hz2)
    have fy := And.intro hL2 (And.intro hk1 (And.intro hk2 (And.intro hk3 (And.intro hk4 (And.intro hk5 (And.intro hk6 (hw)))))))
    refine goK ?_ ?_ ?_ ?_ ?_ ?_ ?_ ?_ ?_ ?_ ?_ ?_ ?_ ?_ ?_ ?_
    any_goals (first | exact True.intro | skip)
    all_goals (repeat (refine Wh.mk fun hcc => ?_))
    all_goals (try simp only [tupOf, fixEs])
    all_goals (try (exfalso; simp_all; done))
    all_goals (simp only [recB, hr, hs1, hs2, Bool.true_and, Bool.and_true, z6, z1, z4, z2])
    all_goals first | rfl | (simp_all; done) | grind
end Q6

namespace Q6
open Go Go.Vm Go.Proofs
set_option maxHeartbeats 4000000
set_option synthInstance.maxSize 2000
set_option synthInstance.maxHeartbeats 400000
set_option maxRecDepth 10000
set_option linter.unusedSimpArgs false
set_option linter.unusedVariables false

open Go.By

def putSl (s : SlotT) : List UInt8 := if s.1 = true then putI (putObj s.2.1).length ++ putObj s.2.1 else putI 0
theorem putObj_len {x : ObjT} (h : objB x = true) : (putObj x).length ≤ 78 := by
  have h5 := objB_len h
  have h1 := putI_len x.1
  have h2 := putL_len x.2.1
  have h3 := putL_len x.2.2.1
  unfold putObj; simp only [List.length_append]; omega
theorem putSl_len {s : SlotT} (h : slotB s = true) : (putSl s).length ≤ 84 := by
  unfold putSl
  split
  · rename_i hs
    have hb : objB s.2.1 = true := by unfold slotB at h; rw [if_pos hs] at h; exact h
    have h1 := putI_len (putObj s.2.1).length
    have h2 := putObj_len hb
    simp only [List.length_append]; omega
  · have := putI_len 0; omega

theorem sPutSlot_ok (b : List UInt8) (s : SlotT) (hs : Enc.lim 1048576 s) (hsb : slotB s = true) (hb : b.length ≤ 1048576) : CallR Try.prog 125 [.sl .b (b.map Enc.b), .nd [.bool s.1, .nd [.int .i64 s.2.1.1, .sl .b (s.2.1.2.1.map Enc.b), .sl .b (s.2.1.2.2.1.map Enc.b)]]] [] (.ow 1 ((b ++ putSl s).map Enc.o)) := by
  refine CallR.of_body (n := 20) (rs := [.tmp 4]) hY.ok Try.func125 rfl (by decide) rfl rfl rfl rfl (fun F => ?_)
  have fx := And.intro Y1 (And.intro Y3 (And.intro Y4 (And.intro Y5 (And.intro Y24 (And.intro Y34 (And.intro Y36 (Y38)))))))
  obtain ⟨has, o, ⟨⟩⟩ := s
  unfold putSl
  simp only at hs ⊢
  cases has
  · have hP := PutInt_ok b 0 (by omega)
    simp only [Bool.false_eq_true, if_false]
    have hC1 := cx [] (hP)
    have fy := Nat.add_zero
    refine goR ?_ ?_ ?_ ?_ ?_ ?_ ?_ ?_ ?_ ?_ ?_ ?_ ?_ ?_ ?_ ?_
    any_goals (first | exact True.intro | skip)
    all_goals (repeat (refine Wh.mk fun hcc => ?_))
    all_goals exact SW.ret (show RetQ _ _ _ _ _ _ _ from RetQ.y [1] [.ow 1 ((b ++ putI 0).map Enc.o)])
  · have hob : objB o = true := hsb
    have hO := sPutObj_y o hs.2.1 hob
    have hol := putObj_len hob
    simp only [if_true]
    generalize putObj o = p at *
    have hP := PutInt_ok b p.length (by omega)
    have hpl := putI_len p.length
    have hap := append_runR (Y := Y) (H := [[], [.var (.nd [.bool (((true, o, ())).1), .nd [.int .i64 ((((true, o, ())).2.1).1), .sl .b (((((true, o, ())).2.1).2.1).map Enc.b), .sl .b (((((true, o, ())).2.1).2.2.1).map Enc.b)]])], [.arr 1 (p.map Enc.o) false], [.arr 1 ((b ++ putI p.length).map Enc.o) false], []]) (own := 4) (t := 24) (u := 24) (e := 3) (j := 0) (off := 0) (n := (b ++ putI p.length).length) (e2 := 2) (j2 := 0) (f := (b ++ putI p.length).map Enc.o) (l := b ++ putI p.length) (m := p) Y24 Y24 Y5 rfl (by decide) rfl rfl (by rw [List.drop_zero]; exact take_map_len _ _) (by simp) (by simp only [List.length_append]; omega) rfl b_byte
    rw [List.append_assoc] at hap
    have hq : (b ++ putI p.length).length = (b ++ putI p.length).length := rfl
    generalize hP2 : b ++ putI p.length = P2 at *
    have hPP : b ++ (putI p.length ++ p) = P2 ++ p := by rw [← List.append_assoc, hP2]
    rw [hPP] at hap ⊢
    have hC1 := cx [] (hO)
    have hC2 := cx [] (hP)
    have fy := hap
    refine goR ?_ ?_ ?_ ?_ ?_ ?_ ?_ ?_ ?_ ?_ ?_ ?_ ?_ ?_ ?_ ?_
    any_goals (first | exact True.intro | skip)
    all_goals (repeat (refine Wh.mk fun hcc => ?_))
    all_goals exact SW.ret (show RetQ _ _ _ _ _ _ _ from RetQ.y [1] [.ow 1 ((P2 ++ p).map Enc.o)])
end Q6

namespace Q6
open Go Go.Vm Go.Proofs
/-! ### Bits: what the operations on 64 and 32 bits do to numbers below 2^32 -/
theorem xor_lt32 {a b : Nat} (ha : a < 4294967296) (hb : b < 4294967296) : a ^^^ b < 4294967296 := Nat.xor_lt_two_pow (n := 32) ha hb
theorem xor64 (a b : Nat) (ha : a < 4294967296) (hb : b < 4294967296) : IntKind.i64.wrap ((BitVec.ofInt 64 (a : Int) ^^^ BitVec.ofInt 64 (b : Int)).toNat : Int) = ((a ^^^ b : Nat) : Int) := by
  have h := xor_lt32 ha hb
  rw [BitVec.toNat_xor, BitVec.ofInt_natCast, BitVec.ofInt_natCast, BitVec.toNat_ofNat, BitVec.toNat_ofNat, Nat.mod_eq_of_lt (by omega), Nat.mod_eq_of_lt (by omega), wrap64 _ (by omega) (by omega)]
theorem and64 (a : Nat) (ha : a < 4294967296) : IntKind.i64.wrap ((BitVec.ofInt 64 (a : Int) &&& BitVec.ofInt 64 1).toNat : Int) = ((a % 2 : Nat) : Int) := by
  have : (BitVec.ofInt 64 1) = BitVec.ofNat 64 1 := rfl
  rw [this, BitVec.toNat_and, BitVec.ofInt_natCast, BitVec.toNat_ofNat, BitVec.toNat_ofNat, Nat.mod_eq_of_lt (by omega), Nat.mod_eq_of_lt (by omega), Nat.and_one_is_mod, wrap64 _ (by omega) (by omega)]
theorem shr1 (a : Nat) : ((a : Int).fdiv (2 ^ 1)) = ((a / 2 : Nat) : Int) := by
  rw [Int.fdiv_eq_ediv_of_nonneg _ (by decide)]; omega
theorem wrap32 (n : Int) (h0 : 0 ≤ n) (h1 : n < 4294967296) : IntKind.u32.wrap n = n := by
  simp [IntKind.wrap, IntKind.bits, IntKind.signed]; omega
theorem xor32 (a b : Nat) (ha : a < 4294967296) (hb : b < 4294967296) : IntKind.u32.wrap ((BitVec.ofInt 32 (a : Int) ^^^ BitVec.ofInt 32 (b : Int)).toNat : Int) = ((a ^^^ b : Nat) : Int) := by
  have h := xor_lt32 ha hb
  rw [BitVec.toNat_xor, BitVec.ofInt_natCast, BitVec.ofInt_natCast, BitVec.toNat_ofNat, BitVec.toNat_ofNat, Nat.mod_eq_of_lt (by omega), Nat.mod_eq_of_lt (by omega), wrap32 _ (by omega) (by omega)]
theorem and32 (a : Nat) (ha : a < 4294967296) : IntKind.u32.wrap ((BitVec.ofInt 32 (a : Int) &&& BitVec.ofInt 32 1).toNat : Int) = ((a % 2 : Nat) : Int) := by
  have : (BitVec.ofInt 32 1) = BitVec.ofNat 32 1 := rfl
  rw [this, BitVec.toNat_and, BitVec.ofInt_natCast, BitVec.toNat_ofNat, BitVec.toNat_ofNat, Nat.mod_eq_of_lt (by omega), Nat.mod_eq_of_lt (by omega), Nat.and_one_is_mod, wrap32 _ (by omega) (by omega)]
/-- One round of the sum: eight of these a byte. -/
def crc1 (r : Nat) : Nat := if r % 2 = 1 then (r / 2) ^^^ 3988292384 else r / 2
def crc8 : Nat → Nat → Nat
  | 0, r => r
  | n + 1, r => crc8 n (crc1 r)
def crcB (r : Nat) (b : UInt8) : Nat := crc8 8 (r ^^^ b.toNat)
def crc (l : List UInt8) : Nat := (l.foldl crcB 4294967295) ^^^ 4294967295
theorem crc1_lt {r : Nat} (h : r < 4294967296) : crc1 r < 4294967296 := by
  unfold crc1
  split
  · exact xor_lt32 (by omega) (by decide)
  · omega
theorem crc8_lt : ∀ (n : Nat) {r : Nat}, r < 4294967296 → crc8 n r < 4294967296
  | 0, _, h => h
  | n + 1, _, h => crc8_lt n (crc1_lt h)
theorem crc8_succ : ∀ (n r : Nat), crc8 (n + 1) r = crc1 (crc8 n r)
  | 0, _ => rfl
  | n + 1, r => crc8_succ n (crc1 r)
theorem crcB_lt {r : Nat} (h : r < 4294967296) (b : UInt8) : crcB r b < 4294967296 := crc8_lt 8 (xor_lt32 h (by have := b.toNat_lt; omega))
theorem crcF_lt : ∀ (l : List UInt8) {r : Nat}, r < 4294967296 → l.foldl crcB r < 4294967296
  | [], _, h => h
  | b :: l, _, h => crcF_lt l (crcB_lt h b)
theorem crc_lt (l : List UInt8) : crc l < 4294967296 := xor_lt32 (crcF_lt l (by decide)) (by decide)
theorem crcF_take (l : List UInt8) (i : Nat) (h : i < l.length) (r : Nat) : (l.take (i + 1)).foldl crcB r = crcB ((l.take i).foldl crcB r) l[i] := by
  rw [List.take_succ_eq_append_getElem h, List.foldl_append]; rfl
end Q6

namespace Q6
open Go Go.Vm Go.Proofs
set_option maxHeartbeats 4000000
set_option synthInstance.maxSize 2000
set_option synthInstance.maxHeartbeats 400000
set_option maxRecDepth 10000
set_option linter.unusedSimpArgs false
set_option linter.unusedVariables false

theorem specCrc_ok (l : List UInt8) (hl : l.length ≤ 1048576) : CallR Try.prog 130 [.sl .b (l.map Enc.b)] [] (.int .i64 (crc l)) := by
  refine CallR.of_body (n := 34) (rs := [.tmp 2]) hY.ok Try.func130 rfl (by decide) rfl rfl rfl rfl (fun F => ?_)
  have fx := And.intro Y3 (And.intro Y4 (And.intro Y5 (And.intro Y24 (Y133))))
  have fy := Nat.add_zero
  refine goN ?_ ?_ ?_ ?_ ?_ ?_ ?_ ?_ ?_ ?_ ?_ ?_ ?_ ?_ ?_ ?_
  any_goals (first | exact True.intro | skip)
  skip
  refine SW.loop (fun i : Nat => ⟨[.sl .b (l.map Enc.b), .undef, .undef, .int .i64 (((l.take i).foldl crcB 4294967295 : Nat) : Int), .int .i64 (i : Nat), .undef, .undef, .undef, .undef, .undef, .undef, .undef, .undef, .undef, .undef, .undef, .undef, .undef, .undef, .undef, .undef, .undef, .undef, .undef, .undef, .undef, .undef, .undef, .undef, .undef, .undef, .undef, .undef, .undef], [[]]⟩)
    (fun N i => N = l.length - i ∧ i ≤ l.length) (n := l.length) (x := 0) (Norm.to 0 rfl (by simp [weakL])) ⟨rfl, Nat.zero_le _⟩ ?_
  rintro N i ⟨hn, hi⟩
  have fy := Nat.add_zero
  refine goS ?_
  refine SW.cond rfl (fun hc => ?_) (fun hc => ?_)
  · have hlt : i < l.length := by simp at hc; omega
    have hgl : (l.map Enc.b)[i]? = some (T.int .u8 (l[i].toNat : Int)) := map_get Enc.b l i hlt
    have hr : (l.take i).foldl crcB 4294967295 < 4294967296 := crcF_lt _ (by decide)
    have hb8 : l[i].toNat < 4294967296 := by have := l[i].toNat_lt; omega
    have hx : IntKind.i64.wrap ((BitVec.ofInt IntKind.i64.bits (((l.take i).foldl crcB 4294967295 : Nat) : Int) ^^^ BitVec.ofInt IntKind.i64.bits (l[i].toNat : Int)).toNat : Int) = ((((l.take i).foldl crcB 4294967295) ^^^ l[i].toNat : Nat) : Int) := xor64 _ _ hr hb8
    have hq : ((l.take i).foldl crcB 4294967295) ^^^ l[i].toNat < 4294967296 := xor_lt32 hr hb8
    have hwb : IntKind.i64.wrap (l[i].toNat : Int) = (l[i].toNat : Int) := wrap64 _ (by omega) (by omega)
    have hwc : IntKind.u32.wrap (l[i].toNat : Int) = (l[i].toNat : Int) := wrap32 _ (by omega) (by omega)
    have hwi : IntKind.i64.wrap ((i : Int) + 1) = ((i + 1 : Nat) : Int) := by rw [wrap64 _ (by omega) (by omega)]; omega
    have fy := And.intro hgl (And.intro hx (And.intro hwb (And.intro hwc (hwi))))
    refine goN ?_ ?_ ?_ ?_ ?_ ?_ ?_ ?_ ?_ ?_ ?_ ?_ ?_ ?_ ?_ ?_
    any_goals (first | exact True.intro | skip)
    skip
    refine SW.loop (fun j : Nat => ⟨[.sl .b (l.map Enc.b), .undef, .undef, .int .i64 ((crc8 j (((l.take i).foldl crcB 4294967295) ^^^ l[i].toNat) : Nat) : Int), .int .i64 (i : Nat), .int .i64 (j : Nat), .undef, .undef, .undef, .undef, .undef, .undef, .undef, .undef, .undef, .undef, .undef, .undef, .undef, .undef, .undef, .undef, .undef, .undef, .undef, .undef, .undef, .undef, .undef, .undef, .undef, .undef, .undef, .undef], [[]]⟩)
      (fun M j => M = 8 - j ∧ j ≤ 8) (n := 8) (x := 0) (Norm.to 0 rfl (by simp [weakL, crc8])) ⟨rfl, Nat.zero_le _⟩ ?_
    rintro M j ⟨hm, hj⟩
    have fy := Nat.add_zero
    refine goS ?_
    refine SW.cond rfl (fun hc => ?_) (fun hc => ?_)
    · have hlj : j < 8 := by simp at hc; omega
      have hrj : crc8 j (((l.take i).foldl crcB 4294967295) ^^^ l[i].toNat) < 4294967296 := crc8_lt j hq
      have hwj : IntKind.i64.wrap ((j : Int) + 1) = ((j + 1 : Nat) : Int) := by rw [wrap64 _ (by omega) (by omega)]; omega
      have hsj := crc8_succ j (((l.take i).foldl crcB 4294967295) ^^^ l[i].toNat)
      rw [crc1] at hsj
      generalize crc8 j (((l.take i).foldl crcB 4294967295) ^^^ l[i].toNat) = r at *
      have ha : IntKind.i64.wrap ((BitVec.ofInt IntKind.i64.bits (r : Int) &&& BitVec.ofInt IntKind.i64.bits 1).toNat : Int) = ((r % 2 : Nat) : Int) := and64 r hrj
      have hh : IntKind.i64.wrap ((BitVec.ofInt IntKind.i64.bits ((r / 2 : Nat) : Int) ^^^ BitVec.ofInt IntKind.i64.bits 3988292384).toNat : Int) = (((r / 2) ^^^ 3988292384 : Nat) : Int) := xor64 (r / 2) 3988292384 (by omega) (by decide)
      have hs : ((r : Int).fdiv (2 ^ (min 1 IntKind.i64.bits))) = ((r / 2 : Nat) : Int) := shr1 r
      have fy := And.intro ha (And.intro hh (And.intro hs (hwj)))
      refine goR ?_ ?_ ?_ ?_ ?_ ?_ ?_ ?_ ?_ ?_ ?_ ?_ ?_ ?_ ?_ ?_
      any_goals (first | exact True.intro | skip)
      all_goals (repeat (refine Wh.mk fun hcc => ?_))
      · refine ⟨M - 1, j + 1, by omega, ⟨by omega, by omega⟩, ?_⟩
        rw [hsj, if_pos (by have := hcc; simp at this; omega)]
        exact Norm.to 0 rfl (by simp [weakL])
      · refine ⟨M - 1, j + 1, by omega, ⟨by omega, by omega⟩, ?_⟩
        rw [hsj, if_neg (by have := hcc; simp at this; omega)]
        exact Norm.to 0 rfl (by simp [weakL])
    · have hj8 : j = 8 := by
        have : ¬ j < 8 := by simp at hc; omega
        omega
      subst hj8
      rw [show crc8 8 (((l.take i).foldl crcB 4294967295) ^^^ l[i].toNat) = (l.take (i + 1)).foldl crcB 4294967295 from (crcF_take l i hlt _).symm]
      have fy := hwi
      refine goR ?_ ?_ ?_ ?_ ?_ ?_ ?_ ?_ ?_ ?_ ?_ ?_ ?_ ?_ ?_ ?_
      any_goals (first | exact True.intro | skip)
      all_goals (repeat (refine Wh.mk fun hcc => ?_))
      refine ⟨N - 1, i + 1, by omega, ⟨by omega, by omega⟩, ?_⟩
      exact Norm.to 0 rfl (by simp [weakL])
  · have hge : i = l.length := by
      have : ¬ i < l.length := by simp at hc; omega
      omega
    subst hge
    have hr : (l.take l.length).foldl crcB 4294967295 < 4294967296 := crcF_lt _ (by decide)
    have hf : IntKind.i64.wrap ((BitVec.ofInt IntKind.i64.bits (((l.take l.length).foldl crcB 4294967295 : Nat) : Int) ^^^ BitVec.ofInt IntKind.i64.bits 4294967295).toNat : Int) = (crc l : Int) := by
      have := xor64 _ 4294967295 hr (by decide)
      rw [List.take_length] at this ⊢
      exact this
    have hcl := crc_lt l
    have hwz : IntKind.i64.wrap (crc l : Int) = (crc l : Int) := wrap64 _ (by omega) (by omega)
    have fy := And.intro hf (hwz)
    refine goK ?_ ?_ ?_ ?_ ?_ ?_ ?_ ?_ ?_ ?_ ?_ ?_ ?_ ?_ ?_ ?_
    any_goals (first | exact True.intro | skip)
    all_goals (repeat (refine Wh.mk fun hcc => ?_))
    all_goals (first | rfl | ((try simp only [tupOf, fixEs]); (first | done | rfl | (simp_all []; done) | grind [])))
theorem implCrc_ok (l : List UInt8) (hl : l.length ≤ 1048576) : CallR Try.prog 166 [.sl .b (l.map Enc.b)] [] (.int .i64 (crc l)) := by
  refine CallR.of_body (n := 32) (rs := [.tmp 2]) hY.ok Try.func166 rfl (by decide) rfl rfl rfl rfl (fun F => ?_)
  have fx := And.intro Y3 (And.intro Y4 (And.intro Y5 (And.intro Y24 (And.intro Y133 (Y171)))))
  have fy := Nat.add_zero
  refine goN ?_ ?_ ?_ ?_ ?_ ?_ ?_ ?_ ?_ ?_ ?_ ?_ ?_ ?_ ?_ ?_
  any_goals (first | exact True.intro | skip)
  skip
  refine SW.loop (fun i : Nat => ⟨[.undef, .undef, .undef, .int .u32 (((l.take i).foldl crcB 4294967295 : Nat) : Int), .undef, .undef, .undef, .sl .b (l.map Enc.b), .int .i64 (l.length : Nat), .int .i64 (i : Nat), .undef, .undef, .undef, .undef, .undef, .undef, .undef, .undef, .undef, .undef, .undef, .undef, .undef, .undef, .undef, .undef, .undef, .undef, .undef, .undef, .undef, .undef], [[]]⟩)
    (fun N i => N = l.length - i ∧ i ≤ l.length) (n := l.length) (x := 0) (Norm.to 0 rfl (by simp [weakL])) ⟨rfl, Nat.zero_le _⟩ ?_
  rintro N i ⟨hn, hi⟩
  have fy := Nat.add_zero
  refine goS ?_
  refine SW.cond rfl (fun hc => ?_) (fun hc => ?_)
  · have hlt : i < l.length := by simp at hc; omega
    have hgl : (l.map Enc.b)[i]? = some (T.int .u8 (l[i].toNat : Int)) := map_get Enc.b l i hlt
    have hr : (l.take i).foldl crcB 4294967295 < 4294967296 := crcF_lt _ (by decide)
    have hb8 : l[i].toNat < 4294967296 := by have := l[i].toNat_lt; omega
    have hx : IntKind.u32.wrap ((BitVec.ofInt IntKind.u32.bits (((l.take i).foldl crcB 4294967295 : Nat) : Int) ^^^ BitVec.ofInt IntKind.u32.bits (l[i].toNat : Int)).toNat : Int) = ((((l.take i).foldl crcB 4294967295) ^^^ l[i].toNat : Nat) : Int) := xor32 _ _ hr hb8
    have hq : ((l.take i).foldl crcB 4294967295) ^^^ l[i].toNat < 4294967296 := xor_lt32 hr hb8
    have hwb : IntKind.i64.wrap (l[i].toNat : Int) = (l[i].toNat : Int) := wrap64 _ (by omega) (by omega)
    have hwc : IntKind.u32.wrap (l[i].toNat : Int) = (l[i].toNat : Int) := wrap32 _ (by omega) (by omega)
    have hwi : IntKind.i64.wrap ((i : Int) + 1) = ((i + 1 : Nat) : Int) := by rw [wrap64 _ (by omega) (by omega)]; omega
    have fy := And.intro hgl (And.intro hx (And.intro hwb (And.intro hwc (hwi))))
    refine goN ?_ ?_ ?_ ?_ ?_ ?_ ?_ ?_ ?_ ?_ ?_ ?_ ?_ ?_ ?_ ?_
    any_goals (first | exact True.intro | skip)
    skip
    refine SW.loop (fun j : Nat => ⟨[.undef, .undef, .undef, .int .u32 ((crc8 j (((l.take i).foldl crcB 4294967295) ^^^ l[i].toNat) : Nat) : Int), .undef, .undef, .undef, .sl .b (l.map Enc.b), .int .i64 (l.length : Nat), .int .i64 (i : Nat), .undef, .undef, .undef, .undef, .undef, .undef, .undef, .int .i64 (j : Nat), .undef, .undef, .undef, .undef, .undef, .undef, .undef, .undef, .undef, .undef, .undef, .undef, .undef, .undef], [[]]⟩)
      (fun M j => M = 8 - j ∧ j ≤ 8) (n := 8) (x := 0) (Norm.to 0 rfl (by simp [weakL, crc8])) ⟨rfl, Nat.zero_le _⟩ ?_
    rintro M j ⟨hm, hj⟩
    have fy := Nat.add_zero
    refine goS ?_
    refine SW.cond rfl (fun hc => ?_) (fun hc => ?_)
    · have hlj : j < 8 := by simp at hc; omega
      have hrj : crc8 j (((l.take i).foldl crcB 4294967295) ^^^ l[i].toNat) < 4294967296 := crc8_lt j hq
      have hwj : IntKind.i64.wrap ((j : Int) + 1) = ((j + 1 : Nat) : Int) := by rw [wrap64 _ (by omega) (by omega)]; omega
      have hsj := crc8_succ j (((l.take i).foldl crcB 4294967295) ^^^ l[i].toNat)
      rw [crc1] at hsj
      generalize crc8 j (((l.take i).foldl crcB 4294967295) ^^^ l[i].toNat) = r at *
      have ha : IntKind.u32.wrap ((BitVec.ofInt IntKind.u32.bits (r : Int) &&& BitVec.ofInt IntKind.u32.bits 1).toNat : Int) = ((r % 2 : Nat) : Int) := and32 r hrj
      have hh : IntKind.u32.wrap ((BitVec.ofInt IntKind.u32.bits ((r / 2 : Nat) : Int) ^^^ BitVec.ofInt IntKind.u32.bits 3988292384).toNat : Int) = (((r / 2) ^^^ 3988292384 : Nat) : Int) := xor32 (r / 2) 3988292384 (by omega) (by decide)
      have hs : ((r : Int).fdiv (2 ^ (min 1 IntKind.u32.bits))) = ((r / 2 : Nat) : Int) := shr1 r
      have fy := And.intro ha (And.intro hh (And.intro hs (hwj)))
      refine goR ?_ ?_ ?_ ?_ ?_ ?_ ?_ ?_ ?_ ?_ ?_ ?_ ?_ ?_ ?_ ?_
      any_goals (first | exact True.intro | skip)
      all_goals (repeat (refine Wh.mk fun hcc => ?_))
      · refine ⟨M - 1, j + 1, by omega, ⟨by omega, by omega⟩, ?_⟩
        rw [hsj, if_pos (by have := hcc; simp at this; omega)]
        exact Norm.to 0 rfl (by simp [weakL])
      · refine ⟨M - 1, j + 1, by omega, ⟨by omega, by omega⟩, ?_⟩
        rw [hsj, if_neg (by have := hcc; simp at this; omega)]
        exact Norm.to 0 rfl (by simp [weakL])
    · have hj8 : j = 8 := by
        have : ¬ j < 8 := by simp at hc; omega
        omega
      subst hj8
      rw [show crc8 8 (((l.take i).foldl crcB 4294967295) ^^^ l[i].toNat) = (l.take (i + 1)).foldl crcB 4294967295 from (crcF_take l i hlt _).symm]
      have fy := hwi
      refine goR ?_ ?_ ?_ ?_ ?_ ?_ ?_ ?_ ?_ ?_ ?_ ?_ ?_ ?_ ?_ ?_
      any_goals (first | exact True.intro | skip)
      all_goals (repeat (refine Wh.mk fun hcc => ?_))
      refine ⟨N - 1, i + 1, by omega, ⟨by omega, by omega⟩, ?_⟩
      exact Norm.to 0 rfl (by simp [weakL])
  · have hge : i = l.length := by
      have : ¬ i < l.length := by simp at hc; omega
      omega
    subst hge
    have hr : (l.take l.length).foldl crcB 4294967295 < 4294967296 := crcF_lt _ (by decide)
    have hf : IntKind.u32.wrap ((BitVec.ofInt IntKind.u32.bits (((l.take l.length).foldl crcB 4294967295 : Nat) : Int) ^^^ BitVec.ofInt IntKind.u32.bits 4294967295).toNat : Int) = (crc l : Int) := by
      have := xor32 _ 4294967295 hr (by decide)
      rw [List.take_length] at this ⊢
      exact this
    have hcl := crc_lt l
    have hwz : IntKind.i64.wrap (crc l : Int) = (crc l : Int) := wrap64 _ (by omega) (by omega)
    have fy := And.intro hf (hwz)
    refine goK ?_ ?_ ?_ ?_ ?_ ?_ ?_ ?_ ?_ ?_ ?_ ?_ ?_ ?_ ?_ ?_
    any_goals (first | exact True.intro | skip)
    all_goals (repeat (refine Wh.mk fun hcc => ?_))
    all_goals (first | rfl | ((try simp only [tupOf, fixEs]); (first | done | rfl | (simp_all []; done) | grind [])))
end Q6
