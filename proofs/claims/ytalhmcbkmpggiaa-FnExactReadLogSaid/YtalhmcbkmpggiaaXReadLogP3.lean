/- Shows what the parts of the program do that the claim reaches: a machine of values over the model, and the contracts of functions, for all arguments within the lengths that each theorem names. -/
import Derived.Test.YtalhmcbkmpggiaaXReadLogP1
import Derived.Test.YtalhmcbkmpggiaaXReadLogP2
import Derived.Test.YtalhmcbkmpggiaaVm5
set_option linter.all false

namespace Q6
open Go Go.Vm Go.Proofs
set_option maxHeartbeats 4000000
set_option synthInstance.maxSize 2000
set_option synthInstance.maxHeartbeats 400000
set_option maxRecDepth 10000
set_option linter.unusedSimpArgs false
set_option linter.unusedVariables false

open Go.By
theorem spec_l2Same_ok (l m : List UInt8) (hl : Enc.lim 1048576 l) : CallR Try.prog 106 [.sl .b (l.map Enc.b), .sl .b (m.map Enc.b)] [] (.bool (decide (l = m))) := by
  refine CallR.of_body (n := 26) (rs := [.tmp 4]) hY.ok Try.func106 rfl (by decide) rfl rfl rfl rfl (fun F => ?_)
  have fx := And.intro Y3 (And.intro Y4 (And.intro Y5 (Y24)))
  have hl1 : l.length ≤ 1048576 := hl.1
  have fy := Nat.add_zero
  refine goS ?_
  refine SW.cond rfl (fun hc => ?_) (fun hc => ?_)
  · have hne : ¬ l = m := by intro e; subst e; simp at hc
    have fy := Nat.add_zero
    refine goK ?_ ?_ ?_ ?_ ?_ ?_ ?_ ?_ ?_ ?_ ?_ ?_ ?_ ?_ ?_ ?_
    any_goals (first | exact True.intro | skip)
    all_goals (repeat (refine Wh.mk fun hcc => ?_))
    simp [tupOf, fixEs, hne]
  have hlen : l.length = m.length := by have : (l.length : Int) = m.length := by simpa using hc
                                        omega
  refine SW.skip ?_
  simp only [thenS]
  have fy := Nat.add_zero
  refine goN ?_ ?_ ?_ ?_ ?_ ?_ ?_ ?_ ?_ ?_ ?_ ?_ ?_ ?_ ?_ ?_
  any_goals (first | exact True.intro | skip)
  skip
  refine SW.loop (fun i : Nat => ⟨[.sl .b (l.map Enc.b), .sl .b (m.map Enc.b), .undef, .undef, .undef, .int .i64 i, .undef, .undef, .undef, .undef, .undef, .undef, .undef, .undef, .undef, .undef, .undef, .undef, .undef, .undef, .undef, .undef, .undef, .undef, .undef, .undef], [[]]⟩)
    (fun n i => n = l.length - i ∧ i ≤ l.length ∧ ∀ j (h : j < l.length), j < i → l[j] = m[j]'(by omega)) (n := l.length) (x := 0) (Norm.to 0 rfl (by simp [weakL])) ⟨rfl, Nat.zero_le _, fun j _ h => absurd h (Nat.not_lt_zero _)⟩ ?_
  rintro n i ⟨hn, hi, hp⟩
  have fy := Nat.add_zero
  refine goS ?_
  refine SW.cond rfl (fun hc => ?_) (fun hc => ?_)
  · have hlt : i < l.length := by simpa using hc
    have hlt' : i < m.length := by omega
    have hgl : (l.map Enc.b)[i]? = some (.int .u8 (l[i].toNat : Int)) := map_get Enc.b l i hlt
    have hgm : (m.map Enc.b)[i]? = some (.int .u8 (m[i].toNat : Int)) := map_get Enc.b m i hlt'
    have fy := And.intro hgl (hgm)
    refine goK ?_ ?_ ?_ ?_ ?_ ?_ ?_ ?_ ?_ ?_ ?_ ?_ ?_ ?_ ?_ ?_
    any_goals (first | exact True.intro | skip)
    all_goals (repeat (refine Wh.mk fun hcc => ?_))
    · have hx := hcc
      have hne : ¬ l[i] = m[i] := by intro e; simp [e] at hx
      have hlm : ¬ l = m := by intro e; subst e; exact hne rfl
      simp [tupOf, fixEs, hlm]
    · have hx := hcc
      have hx' : l[i] = m[i] := by first | (simpa using hx; done) | (apply UInt8.toNat_inj.1; simp at hx; omega)
      refine ⟨n - 1, i + 1, by omega, ⟨by omega, by omega, fun j hj hji => ?_⟩, ?_⟩
      · by_cases he : j = i
        · subst he; exact hx'
        · exact hp j hj (by omega)
      · rw [wrap64 _ (by omega) (by omega)]
        first | exact Norm.to 0 rfl (by simp [weakL]) | exact Norm.to 1 rfl (by simp [weakL])
  · have hge : i = l.length := by
      have : ¬ i < l.length := by simpa using hc
      omega
    have hlm : l = m := List.ext_getElem hlen fun j h1 h2 => hp j h1 (by omega)
    have fy := Nat.add_zero
    refine goK ?_ ?_ ?_ ?_ ?_ ?_ ?_ ?_ ?_ ?_ ?_ ?_ ?_ ?_ ?_ ?_
    any_goals (first | exact True.intro | skip)
    all_goals (repeat (refine Wh.mk fun hcc => ?_))
    simp [tupOf, fixEs, hlm]

def putL (l : List Int) : List UInt8 := putI l.length ++ l.flatMap putI
theorem putF_len : ∀ l : List Int, (l.flatMap putI).length ≤ 6 * l.length
  | [] => by simp
  | x :: l => by have := putF_len l; have := putI_len x; simp only [List.flatMap_cons, List.length_append, List.length_cons]; omega
theorem objB_len {x : Int × List Int × List Int × Unit} (h : objB x = true) : x.2.1.length ≤ 5 ∧ x.2.2.1.length ≤ 5 := by
  unfold objB at h; simp only [Bool.and_eq_true, decide_eq_true_eq] at h; exact ⟨h.1.1.1.2, h.1.1.2⟩
def putObj (x : Int × List Int × List Int × Unit) : List UInt8 := putI x.1 ++ putL x.2.1 ++ putL x.2.2.1
theorem putL_len (l : List Int) : (putL l).length ≤ 6 + 6 * l.length := by
  unfold putL; have := putF_len l; have := putI_len l.length; simp only [List.length_append]; omega

theorem putList_ok (b : List UInt8) (l : List Int) (hb : b.length ≤ 1048576) (hl : l.length ≤ 1048576) : CallR Try.prog 128 [.sl .b (b.map Enc.b), .sl .b (l.map Enc.b)] [] (.ow 1 ((b ++ putL l).map Enc.o)) := by
  refine CallR.of_body (n := 23) (rs := [.tmp 4]) hY.ok Try.func128 rfl (by decide) rfl rfl rfl rfl (fun F => ?_)
  have fx := And.intro Y3 (And.intro Y4 (And.intro Y5 (And.intro Y24 (Y34))))
  have h0 := PutInt_ok b l.length (by omega)
  have hpl := putI_len l.length
  have hC1 := cx [] (h0)
  have fy := Nat.add_zero
  refine goN ?_ ?_ ?_ ?_ ?_ ?_ ?_ ?_ ?_ ?_ ?_ ?_ ?_ ?_ ?_ ?_
  any_goals (first | exact True.intro | skip)
  skip
  refine SW.loop (fun x : Nat × List UInt8 => ⟨[.ref 1 0 0 x.2.length, .sl .b (l.map Enc.b), .undef, .undef, .undef, .int .i64 (x.1 : Nat), .undef, .undef, .undef, .undef, .undef, .undef, .undef, .undef, .undef, .undef, .undef, .undef, .undef, .undef, .undef, .undef, .undef], [[], [.arr 1 (x.2.map Enc.o) false]]⟩)
    (fun N x => N = l.length - x.1 ∧ x.1 ≤ l.length ∧ x.2 = b ++ putI l.length ++ (l.take x.1).flatMap putI) (n := l.length) (x := (0, b ++ putI l.length)) (Norm.re [0, 1] (by decide) rfl (by simp [-List.map_append, heapFits, rowFits, obFits, T.ren, renL]) (by simp [tmFits, T.ren])) ⟨rfl, Nat.zero_le _, by simp⟩ ?_
  rintro N ⟨i, acc⟩ ⟨hN, hi, hac⟩
  simp only at hN hi hac ⊢
  have hacl : acc.length ≤ 8388608 := by
    have h1 := putF_len (l.take i)
    have h2 : (l.take i).length ≤ l.length := by rw [List.length_take]; omega
    rw [hac]; simp only [List.length_append]; omega
  have fy := Nat.add_zero
  refine goS ?_
  refine SW.cond rfl (fun hc => ?_) (fun hc => ?_)
  · have hlt : i < l.length := by simp at hc; omega
    have hg : (l.map Enc.b)[i]? = some (.int .i64 l[i]) := map_get Enc.b l i hlt
    have hwi : IntKind.i64.wrap ((i : Int) + 1) = ((i + 1 : Nat) : Int) := by rw [wrap64 _ (by omega) (by omega)]; omega
    have h1 := PutInt_ok acc l[i] (by omega)
    have hC1 := cx [] (h1)
    have fy := And.intro hg (hwi)
    refine goN ?_ ?_ ?_ ?_ ?_ ?_ ?_ ?_ ?_ ?_ ?_ ?_ ?_ ?_ ?_ ?_
    any_goals (first | exact True.intro | skip)
    skip
    refine ⟨N - 1, (i + 1, acc ++ putI l[i]), by omega, ⟨by simp only; omega, by simp only; omega, ?_⟩, ?_⟩
    · simp only; rw [hac, List.take_succ_eq_append_getElem hlt, List.flatMap_append, ← List.append_assoc]; simp only [List.flatMap_cons, List.flatMap_nil, List.append_nil]
    · exact Norm.re [0, 2] (by decide) rfl (by simp [-List.map_append, heapFits, rowFits, obFits, T.ren, renL]) (by simp [tmFits, T.ren])
  · have hge : i = l.length := by
      have : ¬ i < l.length := by simp at hc; omega
      omega
    subst hge
    have hfin : b ++ putL l = acc := by rw [hac, List.take_length]; unfold putL; simp
    rw [hfin]
    have fy := Nat.add_zero
    refine goR ?_ ?_ ?_ ?_ ?_ ?_ ?_ ?_ ?_ ?_ ?_ ?_ ?_ ?_ ?_ ?_
    any_goals (first | exact True.intro | skip)
    all_goals (repeat (refine Wh.mk fun hcc => ?_))
    exact SW.ret (show RetQ _ _ _ _ _ _ _ from RetQ.y [1] [.ow 1 (acc.map Enc.o)])
theorem sPutObj_y (x : (Int × (List Int) × (List Int) × Unit)) (hx : Enc.lim 1048576 x) (ho : objB x = true) : CallR Try.prog 62 [.nd [.int .i64 x.1, .sl .b (x.2.1.map Enc.b), .sl .b (x.2.2.1.map Enc.b)]] [] (.ow 1 ((putObj x).map Enc.o)) := by
  refine CallR.of_body (n := 17) (rs := [.tmp 2]) hY.ok Try.func62 rfl (by decide) rfl rfl rfl rfl (fun F => ?_)
  have fx := And.intro Y1 (And.intro Y2 (And.intro Y3 (And.intro Y4 (And.intro Y5 (And.intro Y24 (And.intro Y34 (Y36)))))))
  have hO := specObjOk_ok x hx
  rw [ho] at hO
  have h1 := PutInt_ok [] x.1 (by simp)
  rw [List.nil_append] at h1
  have hp1 := putI_len x.1
  have h2 := putList_ok (putI x.1) x.2.1 (by omega) hx.2.1.1
  have hp2 := putL_len x.2.1
  have hb5 : x.2.1.length ≤ 5 ∧ x.2.2.1.length ≤ 5 := objB_len ho
  have h3 := putList_ok (putI x.1 ++ putL x.2.1) x.2.2.1 (by simp only [List.length_append]; omega) hx.2.2.1.1
  have hpo : putObj x = putI x.1 ++ putL x.2.1 ++ putL x.2.2.1 := rfl
  rw [hpo]
  generalize putI x.1 ++ putL x.2.1 = P2 at *
  generalize P2 ++ putL x.2.2.1 = P3 at *
  generalize putI x.1 = P1 at *
  have hC1 := cx [] (hO)
  have hC2 := cx [] (h1)
  have hC3 := cx [] (h2)
  have hC4 := cx [] (h3)
  have fy := bs0_24
  have hD1 := dx 3 [1, 3, 3, 3] [(2, 0), (5, 0), (5, 1), (8, 0), (8, 1), (8, 2)]
  refine goR ?_ ?_ ?_ ?_ ?_ ?_ ?_ ?_ ?_ ?_ ?_ ?_ ?_ ?_ ?_ ?_
  any_goals (first | exact True.intro | skip)
  all_goals (repeat (refine Wh.mk fun hcc => ?_))
  exact SW.ret (show RetQ _ _ _ _ _ _ _ from RetQ.y [1] [.ow 1 (P3.map Enc.o)])
theorem sPutObj_n (x : (Int × (List Int) × (List Int) × Unit)) (hx : Enc.lim 1048576 x) (ho : objB x = false) : CallR Try.prog 62 [.nd [.int .i64 x.1, .sl .b (x.2.1.map Enc.b), .sl .b (x.2.2.1.map Enc.b)]] [] (.ow 1 (([] : List UInt8).map Enc.o)) := by
  refine CallR.of_body (n := 17) (rs := [.tmp 2]) hY.ok Try.func62 rfl (by decide) rfl rfl rfl rfl (fun F => ?_)
  have fx := And.intro Y1 (And.intro Y2 (And.intro Y3 (And.intro Y4 (And.intro Y5 (And.intro Y24 (And.intro Y34 (Y36)))))))
  have hO := specObjOk_ok x hx
  rw [ho] at hO
  have hC1 := cx [] (hO)
  have fy := bs0_24
  have hD1 := dx 3 [1, 3, 3, 3] [(2, 0), (5, 0), (5, 1), (8, 0), (8, 1), (8, 2)]
  refine goR ?_ ?_ ?_ ?_ ?_ ?_ ?_ ?_ ?_ ?_ ?_ ?_ ?_ ?_ ?_ ?_
  any_goals (first | exact True.intro | skip)
  all_goals (repeat (refine Wh.mk fun hcc => ?_))
  exact SW.ret (show RetQ _ _ _ _ _ _ _ from RetQ.y [1] [.ow 1 []])
end Q6

namespace Q6
open Go Go.Vm Go.Proofs
set_option maxHeartbeats 4000000
set_option synthInstance.maxSize 2000
set_option synthInstance.maxHeartbeats 400000
set_option maxRecDepth 10000
set_option linter.unusedSimpArgs false
set_option linter.unusedVariables false

theorem implObjOk_ok (x : (Int × (List Int) × (List Int) × Unit)) (hx : Enc.lim 1048576 x) : CallR Try.prog 141 [.nd [.int .i64 x.1, .sl .b (x.2.1.map Enc.b), .sl .b (x.2.2.1.map Enc.b)]] [] (.bool (objB x)) := by
  refine CallR.of_body (n := 29) (rs := [.tmp 2]) hY.ok Try.func141 rfl (by decide) rfl rfl rfl rfl (fun F => ?_)
  have fx := And.intro Y1 (And.intro Y2 (And.intro Y3 (And.intro Y4 (And.intro Y34 (And.intro Y36 (Y96))))))
  have hG1 := fun u1 u2 u3 => in_ok u1 u2 u3
  have hC1 := cx [] (anyInt_ok x.2.1 hx.2.1)
  have hC2 := cx [] (anyRef_ok x.2.2.1 hx.2.2.1)
  have fy := len5
  refine goK ?_ ?_ ?_ ?_ ?_ ?_ ?_ ?_ ?_ ?_ ?_ ?_ ?_ ?_ ?_ ?_
  any_goals (first | exact True.intro | skip)
  all_goals (repeat (refine Wh.mk fun hcc => ?_))
  all_goals (first | rfl | ((try simp only [tupOf, fixEs]); (first | done | rfl | (simp_all [objB, len5, any_not]; done) | grind [objB, len5, any_not])))
theorem slotOk_ok (x : (Bool × ((Int × (List Int) × (List Int) × Unit)) × Unit)) (hx : Enc.lim 1048576 x) : CallR Try.prog 84 [.nd [.bool x.1, .nd [.int .i64 x.2.1.1, .sl .b (x.2.1.2.1.map Enc.b), .sl .b (x.2.1.2.2.1.map Enc.b)]]] [] (.bool (slotB x)) := by
  refine CallR.of_body (n := 11) (rs := [.tmp 2]) hY.ok Try.func84 rfl (by decide) rfl rfl rfl rfl (fun F => ?_)
  have fx := And.intro Y1 (And.intro Y3 (And.intro Y4 (And.intro Y34 (And.intro Y36 (Y38)))))
  have hC1 := cx [] (implObjOk_ok x.2.1 hx.2.1)
  have hC2 := cx [] (noObj_ok x.2.1)
  have fy := Nat.add_zero
  refine goK ?_ ?_ ?_ ?_ ?_ ?_ ?_ ?_ ?_ ?_ ?_ ?_ ?_ ?_ ?_ ?_
  any_goals (first | exact True.intro | skip)
  all_goals (repeat (refine Wh.mk fun hcc => ?_))
  all_goals (first | rfl | ((try simp only [tupOf, fixEs]); (first | done | rfl | (simp_all [slotB]; done) | grind [slotB])))
theorem view1_ok (x : (Bool × ((Int × (List Int) × (List Int) × Unit)) × Unit)) (hx : Enc.lim 1048576 x) : CallR Try.prog 132 [.nd [.bool x.1, .nd [.int .i64 x.2.1.1, .sl .b (x.2.1.2.1.map Enc.b), .sl .b (x.2.1.2.2.1.map Enc.b)]]] [] (.bool (!slotB x)) := by
  refine CallR.of_body (n := 6) (rs := [.tmp 2]) hY.ok Try.func132 rfl (by decide) rfl rfl rfl rfl (fun F => ?_)
  have fx := And.intro Y3 (And.intro Y4 (And.intro Y34 (And.intro Y36 (Y38))))
  have hC1 := cx [] (slotOk_ok x hx)
  have fy := Nat.add_zero
  refine goK ?_ ?_ ?_ ?_ ?_ ?_ ?_ ?_ ?_ ?_ ?_ ?_ ?_ ?_ ?_ ?_
  any_goals (first | exact True.intro | skip)
  all_goals (repeat (refine Wh.mk fun hcc => ?_))
  all_goals (first | rfl | ((try simp only [tupOf, fixEs]); (first | done | rfl | (simp_all []; done) | grind [])))
theorem idxSlot_ok (l : List ((Bool × ((Int × (List Int) × (List Int) × Unit)) × Unit))) (hl : Enc.lim 1048576 l) : CallR Try.prog 101 [.sl .b (l.map Enc.b), .fn 132 [] []] [] (.int .i64 (idxOf (fun x => !slotB x) l)) := by
  refine CallR.of_body (n := 19) (rs := [.tmp 4]) hY.ok Try.func101 rfl (by decide) rfl rfl rfl rfl (fun F => ?_)
  have fx := And.intro Y3 (And.intro Y4 (And.intro Y26 (And.intro Y34 (And.intro Y36 (And.intro Y38 (Y93))))))
  have hl1 : l.length ≤ 1048576 := hl.1
  have fy := Nat.add_zero
  refine goN ?_ ?_ ?_ ?_ ?_ ?_ ?_ ?_ ?_ ?_ ?_ ?_ ?_ ?_ ?_ ?_
  any_goals (first | exact True.intro | skip)
  skip
  refine SW.loop (fun i : Nat => ⟨[.sl .b (l.map Enc.b), .fn 132 [] [], .undef, .undef, .undef, .undef, .undef, .int .i64 l.length, .int .i64 i, .undef, .undef, .undef, .undef, .undef, .undef, .undef, .undef, .undef, .undef], [[]]⟩)
    (fun n i => n = l.length - i ∧ i ≤ l.length ∧ ∀ j (h : j < l.length), j < i → (fun x => !slotB x) l[j] = false) (n := l.length) (x := 0) (Norm.to 0 rfl (by simp [weakL])) ⟨rfl, Nat.zero_le _, fun j _ h => absurd h (Nat.not_lt_zero _)⟩ ?_
  rintro n i ⟨hn, hi, hp⟩
  have fy := Nat.add_zero
  refine goS ?_
  refine SW.cond rfl (fun hc => ?_) (fun hc => ?_)
  · have hlt : i < l.length := by simpa using hc
    have hg : (l.map Enc.b)[i]? = some (.nd [.bool l[i].1, .nd [.int .i64 l[i].2.1.1, .sl .b (l[i].2.1.2.1.map Enc.b), .sl .b (l[i].2.1.2.2.1.map Enc.b)]]) := map_get Enc.b l i hlt
    have hC1 := cx [] (view1_ok l[i] (hl.2 _ (List.getElem_mem hlt)))
    have fy := hg
    refine goK ?_ ?_ ?_ ?_ ?_ ?_ ?_ ?_ ?_ ?_ ?_ ?_ ?_ ?_ ?_ ?_
    any_goals (first | exact True.intro | skip)
    all_goals (repeat (refine Wh.mk fun hcc => ?_))
    · have hx := hcc
      have hx' : (fun x => !slotB x) l[i] = true := by simpa using hx
      simp only [tupOf, fixEs, idxOf_eq (fun x => !slotB x) l hlt hx' (fun j hj => hp j (by omega) hj)]
    · have hx := hcc
      have hx' : (fun x => !slotB x) l[i] = false := by simpa using hx
      refine ⟨n - 1, i + 1, by omega, ⟨by omega, by omega, fun j hj hji => ?_⟩, ?_⟩
      · by_cases he : j = i
        · subst he; exact hx'
        · exact hp j hj (by omega)
      · rw [wrap64 _ (by omega) (by omega)]
        first | exact Norm.to 0 rfl (by simp [weakL]) | exact Norm.to 1 rfl (by simp [weakL]) | exact Norm.to 2 rfl (by simp [weakL])
  · have hge : i = l.length := by
      have : ¬ i < l.length := by simpa using hc
      omega
    have fy := Nat.add_zero
    refine goK ?_ ?_ ?_ ?_ ?_ ?_ ?_ ?_ ?_ ?_ ?_ ?_ ?_ ?_ ?_ ?_
    any_goals (first | exact True.intro | skip)
    all_goals (repeat (refine Wh.mk fun hcc => ?_))
    simp only [tupOf, fixEs, idxOf_none (fun x => !slotB x) l (fun j hj => hp j hj (by omega))]
theorem anySlot_ok (l : List ((Bool × ((Int × (List Int) × (List Int) × Unit)) × Unit))) (hl : Enc.lim 1048576 l) : CallR Try.prog 95 [.sl .b (l.map Enc.b), .fn 132 [] []] [] (.bool (l.any (fun x => !slotB x))) := by
  refine CallR.of_body (n := 9) (rs := [.tmp 4]) hY.ok Try.func95 rfl (by decide) rfl rfl rfl rfl (fun F => ?_)
  have fx := And.intro Y3 (And.intro Y4 (And.intro Y26 (And.intro Y34 (And.intro Y36 (And.intro Y38 (Y93))))))
  have hC1 := cx [] (idxSlot_ok l hl)
  have fy := Nat.add_zero
  refine goK ?_ ?_ ?_ ?_ ?_ ?_ ?_ ?_ ?_ ?_ ?_ ?_ ?_ ?_ ?_ ?_
  any_goals (first | exact True.intro | skip)
  all_goals (repeat (refine Wh.mk fun hcc => ?_))
  all_goals simp only [tupOf, fixEs, ge_iff_le, idx_any]
theorem implViewOk_y (l : List ((Bool × ((Int × (List Int) × (List Int) × Unit)) × Unit))) (hl : Enc.lim 1048576 l) (h32 : l.length = 32) : CallR Try.prog 66 [.sl .b (l.map Enc.b)] [] (.bool (viewB l)) := by
  refine CallR.of_body (n := 17) (rs := [.tmp 2]) hY.ok Try.func66 rfl (by decide) rfl rfl rfl rfl (fun F => ?_)
  have fx := And.intro Y3 (And.intro Y4 (And.intro Y26 (And.intro Y34 (And.intro Y36 (And.intro Y38 (Y93))))))
  have hE : ((l.length : Int) == 32) = true := by simp [h32]
  have hlt : 0 < l.length := by omega
  have hI : (0 : Int) < (l.length : Int) := by omega
  have hg : (l.map Enc.b)[0]? = some (.nd [.bool l[0].1, .nd [.int .i64 l[0].2.1.1, .sl .b (l[0].2.1.2.1.map Enc.b), .sl .b (l[0].2.1.2.2.1.map Enc.b)]]) := map_get Enc.b l 0 hlt
  have hC1 := cx [] (noSlot_ok l[0])
  have hC2 := cx [] (anySlot_ok l hl)
  have fy := And.intro hE (And.intro hg (And.intro hI (hlt)))
  refine goK ?_ ?_ ?_ ?_ ?_ ?_ ?_ ?_ ?_ ?_ ?_ ?_ ?_ ?_ ?_ ?_
  any_goals (first | exact True.intro | skip)
  all_goals (repeat (refine Wh.mk fun hcc => ?_))
  all_goals (obtain ⟨s, l', rfl⟩ : ∃ s l', l = s :: l' := by cases l with | nil => simp at h32 | cons s l' => exact ⟨s, l', rfl⟩)
  all_goals (skip; try simp only [tupOf, fixEs]; first | trivial | (simp_all [viewB, any_not, slotB]; done) | grind [viewB, any_not, slotB])
theorem implViewOk_n (l : List ((Bool × ((Int × (List Int) × (List Int) × Unit)) × Unit))) (hl : Enc.lim 1048576 l) (h32 : ¬ l.length = 32) : CallR Try.prog 66 [.sl .b (l.map Enc.b)] [] (.bool (viewB l)) := by
  refine CallR.of_body (n := 17) (rs := [.tmp 2]) hY.ok Try.func66 rfl (by decide) rfl rfl rfl rfl (fun F => ?_)
  have fx := And.intro Y3 (And.intro Y4 (And.intro Y26 (And.intro Y34 (And.intro Y36 (And.intro Y38 (Y93))))))
  have hE : ((l.length : Int) == 32) = false := by 
    have : ¬ (l.length : Int) = 32 := by omega
    simp [this]
  have hC1 := cx [] (anySlot_ok l hl)
  have fy := hE
  refine goK ?_ ?_ ?_ ?_ ?_ ?_ ?_ ?_ ?_ ?_ ?_ ?_ ?_ ?_ ?_ ?_
  any_goals (first | exact True.intro | skip)
  all_goals (repeat (refine Wh.mk fun hcc => ?_))
  all_goals ((try simp only [tupOf, fixEs]); first | done | (simp_all [viewB]; done) | (exfalso; simp_all; done))
theorem implViewOk_ok (l : List ((Bool × ((Int × (List Int) × (List Int) × Unit)) × Unit))) (hl : Enc.lim 1048576 l) : CallR Try.prog 66 [.sl .b (l.map Enc.b)] [] (.bool (viewB l)) := by
  by_cases h : l.length = 32
  · exact implViewOk_y l hl h
  · exact implViewOk_n l hl h
end Q6

namespace Q6
open Go Go.Vm Go.Proofs
set_option maxHeartbeats 4000000
set_option synthInstance.maxSize 2000
set_option synthInstance.maxHeartbeats 400000
set_option maxRecDepth 10000
set_option linter.unusedSimpArgs false
set_option linter.unusedVariables false

open Go.By

def obj0 : ObjT := (0, [], [], ())
def gobI (l : List UInt8) : ObjT × Bool :=
  let a := oneR l (0, false); let b := intsR l 5 a.2; let c := intsR l 5 b.2
  if ((!c.2.2 && decide (c.2.1 = l.length)) && objB (a.1, b.1, c.1, ())) = true then ((a.1, b.1, c.1, ()), true) else (obj0, false)
def gobS (l : List UInt8) : ObjT × Bool :=
  let a := oneR l (0, false); let b := listR l 5 a.2; let c := listR l 5 b.2
  if ((!c.2.2 && objB (a.1, b.1, c.1, ())) && decide (putObj (a.1, b.1, c.1, ()) = l)) = true then ((a.1, b.1, c.1, ()), true) else (obj0, false)
theorem intsR_len (l : List UInt8) (most : Int) (hm : 0 ≤ most) (s : RS) : ((intsR l most s).1.length : Int) ≤ most := by
  unfold intsR; rw [intsL_len]; have := manyR_rng l most hm s; omega
theorem intsR_le (l : List UInt8) (most : Int) (s : RS) (ha : s.1 ≤ l.length) : (intsR l most s).2.1 ≤ l.length := intsL_le l _ _ (manyR_le l most s ha)

theorem gobI_ok (l : List UInt8) (hl : l.length ≤ 1048576) : CallR Try.prog 143 [.sl .b (l.map Enc.b)] [] (.tup [.nd [.int .i64 (((gobI l).1).1), .ow 1 ((((gobI l).1).2.1).map Enc.o), .ow 1 ((((gobI l).1).2.2.1).map Enc.o)], .bool (gobI l).2]) := by
  refine CallR.of_body (n := 28) (rs := [.cell 2 36, .tmp 3]) hY.ok Try.func143 rfl (by decide) rfl rfl rfl rfl (fun F => ?_)
  have fx := And.intro Y1 (And.intro Y2 (And.intro Y3 (And.intro Y4 (And.intro Y5 (And.intro Y24 (And.intro Y34 (And.intro Y36 (And.intro Y97 (Y99)))))))))
  have h1 : CallR Try.prog 85 [.io (.nd [.sl (.r 0) (l.map Enc.b), .int .i64 0, .bool false])] [.nd [.sl (.r 0) (l.map Enc.b), .int .i64 ((oneR l (0, false)).2.1 : Nat), .bool (oneR l (0, false)).2.2]] (.int .i64 (oneR l (0, false)).1) := one_b l (0, false) hl (Nat.zero_le _)
  have e1 := oneR_le l (0, false) (Nat.zero_le _)
  unfold gobI
  simp only
  generalize oneR l (0, false) = y1 at *
  have h2 := ints_b l y1.2 5 hl e1 (by decide)
  have e2 := intsR_le l 5 y1.2 e1
  have n2 := intsR_len l 5 (by decide) y1.2
  generalize intsR l 5 y1.2 = y2 at *
  have h3 := ints_b l y2.2 5 hl e2 (by decide)
  have e3 := intsR_le l 5 y2.2 e2
  have n3 := intsR_len l 5 (by decide) y2.2
  generalize intsR l 5 y2.2 = y3 at *
  have hx : Enc.lim 1048576 ((y1.1, y2.1, y3.1, ()) : ObjT) := ⟨trivial, ⟨by simp only; omega, fun _ _ => trivial⟩, ⟨by simp only; omega, fun _ _ => trivial⟩, trivial⟩
  have h4 := done_ok l y3.2
  have h5 := implObjOk_ok (y1.1, y2.1, y3.1, ()) hx
  simp only at h5
  generalize (!y3.2.2 && decide (y3.2.1 = l.length)) = d at *
  generalize objB (y1.1, y2.1, y3.1, ()) = b at *
  cases d <;> cases b
  · skip
    have hC1 := cx [.io] (h1)
    have hC2 := cx [.io] (h2)
    have hC3 := cx [.io] (h3)
    have hC4 := cx [] (h4)
    have hC5 := cx [] (h5)
    have fy := Nat.add_zero
    refine goR ?_ ?_ ?_ ?_ ?_ ?_ ?_ ?_ ?_ ?_ ?_ ?_ ?_ ?_ ?_ ?_
    any_goals (first | exact True.intro | skip)
    all_goals (repeat (refine Wh.mk fun hcc => ?_))
    exact SW.ret (show RetQ _ _ _ _ _ _ _ from RetQ.y [0, 0] [.nd [.int .i64 0, .ow 1 (([] : List Int).map Enc.o), .ow 1 (([] : List Int).map Enc.o)], .bool false])
  · skip
    have hC1 := cx [.io] (h1)
    have hC2 := cx [.io] (h2)
    have hC3 := cx [.io] (h3)
    have hC4 := cx [] (h4)
    have hC5 := cx [] (h5)
    have fy := Nat.add_zero
    refine goR ?_ ?_ ?_ ?_ ?_ ?_ ?_ ?_ ?_ ?_ ?_ ?_ ?_ ?_ ?_ ?_
    any_goals (first | exact True.intro | skip)
    all_goals (repeat (refine Wh.mk fun hcc => ?_))
    exact SW.ret (show RetQ _ _ _ _ _ _ _ from RetQ.y [0, 0] [.nd [.int .i64 0, .ow 1 (([] : List Int).map Enc.o), .ow 1 (([] : List Int).map Enc.o)], .bool false])
  · skip
    have hC1 := cx [.io] (h1)
    have hC2 := cx [.io] (h2)
    have hC3 := cx [.io] (h3)
    have hC4 := cx [] (h4)
    have hC5 := cx [] (h5)
    have fy := Nat.add_zero
    refine goR ?_ ?_ ?_ ?_ ?_ ?_ ?_ ?_ ?_ ?_ ?_ ?_ ?_ ?_ ?_ ?_
    any_goals (first | exact True.intro | skip)
    all_goals (repeat (refine Wh.mk fun hcc => ?_))
    exact SW.ret (show RetQ _ _ _ _ _ _ _ from RetQ.y [0, 0] [.nd [.int .i64 0, .ow 1 (([] : List Int).map Enc.o), .ow 1 (([] : List Int).map Enc.o)], .bool false])
  · skip
    have hC1 := cx [.io] (h1)
    have hC2 := cx [.io] (h2)
    have hC3 := cx [.io] (h3)
    have hC4 := cx [] (h4)
    have hC5 := cx [] (h5)
    have fy := Nat.add_zero
    refine goR ?_ ?_ ?_ ?_ ?_ ?_ ?_ ?_ ?_ ?_ ?_ ?_ ?_ ?_ ?_ ?_
    any_goals (first | exact True.intro | skip)
    all_goals (repeat (refine Wh.mk fun hcc => ?_))
    exact SW.ret (show RetQ _ _ _ _ _ _ _ from RetQ.y [0, 0] [.nd [.int .i64 y1.1, .ow 1 (y2.1.map Enc.o), .ow 1 (y3.1.map Enc.o)], .bool true])
theorem gobS_ok (l : List UInt8) (hl : l.length ≤ 1048576) : CallR Try.prog 155 [.sl .b (l.map Enc.b)] [] (.tup [.nd [.int .i64 (((gobS l).1).1), .ow 1 ((((gobS l).1).2.1).map Enc.o), .ow 1 ((((gobS l).1).2.2.1).map Enc.o)], .bool (gobS l).2]) := by
  refine CallR.of_body (n := 37) (rs := [.cell 2 36, .tmp 3]) hY.ok Try.func155 rfl (by decide) rfl rfl rfl rfl (fun F => ?_)
  have fx := And.intro Y1 (And.intro Y2 (And.intro Y3 (And.intro Y4 (And.intro Y5 (And.intro Y24 (And.intro Y34 (And.intro Y36 (And.intro Y115 (Y117)))))))))
  have h1 : CallR Try.prog 104 [.io (.nd [.sl (.r 0) (l.map Enc.b), .int .i64 0, .bool false])] [.nd [.sl (.r 0) (l.map Enc.b), .int .i64 ((oneR l (0, false)).2.1 : Nat), .bool (oneR l (0, false)).2.2]] (.int .i64 (oneR l (0, false)).1) := next_b l (0, false) hl (Nat.zero_le _)
  have e1 := oneR_le l (0, false) (Nat.zero_le _)
  unfold gobS
  simp only
  generalize oneR l (0, false) = y1 at *
  have h2 := list_b l y1.2 5 hl e1 (by decide)
  have e2 := listR_le l 5 y1.2 e1
  have n2 := listR_len l 5 y1.2 (by decide)
  generalize listR l 5 y1.2 = y2 at *
  have h3 := list_b l y2.2 5 hl e2 (by decide)
  have e3 := listR_le l 5 y2.2 e2
  have n3 := listR_len l 5 y2.2 (by decide)
  generalize listR l 5 y2.2 = y3 at *
  have hx : Enc.lim 1048576 ((y1.1, y2.1, y3.1, ()) : ObjT) := ⟨trivial, ⟨by simp only; omega, fun _ _ => trivial⟩, ⟨by simp only; omega, fun _ _ => trivial⟩, trivial⟩
  have h5 := specObjOk_ok (y1.1, y2.1, y3.1, ()) hx
  simp only at h5
  obtain ⟨z3, a3, b3⟩ := y3
  simp only at h3 h5 e3 n3 ⊢
  cases hb : objB (y1.1, y2.1, z3, ()) with
  | false =>
    rw [hb] at h5
    rw [show ((!b3 && false) && decide (putObj (y1.1, y2.1, z3, ()) = l)) = false by simp]
    simp only [Bool.false_eq_true, if_false]
    cases b3
    · skip
      have hC1 := cx [.io] (h1)
      have hC2 := cx [.io] (h2)
      have hC3 := cx [.io] (h3)
      have hC4 := cx [] (h5)
      have fy := Nat.add_zero
      refine goR ?_ ?_ ?_ ?_ ?_ ?_ ?_ ?_ ?_ ?_ ?_ ?_ ?_ ?_ ?_ ?_
      any_goals (first | exact True.intro | skip)
      all_goals (repeat (refine Wh.mk fun hcc => ?_))
      exact SW.ret (show RetQ _ _ _ _ _ _ _ from RetQ.y [0, 0] [.nd [.int .i64 0, .ow 1 (([] : List Int).map Enc.o), .ow 1 (([] : List Int).map Enc.o)], .bool false])
    · skip
      have hC1 := cx [.io] (h1)
      have hC2 := cx [.io] (h2)
      have hC3 := cx [.io] (h3)
      have hC4 := cx [] (h5)
      have fy := Nat.add_zero
      refine goR ?_ ?_ ?_ ?_ ?_ ?_ ?_ ?_ ?_ ?_ ?_ ?_ ?_ ?_ ?_ ?_
      any_goals (first | exact True.intro | skip)
      all_goals (repeat (refine Wh.mk fun hcc => ?_))
      exact SW.ret (show RetQ _ _ _ _ _ _ _ from RetQ.y [0, 0] [.nd [.int .i64 0, .ow 1 (([] : List Int).map Enc.o), .ow 1 (([] : List Int).map Enc.o)], .bool false])
  | true =>
    rw [hb] at h5
    have h6 := sPutObj_y (y1.1, y2.1, z3, ()) (by exact hx) hb
    have hpl : (putObj (y1.1, y2.1, z3, ())).length ≤ 1048576 := by
      have h7 := putL_len y2.1
      have h8 := putL_len z3
      have h9 := putI_len y1.1
      unfold putObj; simp only [List.length_append]; omega
    simp only at h6
    generalize putObj (y1.1, y2.1, z3, ()) = p at *
    have h7 := spec_l2Same_ok p l ⟨hpl, fun _ _ => trivial⟩
    generalize decide (p = l) = e at *
    cases b3 <;> cases e
    · skip
      have hC1 := cx [.io] (h1)
      have hC2 := cx [.io] (h2)
      have hC3 := cx [.io] (h3)
      have hC4 := cx [] (h5)
      have hC5 := cx [] (h6)
      have hC6 := cx [] (h7)
      have fy := Nat.add_zero
      refine goR ?_ ?_ ?_ ?_ ?_ ?_ ?_ ?_ ?_ ?_ ?_ ?_ ?_ ?_ ?_ ?_
      any_goals (first | exact True.intro | skip)
      all_goals (repeat (refine Wh.mk fun hcc => ?_))
      exact SW.ret (show RetQ _ _ _ _ _ _ _ from RetQ.y [0, 0] [.nd [.int .i64 0, .ow 1 (([] : List Int).map Enc.o), .ow 1 (([] : List Int).map Enc.o)], .bool false])
    · skip
      have hC1 := cx [.io] (h1)
      have hC2 := cx [.io] (h2)
      have hC3 := cx [.io] (h3)
      have hC4 := cx [] (h5)
      have hC5 := cx [] (h6)
      have hC6 := cx [] (h7)
      have fy := Nat.add_zero
      refine goR ?_ ?_ ?_ ?_ ?_ ?_ ?_ ?_ ?_ ?_ ?_ ?_ ?_ ?_ ?_ ?_
      any_goals (first | exact True.intro | skip)
      all_goals (repeat (refine Wh.mk fun hcc => ?_))
      exact SW.ret (show RetQ _ _ _ _ _ _ _ from RetQ.y [0, 0] [.nd [.int .i64 y1.1, .ow 1 (y2.1.map Enc.o), .ow 1 (z3.map Enc.o)], .bool true])
    · skip
      have hC1 := cx [.io] (h1)
      have hC2 := cx [.io] (h2)
      have hC3 := cx [.io] (h3)
      have hC4 := cx [] (h5)
      have hC5 := cx [] (h6)
      have hC6 := cx [] (h7)
      have fy := Nat.add_zero
      refine goR ?_ ?_ ?_ ?_ ?_ ?_ ?_ ?_ ?_ ?_ ?_ ?_ ?_ ?_ ?_ ?_
      any_goals (first | exact True.intro | skip)
      all_goals (repeat (refine Wh.mk fun hcc => ?_))
      exact SW.ret (show RetQ _ _ _ _ _ _ _ from RetQ.y [0, 0] [.nd [.int .i64 0, .ow 1 (([] : List Int).map Enc.o), .ow 1 (([] : List Int).map Enc.o)], .bool false])
    · skip
      have hC1 := cx [.io] (h1)
      have hC2 := cx [.io] (h2)
      have hC3 := cx [.io] (h3)
      have hC4 := cx [] (h5)
      have hC5 := cx [] (h6)
      have hC6 := cx [] (h7)
      have fy := Nat.add_zero
      refine goR ?_ ?_ ?_ ?_ ?_ ?_ ?_ ?_ ?_ ?_ ?_ ?_ ?_ ?_ ?_ ?_
      any_goals (first | exact True.intro | skip)
      all_goals (repeat (refine Wh.mk fun hcc => ?_))
      exact SW.ret (show RetQ _ _ _ _ _ _ _ from RetQ.y [0, 0] [.nd [.int .i64 0, .ow 1 (([] : List Int).map Enc.o), .ow 1 (([] : List Int).map Enc.o)], .bool false])
end Q6

namespace Q6
open Go Go.Vm Go.By
set_option linter.unusedSimpArgs false

/-! ### reading: the plain law -/
theorem oneR_good {l : List UInt8} {s : RS} (ha : s.1 ≤ l.length) (h : (oneR l s).2.2 = false) :
    s.2 = false ∧ okN (oneR l s).1 = true ∧ l.drop s.1 = putI (oneR l s).1 ++ l.drop (oneR l s).2.1 := by
  unfold oneR at h ⊢
  split at h
  · cases h
  · rename_i hc
    rw [if_neg hc]
    simp only [Bool.or_eq_true, Bool.not_eq_true', not_or, Bool.not_eq_true, Bool.not_eq_false] at hc
    obtain ⟨h1, h2⟩ := hc
    refine ⟨h1, ?_⟩
    rw [getR_pI l s.1 ha] at h2 ⊢
    cases hp : pI (l.drop s.1) with
    | none => rw [hp] at h2; cases h2
    | some x =>
      obtain ⟨n, r⟩ := x
      obtain ⟨e1, e2⟩ := pI_inv hp
      simp only
      refine ⟨e2, ?_⟩
      have hr : r.length ≤ l.length := by
        have := congrArg List.length e1
        rw [List.length_drop, List.length_append] at this; omega
      have : l.drop (l.length - r.length) = r := by
        have h3 : l = l.take s.1 ++ putI n ++ r := by rw [List.append_assoc, ← e1, List.take_append_drop]
        obtain ⟨p, hp⟩ : ∃ p, l = p ++ r := ⟨_, h3⟩
        rw [hp]; simp
      rw [this]; exact e1
theorem intsL_bad (l : List UInt8) : ∀ (n : Nat) (s : RS), s.2 = true → (intsL l n s).2.2 = true
  | 0, s, h => h
  | n + 1, s, h => by simp only [intsL]; rw [oneR_bad l s h]; exact intsL_bad l n _ rfl
theorem intsL_good {l : List UInt8} : ∀ (n : Nat) {s : RS}, s.1 ≤ l.length → (intsL l n s).2.2 = false →
    s.2 = false ∧ listL l n s = intsL l n s ∧ (∀ x ∈ (intsL l n s).1, okN x = true) ∧ l.drop s.1 = (intsL l n s).1.flatMap putI ++ l.drop (intsL l n s).2.1
  | 0, s, ha, h => ⟨h, rfl, by simp [intsL], by simp [intsL]⟩
  | n + 1, s, ha, h => by
    simp only [intsL] at h
    obtain ⟨h1, h2, h3, h4⟩ := intsL_good n (oneR_le l s ha) h
    obtain ⟨g1, g2, g3⟩ := oneR_good ha h1
    refine ⟨g1, ?_, ?_, ?_⟩
    · simp only [listL, intsL, h2, g1, Bool.false_eq_true, if_false]
    · intro x hx
      simp only [intsL, List.mem_cons] at hx
      rcases hx with rfl | hx
      · exact g2
      · exact h3 x hx
    · simp only [intsL, List.flatMap_cons, List.append_assoc]
      rw [← h4]; exact g3
theorem listL_good {l : List UInt8} : ∀ (n : Nat) {s : RS}, (listL l n s).2.2 = false → intsL l n s = listL l n s
  | 0, s, h => rfl
  | n + 1, s, h => by
    unfold listL at h ⊢
    split at h
    · rename_i hb; simp only at h; rw [hb] at h; cases h
    · rename_i hb
      rw [if_neg hb]
      simp only at h
      simp only [intsL, listL_good n h]
theorem intsR_bad (l : List UInt8) (most : Int) (hm : 0 ≤ most) (s : RS) (h : s.2 = true) : (intsR l most s).2.2 = true := by
  have : manyR l most s = (0, s.1, true) := by unfold manyR; rw [oneR_bad l s h]; simp [hm]
  unfold intsR; rw [this]; exact intsL_bad l _ _ rfl
theorem listR_bad (l : List UInt8) (most : Int) (hm : 0 ≤ most) (s : RS) (h : s.2 = true) : (listR l most s).2.2 = true := by
  unfold listR; rw [oneR_bad l s h]; simp [hm, listL]
theorem listR_good {l : List UInt8} {most : Int} (hm : 0 ≤ most) {s : RS} (ha : s.1 ≤ l.length) (h : (listR l most s).2.2 = false) : intsR l most s = listR l most s := by
  unfold listR at h ⊢
  split at h
  · rename_i hr
    rw [if_pos hr]
    unfold intsR manyR
    rw [if_pos hr]
    exact listL_good _ h
  · cases h
theorem intsR_good {l : List UInt8} {most : Int} (hm : 0 ≤ most) {s : RS} (ha : s.1 ≤ l.length) (h : (intsR l most s).2.2 = false) :
    s.2 = false ∧ listR l most s = intsR l most s ∧ l.drop s.1 = putL (intsR l most s).1 ++ l.drop (intsR l most s).2.1 := by
  unfold intsR at h ⊢
  obtain ⟨h1, h2, h3, h4⟩ := intsL_good _ (manyR_le l most s ha) h
  by_cases hr : 0 ≤ (oneR l s).1 ∧ (oneR l s).1 ≤ most
  · have hM : manyR l most s = oneR l s := by unfold manyR; rw [if_pos hr]
    rw [hM] at h1 h2 h4 ⊢
    obtain ⟨g1, g2, g3⟩ := oneR_good ha h1
    refine ⟨g1, ?_, ?_⟩
    · unfold listR; rw [if_pos hr]; exact h2
    · rw [g3, h4]
      unfold putL
      rw [intsL_len, Int.toNat_of_nonneg hr.1, List.append_assoc]
  · have hM : manyR l most s = (0, (oneR l s).2.1, true) := by unfold manyR; rw [if_neg hr]
    rw [hM] at h1; cases h1

theorem gob_eq (l : List UInt8) : gobI l = gobS l := by
  unfold gobI gobS
  simp only
  have e1 := oneR_le l (0, false) (Nat.zero_le _)
  have hg1 := @oneR_good l (0, false) (Nat.zero_le _)
  generalize oneR l (0, false) = y1 at *
  have e2 := intsR_le l 5 y1.2 e1
  have f2 := listR_le l 5 y1.2 e1
  have e3 := intsR_le l 5 (intsR l 5 y1.2).2 e2
  by_cases hc : (intsR l 5 (intsR l 5 y1.2).2).2.2 = false
  · obtain ⟨a1, a2, a3⟩ := intsR_good (by decide) e2 hc
    obtain ⟨b1, b2, b3⟩ := intsR_good (by decide) e1 a1
    obtain ⟨c1, c2, c3⟩ := hg1 b1
    rw [b2, a2]
    have hl : l = putObj (y1.1, (intsR l 5 y1.2).1, (intsR l 5 (intsR l 5 y1.2).2).1, ()) ++ l.drop (intsR l 5 (intsR l 5 y1.2).2).2.1 := by
      unfold putObj
      simp only [List.append_assoc]
      rw [← a3, ← b3, ← c3, List.drop_zero]
    have hp : decide (putObj (y1.1, (intsR l 5 y1.2).1, (intsR l 5 (intsR l 5 y1.2).2).1, ()) = l) = decide ((intsR l 5 (intsR l 5 y1.2).2).2.1 = l.length) := by
      generalize putObj _ = p at hl ⊢
      generalize (intsR l 5 (intsR l 5 y1.2).2).2.1 = a at *
      have hlen := congrArg List.length hl
      rw [List.length_append, List.length_drop] at hlen
      by_cases h : a = l.length
      · subst h
        rw [List.drop_length, List.append_nil] at hl
        simp [hl]
      · have : ¬ p = l := by
          intro e; rw [e] at hlen; omega
        simp [h, this]
    rw [hp, hc]
    simp only [Bool.not_false, Bool.true_and]
    rw [Bool.and_comm]
  · have hbad : (intsR l 5 (intsR l 5 y1.2).2).2.2 = true := by simpa using hc
    rw [hbad]
    simp only [Bool.not_true, Bool.false_and, Bool.false_eq_true, if_false]
    have : (listR l 5 (listR l 5 y1.2).2).2.2 = true := by
      cases hs : (listR l 5 (listR l 5 y1.2).2).2.2 with
      | true => rfl
      | false =>
        exfalso
        have h1 := listR_good (by decide) f2 hs
        have h2 : (listR l 5 y1.2).2.2 = false := by
          cases h3 : (listR l 5 y1.2).2.2 with
          | false => rfl
          | true => rw [listR_bad l 5 (by decide) _ h3] at hs; cases hs
        have h3 := listR_good (by decide) e1 h2
        rw [← h3] at h1 hs
        rw [← h1, hbad] at hs; cases hs
    rw [this]
    simp
theorem gob_len (l : List UInt8) : (gobI l).1.2.1.length ≤ 5 ∧ (gobI l).1.2.2.1.length ≤ 5 := by
  unfold gobI
  simp only
  split
  · rename_i h
    simp only [Bool.and_eq_true] at h
    exact objB_len h.2
  · simp [obj0]
end Q6

namespace Q6
open Go Go.Vm Go.Proofs
set_option maxHeartbeats 4000000
set_option synthInstance.maxSize 2000
set_option synthInstance.maxHeartbeats 400000
set_option maxRecDepth 10000
set_option linter.unusedSimpArgs false
set_option linter.unusedVariables false


def rng (a b c : Int) : Bool := decide (a ≥ b) && decide (a ≤ c)
def noSlotB (s : SlotT) : Bool := !s.1 && noObjB s.2.1
/-- one of a RecCheck's transactions, with the one ahead of it -/
def liveB (lsn : Int) (p : Option LiveT) (x : LiveT) : Bool := (rng x.1 1 1000 && rng x.2.1 1 (lsn - 1)) && (match p with | none => true | some q => decide (q.1 < x.1))
def livesL (lsn : Int) : Option LiveT → List LiveT → Bool
  | _, [] => true
  | p, x :: l => liveB lsn p x && livesL lsn (some x) l
def livesB (l : List LiveT) (lsn : Int) : Bool := livesL lsn none l && decide (l.length ≤ 20)
def recB (r : RecT) : Bool :=
  rng r.1 1 1000000 &&
  (if r.2.2.2.1 = 6 then ((((decide (r.2.1 = 0) && decide (r.2.2.1 = 0)) && (decide (r.2.2.2.2.1 = 0) && noSlotB r.2.2.2.2.2.1 && noSlotB r.2.2.2.2.2.2.1)) && decide (r.2.2.2.2.2.2.2.1 = 0)) && livesB r.2.2.2.2.2.2.2.2.1 r.1)
   else (rng r.2.1 1 1000 && rng r.2.2.1 0 (r.1 - 1) && decide (r.2.2.2.2.2.2.2.2.1.length = 0)) &&
    (if r.2.2.2.1 = 1 then rng r.2.2.2.2.1 1 31 && slotB r.2.2.2.2.2.1 && slotB r.2.2.2.2.2.2.1 && decide (r.2.2.2.2.2.2.2.1 = 0)
     else if r.2.2.2.1 = 4 then rng r.2.2.2.2.1 1 31 && noSlotB r.2.2.2.2.2.1 && slotB r.2.2.2.2.2.2.1 && rng r.2.2.2.2.2.2.2.1 0 (r.1 - 1)
     else if r.2.2.2.1 = 2 ∨ r.2.2.2.1 = 3 ∨ r.2.2.2.1 = 5 then (decide (r.2.2.2.2.1 = 0) && noSlotB r.2.2.2.2.2.1 && noSlotB r.2.2.2.2.2.2.1) && decide (r.2.2.2.2.2.2.2.1 = 0)
     else false))

theorem inR_ok (a b c : Int) : CallR Try.prog 79 [.int .i64 a, .int .i64 b, .int .i64 c] [] (.bool (rng a b c)) := in_ok a b c
theorem l1InR_ok (a b c : Int) : CallR Try.prog 75 [.int .i64 a, .int .i64 b, .int .i64 c] [] (.bool (rng a b c)) := l1In_ok a b c
theorem isTx_ok (a : Int) : CallR Try.prog 82 [.int .i64 a] [] (.bool (rng a 1 1000)) := by
  refine CallR.of_body (n := 5) (rs := [.tmp 2]) hY.ok Try.func82 rfl (by decide) rfl rfl rfl rfl (fun F => ?_)
  have fx := And.intro Y3 (Y4)
  have hG1 := fun u1 u2 u3 => in_ok u1 u2 u3
  have fy := Nat.add_zero
  refine goK ?_ ?_ ?_ ?_ ?_ ?_ ?_ ?_ ?_ ?_ ?_ ?_ ?_ ?_ ?_ ?_
  any_goals (first | exact True.intro | skip)
  all_goals (repeat (refine Wh.mk fun hcc => ?_))
  all_goals (first | rfl | ((try simp only [tupOf, fixEs]); (first | done | rfl | (simp_all []; done) | grind [])))
theorem spec_l2SameInts_ok (l m : List Int) (hl : Enc.lim 1048576 l) : CallR Try.prog 152 [.sl .b (l.map Enc.b), .sl .b (m.map Enc.b)] [] (.bool (decide (l = m))) := by
  refine CallR.of_body (n := 26) (rs := [.tmp 4]) hY.ok Try.func152 rfl (by decide) rfl rfl rfl rfl (fun F => ?_)
  have fx := And.intro Y3 (And.intro Y4 (Y34))
  have hl1 : l.length ≤ 1048576 := hl.1
  have fy := Nat.add_zero
  refine goS ?_
  refine SW.cond rfl (fun hc => ?_) (fun hc => ?_)
  · have hne : ¬ l = m := by intro e; subst e; simp at hc
    have fy := Nat.add_zero
    refine goK ?_ ?_ ?_ ?_ ?_ ?_ ?_ ?_ ?_ ?_ ?_ ?_ ?_ ?_ ?_ ?_
    any_goals (first | exact True.intro | skip)
    all_goals (repeat (refine Wh.mk fun hcc => ?_))
    simp [tupOf, fixEs, hne]
  have hlen : l.length = m.length := by have : (l.length : Int) = m.length := by simpa using hc
                                        omega
  refine SW.skip ?_
  simp only [thenS]
  have fy := Nat.add_zero
  refine goN ?_ ?_ ?_ ?_ ?_ ?_ ?_ ?_ ?_ ?_ ?_ ?_ ?_ ?_ ?_ ?_
  any_goals (first | exact True.intro | skip)
  skip
  refine SW.loop (fun i : Nat => ⟨[.sl .b (l.map Enc.b), .sl .b (m.map Enc.b), .undef, .undef, .undef, .int .i64 i, .undef, .undef, .undef, .undef, .undef, .undef, .undef, .undef, .undef, .undef, .undef, .undef, .undef, .undef, .undef, .undef, .undef, .undef, .undef, .undef], [[]]⟩)
    (fun n i => n = l.length - i ∧ i ≤ l.length ∧ ∀ j (h : j < l.length), j < i → l[j] = m[j]'(by omega)) (n := l.length) (x := 0) (Norm.to 0 rfl (by simp [weakL])) ⟨rfl, Nat.zero_le _, fun j _ h => absurd h (Nat.not_lt_zero _)⟩ ?_
  rintro n i ⟨hn, hi, hp⟩
  have fy := Nat.add_zero
  refine goS ?_
  refine SW.cond rfl (fun hc => ?_) (fun hc => ?_)
  · have hlt : i < l.length := by simpa using hc
    have hlt' : i < m.length := by omega
    have hgl : (l.map Enc.b)[i]? = some (.int .i64 l[i]) := map_get Enc.b l i hlt
    have hgm : (m.map Enc.b)[i]? = some (.int .i64 m[i]) := map_get Enc.b m i hlt'
    have fy := And.intro hgl (hgm)
    refine goK ?_ ?_ ?_ ?_ ?_ ?_ ?_ ?_ ?_ ?_ ?_ ?_ ?_ ?_ ?_ ?_
    any_goals (first | exact True.intro | skip)
    all_goals (repeat (refine Wh.mk fun hcc => ?_))
    · have hx := hcc
      have hne : ¬ l[i] = m[i] := by intro e; simp [e] at hx
      have hlm : ¬ l = m := by intro e; subst e; exact hne rfl
      simp [tupOf, fixEs, hlm]
    · have hx := hcc
      have hx' : l[i] = m[i] := by first | (simpa using hx; done) | (apply UInt8.toNat_inj.1; simp at hx; omega)
      refine ⟨n - 1, i + 1, by omega, ⟨by omega, by omega, fun j hj hji => ?_⟩, ?_⟩
      · by_cases he : j = i
        · subst he; exact hx'
        · exact hp j hj (by omega)
      · rw [wrap64 _ (by omega) (by omega)]
        first | exact Norm.to 0 rfl (by simp [weakL]) | exact Norm.to 1 rfl (by simp [weakL])
  · have hge : i = l.length := by
      have : ¬ i < l.length := by simpa using hc
      omega
    have hlm : l = m := List.ext_getElem hlen fun j h1 h2 => hp j h1 (by omega)
    have fy := Nat.add_zero
    refine goK ?_ ?_ ?_ ?_ ?_ ?_ ?_ ?_ ?_ ?_ ?_ ?_ ?_ ?_ ?_ ?_
    any_goals (first | exact True.intro | skip)
    all_goals (repeat (refine Wh.mk fun hcc => ?_))
    simp [tupOf, fixEs, hlm]
theorem sSameObj_ok (x y : ObjT) (hx : Enc.lim 1048576 x) : CallR Try.prog 100 [.nd [.int .i64 x.1, .sl .b (x.2.1.map Enc.b), .sl .b (x.2.2.1.map Enc.b)], .nd [.int .i64 y.1, .sl .b (y.2.1.map Enc.b), .sl .b (y.2.2.1.map Enc.b)]] [] (.bool (decide (x = y))) := by
  refine CallR.of_body (n := 24) (rs := [.tmp 4]) hY.ok Try.func100 rfl (by decide) rfl rfl rfl rfl (fun F => ?_)
  have fx := And.intro Y1 (And.intro Y2 (And.intro Y3 (And.intro Y4 (And.intro Y34 (Y36)))))
  have hC1 := cx [] (spec_l2SameInts_ok x.2.1 y.2.1 hx.2.1)
  have hC2 := cx [] (spec_l2SameInts_ok x.2.2.1 y.2.2.1 hx.2.2.1)
  have fy := Nat.add_zero
  refine goK ?_ ?_ ?_ ?_ ?_ ?_ ?_ ?_ ?_ ?_ ?_ ?_ ?_ ?_ ?_ ?_
  any_goals (first | exact True.intro | skip)
  all_goals (repeat (refine Wh.mk fun hcc => ?_))
  all_goals (obtain ⟨a, b, c, ⟨⟩⟩ := x; obtain ⟨a', b', c', ⟨⟩⟩ := y; (try simp only [tupOf, fixEs]); by_cases h1 : a = a' <;> by_cases h2 : b = b' <;> by_cases h3 : c = c' <;> simp_all)
theorem sSameSlot_ok (x y : SlotT) (hx : Enc.lim 1048576 x) : CallR Try.prog 139 [.nd [.bool x.1, .nd [.int .i64 x.2.1.1, .sl .b (x.2.1.2.1.map Enc.b), .sl .b (x.2.1.2.2.1.map Enc.b)]], .nd [.bool y.1, .nd [.int .i64 y.2.1.1, .sl .b (y.2.1.2.1.map Enc.b), .sl .b (y.2.1.2.2.1.map Enc.b)]]] [] (.bool (decide (x = y))) := by
  refine CallR.of_body (n := 17) (rs := [.tmp 4]) hY.ok Try.func139 rfl (by decide) rfl rfl rfl rfl (fun F => ?_)
  have fx := And.intro Y1 (And.intro Y3 (And.intro Y4 (And.intro Y34 (And.intro Y36 (Y38)))))
  have hC1 := cx [] (sSameObj_ok x.2.1 y.2.1 hx.2.1)
  have fy := Nat.add_zero
  refine goK ?_ ?_ ?_ ?_ ?_ ?_ ?_ ?_ ?_ ?_ ?_ ?_ ?_ ?_ ?_ ?_
  any_goals (first | exact True.intro | skip)
  all_goals (repeat (refine Wh.mk fun hcc => ?_))
  all_goals (obtain ⟨a, b, ⟨⟩⟩ := x; obtain ⟨a', b', ⟨⟩⟩ := y; (try simp only [tupOf, fixEs]); by_cases h1 : a = a' <;> by_cases h2 : b = b' <;> simp_all)
end Q6

namespace Q6
open Go Go.Vm Go.Proofs
set_option maxHeartbeats 4000000
set_option synthInstance.maxSize 2000
set_option synthInstance.maxHeartbeats 400000
set_option maxRecDepth 10000
set_option linter.unusedSimpArgs false
set_option linter.unusedVariables false

open Go.By

theorem slice_sub {α : Type} [Enc α] {t e by' : Nat} {k : Ty} (g : Tag) (l : List α) (a b : Nat) (h1 : Y t = ⟨.sl e, 1, 24⟩) (h2 : Y e = ⟨k, Enc.es α, by'⟩) (hab : a ≤ b) (hb : b ≤ l.length) :
    sliceM Y t (.sl g (l.map Enc.b)) (some (.int .i64 (a : Nat))) (some (.int .i64 (b : Nat))) none = .pure { v := .sl g (((l.drop a).take (b - a)).map Enc.b) } := by
  have hs := takeB l 1
  simp only [sliceM, h1, h2, loF, hiF]
  rw [if_pos ⟨Int.natCast_nonneg a, by omega, by rw [List.length_map]; omega, hs⟩]
  simp [List.map_take, List.map_drop]
def slot0' : SlotT := (false, (0, [], [], ()), ())
def slotI (l : List UInt8) (s : RS) : SlotT × RS :=
  let a := manyR l l.length s
  if (a.2.2 || decide (a.1 = 0)) = true then (slot0', a.2) else if a.1 > (l.length : Int) - (a.2.1 : Nat) then (slot0', a.2.1, true)
  else let g := gobI ((l.drop a.2.1).take a.1.toNat)
    if g.2 = true then ((true, g.1, ()), a.2.1 + a.1.toNat, false) else (slot0', a.2.1, true)
def slotS (l : List UInt8) (s : RS) : SlotT × RS :=
  let a := oneR l s
  if (a.2.2 || decide (a.1 = 0)) = true then (slot0', a.2) else if (decide (a.1 < 0) || decide (a.1 > (l.length : Int) - (a.2.1 : Nat))) = true then (slot0', a.2.1, true)
  else let g := gobS ((l.drop a.2.1).take a.1.toNat)
    ((true, g.1, ()), a.2.1 + a.1.toNat, !g.2)

theorem implSlot_ok (k : Nat) (l : List UInt8) (s : RS) (hl : l.length ≤ 1048576) (ha : s.1 ≤ l.length) : CallR Try.prog 86 [.io (.nd [.sl (gOf k) (l.map Enc.b), .int .i64 (s.1 : Nat), .bool s.2])] [.nd [.sl (gOf k) (l.map Enc.b), .int .i64 ((slotI l s).2.1 : Nat), .bool (slotI l s).2.2]] (.nd [.bool (slotI l s).1.1, .nd [.int .i64 (slotI l s).1.2.1.1, .ow 1 ((slotI l s).1.2.1.2.1.map Enc.o), .ow 1 ((slotI l s).1.2.1.2.2.1.map Enc.o)]]) := by
  refine CallR.of_body (n := 73) (rs := [.cell 2 38]) hY.ok Try.func86 rfl (by decide) rfl rfl rfl rfl (fun F => ?_)
  have fx := And.intro Y1 (And.intro Y2 (And.intro Y3 (And.intro Y4 (And.intro Y5 (And.intro Y24 (And.intro Y34 (And.intro Y36 (And.intro Y38 (And.intro Y97 (Y99))))))))))
  have hM := many_ok (upk k) l s l.length hl ha
  have hMl := manyR_le l l.length s ha
  have hMr := manyR_rng l l.length (Int.natCast_nonneg _) s
  have hF : slotI l s = slotI l s := rfl
  conv at hF => rhs; unfold slotI
  simp only at hF
  generalize manyR l l.length s = a at *
  obtain ⟨n, at', bad⟩ := a
  simp only at hM hMl hF hMr
  have hn0 : (n == 0) = decide (n = 0) := rfl
  have hwl : IntKind.i64.wrap ((l.length : Int) - (at' : Nat)) = (l.length : Int) - (at' : Nat) := wrap64 _ (by omega) (by omega)
  by_cases h1 : (bad || decide (n = 0)) = true
  · rw [if_pos h1] at hF
    rw [hF]
    have hC1 := cx [.io] (hM)
    have fy := And.intro hn0 (And.intro h1 (hwl))
    refine goR ?_ ?_ ?_ ?_ ?_ ?_ ?_ ?_ ?_ ?_ ?_ ?_ ?_ ?_ ?_ ?_
    any_goals (first | exact True.intro | skip)
    all_goals (repeat (refine Wh.mk fun hcc => ?_))
    all_goals exact SW.ret (show RetQ _ _ _ _ _ _ _ from RetQ.y [0] [.nd [.bool false, .nd [.int .i64 0, .ow 1 (([] : List Int).map Enc.o), .ow 1 (([] : List Int).map Enc.o)]]])
  · rw [if_neg h1] at hF
    have h1f : (bad || decide (n = 0)) = false := by simpa using h1
    by_cases h2 : n > (l.length : Int) - (at' : Nat)
    · rw [if_pos h2] at hF
      rw [hF]
      have h2d : decide (n > (l.length : Int) - (at' : Nat)) = true := decide_eq_true h2
      have hC1 := cx [.io] (hM)
      have fy := And.intro hn0 (And.intro h1f (And.intro h2d (hwl)))
      refine goR ?_ ?_ ?_ ?_ ?_ ?_ ?_ ?_ ?_ ?_ ?_ ?_ ?_ ?_ ?_ ?_
      any_goals (first | exact True.intro | skip)
      all_goals (repeat (refine Wh.mk fun hcc => ?_))
      all_goals exact SW.ret (show RetQ _ _ _ _ _ _ _ from RetQ.y [0] [.nd [.bool false, .nd [.int .i64 0, .ow 1 (([] : List Int).map Enc.o), .ow 1 (([] : List Int).map Enc.o)]]])
    · rw [if_neg h2] at hF
      have h2d : decide (n > (l.length : Int) - (at' : Nat)) = false := decide_eq_false h2
      obtain ⟨N, hN⟩ : ∃ N : Nat, n = (N : Int) := ⟨n.toNat, by omega⟩
      subst hN
      rw [Int.toNat_natCast] at hF
      have hbf : bad = false := by cases bad <;> simp at h1 ⊢
      subst hbf
      have hNz : decide ((N : Int) = 0) = false := by simpa using h1f
      have hsl := slice_sub (gOf k) l at' (at' + N) Y24 Y5 (by omega) (by omega)
      rw [Nat.add_sub_cancel_left] at hsl
      have hwa : IntKind.i64.wrap ((at' : Int) + (N : Int)) = ((at' + N : Nat) : Int) := by rw [wrap64 _ (by omega) (by omega)]; omega
      have hG := gobI_ok ((l.drop at').take N) (by rw [List.length_take, List.length_drop]; omega)
      generalize gobI ((l.drop at').take N) = g at *
      obtain ⟨⟨g1, g2, g3, ⟨⟩⟩, gok⟩ := g
      simp only at hG hF
      cases gok
      · simp only [Bool.false_eq_true, if_false, if_true, Bool.not_false, Bool.not_true] at hF
        rw [hF]
        have hC1 := cx [.io] (hM)
        have hC2 := cx [] (hG)
        have fy := And.intro hn0 (And.intro hNz (And.intro h2d (And.intro hwl (And.intro hsl (hwa)))))
        refine goR ?_ ?_ ?_ ?_ ?_ ?_ ?_ ?_ ?_ ?_ ?_ ?_ ?_ ?_ ?_ ?_
        any_goals (first | exact True.intro | skip)
        all_goals (repeat (refine Wh.mk fun hcc => ?_))
        all_goals exact SW.ret (show RetQ _ _ _ _ _ _ _ from RetQ.y [0] [.nd [.bool false, .nd [.int .i64 0, .ow 1 (([] : List Int).map Enc.o), .ow 1 (([] : List Int).map Enc.o)]]])
      · simp only [Bool.false_eq_true, if_false, if_true, Bool.not_false, Bool.not_true] at hF
        rw [hF]
        have hC1 := cx [.io] (hM)
        have hC2 := cx [] (hG)
        have fy := And.intro hn0 (And.intro hNz (And.intro h2d (And.intro hwl (And.intro hsl (hwa)))))
        refine goR ?_ ?_ ?_ ?_ ?_ ?_ ?_ ?_ ?_ ?_ ?_ ?_ ?_ ?_ ?_ ?_
        any_goals (first | exact True.intro | skip)
        all_goals (repeat (refine Wh.mk fun hcc => ?_))
        all_goals exact SW.ret (show RetQ _ _ _ _ _ _ _ from RetQ.y [0] [.nd [.bool true, .nd [.int .i64 g1, .ow 1 (g2.map Enc.o), .ow 1 (g3.map Enc.o)]]])
theorem specSlot_ok (k : Nat) (l : List UInt8) (s : RS) (hl : l.length ≤ 1048576) (ha : s.1 ≤ l.length) : CallR Try.prog 105 [.io (.nd [.sl (gOf k) (l.map Enc.b), .int .i64 (s.1 : Nat), .bool s.2])] [.nd [.sl (gOf k) (l.map Enc.b), .int .i64 ((slotS l s).2.1 : Nat), .bool (slotS l s).2.2]] (.nd [.bool (slotS l s).1.1, .nd [.int .i64 (slotS l s).1.2.1.1, .ow 1 ((slotS l s).1.2.1.2.1.map Enc.o), .ow 1 ((slotS l s).1.2.1.2.2.1.map Enc.o)]]) := by
  refine CallR.of_body (n := 72) (rs := [.cell 2 38]) hY.ok Try.func105 rfl (by decide) rfl rfl rfl rfl (fun F => ?_)
  have fx := And.intro Y1 (And.intro Y2 (And.intro Y3 (And.intro Y4 (And.intro Y5 (And.intro Y24 (And.intro Y34 (And.intro Y36 (And.intro Y38 (And.intro Y115 (Y117))))))))))
  have hM := next_ok (upk k) l s hl ha
  have hMl := oneR_le l s ha
  have hF : slotS l s = slotS l s := rfl
  conv at hF => rhs; unfold slotS
  simp only at hF
  generalize oneR l s = a at *
  obtain ⟨n, at', bad⟩ := a
  simp only at hM hMl hF
  have hn0 : (n == 0) = decide (n = 0) := rfl
  have hwl : IntKind.i64.wrap ((l.length : Int) - (at' : Nat)) = (l.length : Int) - (at' : Nat) := wrap64 _ (by omega) (by omega)
  by_cases h1 : (bad || decide (n = 0)) = true
  · rw [if_pos h1] at hF
    rw [hF]
    have hC1 := cx [.io] (hM)
    have fy := And.intro hn0 (And.intro h1 (hwl))
    refine goR ?_ ?_ ?_ ?_ ?_ ?_ ?_ ?_ ?_ ?_ ?_ ?_ ?_ ?_ ?_ ?_
    any_goals (first | exact True.intro | skip)
    all_goals (repeat (refine Wh.mk fun hcc => ?_))
    all_goals exact SW.ret (show RetQ _ _ _ _ _ _ _ from RetQ.y [0] [.nd [.bool false, .nd [.int .i64 0, .ow 1 (([] : List Int).map Enc.o), .ow 1 (([] : List Int).map Enc.o)]]])
  · rw [if_neg h1] at hF
    have h1f : (bad || decide (n = 0)) = false := by simpa using h1
    by_cases h2 : (decide (n < 0) || decide (n > (l.length : Int) - (at' : Nat))) = true
    · rw [if_pos h2] at hF
      rw [hF]
      have h2d := h2
      have hC1 := cx [.io] (hM)
      have fy := And.intro hn0 (And.intro h1f (And.intro h2d (hwl)))
      refine goR ?_ ?_ ?_ ?_ ?_ ?_ ?_ ?_ ?_ ?_ ?_ ?_ ?_ ?_ ?_ ?_
      any_goals (first | exact True.intro | skip)
      all_goals (repeat (refine Wh.mk fun hcc => ?_))
      all_goals exact SW.ret (show RetQ _ _ _ _ _ _ _ from RetQ.y [0] [.nd [.bool false, .nd [.int .i64 0, .ow 1 (([] : List Int).map Enc.o), .ow 1 (([] : List Int).map Enc.o)]]])
    · rw [if_neg h2] at hF
      have h2d : (decide (n < 0) || decide (n > (l.length : Int) - (at' : Nat))) = false := by simpa using h2
      have h2' : ¬ n < 0 ∧ ¬ n > (l.length : Int) - (at' : Nat) := by simpa using h2
      obtain ⟨N, hN⟩ : ∃ N : Nat, n = (N : Int) := ⟨n.toNat, by omega⟩
      subst hN
      rw [Int.toNat_natCast] at hF
      have hbf : bad = false := by cases bad <;> simp at h1 ⊢
      subst hbf
      have hNz : decide ((N : Int) = 0) = false := by simpa using h1f
      have hsl := slice_sub (gOf k) l at' (at' + N) Y24 Y5 (by omega) (by omega)
      rw [Nat.add_sub_cancel_left] at hsl
      have hwa : IntKind.i64.wrap ((at' : Int) + (N : Int)) = ((at' + N : Nat) : Int) := by rw [wrap64 _ (by omega) (by omega)]; omega
      have hG := gobS_ok ((l.drop at').take N) (by rw [List.length_take, List.length_drop]; omega)
      generalize gobS ((l.drop at').take N) = g at *
      obtain ⟨⟨g1, g2, g3, ⟨⟩⟩, gok⟩ := g
      simp only at hG hF
      cases gok
      · simp only [Bool.false_eq_true, if_false, if_true, Bool.not_false, Bool.not_true] at hF
        rw [hF]
        have hC1 := cx [.io] (hM)
        have hC2 := cx [] (hG)
        have fy := And.intro hn0 (And.intro hNz (And.intro h2d (And.intro hwl (And.intro hsl (hwa)))))
        refine goR ?_ ?_ ?_ ?_ ?_ ?_ ?_ ?_ ?_ ?_ ?_ ?_ ?_ ?_ ?_ ?_
        any_goals (first | exact True.intro | skip)
        all_goals (repeat (refine Wh.mk fun hcc => ?_))
        all_goals exact SW.ret (show RetQ _ _ _ _ _ _ _ from RetQ.y [0] [.nd [.bool true, .nd [.int .i64 g1, .ow 1 (g2.map Enc.o), .ow 1 (g3.map Enc.o)]]])
      · simp only [Bool.false_eq_true, if_false, if_true, Bool.not_false, Bool.not_true] at hF
        rw [hF]
        have hC1 := cx [.io] (hM)
        have hC2 := cx [] (hG)
        have fy := And.intro hn0 (And.intro hNz (And.intro h2d (And.intro hwl (And.intro hsl (hwa)))))
        refine goR ?_ ?_ ?_ ?_ ?_ ?_ ?_ ?_ ?_ ?_ ?_ ?_ ?_ ?_ ?_ ?_
        any_goals (first | exact True.intro | skip)
        all_goals (repeat (refine Wh.mk fun hcc => ?_))
        all_goals exact SW.ret (show RetQ _ _ _ _ _ _ _ from RetQ.y [0] [.nd [.bool true, .nd [.int .i64 g1, .ow 1 (g2.map Enc.o), .ow 1 (g3.map Enc.o)]]])
theorem implSlot_b (l : List UInt8) (s : RS) (hl : l.length ≤ 1048576) (ha : s.1 ≤ l.length) : CallR Try.prog 86 [.io (.nd [.sl (.r 0) (l.map Enc.b), .int .i64 (s.1 : Nat), .bool s.2])] [.nd [.sl (.r 0) (l.map Enc.b), .int .i64 ((slotI l s).2.1 : Nat), .bool (slotI l s).2.2]] (.nd [.bool (slotI l s).1.1, .nd [.int .i64 (slotI l s).1.2.1.1, .ow 1 ((slotI l s).1.2.1.2.1.map Enc.o), .ow 1 ((slotI l s).1.2.1.2.2.1.map Enc.o)]]) := implSlot_ok 1 l s hl ha
theorem implSlot_s (l : List UInt8) (s : RS) (hl : l.length ≤ 1048576) (ha : s.1 ≤ l.length) : CallR Try.prog 86 [.io (.nd [.sl .s (l.map Enc.b), .int .i64 (s.1 : Nat), .bool s.2])] [.nd [.sl .s (l.map Enc.b), .int .i64 ((slotI l s).2.1 : Nat), .bool (slotI l s).2.2]] (.nd [.bool (slotI l s).1.1, .nd [.int .i64 (slotI l s).1.2.1.1, .ow 1 ((slotI l s).1.2.1.2.1.map Enc.o), .ow 1 ((slotI l s).1.2.1.2.2.1.map Enc.o)]]) := implSlot_ok 0 l s hl ha
theorem specSlot_b (l : List UInt8) (s : RS) (hl : l.length ≤ 1048576) (ha : s.1 ≤ l.length) : CallR Try.prog 105 [.io (.nd [.sl (.r 0) (l.map Enc.b), .int .i64 (s.1 : Nat), .bool s.2])] [.nd [.sl (.r 0) (l.map Enc.b), .int .i64 ((slotS l s).2.1 : Nat), .bool (slotS l s).2.2]] (.nd [.bool (slotS l s).1.1, .nd [.int .i64 (slotS l s).1.2.1.1, .ow 1 ((slotS l s).1.2.1.2.1.map Enc.o), .ow 1 ((slotS l s).1.2.1.2.2.1.map Enc.o)]]) := specSlot_ok 1 l s hl ha
theorem specSlot_s (l : List UInt8) (s : RS) (hl : l.length ≤ 1048576) (ha : s.1 ≤ l.length) : CallR Try.prog 105 [.io (.nd [.sl .s (l.map Enc.b), .int .i64 (s.1 : Nat), .bool s.2])] [.nd [.sl .s (l.map Enc.b), .int .i64 ((slotS l s).2.1 : Nat), .bool (slotS l s).2.2]] (.nd [.bool (slotS l s).1.1, .nd [.int .i64 (slotS l s).1.2.1.1, .ow 1 ((slotS l s).1.2.1.2.1.map Enc.o), .ow 1 ((slotS l s).1.2.1.2.2.1.map Enc.o)]]) := specSlot_ok 0 l s hl ha
end Q6

namespace Q6
open Go Go.Vm Go.Proofs
set_option maxHeartbeats 4000000
set_option synthInstance.maxSize 2000
set_option synthInstance.maxHeartbeats 400000
set_option maxRecDepth 10000
set_option linter.unusedSimpArgs false
set_option linter.unusedVariables false

open Go.By

/-! ### a frame -/
def bodyOf (l : List UInt8) (e n : Nat) : List UInt8 := (l.drop e).take n
def unfK (l : List UInt8) (a : Nat) (n : Int) (e : Nat) : List UInt8 × Nat × Int :=
  if (l.length : Int) - (e : Nat) < n + 4 then ([], a, 1)
  else if decide (four (crc (bodyOf l e n.toNat)) = (l.drop (e + n.toNat)).take 4) = true then (bodyOf l e n.toNat, e + n.toNat + 4, 0) else ([], a, 2)
def unfI (l : List UInt8) (a : Nat) : List UInt8 × Nat × Int :=
  if (grpR l a).2.2.2 = true then ([], a, 1)
  else if (!(getR l a).2.2 || decide ((getR l a).1 < 0)) = true then ([], a, 3)
  else unfK l a (getR l a).1 (getR l a).2.1
def unfS (l : List UInt8) (a : Nat) : List UInt8 × Nat × Int :=
  if (!(getR l a).2.2 && endsB l a) = true then ([], a, 1)
  else if (!(getR l a).2.2 || decide ((getR l a).1 < 0)) = true then ([], a, 3)
  else unfK l a (getR l a).1 (getR l a).2.1
theorem getR_okN (l : List UInt8) (a : Nat) : -1000000000000 ≤ (getR l a).1 ∧ (getR l a).1 ≤ 1000000000000 := by
  have : okN (getR l a).1 = true := by
    unfold getR
    split
    · split
      · assumption
      · rfl
    · rfl
  unfold okN M12 at this
  simp only [Bool.and_eq_true, decide_eq_true_eq] at this
  omega
theorem unfK_le (l : List UInt8) (a : Nat) (n : Int) (e : Nat) (ha : a ≤ l.length) (hn : 0 ≤ n) : (unfK l a n e).1.length ≤ l.length ∧ (unfK l a n e).2.1 ≤ l.length := by
  unfold unfK bodyOf
  split
  · exact ⟨Nat.zero_le _, ha⟩
  · split
    · simp only [List.length_take, List.length_drop]; omega
    · exact ⟨Nat.zero_le _, ha⟩
theorem unfI_le (l : List UInt8) (a : Nat) (ha : a ≤ l.length) : (unfI l a).1.length ≤ l.length ∧ (unfI l a).2.1 ≤ l.length := by
  unfold unfI
  split
  · exact ⟨Nat.zero_le _, ha⟩
  · split
    · exact ⟨Nat.zero_le _, ha⟩
    · rename_i h; exact unfK_le l a _ _ ha (by simp at h; omega)
theorem unfS_le (l : List UInt8) (a : Nat) (ha : a ≤ l.length) : (unfS l a).1.length ≤ l.length ∧ (unfS l a).2.1 ≤ l.length := by
  unfold unfS
  split
  · exact ⟨Nat.zero_le _, ha⟩
  · split
    · exact ⟨Nat.zero_le _, ha⟩
    · rename_i h; exact unfK_le l a _ _ ha (by simp at h; omega)
theorem grp_endsF : ∀ (l : List UInt8) (k n : Nat) (g : Bool), (grp l k n g).2.2.2 = true → (grp l k n g).2.2.1 = false
  | [], _, _, _, _ => rfl
  | v :: l, k, n, g, h => by
    unfold grp at h ⊢
    simp only at h ⊢
    split at h
    · rename_i hv; rw [if_pos hv]; exact grp_endsF l _ _ _ h
    · cases h

theorem unframeI_ok (l : List UInt8) (a : Nat) (hl : l.length ≤ 1048576) (ha : a ≤ l.length) : CallR Try.prog 97 [.sl .b (l.map Enc.b), .int .i64 (a : Nat)] [] (.tup [.ow 1 ((unfI l a).1.map Enc.o), .int .i64 ((unfI l a).2.1 : Nat), .int .i64 (unfI l a).2.2]) := by
  refine CallR.of_body (n := 78) (rs := [.tmp 4, .tmp 5, .tmp 6]) hY.ok Try.func97 rfl (by decide) rfl rfl rfl rfl (fun F => ?_)
  have fx := And.intro Y1 (And.intro Y2 (And.intro Y3 (And.intro Y4 (And.intro Y5 (Y24)))))
  have hIn := in_ok (a : Int) 0 (l.length : Int)
  rw [show (decide ((a : Int) ≥ 0) && decide ((a : Int) ≤ (l.length : Int))) = true by simp; omega] at hIn
  have hG := groups_ok l a hl ha
  have hN := GetInt_ok l a hl ha
  have hR := getR_okN l a
  have hle := getR_le l a ha
  unfold unfI
  generalize grpR l a = g at *
  generalize getR l a = r at *
  obtain ⟨g1, g2, g3, ge⟩ := g
  obtain ⟨n, e, ok⟩ := r
  simp only at hG hN hR hle ⊢
  cases ge
  rotate_left
  · skip
    have hC1 := cx [] (hIn)
    have hC2 := cx [] (hG)
    have fy := Nat.add_zero
    have hD1 := dx 12 [5, 6] [(9, 0)]
    refine goR ?_ ?_ ?_ ?_ ?_ ?_ ?_ ?_ ?_ ?_ ?_ ?_ ?_ ?_ ?_ ?_
    any_goals (first | exact True.intro | skip)
    all_goals (repeat (refine Wh.mk fun hcc => ?_))
    all_goals exact SW.ret (show RetQ _ _ _ _ _ _ _ from RetQ.y [0, 0, 0] [.ow 1 (([] : List UInt8).map Enc.o), .int .i64 (a : Nat), .int .i64 1])
  · simp only [Bool.false_eq_true, if_false]
    cases ok
    · simp only [Bool.not_false, Bool.true_or, if_true]
      have hC1 := cx [] (hIn)
      have hC2 := cx [] (hG)
      have hC3 := cx [] (hN)
      have fy := Nat.add_zero
      have hD1 := dx 12 [5, 6] [(9, 0)]
      refine goR ?_ ?_ ?_ ?_ ?_ ?_ ?_ ?_ ?_ ?_ ?_ ?_ ?_ ?_ ?_ ?_
      any_goals (first | exact True.intro | skip)
      all_goals (repeat (refine Wh.mk fun hcc => ?_))
      all_goals exact SW.ret (show RetQ _ _ _ _ _ _ _ from RetQ.y [0, 0, 0] [.ow 1 (([] : List UInt8).map Enc.o), .int .i64 (a : Nat), .int .i64 3])
    · simp only [Bool.not_true, Bool.false_or]
      by_cases h0 : n < 0
      · rw [if_pos (decide_eq_true h0)]
        have h0d : decide (n < 0) = true := decide_eq_true h0
        have hC1 := cx [] (hIn)
        have hC2 := cx [] (hG)
        have hC3 := cx [] (hN)
        have fy := h0d
        have hD1 := dx 12 [5, 6] [(9, 0)]
        refine goR ?_ ?_ ?_ ?_ ?_ ?_ ?_ ?_ ?_ ?_ ?_ ?_ ?_ ?_ ?_ ?_
        any_goals (first | exact True.intro | skip)
        all_goals (repeat (refine Wh.mk fun hcc => ?_))
        all_goals exact SW.ret (show RetQ _ _ _ _ _ _ _ from RetQ.y [0, 0, 0] [.ow 1 (([] : List UInt8).map Enc.o), .int .i64 (a : Nat), .int .i64 3])
      · rw [if_neg (by simpa using h0)]
        have h0d : decide (n < 0) = false := decide_eq_false h0
        unfold unfK
        have hwl : IntKind.i64.wrap ((l.length : Int) - (e : Nat)) = (l.length : Int) - (e : Nat) := wrap64 _ (by omega) (by omega)
        have hwn : IntKind.i64.wrap (n + 4) = n + 4 := wrap64 _ (by omega) (by omega)
        have hwm : IntKind.i64.wrap ((l.length : Int) - (e : Nat) - 4) = (l.length : Int) - (e : Nat) - 4 := wrap64 _ (by omega) (by omega)
        by_cases h1 : (l.length : Int) - (e : Nat) < n + 4
        · rw [if_pos h1]
          have h1d : decide ((l.length : Int) - (e : Nat) < n + 4) = true := decide_eq_true h1
          have hC1 := cx [] (hIn)
          have hC2 := cx [] (hG)
          have hC3 := cx [] (hN)
          have fy := And.intro h0d (And.intro hwl (And.intro hwn (h1d)))
          have hD1 := dx 12 [5, 6] [(9, 0)]
          refine goR ?_ ?_ ?_ ?_ ?_ ?_ ?_ ?_ ?_ ?_ ?_ ?_ ?_ ?_ ?_ ?_
          any_goals (first | exact True.intro | skip)
          all_goals (repeat (refine Wh.mk fun hcc => ?_))
          all_goals exact SW.ret (show RetQ _ _ _ _ _ _ _ from RetQ.y [0, 0, 0] [.ow 1 (([] : List UInt8).map Enc.o), .int .i64 (a : Nat), .int .i64 1])
        · rw [if_neg h1]
          have h1d : decide ((l.length : Int) - (e : Nat) < n + 4) = false := decide_eq_false h1
          obtain ⟨N, hN⟩ : ∃ N : Nat, n = (N : Int) := ⟨n.toNat, by omega⟩
          subst hN
          rw [Int.toNat_natCast]
          have hsl := slice_sub .b l e (e + N) Y24 Y5 (by omega) (by omega)
          rw [Nat.add_sub_cancel_left] at hsl
          have hsl2 := slice_sub .b l (e + N) (e + N + 4) Y24 Y5 (by omega) (by omega)
          rw [Nat.add_sub_cancel_left] at hsl2
          have hwa : IntKind.i64.wrap ((e : Int) + (N : Int)) = ((e + N : Nat) : Int) := by rw [wrap64 _ (by omega) (by omega)]; omega
          have hwb : IntKind.i64.wrap (((e + N : Nat) : Int) + 4) = ((e + N + 4 : Nat) : Int) := by rw [wrap64 _ (by omega) (by omega)]; omega
          have hbl : (bodyOf l e N).length ≤ 1048576 := by unfold bodyOf; rw [List.length_take, List.length_drop]; omega
          rw [show (l.drop e).take N = bodyOf l e N from rfl] at hsl
          have hS := sumBytes_ok (bodyOf l e N) hbl
          have hE := equalBytes_ok (four (crc (bodyOf l e N))) ((l.drop (e + N)).take 4) (by rw [four_len]; decide)
          have hC := cloneBytes_ok (bodyOf l e N) hbl
          generalize hF : four (crc (bodyOf l e N)) = FF at *
          have hFl : FF.length = 4 := by rw [← hF]; rfl
          generalize (l.drop (e + N)).take 4 = ZZ at *
          generalize decide (FF = ZZ) = d at *
          cases d
          · simp only [if_true, Bool.false_eq_true, if_false]
            have hC1 := cx [] (hIn)
            have hC2 := cx [] (hG)
            have hC3 := cx [] (hN)
            have hC4 := cx [] (hS)
            have hC5 := cx [] (hE)
            have fy := And.intro h0d (And.intro hwl (And.intro hwn (And.intro h1d (And.intro hwa (And.intro hwb (And.intro hsl (hsl2)))))))
            have hD1 := dx 12 [5, 6] [(9, 0)]
            refine goR ?_ ?_ ?_ ?_ ?_ ?_ ?_ ?_ ?_ ?_ ?_ ?_ ?_ ?_ ?_ ?_
            any_goals (first | exact True.intro | skip)
            all_goals (repeat (refine Wh.mk fun hcc => ?_))
            all_goals exact SW.ret (show RetQ _ _ _ _ _ _ _ from RetQ.y [0, 0, 0] [.ow 1 (([] : List UInt8).map Enc.o), .int .i64 (a : Nat), .int .i64 2])
          · simp only [if_true, Bool.false_eq_true, if_false]
            have hC1 := cx [] (hIn)
            have hC2 := cx [] (hG)
            have hC3 := cx [] (hN)
            have hC4 := cx [] (hS)
            have hC5 := cx [] (hE)
            have hC6 := cx [] (hC)
            have fy := And.intro h0d (And.intro hwl (And.intro hwn (And.intro h1d (And.intro hwa (And.intro hwb (And.intro hsl (hsl2)))))))
            have hD1 := dx 12 [5, 6] [(9, 0)]
            refine goR ?_ ?_ ?_ ?_ ?_ ?_ ?_ ?_ ?_ ?_ ?_ ?_ ?_ ?_ ?_ ?_
            any_goals (first | exact True.intro | skip)
            all_goals (repeat (refine Wh.mk fun hcc => ?_))
            all_goals exact SW.ret (show RetQ _ _ _ _ _ _ _ from RetQ.y [0, 0, 0] [.ow 1 ((bodyOf l e N).map Enc.o), .int .i64 (e + N + 4 : Nat), .int .i64 0])
theorem unframeS_ok (l : List UInt8) (a : Nat) (hl : l.length ≤ 1048576) (ha : a ≤ l.length) : CallR Try.prog 103 [.sl .b (l.map Enc.b), .int .i64 (a : Nat)] [] (.tup [.ow 1 ((unfS l a).1.map Enc.o), .int .i64 ((unfS l a).2.1 : Nat), .int .i64 (unfS l a).2.2]) := by
  refine CallR.of_body (n := 91) (rs := [.tmp 4, .tmp 5, .tmp 6]) hY.ok Try.func103 rfl (by decide) rfl rfl rfl rfl (fun F => ?_)
  have fx := And.intro Y1 (And.intro Y2 (And.intro Y3 (And.intro Y4 (And.intro Y5 (Y24)))))
  have hIn := l1In_ok (a : Int) 0 (l.length : Int)
  rw [show (decide ((a : Int) ≥ 0) && decide ((a : Int) ≤ (l.length : Int))) = true by simp; omega] at hIn
  have hG := ends_ok l a hl ha
  have hN := sGetInt_ok l a hl ha
  have hR := getR_okN l a
  have hle := getR_le l a ha
  unfold unfS
  generalize endsB l a = ge at *
  generalize getR l a = r at *
  obtain ⟨n, e, ok⟩ := r
  simp only at hG hN hR hle ⊢
  cases ok
  · cases ge
    · simp only [Bool.not_false, Bool.and_false, Bool.false_eq_true, if_false, Bool.true_or, if_true]
      have hC1 := cx [] (hIn)
      have hC2 := cx [] (hN)
      have hC3 := cx [] (hG)
      have fy := bs0_24
      refine goR ?_ ?_ ?_ ?_ ?_ ?_ ?_ ?_ ?_ ?_ ?_ ?_ ?_ ?_ ?_ ?_
      any_goals (first | exact True.intro | skip)
      all_goals (repeat (refine Wh.mk fun hcc => ?_))
      all_goals exact SW.ret (show RetQ _ _ _ _ _ _ _ from RetQ.y [0, 0, 0] [.ow 1 (([] : List UInt8).map Enc.o), .int .i64 (a : Nat), .int .i64 3])
    · simp only [Bool.not_false, Bool.and_self, if_true]
      have hC1 := cx [] (hIn)
      have hC2 := cx [] (hN)
      have hC3 := cx [] (hG)
      have fy := bs0_24
      refine goR ?_ ?_ ?_ ?_ ?_ ?_ ?_ ?_ ?_ ?_ ?_ ?_ ?_ ?_ ?_ ?_
      any_goals (first | exact True.intro | skip)
      all_goals (repeat (refine Wh.mk fun hcc => ?_))
      all_goals exact SW.ret (show RetQ _ _ _ _ _ _ _ from RetQ.y [0, 0, 0] [.ow 1 (([] : List UInt8).map Enc.o), .int .i64 (a : Nat), .int .i64 1])
  · simp only [Bool.not_true, Bool.false_and, Bool.false_eq_true, if_false, Bool.false_or]
    by_cases h0 : n < 0
    · rw [if_pos (decide_eq_true h0)]
      have h0d : decide (n < 0) = true := decide_eq_true h0
      have hC1 := cx [] (hIn)
      have hC2 := cx [] (hN)
      have fy := And.intro h0d (bs0_24)
      refine goR ?_ ?_ ?_ ?_ ?_ ?_ ?_ ?_ ?_ ?_ ?_ ?_ ?_ ?_ ?_ ?_
      any_goals (first | exact True.intro | skip)
      all_goals (repeat (refine Wh.mk fun hcc => ?_))
      all_goals exact SW.ret (show RetQ _ _ _ _ _ _ _ from RetQ.y [0, 0, 0] [.ow 1 (([] : List UInt8).map Enc.o), .int .i64 (a : Nat), .int .i64 3])
    · rw [if_neg (by simpa using h0)]
      have h0d : decide (n < 0) = false := decide_eq_false h0
      unfold unfK
      have hwl : IntKind.i64.wrap ((l.length : Int) - (e : Nat)) = (l.length : Int) - (e : Nat) := wrap64 _ (by omega) (by omega)
      have hwn : IntKind.i64.wrap (n + 4) = n + 4 := wrap64 _ (by omega) (by omega)
      have hwm : IntKind.i64.wrap ((l.length : Int) - (e : Nat) - 4) = (l.length : Int) - (e : Nat) - 4 := wrap64 _ (by omega) (by omega)
      by_cases h1 : (l.length : Int) - (e : Nat) < n + 4
      · rw [if_pos h1]
        have h1d : decide (n > (l.length : Int) - (e : Nat) - 4) = true := decide_eq_true (by omega)
        have hC1 := cx [] (hIn)
        have hC2 := cx [] (hN)
        have fy := And.intro h0d (And.intro hwl (And.intro hwm (And.intro h1d (bs0_24))))
        refine goR ?_ ?_ ?_ ?_ ?_ ?_ ?_ ?_ ?_ ?_ ?_ ?_ ?_ ?_ ?_ ?_
        any_goals (first | exact True.intro | skip)
        all_goals (repeat (refine Wh.mk fun hcc => ?_))
        all_goals exact SW.ret (show RetQ _ _ _ _ _ _ _ from RetQ.y [0, 0, 0] [.ow 1 (([] : List UInt8).map Enc.o), .int .i64 (a : Nat), .int .i64 1])
      · rw [if_neg h1]
        have h1d : decide (n > (l.length : Int) - (e : Nat) - 4) = false := decide_eq_false (by omega)
        obtain ⟨N, hN⟩ : ∃ N : Nat, n = (N : Int) := ⟨n.toNat, by omega⟩
        subst hN
        rw [Int.toNat_natCast]
        have hsl := slice_sub .b l e (e + N) Y24 Y5 (by omega) (by omega)
        rw [Nat.add_sub_cancel_left] at hsl
        have hsl2 := slice_sub .b l (e + N) (e + N + 4) Y24 Y5 (by omega) (by omega)
        rw [Nat.add_sub_cancel_left] at hsl2
        have hwa : IntKind.i64.wrap ((e : Int) + (N : Int)) = ((e + N : Nat) : Int) := by rw [wrap64 _ (by omega) (by omega)]; omega
        have hwb : IntKind.i64.wrap (((e + N : Nat) : Int) + 4) = ((e + N + 4 : Nat) : Int) := by rw [wrap64 _ (by omega) (by omega)]; omega
        have hbl : (bodyOf l e N).length ≤ 1048576 := by unfold bodyOf; rw [List.length_take, List.length_drop]; omega
        rw [show (l.drop e).take N = bodyOf l e N from rfl] at hsl
        have hS := specCrc_ok (bodyOf l e N) hbl
        have hF4 := l1Four_ok (crc (bodyOf l e N))
        generalize hF : four (crc (bodyOf l e N)) = FF at *
        have hFl : FF.length = 4 := by rw [← hF]; rfl
        have hbo : (bodyOf l e N).map (Enc.b : UInt8 → T) = (bodyOf l e N).map Enc.o := rfl
        have hap := fun (own e' j : Nat) (H : Heap) (q1 : H.at e' j = some (.arr 1 [] false)) => append_runB (Y := Y) (own := own) (t := 24) (u := 24) (e := e') (j := j) (off := 0) (n := 0) (g := .b) (l := []) (m := bodyOf l e N) (H := H) Y24 Y24 Y5 rfl (by decide) q1 rfl (by simp) (by omega) rfl rfl
        simp only [List.nil_append, Nat.zero_add] at hap
        generalize hBd : bodyOf l e N = Bd at *
        have hC1 := cx [] (hIn)
        have hC2 := cx [] (hN)
        have hC3 := cx [] (hS)
        have hC4 := cx [] (hF4)
        have fy := And.intro h0d (And.intro hwl (And.intro hwm (And.intro h1d (And.intro hwa (And.intro hwb (And.intro hsl (And.intro bs0_24 (hap))))))))
        refine goR ?_ ?_ ?_ ?_ ?_ ?_ ?_ ?_ ?_ ?_ ?_ ?_ ?_ ?_ ?_ ?_
        any_goals (first | exact True.intro | skip)
        all_goals (repeat (refine Wh.mk fun hcc => ?_))
        refine SW.loop (fun k : Nat => ⟨[.sl .b (l.map Enc.b), .int .i64 (a : Nat), .undef, .undef, .undef, .undef, .undef, .int .i64 (N : Nat), .int .i64 (e : Nat), .undef, .ref 1 0 0 Bd.length, .ref 2 0 0 FF.length, .int .i64 (k : Nat), .undef, .undef, .undef, .undef, .undef, .undef, .undef, .undef, .undef, .undef, .undef, .undef, .undef, .undef, .undef, .undef, .undef, .undef, .undef, .undef, .undef, .undef, .undef, .undef, .undef, .undef, .undef, .undef, .undef, .undef, .undef, .undef, .undef, .undef, .undef, .undef, .undef, .undef, .undef, .undef, .undef, .undef, .undef, .undef, .undef, .undef, .undef, .undef, .undef, .undef, .undef, .undef, .undef, .undef, .undef, .undef, .undef, .undef, .undef, .undef, .undef, .undef, .undef, .undef, .undef, .undef, .undef, .undef, .undef, .undef, .undef, .undef, .undef, .undef, .undef, .undef, .undef, .undef], [[], [.arr 1 (Bd.map Enc.o) false], [.arr 1 (FF.map Enc.o) false]]⟩)
          (fun M k => M = 4 - k ∧ k ≤ 4 ∧ decide (FF = (l.drop (e + N)).take 4) = decide (FF.drop k = (l.drop (e + N + k)).take (4 - k))) (n := 4) (x := 0) ?_ ⟨rfl, by decide, rfl⟩ ?_
        · exact Norm.re [0, 4, 6] (by decide) rfl (by first | (simp only [eq_self, heapFits, rowFits, obFits, List.getElem?_cons_zero, List.getElem?_cons_succ, renL_o, renL_b, true_and, and_true, and_self]; done) | simp [-List.map_append, heapFits, rowFits, obFits, T.ren, renL]) (by simp [tmFits, T.ren])
        rintro M k ⟨hM, hk, hD⟩
        have fy := Nat.add_zero
        refine goS ?_
        refine SW.cond rfl (fun hc => ?_) (fun hc => ?_)
        · have hlt : k < 4 := by simp at hc; omega
          have hwk : IntKind.i64.wrap ((k : Int) + 1) = ((k + 1 : Nat) : Int) := by rw [wrap64 _ (by omega) (by omega)]; omega
          have hwc : IntKind.i64.wrap (((e + N : Nat) : Int) + (k : Int)) = ((e + N + k : Nat) : Int) := by rw [wrap64 _ (by omega) (by omega)]; omega
          have hin : e + N + k < l.length := by omega
          have hkF : (k : Int) < (FF.length : Int) := by omega
          have hgl : (l.map Enc.b)[e + N + k]? = some (T.int .u8 (l[e + N + k].toNat : Int)) := map_get Enc.b l _ hin
          have hgf : (FF.map Enc.o)[k]? = some (T.int .u8 ((FF[k]'(by omega)).toNat : Int)) := map_get Enc.o FF k (by omega)
          rw [List.drop_eq_getElem_cons (show k < FF.length by omega), List.drop_eq_getElem_cons hin, show 4 - k = (4 - (k + 1)) + 1 by omega, List.take_succ_cons] at hD
          generalize hx : l[e + N + k] = x at *
          generalize hy : FF[k]'(by omega) = y at *
          have fy := And.intro hgl (And.intro hgf (And.intro hkF (And.intro hwk (And.intro hwa (And.intro hwc (bs0_24))))))
          refine goR ?_ ?_ ?_ ?_ ?_ ?_ ?_ ?_ ?_ ?_ ?_ ?_ ?_ ?_ ?_ ?_
          any_goals (first | exact True.intro | skip)
          all_goals (repeat (refine Wh.mk fun hcc => ?_))
          · have hne : ¬ y = x := by
              intro h; subst h; simp at hcc
            have hDf : decide (FF = List.take 4 (List.drop (e + N) l)) = false := by rw [hD]; simp [hne]
            simp only [hDf, Bool.false_eq_true, if_false]
            exact SW.ret (show RetQ _ _ _ _ _ _ _ from RetQ.y [0, 0, 0] [.ow 1 (([] : List UInt8).map Enc.o), .int .i64 (a : Nat), .int .i64 2])
          · have he : y = x := by apply UInt8.toNat_inj.1; simp at hcc; omega
            refine ⟨M - 1, k + 1, by omega, ⟨by omega, by omega, ?_⟩, Norm.to 0 rfl (by simp [weakL])⟩
            rw [hD, he]; simp [Nat.add_assoc]
        · have hk4 : k = 4 := by
            have : ¬ k < 4 := by simp at hc; omega
            omega
          subst hk4
          rw [show FF.drop 4 = [] from List.drop_eq_nil_of_le (by omega)] at hD
          simp only [Nat.sub_self, List.take_zero, decide_true] at hD
          rw [hD]
          simp only [if_true]
          have fy := And.intro hwa (hwb)
          refine goR ?_ ?_ ?_ ?_ ?_ ?_ ?_ ?_ ?_ ?_ ?_ ?_ ?_ ?_ ?_ ?_
          any_goals (first | exact True.intro | skip)
          all_goals (repeat (refine Wh.mk fun hcc => ?_))
          all_goals exact SW.ret (show RetQ _ _ _ _ _ _ _ from RetQ.y [0, 0, 0] [.ow 1 (Bd.map Enc.o), .int .i64 (e + N + 4 : Nat), .int .i64 0])
end Q6

namespace Q6
open Go Go.Vm Go.Proofs
set_option maxHeartbeats 4000000
set_option synthInstance.maxSize 2000
set_option synthInstance.maxHeartbeats 400000
set_option maxRecDepth 10000
set_option linter.unusedSimpArgs false
set_option linter.unusedVariables false


def pvL (l : List LiveT) (i : Nat) : Option LiveT := if i = 0 then none else l[i - 1]?
theorem pvL_zero (l : List LiveT) : pvL l 0 = none := rfl
theorem pvL_succ (l : List LiveT) (i : Nat) (h : i < l.length) : pvL l (i + 1) = some l[i] := by unfold pvL; rw [if_neg (by omega), Nat.add_sub_cancel, List.getElem?_eq_getElem h]
theorem pvL_pos (l : List LiveT) (i : Nat) (h : i < l.length) (h0 : ¬ i = 0) : pvL l i = some (l[i - 1]'(by omega)) := by unfold pvL; rw [if_neg h0, List.getElem?_eq_getElem (by omega)]


theorem live_get (l : List LiveT) (i : Nat) (h : i < l.length) : (l.map Enc.b)[i]? = some (.nd [.int .i64 l[i].1, .int .i64 l[i].2.1, .bool l[i].2.2.1]) := map_get Enc.b l i h

theorem livesOk_ok (l : List LiveT) (lsn : Int) (hl : l.length ≤ 1048576) (h1 : 1 ≤ lsn) (h2 : lsn ≤ 1000000) : CallR Try.prog 81 [.sl .b (l.map Enc.b), .int .i64 lsn] [] (.bool (livesB l lsn)) := by
  refine CallR.of_body (n := 45) (rs := [.tmp 4]) hY.ok Try.func81 rfl (by decide) rfl rfl rfl rfl (fun F => ?_)
  have fx := And.intro Y1 (And.intro Y3 (And.intro Y4 (And.intro Y39 (Y91))))
  have hwl : IntKind.i64.wrap (lsn - 1) = lsn - 1 := wrap64 _ (by omega) (by omega)
  have fy := Nat.add_zero
  refine goN ?_ ?_ ?_ ?_ ?_ ?_ ?_ ?_ ?_ ?_ ?_ ?_ ?_ ?_ ?_ ?_
  any_goals (first | exact True.intro | skip)
  skip
  refine SW.loop (fun i : Nat => ⟨[.sl .b (l.map Enc.b), .int .i64 lsn, .undef, .undef, .undef, .undef, .undef, .sl .b (l.map Enc.b), .int .i64 l.length, .int .i64 i, .undef, .undef, .undef, .undef, .undef, .undef, .undef, .undef, .undef, .undef, .undef, .undef, .undef, .undef, .undef, .undef, .undef, .undef, .undef, .undef, .undef, .undef, .undef, .undef, .undef, .undef, .undef, .undef, .undef, .undef, .undef, .undef, .undef, .undef, .undef], [[]]⟩)
    (fun n i => n = l.length - i ∧ i ≤ l.length ∧ livesL lsn (pvL l i) (l.drop i) = livesL lsn none l) (n := l.length) (x := 0) (Norm.re [0] (by decide) rfl (by first | (simp only [eq_self, heapFits, rowFits, obFits, List.getElem?_cons_zero, List.getElem?_cons_succ, renL_o, renL_b, true_and, and_true, and_self]; done) | simp [-List.map_append, heapFits, rowFits, obFits, T.ren, renL]) (by simp [tmFits, T.ren])) ⟨rfl, Nat.zero_le _, rfl⟩ ?_
  rintro n i ⟨hn, hi, hfd⟩
  have fy := Nat.add_zero
  refine goS ?_
  refine SW.cond rfl (fun hc => ?_) (fun hc => ?_)
  · have hlt : i < l.length := by simpa using hc
    have hg := live_get l i hlt
    have hltI : (i : Int) < (l.length : Int) := by omega
    rw [List.drop_eq_getElem_cons hlt, livesL] at hfd
    have hA := isTx_ok l[i].1
    have hB := inR_ok l[i].2.1 1 (lsn - 1)
    have hcon : ∀ b, liveB lsn (pvL l i) l[i] = b → (b = false → livesB l lsn = false) := fun b hb h => by subst h; rw [hb] at hfd; unfold livesB; rw [← hfd]; rfl
    have hgo : liveB lsn (pvL l i) l[i] = true → livesL lsn (pvL l (i + 1)) (l.drop (i + 1)) = livesL lsn none l := fun hb => by rw [hb, Bool.true_and] at hfd; rw [pvL_succ l i hlt]; exact hfd
    have hlb : liveB lsn (pvL l i) l[i] = ((rng l[i].1 1 1000 && rng l[i].2.1 1 (lsn - 1)) && (match pvL l i with | none => true | some q => decide (q.1 < l[i].1))) := rfl
    have hz : (i = 0 ∧ decide ((i : Int) > 0) = false ∧ (match pvL l i with | none => true | some q => decide (q.1 < l[i].1)) = true) ∨ (¬ i = 0 ∧ decide ((i : Int) > 0) = true) := by
      by_cases h : i = 0
      · subst h; exact .inl ⟨rfl, rfl, rfl⟩
      · exact .inr ⟨h, by simp; omega⟩
    cases hAv : rng l[i].1 1 1000
    · rw [hAv] at hA
      have hC1 := cx [] (hA)
      have hC2 := cx [] (hB)
      have fy := And.intro hg (And.intro hltI (hwl))
      refine goK ?_ ?_ ?_ ?_ ?_ ?_ ?_ ?_ ?_ ?_ ?_ ?_ ?_ ?_ ?_ ?_
      any_goals (first | exact True.intro | skip)
      all_goals (repeat (refine Wh.mk fun hcc => ?_))
      all_goals (simp only [tupOf, fixEs]; rw [hcon _ rfl (by rw [hlb]; simp_all)])
    · rw [hAv] at hA
      cases hBv : rng l[i].2.1 1 (lsn - 1)
      · rw [hBv] at hB
        have hC1 := cx [] (hA)
        have hC2 := cx [] (hB)
        have fy := And.intro hg (And.intro hltI (hwl))
        refine goK ?_ ?_ ?_ ?_ ?_ ?_ ?_ ?_ ?_ ?_ ?_ ?_ ?_ ?_ ?_ ?_
        any_goals (first | exact True.intro | skip)
        all_goals (repeat (refine Wh.mk fun hcc => ?_))
        all_goals (simp only [tupOf, fixEs]; rw [hcon _ rfl (by rw [hlb]; simp_all)])
      · rw [hBv] at hB
        rcases hz with ⟨hi0, hzd, hzm⟩ | ⟨hi0, hzd⟩
        · skip
          have hC1 := cx [] (hA)
          have hC2 := cx [] (hB)
          have fy := And.intro hg (And.intro hltI (And.intro hwl (hzd)))
          refine goK ?_ ?_ ?_ ?_ ?_ ?_ ?_ ?_ ?_ ?_ ?_ ?_ ?_ ?_ ?_ ?_
          any_goals (first | exact True.intro | skip)
          all_goals (repeat (refine Wh.mk fun hcc => ?_))
          all_goals (refine ⟨n - 1, i + 1, by omega, ⟨by omega, by omega, hgo (by rw [hlb]; simp_all)⟩, ?_⟩; rw [wrap64 _ (by omega) (by omega)]; exact Norm.re [0] (by decide) rfl (by first | (simp only [eq_self, heapFits, rowFits, obFits, List.getElem?_cons_zero, List.getElem?_cons_succ, renL_o, renL_b, true_and, and_true, and_self]; done) | simp [-List.map_append, heapFits, rowFits, obFits, T.ren, renL]) (by simp [tmFits, T.ren]))
        · have hgp : (l.map Enc.b)[i - 1]? = some (.nd [.int .i64 (((l[i - 1]'(by omega))).1), .int .i64 (((l[i - 1]'(by omega))).2.1), .bool (((l[i - 1]'(by omega))).2.2.1)]) := map_get Enc.b l (i - 1) (by omega)
          have hwi : IntKind.i64.wrap ((i : Int) - 1) = ((i - 1 : Nat) : Int) := by rw [wrap64 _ (by omega) (by omega)]; omega
          have hpI : ((i - 1 : Nat) : Int) < (l.length : Int) := by omega
          have hpm : (match pvL l i with | none => true | some q => decide (q.1 < l[i].1)) = decide ((l[i - 1]'(by omega)).1 < l[i].1) := by rw [pvL_pos l i hlt hi0]
          rw [hpm] at hlb
          by_cases hC : (l[i - 1]'(by omega)).1 < l[i].1
          · have hCd : decide ((l[i - 1]'(by omega)).1 ≥ l[i].1) = false := by simp; omega
            have hC1 := cx [] (hA)
            have hC2 := cx [] (hB)
            have fy := And.intro hg (And.intro hltI (And.intro hwl (And.intro hzd (And.intro hgp (And.intro hwi (And.intro hpI (hCd)))))))
            refine goK ?_ ?_ ?_ ?_ ?_ ?_ ?_ ?_ ?_ ?_ ?_ ?_ ?_ ?_ ?_ ?_
            any_goals (first | exact True.intro | skip)
            all_goals (repeat (refine Wh.mk fun hcc => ?_))
            all_goals (refine ⟨n - 1, i + 1, by omega, ⟨by omega, by omega, hgo (by rw [hlb]; simp_all)⟩, ?_⟩; rw [wrap64 _ (by omega) (by omega)]; exact Norm.re [0] (by decide) rfl (by first | (simp only [eq_self, heapFits, rowFits, obFits, List.getElem?_cons_zero, List.getElem?_cons_succ, renL_o, renL_b, true_and, and_true, and_self]; done) | simp [-List.map_append, heapFits, rowFits, obFits, T.ren, renL]) (by simp [tmFits, T.ren]))
          · have hCd : decide ((l[i - 1]'(by omega)).1 ≥ l[i].1) = true := by simp; omega
            have hC1 := cx [] (hA)
            have hC2 := cx [] (hB)
            have fy := And.intro hg (And.intro hltI (And.intro hwl (And.intro hzd (And.intro hgp (And.intro hwi (And.intro hpI (hCd)))))))
            refine goK ?_ ?_ ?_ ?_ ?_ ?_ ?_ ?_ ?_ ?_ ?_ ?_ ?_ ?_ ?_ ?_
            any_goals (first | exact True.intro | skip)
            all_goals (repeat (refine Wh.mk fun hcc => ?_))
            all_goals (simp only [tupOf, fixEs]; rw [hcon _ rfl (by rw [hlb]; simp_all)])
  · have hge : i = l.length := by
      have : ¬ i < l.length := by simpa using hc
      omega
    subst hge
    rw [List.drop_length] at hfd
    have hlv : livesB l lsn = decide ((l.length : Int) ≤ 20) := by
      unfold livesB; rw [← hfd]; simp only [livesL, Bool.true_and]; exact decide_eq_decide.2 (by omega)
    have fy := Nat.add_zero
    refine goK ?_ ?_ ?_ ?_ ?_ ?_ ?_ ?_ ?_ ?_ ?_ ?_ ?_ ?_ ?_ ?_
    any_goals (first | exact True.intro | skip)
    all_goals (repeat (refine Wh.mk fun hcc => ?_))
    all_goals simp only [tupOf, fixEs, hlv]
theorem l4Lives_ok (l : List LiveT) (lsn : Int) (a2 a3 a4 a5 a8 : Int) (s1 s2 : SlotT) (hl : l.length ≤ 1048576) (h1 : 1 ≤ lsn) (h2 : lsn ≤ 1000000) : CallR Try.prog 78 [.nd [.int .i64 lsn, .int .i64 a2, .int .i64 a3, .int .i64 a4, .int .i64 a5, .nd [.bool s1.1, .nd [.int .i64 s1.2.1.1, .sl .b (s1.2.1.2.1.map Enc.b), .sl .b (s1.2.1.2.2.1.map Enc.b)]], .nd [.bool s2.1, .nd [.int .i64 s2.2.1.1, .sl .b (s2.2.1.2.1.map Enc.b), .sl .b (s2.2.1.2.2.1.map Enc.b)]], .int .i64 a8, .sl .b (l.map Enc.b)]] [] (.bool (livesB l lsn)) := by
  refine CallR.of_body (n := 56) (rs := [.tmp 2]) hY.ok Try.func78 rfl (by decide) rfl rfl rfl rfl (fun F => ?_)
  have fx := And.intro Y1 (And.intro Y2 (And.intro Y3 (And.intro Y4 (And.intro Y6 (And.intro Y8 (And.intro Y34 (And.intro Y36 (And.intro Y38 (And.intro Y39 (And.intro Y41 (Y91)))))))))))
  have hwl : IntKind.i64.wrap (lsn - 1) = lsn - 1 := wrap64 _ (by omega) (by omega)
  have fy := Nat.add_zero
  refine goN ?_ ?_ ?_ ?_ ?_ ?_ ?_ ?_ ?_ ?_ ?_ ?_ ?_ ?_ ?_ ?_
  any_goals (first | exact True.intro | skip)
  skip
  refine SW.loop (fun i : Nat => ⟨[.undef, .ptr 1 0 [] 0, .undef, .int .i64 i, .undef, .undef, .undef, .undef, .undef, .undef, .undef, .undef, .undef, .undef, .undef, .undef, .undef, .undef, .undef, .undef, .undef, .undef, .undef, .undef, .undef, .undef, .undef, .undef, .undef, .undef, .undef, .undef, .undef, .undef, .undef, .undef, .undef, .undef, .undef, .undef, .undef, .undef, .undef, .undef, .undef, .undef, .undef, .undef, .undef, .undef, .undef, .undef, .undef, .undef, .undef, .undef], [[], [.var (.nd [.int .i64 lsn, .int .i64 a2, .int .i64 a3, .int .i64 a4, .int .i64 a5, .nd [.bool s1.1, .nd [.int .i64 s1.2.1.1, .sl .b (s1.2.1.2.1.map Enc.b), .sl .b (s1.2.1.2.2.1.map Enc.b)]], .nd [.bool s2.1, .nd [.int .i64 s2.2.1.1, .sl .b (s2.2.1.2.1.map Enc.b), .sl .b (s2.2.1.2.2.1.map Enc.b)]], .int .i64 a8, .sl .b (l.map Enc.b)])]]⟩)
    (fun n i => n = l.length - i ∧ i ≤ l.length ∧ livesL lsn (pvL l i) (l.drop i) = livesL lsn none l) (n := l.length) (x := 0) (Norm.re [0, 1] (by decide) rfl (by first | (simp only [eq_self, heapFits, rowFits, obFits, List.getElem?_cons_zero, List.getElem?_cons_succ, renL_o, renL_b, true_and, and_true, and_self]; done) | simp [-List.map_append, heapFits, rowFits, obFits, T.ren, renL]) (by simp [tmFits, T.ren])) ⟨rfl, Nat.zero_le _, rfl⟩ ?_
  rintro n i ⟨hn, hi, hfd⟩
  have fy := Nat.add_zero
  refine goS ?_
  refine SW.cond rfl (fun hc => ?_) (fun hc => ?_)
  · have hlt : i < l.length := by simpa using hc
    have hg := live_get l i hlt
    have hltI : (i : Int) < (l.length : Int) := by omega
    rw [List.drop_eq_getElem_cons hlt, livesL] at hfd
    have hA := l1InR_ok l[i].1 1 1000
    have hB := l1InR_ok l[i].2.1 1 (lsn - 1)
    have hcon : ∀ b, liveB lsn (pvL l i) l[i] = b → (b = false → livesB l lsn = false) := fun b hb h => by subst h; rw [hb] at hfd; unfold livesB; rw [← hfd]; rfl
    have hgo : liveB lsn (pvL l i) l[i] = true → livesL lsn (pvL l (i + 1)) (l.drop (i + 1)) = livesL lsn none l := fun hb => by rw [hb, Bool.true_and] at hfd; rw [pvL_succ l i hlt]; exact hfd
    have hlb : liveB lsn (pvL l i) l[i] = ((rng l[i].1 1 1000 && rng l[i].2.1 1 (lsn - 1)) && (match pvL l i with | none => true | some q => decide (q.1 < l[i].1))) := rfl
    have hz : (i = 0 ∧ decide ((i : Int) > 0) = false ∧ (match pvL l i with | none => true | some q => decide (q.1 < l[i].1)) = true) ∨ (¬ i = 0 ∧ decide ((i : Int) > 0) = true) := by
      by_cases h : i = 0
      · subst h; exact .inl ⟨rfl, rfl, rfl⟩
      · exact .inr ⟨h, by simp; omega⟩
    cases hAv : rng l[i].1 1 1000
    · rw [hAv] at hA
      have hC1 := cx [] (hA)
      have hC2 := cx [] (hB)
      have fy := And.intro hg (And.intro hltI (hwl))
      refine goK ?_ ?_ ?_ ?_ ?_ ?_ ?_ ?_ ?_ ?_ ?_ ?_ ?_ ?_ ?_ ?_
      any_goals (first | exact True.intro | skip)
      all_goals (repeat (refine Wh.mk fun hcc => ?_))
      all_goals (simp only [tupOf, fixEs]; rw [hcon _ rfl (by rw [hlb]; simp_all)])
    · rw [hAv] at hA
      cases hBv : rng l[i].2.1 1 (lsn - 1)
      · rw [hBv] at hB
        have hC1 := cx [] (hA)
        have hC2 := cx [] (hB)
        have fy := And.intro hg (And.intro hltI (hwl))
        refine goK ?_ ?_ ?_ ?_ ?_ ?_ ?_ ?_ ?_ ?_ ?_ ?_ ?_ ?_ ?_ ?_
        any_goals (first | exact True.intro | skip)
        all_goals (repeat (refine Wh.mk fun hcc => ?_))
        all_goals (simp only [tupOf, fixEs]; rw [hcon _ rfl (by rw [hlb]; simp_all)])
      · rw [hBv] at hB
        rcases hz with ⟨hi0, hzd, hzm⟩ | ⟨hi0, hzd⟩
        · skip
          have hC1 := cx [] (hA)
          have hC2 := cx [] (hB)
          have fy := And.intro hg (And.intro hltI (And.intro hwl (hzd)))
          refine goK ?_ ?_ ?_ ?_ ?_ ?_ ?_ ?_ ?_ ?_ ?_ ?_ ?_ ?_ ?_ ?_
          any_goals (first | exact True.intro | skip)
          all_goals (repeat (refine Wh.mk fun hcc => ?_))
          all_goals (refine ⟨n - 1, i + 1, by omega, ⟨by omega, by omega, hgo (by rw [hlb]; simp_all)⟩, ?_⟩; rw [wrap64 _ (by omega) (by omega)]; exact Norm.re [0, 1] (by decide) rfl (by first | (simp only [eq_self, heapFits, rowFits, obFits, List.getElem?_cons_zero, List.getElem?_cons_succ, renL_o, renL_b, true_and, and_true, and_self]; done) | simp [-List.map_append, heapFits, rowFits, obFits, T.ren, renL]) (by simp [tmFits, T.ren]))
        · have hgp : (l.map Enc.b)[i - 1]? = some (.nd [.int .i64 (((l[i - 1]'(by omega))).1), .int .i64 (((l[i - 1]'(by omega))).2.1), .bool (((l[i - 1]'(by omega))).2.2.1)]) := map_get Enc.b l (i - 1) (by omega)
          have hwi : IntKind.i64.wrap ((i : Int) - 1) = ((i - 1 : Nat) : Int) := by rw [wrap64 _ (by omega) (by omega)]; omega
          have hpI : ((i - 1 : Nat) : Int) < (l.length : Int) := by omega
          have hpm : (match pvL l i with | none => true | some q => decide (q.1 < l[i].1)) = decide ((l[i - 1]'(by omega)).1 < l[i].1) := by rw [pvL_pos l i hlt hi0]
          rw [hpm] at hlb
          by_cases hC : (l[i - 1]'(by omega)).1 < l[i].1
          · have hCd : decide ((l[i - 1]'(by omega)).1 ≥ l[i].1) = false := by simp; omega
            have hC1 := cx [] (hA)
            have hC2 := cx [] (hB)
            have fy := And.intro hg (And.intro hltI (And.intro hwl (And.intro hzd (And.intro hgp (And.intro hwi (And.intro hpI (hCd)))))))
            refine goK ?_ ?_ ?_ ?_ ?_ ?_ ?_ ?_ ?_ ?_ ?_ ?_ ?_ ?_ ?_ ?_
            any_goals (first | exact True.intro | skip)
            all_goals (repeat (refine Wh.mk fun hcc => ?_))
            all_goals (refine ⟨n - 1, i + 1, by omega, ⟨by omega, by omega, hgo (by rw [hlb]; simp_all)⟩, ?_⟩; rw [wrap64 _ (by omega) (by omega)]; exact Norm.re [0, 1] (by decide) rfl (by first | (simp only [eq_self, heapFits, rowFits, obFits, List.getElem?_cons_zero, List.getElem?_cons_succ, renL_o, renL_b, true_and, and_true, and_self]; done) | simp [-List.map_append, heapFits, rowFits, obFits, T.ren, renL]) (by simp [tmFits, T.ren]))
          · have hCd : decide ((l[i - 1]'(by omega)).1 ≥ l[i].1) = true := by simp; omega
            have hC1 := cx [] (hA)
            have hC2 := cx [] (hB)
            have fy := And.intro hg (And.intro hltI (And.intro hwl (And.intro hzd (And.intro hgp (And.intro hwi (And.intro hpI (hCd)))))))
            refine goK ?_ ?_ ?_ ?_ ?_ ?_ ?_ ?_ ?_ ?_ ?_ ?_ ?_ ?_ ?_ ?_
            any_goals (first | exact True.intro | skip)
            all_goals (repeat (refine Wh.mk fun hcc => ?_))
            all_goals (simp only [tupOf, fixEs]; rw [hcon _ rfl (by rw [hlb]; simp_all)])
  · have hge : i = l.length := by
      have : ¬ i < l.length := by simpa using hc
      omega
    subst hge
    rw [List.drop_length] at hfd
    have hlv : livesB l lsn = decide ((l.length : Int) ≤ 20) := by
      unfold livesB; rw [← hfd]; simp only [livesL, Bool.true_and]; exact decide_eq_decide.2 (by omega)
    have fy := Nat.add_zero
    refine goK ?_ ?_ ?_ ?_ ?_ ?_ ?_ ?_ ?_ ?_ ?_ ?_ ?_ ?_ ?_ ?_
    any_goals (first | exact True.intro | skip)
    all_goals (repeat (refine Wh.mk fun hcc => ?_))
    all_goals simp only [tupOf, fixEs, hlv]
end Q6

namespace Q6
open Go Go.Vm Go.Proofs
set_option maxHeartbeats 4000000
set_option synthInstance.maxSize 2000
set_option synthInstance.maxHeartbeats 400000
set_option maxRecDepth 10000
set_option linter.unusedSimpArgs false
set_option linter.unusedVariables false


def slot0 : SlotT := (false, (0, [], [], ()), ())
theorem noSlot_eq (s : SlotT) : decide (s = slot0) = noSlotB s := by
  obtain ⟨b, ⟨k, i, r, u⟩, u'⟩ := s
  unfold noSlotB noObjB slot0
  simp only [Prod.mk.injEq, List.length_eq_zero_iff, and_true]
  cases b <;> simp [Bool.and_assoc]
theorem sNoSlot_ok (s : SlotT) (hs : Enc.lim 1048576 s) : CallR Try.prog 139 [.nd [.bool s.1, .nd [.int .i64 s.2.1.1, .sl .b (s.2.1.2.1.map Enc.b), .sl .b (s.2.1.2.2.1.map Enc.b)]], .nd [.bool false, .nd [.int .i64 0, .sl .b [], .sl .b []]]] [] (.bool (noSlotB s)) := by
  rw [← noSlot_eq]; exact sSameSlot_ok s slot0 hs
def z6 (x : RecT) : Bool := ((((decide (x.2.1 = 0) && decide (x.2.2.1 = 0)) && (decide (x.2.2.2.2.1 = 0) && noSlotB x.2.2.2.2.2.2.1)) && noSlotB x.2.2.2.2.2.1) && decide (x.2.2.2.2.2.2.2.1 = 0))
def z1 (x : RecT) : Bool := decide (x.2.2.2.2.2.2.2.1 = 0) && decide (x.2.2.2.2.2.2.2.2.1.length = 0)
def z4 (x : RecT) : Bool := noSlotB x.2.2.2.2.2.1 && decide (x.2.2.2.2.2.2.2.2.1.length = 0)
def z2 (x : RecT) : Bool := (((decide (x.2.2.2.2.1 = 0) && noSlotB x.2.2.2.2.2.2.1) && noSlotB x.2.2.2.2.2.1) && decide (x.2.2.2.2.2.2.2.1 = 0)) && decide (x.2.2.2.2.2.2.2.2.1.length = 0)

theorem l4Zero_z6 (x : RecT) (hx : Enc.lim 1048576 x) : CallR Try.prog 77 [.nd [.int .i64 x.1, .int .i64 x.2.1, .int .i64 x.2.2.1, .int .i64 x.2.2.2.1, .int .i64 x.2.2.2.2.1, .nd [.bool x.2.2.2.2.2.1.1, .nd [.int .i64 x.2.2.2.2.2.1.2.1.1, .sl .b (x.2.2.2.2.2.1.2.1.2.1.map Enc.b), .sl .b (x.2.2.2.2.2.1.2.1.2.2.1.map Enc.b)]], .nd [.bool x.2.2.2.2.2.2.1.1, .nd [.int .i64 x.2.2.2.2.2.2.1.2.1.1, .sl .b (x.2.2.2.2.2.2.1.2.1.2.1.map Enc.b), .sl .b (x.2.2.2.2.2.2.1.2.1.2.2.1.map Enc.b)]], .int .i64 x.2.2.2.2.2.2.2.1, .sl .b (x.2.2.2.2.2.2.2.2.1.map Enc.b)], .bool false, .bool false, .bool false, .bool false, .bool true] [] (.bool (z6 x)) := by
  refine CallR.of_body (n := 66) (rs := [.tmp 12]) hY.ok Try.func77 rfl (by decide) rfl rfl rfl rfl (fun F => ?_)
  have fx := And.intro Y1 (And.intro Y2 (And.intro Y3 (And.intro Y4 (And.intro Y5 (And.intro Y6 (And.intro Y7 (And.intro Y8 (And.intro Y34 (And.intro Y36 (And.intro Y38 (And.intro Y39 (And.intro Y41 (Y91)))))))))))))
  have hA := sNoSlot_ok x.2.2.2.2.2.2.1 hx.2.2.2.2.2.2.1
  have hB := sNoSlot_ok x.2.2.2.2.2.1 hx.2.2.2.2.2.1
  have hq1 : (x.2.1 == 0) = decide (x.2.1 = 0) := rfl
  have hq2 : (x.2.2.1 == 0) = decide (x.2.2.1 = 0) := rfl
  have hq3 : (x.2.2.2.2.1 == 0) = decide (x.2.2.2.2.1 = 0) := rfl
  have hq4 : (x.2.2.2.2.2.2.2.1 == 0) = decide (x.2.2.2.2.2.2.2.1 = 0) := rfl
  have hq5 : ((x.2.2.2.2.2.2.2.2.1.length : Int) == 0) = decide (x.2.2.2.2.2.2.2.2.1.length = 0) := by
    by_cases h : x.2.2.2.2.2.2.2.2.1.length = 0
    · simp [h]
    · have : ¬ (x.2.2.2.2.2.2.2.2.1.length : Int) = 0 := by omega
      rw [beq_eq_false_iff_ne.2 this]; simp [h]
  unfold z6
  generalize noSlotB x.2.2.2.2.2.2.1 = sa at *
  generalize noSlotB x.2.2.2.2.2.1 = sb at *
  generalize decide (x.2.1 = 0) = d1 at *
  generalize decide (x.2.2.1 = 0) = d2 at *
  generalize decide (x.2.2.2.2.1 = 0) = d3 at *
  generalize decide (x.2.2.2.2.2.2.2.1 = 0) = d4 at *
  generalize decide (x.2.2.2.2.2.2.2.2.1.length = 0) = d5 at *
  have hC1 := cx [] (hA)
  have hC2 := cx [] (hB)
  have fy := And.intro hq1 (And.intro hq2 (And.intro hq3 (And.intro hq4 (hq5))))
  refine goK ?_ ?_ ?_ ?_ ?_ ?_ ?_ ?_ ?_ ?_ ?_ ?_ ?_ ?_ ?_ ?_
  any_goals (first | exact True.intro | skip)
  all_goals (repeat (refine Wh.mk fun hcc => ?_))
  all_goals (first | rfl | ((try simp only [tupOf, fixEs]); (first | done | (revert d1 d2 d3 d4 d5 sa sb; decide) | (simp_all; done) | grind)))
theorem l4Zero_z1 (x : RecT) (hx : Enc.lim 1048576 x) : CallR Try.prog 77 [.nd [.int .i64 x.1, .int .i64 x.2.1, .int .i64 x.2.2.1, .int .i64 x.2.2.2.1, .int .i64 x.2.2.2.2.1, .nd [.bool x.2.2.2.2.2.1.1, .nd [.int .i64 x.2.2.2.2.2.1.2.1.1, .sl .b (x.2.2.2.2.2.1.2.1.2.1.map Enc.b), .sl .b (x.2.2.2.2.2.1.2.1.2.2.1.map Enc.b)]], .nd [.bool x.2.2.2.2.2.2.1.1, .nd [.int .i64 x.2.2.2.2.2.2.1.2.1.1, .sl .b (x.2.2.2.2.2.2.1.2.1.2.1.map Enc.b), .sl .b (x.2.2.2.2.2.2.1.2.1.2.2.1.map Enc.b)]], .int .i64 x.2.2.2.2.2.2.2.1, .sl .b (x.2.2.2.2.2.2.2.2.1.map Enc.b)], .bool true, .bool true, .bool true, .bool false, .bool false] [] (.bool (z1 x)) := by
  refine CallR.of_body (n := 66) (rs := [.tmp 12]) hY.ok Try.func77 rfl (by decide) rfl rfl rfl rfl (fun F => ?_)
  have fx := And.intro Y1 (And.intro Y2 (And.intro Y3 (And.intro Y4 (And.intro Y5 (And.intro Y6 (And.intro Y7 (And.intro Y8 (And.intro Y34 (And.intro Y36 (And.intro Y38 (And.intro Y39 (And.intro Y41 (Y91)))))))))))))
  have hA := sNoSlot_ok x.2.2.2.2.2.2.1 hx.2.2.2.2.2.2.1
  have hB := sNoSlot_ok x.2.2.2.2.2.1 hx.2.2.2.2.2.1
  have hq1 : (x.2.1 == 0) = decide (x.2.1 = 0) := rfl
  have hq2 : (x.2.2.1 == 0) = decide (x.2.2.1 = 0) := rfl
  have hq3 : (x.2.2.2.2.1 == 0) = decide (x.2.2.2.2.1 = 0) := rfl
  have hq4 : (x.2.2.2.2.2.2.2.1 == 0) = decide (x.2.2.2.2.2.2.2.1 = 0) := rfl
  have hq5 : ((x.2.2.2.2.2.2.2.2.1.length : Int) == 0) = decide (x.2.2.2.2.2.2.2.2.1.length = 0) := by
    by_cases h : x.2.2.2.2.2.2.2.2.1.length = 0
    · simp [h]
    · have : ¬ (x.2.2.2.2.2.2.2.2.1.length : Int) = 0 := by omega
      rw [beq_eq_false_iff_ne.2 this]; simp [h]
  unfold z1
  generalize noSlotB x.2.2.2.2.2.2.1 = sa at *
  generalize noSlotB x.2.2.2.2.2.1 = sb at *
  generalize decide (x.2.1 = 0) = d1 at *
  generalize decide (x.2.2.1 = 0) = d2 at *
  generalize decide (x.2.2.2.2.1 = 0) = d3 at *
  generalize decide (x.2.2.2.2.2.2.2.1 = 0) = d4 at *
  generalize decide (x.2.2.2.2.2.2.2.2.1.length = 0) = d5 at *
  have hC1 := cx [] (hA)
  have hC2 := cx [] (hB)
  have fy := And.intro hq1 (And.intro hq2 (And.intro hq3 (And.intro hq4 (hq5))))
  refine goK ?_ ?_ ?_ ?_ ?_ ?_ ?_ ?_ ?_ ?_ ?_ ?_ ?_ ?_ ?_ ?_
  any_goals (first | exact True.intro | skip)
  all_goals (repeat (refine Wh.mk fun hcc => ?_))
  all_goals (first | rfl | ((try simp only [tupOf, fixEs]); (first | done | (revert d1 d2 d3 d4 d5 sa sb; decide) | (simp_all; done) | grind)))
theorem l4Zero_z4 (x : RecT) (hx : Enc.lim 1048576 x) : CallR Try.prog 77 [.nd [.int .i64 x.1, .int .i64 x.2.1, .int .i64 x.2.2.1, .int .i64 x.2.2.2.1, .int .i64 x.2.2.2.2.1, .nd [.bool x.2.2.2.2.2.1.1, .nd [.int .i64 x.2.2.2.2.2.1.2.1.1, .sl .b (x.2.2.2.2.2.1.2.1.2.1.map Enc.b), .sl .b (x.2.2.2.2.2.1.2.1.2.2.1.map Enc.b)]], .nd [.bool x.2.2.2.2.2.2.1.1, .nd [.int .i64 x.2.2.2.2.2.2.1.2.1.1, .sl .b (x.2.2.2.2.2.2.1.2.1.2.1.map Enc.b), .sl .b (x.2.2.2.2.2.2.1.2.1.2.2.1.map Enc.b)]], .int .i64 x.2.2.2.2.2.2.2.1, .sl .b (x.2.2.2.2.2.2.2.2.1.map Enc.b)], .bool true, .bool true, .bool false, .bool true, .bool false] [] (.bool (z4 x)) := by
  refine CallR.of_body (n := 66) (rs := [.tmp 12]) hY.ok Try.func77 rfl (by decide) rfl rfl rfl rfl (fun F => ?_)
  have fx := And.intro Y1 (And.intro Y2 (And.intro Y3 (And.intro Y4 (And.intro Y5 (And.intro Y6 (And.intro Y7 (And.intro Y8 (And.intro Y34 (And.intro Y36 (And.intro Y38 (And.intro Y39 (And.intro Y41 (Y91)))))))))))))
  have hA := sNoSlot_ok x.2.2.2.2.2.2.1 hx.2.2.2.2.2.2.1
  have hB := sNoSlot_ok x.2.2.2.2.2.1 hx.2.2.2.2.2.1
  have hq1 : (x.2.1 == 0) = decide (x.2.1 = 0) := rfl
  have hq2 : (x.2.2.1 == 0) = decide (x.2.2.1 = 0) := rfl
  have hq3 : (x.2.2.2.2.1 == 0) = decide (x.2.2.2.2.1 = 0) := rfl
  have hq4 : (x.2.2.2.2.2.2.2.1 == 0) = decide (x.2.2.2.2.2.2.2.1 = 0) := rfl
  have hq5 : ((x.2.2.2.2.2.2.2.2.1.length : Int) == 0) = decide (x.2.2.2.2.2.2.2.2.1.length = 0) := by
    by_cases h : x.2.2.2.2.2.2.2.2.1.length = 0
    · simp [h]
    · have : ¬ (x.2.2.2.2.2.2.2.2.1.length : Int) = 0 := by omega
      rw [beq_eq_false_iff_ne.2 this]; simp [h]
  unfold z4
  generalize noSlotB x.2.2.2.2.2.2.1 = sa at *
  generalize noSlotB x.2.2.2.2.2.1 = sb at *
  generalize decide (x.2.1 = 0) = d1 at *
  generalize decide (x.2.2.1 = 0) = d2 at *
  generalize decide (x.2.2.2.2.1 = 0) = d3 at *
  generalize decide (x.2.2.2.2.2.2.2.1 = 0) = d4 at *
  generalize decide (x.2.2.2.2.2.2.2.2.1.length = 0) = d5 at *
  have hC1 := cx [] (hA)
  have hC2 := cx [] (hB)
  have fy := And.intro hq1 (And.intro hq2 (And.intro hq3 (And.intro hq4 (hq5))))
  refine goK ?_ ?_ ?_ ?_ ?_ ?_ ?_ ?_ ?_ ?_ ?_ ?_ ?_ ?_ ?_ ?_
  any_goals (first | exact True.intro | skip)
  all_goals (repeat (refine Wh.mk fun hcc => ?_))
  all_goals (first | rfl | ((try simp only [tupOf, fixEs]); (first | done | (revert d1 d2 d3 d4 d5 sa sb; decide) | (simp_all; done) | grind)))
theorem l4Zero_z2 (x : RecT) (hx : Enc.lim 1048576 x) : CallR Try.prog 77 [.nd [.int .i64 x.1, .int .i64 x.2.1, .int .i64 x.2.2.1, .int .i64 x.2.2.2.1, .int .i64 x.2.2.2.2.1, .nd [.bool x.2.2.2.2.2.1.1, .nd [.int .i64 x.2.2.2.2.2.1.2.1.1, .sl .b (x.2.2.2.2.2.1.2.1.2.1.map Enc.b), .sl .b (x.2.2.2.2.2.1.2.1.2.2.1.map Enc.b)]], .nd [.bool x.2.2.2.2.2.2.1.1, .nd [.int .i64 x.2.2.2.2.2.2.1.2.1.1, .sl .b (x.2.2.2.2.2.2.1.2.1.2.1.map Enc.b), .sl .b (x.2.2.2.2.2.2.1.2.1.2.2.1.map Enc.b)]], .int .i64 x.2.2.2.2.2.2.2.1, .sl .b (x.2.2.2.2.2.2.2.2.1.map Enc.b)], .bool true, .bool false, .bool false, .bool false, .bool false] [] (.bool (z2 x)) := by
  refine CallR.of_body (n := 66) (rs := [.tmp 12]) hY.ok Try.func77 rfl (by decide) rfl rfl rfl rfl (fun F => ?_)
  have fx := And.intro Y1 (And.intro Y2 (And.intro Y3 (And.intro Y4 (And.intro Y5 (And.intro Y6 (And.intro Y7 (And.intro Y8 (And.intro Y34 (And.intro Y36 (And.intro Y38 (And.intro Y39 (And.intro Y41 (Y91)))))))))))))
  have hA := sNoSlot_ok x.2.2.2.2.2.2.1 hx.2.2.2.2.2.2.1
  have hB := sNoSlot_ok x.2.2.2.2.2.1 hx.2.2.2.2.2.1
  have hq1 : (x.2.1 == 0) = decide (x.2.1 = 0) := rfl
  have hq2 : (x.2.2.1 == 0) = decide (x.2.2.1 = 0) := rfl
  have hq3 : (x.2.2.2.2.1 == 0) = decide (x.2.2.2.2.1 = 0) := rfl
  have hq4 : (x.2.2.2.2.2.2.2.1 == 0) = decide (x.2.2.2.2.2.2.2.1 = 0) := rfl
  have hq5 : ((x.2.2.2.2.2.2.2.2.1.length : Int) == 0) = decide (x.2.2.2.2.2.2.2.2.1.length = 0) := by
    by_cases h : x.2.2.2.2.2.2.2.2.1.length = 0
    · simp [h]
    · have : ¬ (x.2.2.2.2.2.2.2.2.1.length : Int) = 0 := by omega
      rw [beq_eq_false_iff_ne.2 this]; simp [h]
  unfold z2
  generalize noSlotB x.2.2.2.2.2.2.1 = sa at *
  generalize noSlotB x.2.2.2.2.2.1 = sb at *
  generalize decide (x.2.1 = 0) = d1 at *
  generalize decide (x.2.2.1 = 0) = d2 at *
  generalize decide (x.2.2.2.2.1 = 0) = d3 at *
  generalize decide (x.2.2.2.2.2.2.2.1 = 0) = d4 at *
  generalize decide (x.2.2.2.2.2.2.2.2.1.length = 0) = d5 at *
  have hC1 := cx [] (hA)
  have hC2 := cx [] (hB)
  have fy := And.intro hq1 (And.intro hq2 (And.intro hq3 (And.intro hq4 (hq5))))
  refine goK ?_ ?_ ?_ ?_ ?_ ?_ ?_ ?_ ?_ ?_ ?_ ?_ ?_ ?_ ?_ ?_
  any_goals (first | exact True.intro | skip)
  all_goals (repeat (refine Wh.mk fun hcc => ?_))
  all_goals (first | rfl | ((try simp only [tupOf, fixEs]); (first | done | (revert d1 d2 d3 d4 d5 sa sb; decide) | (simp_all; done) | grind)))
end Q6

namespace Q6
open Go Go.Vm Go.Proofs
set_option maxHeartbeats 4000000
set_option synthInstance.maxSize 2000
set_option synthInstance.maxHeartbeats 400000
set_option maxRecDepth 10000
set_option linter.unusedSimpArgs false
set_option linter.unusedVariables false

theorem implRecOk_ok (x : RecT) (hx : Enc.lim 1048576 x) : CallR Try.prog 24 [.nd [.int .i64 x.1, .int .i64 x.2.1, .int .i64 x.2.2.1, .int .i64 x.2.2.2.1, .int .i64 x.2.2.2.2.1, .nd [.bool x.2.2.2.2.2.1.1, .nd [.int .i64 x.2.2.2.2.2.1.2.1.1, .sl .b (x.2.2.2.2.2.1.2.1.2.1.map Enc.b), .sl .b (x.2.2.2.2.2.1.2.1.2.2.1.map Enc.b)]], .nd [.bool x.2.2.2.2.2.2.1.1, .nd [.int .i64 x.2.2.2.2.2.2.1.2.1.1, .sl .b (x.2.2.2.2.2.2.1.2.1.2.1.map Enc.b), .sl .b (x.2.2.2.2.2.2.1.2.1.2.2.1.map Enc.b)]], .int .i64 x.2.2.2.2.2.2.2.1, .sl .b (x.2.2.2.2.2.2.2.2.1.map Enc.b)]] [] (.bool (recB x)) := by
  refine CallR.of_body (n := 121) (rs := [.tmp 2]) hY.ok Try.func24 rfl (by decide) rfl rfl rfl rfl (fun F => ?_)
  have fx := And.intro Y1 (And.intro Y2 (And.intro Y3 (And.intro Y4 (And.intro Y5 (And.intro Y6 (And.intro Y7 (And.intro Y8 (And.intro Y34 (And.intro Y36 (And.intro Y38 (And.intro Y39 (And.intro Y41 (Y91)))))))))))))
  have hq1 : (x.2.1 == 0) = decide (x.2.1 = 0) := rfl
  have hq2 : (x.2.2.1 == 0) = decide (x.2.2.1 = 0) := rfl
  have hq3 : (x.2.2.2.2.1 == 0) = decide (x.2.2.2.2.1 = 0) := rfl
  have hq4 : (x.2.2.2.2.2.2.2.1 == 0) = decide (x.2.2.2.2.2.2.2.1 = 0) := rfl
  have hq5 : decide ((x.2.2.2.2.2.2.2.2.1.length : Int) > 0) = !decide (x.2.2.2.2.2.2.2.2.1.length = 0) := by
    by_cases h : x.2.2.2.2.2.2.2.2.1.length = 0
    · simp [h]
    · have : (x.2.2.2.2.2.2.2.2.1.length : Int) > 0 := by omega
      rw [decide_eq_true this]; simp [h]
  have hk6 : (x.2.2.2.1 == 6) = decide (x.2.2.2.1 = 6) := rfl
  have hk1 : (x.2.2.2.1 == 1) = decide (x.2.2.2.1 = 1) := rfl
  have hk2 : (x.2.2.2.1 == 2) = decide (x.2.2.2.1 = 2) := rfl
  have hk3 : (x.2.2.2.1 == 3) = decide (x.2.2.2.1 = 3) := rfl
  have hk4 : (x.2.2.2.1 == 4) = decide (x.2.2.2.1 = 4) := rfl
  have hk5 : (x.2.2.2.1 == 5) = decide (x.2.2.2.1 = 5) := rfl
  cases hL : rng x.1 1 1000000
  · have hI := inR_ok x.1 1 1000000
    rw [hL] at hI
    have hC1 := cx [] (hI)
    have fy := Nat.add_zero
    refine goK ?_ ?_ ?_ ?_ ?_ ?_ ?_ ?_ ?_ ?_ ?_ ?_ ?_ ?_ ?_ ?_
    any_goals (first | exact True.intro | skip)
    all_goals (repeat (refine Wh.mk fun hcc => ?_))
    all_goals (simp only [tupOf, fixEs, recB, hL]; rfl)
  · have hI := inR_ok x.1 1 1000000
    rw [hL] at hI
    have hb := hL
    unfold rng at hb
    simp only [Bool.and_eq_true, decide_eq_true_eq] at hb
    have hw : IntKind.i64.wrap (x.1 - 1) = x.1 - 1 := wrap64 _ (by omega) (by omega)
    have hA := noSlot_ok x.2.2.2.2.2.1
    have hB := noSlot_ok x.2.2.2.2.2.2.1
    have hA' : CallR Try.prog 80 [.nd [.bool x.2.2.2.2.2.1.1, .nd [.int .i64 x.2.2.2.2.2.1.2.1.1, .sl .b (x.2.2.2.2.2.1.2.1.2.1.map Enc.b), .sl .b (x.2.2.2.2.2.1.2.1.2.2.1.map Enc.b)]]] [] (.bool (noSlotB x.2.2.2.2.2.1)) := hA
    have hB' : CallR Try.prog 80 [.nd [.bool x.2.2.2.2.2.2.1.1, .nd [.int .i64 x.2.2.2.2.2.2.1.2.1.1, .sl .b (x.2.2.2.2.2.2.1.2.1.2.1.map Enc.b), .sl .b (x.2.2.2.2.2.2.1.2.1.2.2.1.map Enc.b)]]] [] (.bool (noSlotB x.2.2.2.2.2.2.1)) := hB
    have hV := livesOk_ok x.2.2.2.2.2.2.2.2.1 x.1 hx.2.2.2.2.2.2.2.2.1.1 (by omega) (by omega)
    have hT := isTx_ok x.2.1
    have hP := inR_ok x.2.2.1 0 (x.1 - 1)
    have hN := inR_ok x.2.2.2.2.2.2.2.1 0 (x.1 - 1)
    have hO : CallR Try.prog 83 [.int .i64 x.2.2.2.2.1] [] (.bool (rng x.2.2.2.2.1 1 31)) := oid_ok x.2.2.2.2.1
    have hSA := slotOk_ok x.2.2.2.2.2.1 hx.2.2.2.2.2.1
    have hSB := slotOk_ok x.2.2.2.2.2.2.1 hx.2.2.2.2.2.2.1
    have hG1 := fun u1 u2 u3 => inR_ok u1 u2 u3
    have hC1 := cx [] (hA')
    have hC2 := cx [] (hB')
    have hC3 := cx [] (hV)
    have hC4 := cx [] (hT)
    have hC5 := cx [] (hO)
    have hC6 := cx [] (hSA)
    have hC7 := cx [] (hSB)
    have fy := And.intro hL (And.intro hq1 (And.intro hq2 (And.intro hq3 (And.intro hq4 (And.intro hq5 (And.intro hk1 (And.intro hk2 (And.intro hk3 (And.intro hk4 (And.intro hk5 (And.intro hk6 (hw))))))))))))
    refine goK ?_ ?_ ?_ ?_ ?_ ?_ ?_ ?_ ?_ ?_ ?_ ?_ ?_ ?_ ?_ ?_
    any_goals (first | exact True.intro | skip)
    all_goals (repeat (refine Wh.mk fun hcc => ?_))
    all_goals (try simp only [tupOf, fixEs])
    all_goals (simp only [recB, hL, Bool.true_and])
    all_goals first | rfl | (simp_all; done) | grind
end Q6
