/- Shows what the parts of the program do that the claim reaches: a machine of values over the model, and the contracts of functions, for all arguments within the lengths that each theorem names. -/
import Derived.Test.YtalhmcbkmpggiaaRecordsP1
import Derived.Test.YtalhmcbkmpggiaaVm5
import Derived.Test.YtalhmcbkmpggiaaVm4
set_option linter.all false

namespace Q6
open Go Go.Vm Go.Proofs
set_option maxHeartbeats 4000000
set_option synthInstance.maxSize 2000
set_option synthInstance.maxHeartbeats 400000
set_option maxRecDepth 10000
set_option linter.unusedSimpArgs false
set_option linter.unusedVariables false

theorem specObjOk_ok (x : (Int × (List Int) × (List Int) × Unit)) (hx : Enc.lim 1048576 x) : CallR Try.prog 127 [.nd [.int .i64 x.1, .sl .b (x.2.1.map Enc.b), .sl .b (x.2.2.1.map Enc.b)]] [] (.bool (objB x)) := by
  refine CallR.of_body (n := 49) (rs := [.tmp 2]) hY.ok Try.func127 rfl (by decide) rfl rfl rfl rfl (fun F => ?_)
  have fx := And.intro Y1 (And.intro Y2 (And.intro Y3 (And.intro Y4 (And.intro Y34 (Y36)))))
  have hl1 : x.2.1.length ≤ 1048576 := hx.2.1.1
  have hl2 : x.2.2.1.length ≤ 1048576 := hx.2.2.1.1
  have hG1 := fun u1 u2 u3 => l1In_ok u1 u2 u3
  have fy := len5
  refine goN ?_ ?_ ?_ ?_ ?_ ?_ ?_ ?_ ?_ ?_ ?_ ?_ ?_ ?_ ?_ ?_
  any_goals (first | exact True.intro | skip)
  skip
  refine SW.cond rfl (fun hc => ?_) (fun hc => ?_)
  · have hno : objB x = false := by
      unfold objB; revert hc
      cases (decide (x.1 ≥ 1) && decide (x.1 ≤ 99)) <;> cases decide (x.2.1.length ≤ 5) <;> cases decide (x.2.2.1.length ≤ 5) <;> simp
    have fy := len5
    refine goK ?_ ?_ ?_ ?_ ?_ ?_ ?_ ?_ ?_ ?_ ?_ ?_ ?_ ?_ ?_ ?_
    any_goals (first | exact True.intro | skip)
    all_goals (repeat (refine Wh.mk fun hcc => ?_))
    simp only [tupOf, fixEs, hno]
  have hy : ((decide (x.1 ≥ 1) && decide (x.1 ≤ 99)) && decide (x.2.1.length ≤ 5) && decide (x.2.2.1.length ≤ 5)) = true := by
    revert hc
    cases (decide (x.1 ≥ 1) && decide (x.1 ≤ 99)) <;> cases decide (x.2.1.length ≤ 5) <;> cases decide (x.2.2.1.length ≤ 5) <;> simp
  have hobj : objB x = (x.2.1.all intB && x.2.2.1.all refB) := by unfold objB; rw [hy]; simp
  have fy := len5
  refine goN ?_ ?_ ?_ ?_ ?_ ?_ ?_ ?_ ?_ ?_ ?_ ?_ ?_ ?_ ?_ ?_
  any_goals (first | exact True.intro | skip)
  skip
  refine SW.loop (fun i : Nat => ⟨[.nd [.int .i64 x.1, .sl .b (x.2.1.map Enc.b), .sl .b (x.2.2.1.map Enc.b)], .ptr 1 0 [] 0, .undef, .int .i64 i, .undef, .undef, .undef, .undef, .undef, .undef, .undef, .undef, .undef, .undef, .undef, .undef, .undef, .undef, .undef, .undef, .undef, .undef, .undef, .undef, .undef, .undef, .undef, .undef, .undef, .undef, .undef, .undef, .undef, .undef, .undef, .undef, .undef, .undef, .undef, .undef, .undef, .undef, .undef, .undef, .undef, .undef, .undef, .undef, .undef], [[], [.var (.nd [.int .i64 x.1, .sl .b (x.2.1.map Enc.b), .sl .b (x.2.2.1.map Enc.b)])]]⟩)
    (fun n i => n = x.2.1.length - i ∧ i ≤ x.2.1.length ∧ ∀ j (h : j < x.2.1.length), j < i → (intB) x.2.1[j] = true) (n := x.2.1.length) (x := 0) (by first | exact Norm.to 0 rfl (by simp [weakL]) | exact Norm.to 1 rfl (by simp [weakL]) | exact Norm.to 2 rfl (by simp [weakL])) ⟨rfl, Nat.zero_le _, fun j _ h => absurd h (Nat.not_lt_zero _)⟩ ?_
  rintro n i ⟨hn, hi, hp⟩
  have fy := len5
  refine goS ?_
  refine SW.cond rfl (fun hci => ?_) (fun hci => ?_)
  · skip
    have hlti : i < x.2.1.length := by simpa using hci
    have hltIi : (i : Int) < (x.2.1.length : Int) := by omega
    have hg : (x.2.1.map Enc.b)[i]? = some (.int .i64 x.2.1[i]) := map_get Enc.b x.2.1 i hlti
    have hG1 := fun u1 u2 u3 => l1In_ok u1 u2 u3
    have fy := hg
    refine goK ?_ ?_ ?_ ?_ ?_ ?_ ?_ ?_ ?_ ?_ ?_ ?_ ?_ ?_ ?_ ?_
    any_goals (first | exact True.intro | skip)
    all_goals (repeat (refine Wh.mk fun hcc => ?_))
    · have hx' : intB x.2.1[i] = false := by have h9 : (!intB x.2.1[i]) = true := hcc; simpa using h9
      have hno : x.2.1.all (intB) = false := all_not _ _ i hlti hx'
      simp [tupOf, fixEs, hobj, hno]
    · have hx' : intB x.2.1[i] = true := by simpa [intB] using hcc
      refine ⟨n - 1, i + 1, by omega, ⟨by omega, by omega, fun j hj hji => ?_⟩, ?_⟩
      · by_cases he : j = i
        · subst he; exact hx'
        · exact hp j hj (by omega)
      · rw [wrap64 _ (by omega) (by omega)]
        first | exact Norm.to 0 rfl (by simp [weakL]) | exact Norm.to 1 rfl (by simp [weakL]) | exact Norm.to 2 rfl (by simp [weakL]) | exact Norm.to 3 rfl (by simp [weakL])
  · skip
    have hgei : i = x.2.1.length := by
      have : ¬ i < x.2.1.length := by simpa using hci
      omega
    have hall : x.2.1.all (intB) = true := all_of _ _ (fun j hj => hp j hj (by omega))
    have fy := len5
    refine goN ?_ ?_ ?_ ?_ ?_ ?_ ?_ ?_ ?_ ?_ ?_ ?_ ?_ ?_ ?_ ?_
    any_goals (first | exact True.intro | skip)
    skip
    refine SW.loop (fun k : Nat => ⟨[.nd [.int .i64 x.1, .sl .b (x.2.1.map Enc.b), .sl .b (x.2.2.1.map Enc.b)], .ptr 1 0 [] 0, .undef, .undef, .int .i64 k, .undef, .undef, .undef, .undef, .undef, .undef, .undef, .undef, .undef, .undef, .undef, .undef, .undef, .undef, .undef, .undef, .undef, .undef, .undef, .undef, .undef, .undef, .undef, .undef, .undef, .undef, .undef, .undef, .undef, .undef, .undef, .undef, .undef, .undef, .undef, .undef, .undef, .undef, .undef, .undef, .undef, .undef, .undef, .undef], [[], [.var (.nd [.int .i64 x.1, .sl .b (x.2.1.map Enc.b), .sl .b (x.2.2.1.map Enc.b)])]]⟩)
      (fun m k => m = x.2.2.1.length - k ∧ k ≤ x.2.2.1.length ∧ ∀ j (h : j < x.2.2.1.length), j < k → (refB) x.2.2.1[j] = true) (n := x.2.2.1.length) (x := 0) (by first | exact Norm.to 0 rfl (by simp [weakL]) | exact Norm.to 1 rfl (by simp [weakL]) | exact Norm.to 2 rfl (by simp [weakL])) ⟨rfl, Nat.zero_le _, fun j _ h => absurd h (Nat.not_lt_zero _)⟩ ?_
    rintro m k ⟨hm, hk, hq⟩
    have fy := len5
    refine goS ?_
    refine SW.cond rfl (fun hck => ?_) (fun hck => ?_)
    · skip
      have hltk : k < x.2.2.1.length := by simpa using hck
      have hltIk : (k : Int) < (x.2.2.1.length : Int) := by omega
      have hg2 : (x.2.2.1.map Enc.b)[k]? = some (.int .i64 x.2.2.1[k]) := map_get Enc.b x.2.2.1 k hltk
      have hG1 := fun u1 u2 u3 => l1In_ok u1 u2 u3
      have fy := hg2
      refine goK ?_ ?_ ?_ ?_ ?_ ?_ ?_ ?_ ?_ ?_ ?_ ?_ ?_ ?_ ?_ ?_
      any_goals (first | exact True.intro | skip)
      all_goals (repeat (refine Wh.mk fun hcc => ?_))
      · have hx' : refB x.2.2.1[k] = false := by have h9 : (!refB x.2.2.1[k]) = true := hcc; simpa using h9
        have hno : x.2.2.1.all (refB) = false := all_not _ _ k hltk hx'
        simp [tupOf, fixEs, hobj, hno]
      · have hx' : refB x.2.2.1[k] = true := by simpa [refB] using hcc
        refine ⟨m - 1, k + 1, by omega, ⟨by omega, by omega, fun j hj hji => ?_⟩, ?_⟩
        · by_cases he : j = k
          · subst he; exact hx'
          · exact hq j hj (by omega)
        · rw [wrap64 _ (by omega) (by omega)]
          first | exact Norm.to 0 rfl (by simp [weakL]) | exact Norm.to 1 rfl (by simp [weakL]) | exact Norm.to 2 rfl (by simp [weakL]) | exact Norm.to 3 rfl (by simp [weakL])
    · skip
      have hgek : k = x.2.2.1.length := by
        have : ¬ k < x.2.2.1.length := by simpa using hck
        omega
      have hall2 : x.2.2.1.all (refB) = true := all_of _ _ (fun j hj => hq j hj (by omega))
      have fy := len5
      refine goK ?_ ?_ ?_ ?_ ?_ ?_ ?_ ?_ ?_ ?_ ?_ ?_ ?_ ?_ ?_ ?_
      any_goals (first | exact True.intro | skip)
      all_goals (repeat (refine Wh.mk fun hcc => ?_))
      simp [tupOf, fixEs, hobj, hall, hall2]
theorem l3Slot_ok (x : (Bool × ((Int × (List Int) × (List Int) × Unit)) × Unit)) (hx : Enc.lim 1048576 x) : CallR Try.prog 76 [.nd [.bool x.1, .nd [.int .i64 x.2.1.1, .sl .b (x.2.1.2.1.map Enc.b), .sl .b (x.2.1.2.2.1.map Enc.b)]]] [] (.bool (slotB x)) := by
  refine CallR.of_body (n := 26) (rs := [.tmp 2]) hY.ok Try.func76 rfl (by decide) rfl rfl rfl rfl (fun F => ?_)
  have fx := And.intro Y1 (And.intro Y2 (And.intro Y3 (And.intro Y4 (And.intro Y34 (And.intro Y36 (Y38))))))
  have hC1 := cx [] (specObjOk_ok x.2.1 hx.2.1)
  have fy := Nat.add_zero
  refine goK ?_ ?_ ?_ ?_ ?_ ?_ ?_ ?_ ?_ ?_ ?_ ?_ ?_ ?_ ?_ ?_
  any_goals (first | exact True.intro | skip)
  all_goals (repeat (refine Wh.mk fun hcc => ?_))
  all_goals (first | rfl | ((try simp only [tupOf, fixEs]); (first | done | rfl | (simp_all [slotB, noObjB, len0]; done) | grind [slotB, noObjB, len0])))
end Q6

namespace Q6
open Go Go.Vm Go.Proofs
set_option maxHeartbeats 4000000
set_option synthInstance.maxSize 2000
set_option synthInstance.maxHeartbeats 400000
set_option maxRecDepth 10000
set_option linter.unusedSimpArgs false
set_option linter.unusedVariables false

open Go.By
theorem spec_l2Same_ok (l m : List UInt8) (hl : Enc.lim 1048576 l) : CallR Try.prog 106 [.sl .b (l.map Enc.b), .sl .b (m.map Enc.b)] [] (.bool (decide (l = m))) := by
  refine CallR.of_body (n := 26) (rs := [.tmp 4]) hY.ok Try.func106 rfl (by decide) rfl rfl rfl rfl (fun F => ?_)
  have fx := And.intro Y3 (And.intro Y4 (And.intro Y5 (Y24)))
  have hl1 : l.length ≤ 1048576 := hl.1
  have fy := Nat.add_zero
  refine goS ?_
  refine SW.cond rfl (fun hc => ?_) (fun hc => ?_)
  · have hne : ¬ l = m := by intro e; subst e; simp at hc
    have fy := Nat.add_zero
    refine goK ?_ ?_ ?_ ?_ ?_ ?_ ?_ ?_ ?_ ?_ ?_ ?_ ?_ ?_ ?_ ?_
    any_goals (first | exact True.intro | skip)
    all_goals (repeat (refine Wh.mk fun hcc => ?_))
    simp [tupOf, fixEs, hne]
  have hlen : l.length = m.length := by have : (l.length : Int) = m.length := by simpa using hc
                                        omega
  refine SW.skip ?_
  simp only [thenS]
  have fy := Nat.add_zero
  refine goN ?_ ?_ ?_ ?_ ?_ ?_ ?_ ?_ ?_ ?_ ?_ ?_ ?_ ?_ ?_ ?_
  any_goals (first | exact True.intro | skip)
  skip
  refine SW.loop (fun i : Nat => ⟨[.sl .b (l.map Enc.b), .sl .b (m.map Enc.b), .undef, .undef, .undef, .int .i64 i, .undef, .undef, .undef, .undef, .undef, .undef, .undef, .undef, .undef, .undef, .undef, .undef, .undef, .undef, .undef, .undef, .undef, .undef, .undef, .undef], [[]]⟩)
    (fun n i => n = l.length - i ∧ i ≤ l.length ∧ ∀ j (h : j < l.length), j < i → l[j] = m[j]'(by omega)) (n := l.length) (x := 0) (Norm.to 0 rfl (by simp [weakL])) ⟨rfl, Nat.zero_le _, fun j _ h => absurd h (Nat.not_lt_zero _)⟩ ?_
  rintro n i ⟨hn, hi, hp⟩
  have fy := Nat.add_zero
  refine goS ?_
  refine SW.cond rfl (fun hc => ?_) (fun hc => ?_)
  · have hlt : i < l.length := by simpa using hc
    have hlt' : i < m.length := by omega
    have hgl : (l.map Enc.b)[i]? = some (.int .u8 (l[i].toNat : Int)) := map_get Enc.b l i hlt
    have hgm : (m.map Enc.b)[i]? = some (.int .u8 (m[i].toNat : Int)) := map_get Enc.b m i hlt'
    have fy := And.intro hgl (hgm)
    refine goK ?_ ?_ ?_ ?_ ?_ ?_ ?_ ?_ ?_ ?_ ?_ ?_ ?_ ?_ ?_ ?_
    any_goals (first | exact True.intro | skip)
    all_goals (repeat (refine Wh.mk fun hcc => ?_))
    · have hx := hcc
      have hne : ¬ l[i] = m[i] := by intro e; simp [e] at hx
      have hlm : ¬ l = m := by intro e; subst e; exact hne rfl
      simp [tupOf, fixEs, hlm]
    · have hx := hcc
      have hx' : l[i] = m[i] := by first | (simpa using hx; done) | (apply UInt8.toNat_inj.1; simp at hx; omega)
      refine ⟨n - 1, i + 1, by omega, ⟨by omega, by omega, fun j hj hji => ?_⟩, ?_⟩
      · by_cases he : j = i
        · subst he; exact hx'
        · exact hp j hj (by omega)
      · rw [wrap64 _ (by omega) (by omega)]
        first | exact Norm.to 0 rfl (by simp [weakL]) | exact Norm.to 1 rfl (by simp [weakL])
  · have hge : i = l.length := by
      have : ¬ i < l.length := by simpa using hc
      omega
    have hlm : l = m := List.ext_getElem hlen fun j h1 h2 => hp j h1 (by omega)
    have fy := Nat.add_zero
    refine goK ?_ ?_ ?_ ?_ ?_ ?_ ?_ ?_ ?_ ?_ ?_ ?_ ?_ ?_ ?_ ?_
    any_goals (first | exact True.intro | skip)
    all_goals (repeat (refine Wh.mk fun hcc => ?_))
    simp [tupOf, fixEs, hlm]

def putL (l : List Int) : List UInt8 := putI l.length ++ l.flatMap putI
theorem putF_len : ∀ l : List Int, (l.flatMap putI).length ≤ 6 * l.length
  | [] => by simp
  | x :: l => by have := putF_len l; have := putI_len x; simp only [List.flatMap_cons, List.length_append, List.length_cons]; omega
theorem objB_len {x : Int × List Int × List Int × Unit} (h : objB x = true) : x.2.1.length ≤ 5 ∧ x.2.2.1.length ≤ 5 := by
  unfold objB at h; simp only [Bool.and_eq_true, decide_eq_true_eq] at h; exact ⟨h.1.1.1.2, h.1.1.2⟩
def putObj (x : Int × List Int × List Int × Unit) : List UInt8 := putI x.1 ++ putL x.2.1 ++ putL x.2.2.1
theorem putL_len (l : List Int) : (putL l).length ≤ 6 + 6 * l.length := by
  unfold putL; have := putF_len l; have := putI_len l.length; simp only [List.length_append]; omega

theorem putList_ok (b : List UInt8) (l : List Int) (hb : b.length ≤ 1048576) (hl : l.length ≤ 1048576) : CallR Try.prog 128 [.sl .b (b.map Enc.b), .sl .b (l.map Enc.b)] [] (.ow 1 ((b ++ putL l).map Enc.o)) := by
  refine CallR.of_body (n := 23) (rs := [.tmp 4]) hY.ok Try.func128 rfl (by decide) rfl rfl rfl rfl (fun F => ?_)
  have fx := And.intro Y3 (And.intro Y4 (And.intro Y5 (And.intro Y24 (Y34))))
  have h0 := PutInt_ok b l.length (by omega)
  have hpl := putI_len l.length
  have hC1 := cx [] (h0)
  have fy := Nat.add_zero
  refine goN ?_ ?_ ?_ ?_ ?_ ?_ ?_ ?_ ?_ ?_ ?_ ?_ ?_ ?_ ?_ ?_
  any_goals (first | exact True.intro | skip)
  skip
  refine SW.loop (fun x : Nat × List UInt8 => ⟨[.ref 1 0 0 x.2.length, .sl .b (l.map Enc.b), .undef, .undef, .undef, .int .i64 (x.1 : Nat), .undef, .undef, .undef, .undef, .undef, .undef, .undef, .undef, .undef, .undef, .undef, .undef, .undef, .undef, .undef, .undef, .undef], [[], [.arr 1 (x.2.map Enc.o) false]]⟩)
    (fun N x => N = l.length - x.1 ∧ x.1 ≤ l.length ∧ x.2 = b ++ putI l.length ++ (l.take x.1).flatMap putI) (n := l.length) (x := (0, b ++ putI l.length)) (Norm.re [0, 1] (by decide) rfl (by simp [-List.map_append, heapFits, rowFits, obFits, T.ren, renL]) (by simp [tmFits, T.ren])) ⟨rfl, Nat.zero_le _, by simp⟩ ?_
  rintro N ⟨i, acc⟩ ⟨hN, hi, hac⟩
  simp only at hN hi hac ⊢
  have hacl : acc.length ≤ 8388608 := by
    have h1 := putF_len (l.take i)
    have h2 : (l.take i).length ≤ l.length := by rw [List.length_take]; omega
    rw [hac]; simp only [List.length_append]; omega
  have fy := Nat.add_zero
  refine goS ?_
  refine SW.cond rfl (fun hc => ?_) (fun hc => ?_)
  · have hlt : i < l.length := by simp at hc; omega
    have hg : (l.map Enc.b)[i]? = some (.int .i64 l[i]) := map_get Enc.b l i hlt
    have hwi : IntKind.i64.wrap ((i : Int) + 1) = ((i + 1 : Nat) : Int) := by rw [wrap64 _ (by omega) (by omega)]; omega
    have h1 := PutInt_ok acc l[i] (by omega)
    have hC1 := cx [] (h1)
    have fy := And.intro hg (hwi)
    refine goN ?_ ?_ ?_ ?_ ?_ ?_ ?_ ?_ ?_ ?_ ?_ ?_ ?_ ?_ ?_ ?_
    any_goals (first | exact True.intro | skip)
    skip
    refine ⟨N - 1, (i + 1, acc ++ putI l[i]), by omega, ⟨by simp only; omega, by simp only; omega, ?_⟩, ?_⟩
    · simp only; rw [hac, List.take_succ_eq_append_getElem hlt, List.flatMap_append, ← List.append_assoc]; simp only [List.flatMap_cons, List.flatMap_nil, List.append_nil]
    · exact Norm.re [0, 2] (by decide) rfl (by simp [-List.map_append, heapFits, rowFits, obFits, T.ren, renL]) (by simp [tmFits, T.ren])
  · have hge : i = l.length := by
      have : ¬ i < l.length := by simp at hc; omega
      omega
    subst hge
    have hfin : b ++ putL l = acc := by rw [hac, List.take_length]; unfold putL; simp
    rw [hfin]
    have fy := Nat.add_zero
    refine goR ?_ ?_ ?_ ?_ ?_ ?_ ?_ ?_ ?_ ?_ ?_ ?_ ?_ ?_ ?_ ?_
    any_goals (first | exact True.intro | skip)
    all_goals (repeat (refine Wh.mk fun hcc => ?_))
    exact SW.ret (show RetQ _ _ _ _ _ _ _ from RetQ.y [1] [.ow 1 (acc.map Enc.o)])
theorem sPutObj_y (x : (Int × (List Int) × (List Int) × Unit)) (hx : Enc.lim 1048576 x) (ho : objB x = true) : CallR Try.prog 62 [.nd [.int .i64 x.1, .sl .b (x.2.1.map Enc.b), .sl .b (x.2.2.1.map Enc.b)]] [] (.ow 1 ((putObj x).map Enc.o)) := by
  refine CallR.of_body (n := 17) (rs := [.tmp 2]) hY.ok Try.func62 rfl (by decide) rfl rfl rfl rfl (fun F => ?_)
  have fx := And.intro Y1 (And.intro Y2 (And.intro Y3 (And.intro Y4 (And.intro Y5 (And.intro Y24 (And.intro Y34 (Y36)))))))
  have hO := specObjOk_ok x hx
  rw [ho] at hO
  have h1 := PutInt_ok [] x.1 (by simp)
  rw [List.nil_append] at h1
  have hp1 := putI_len x.1
  have h2 := putList_ok (putI x.1) x.2.1 (by omega) hx.2.1.1
  have hp2 := putL_len x.2.1
  have hb5 : x.2.1.length ≤ 5 ∧ x.2.2.1.length ≤ 5 := objB_len ho
  have h3 := putList_ok (putI x.1 ++ putL x.2.1) x.2.2.1 (by simp only [List.length_append]; omega) hx.2.2.1.1
  have hpo : putObj x = putI x.1 ++ putL x.2.1 ++ putL x.2.2.1 := rfl
  rw [hpo]
  generalize putI x.1 ++ putL x.2.1 = P2 at *
  generalize P2 ++ putL x.2.2.1 = P3 at *
  generalize putI x.1 = P1 at *
  have hC1 := cx [] (hO)
  have hC2 := cx [] (h1)
  have hC3 := cx [] (h2)
  have hC4 := cx [] (h3)
  have fy := bs0_24
  have hD1 := dx 3 [1, 3, 3, 3] [(2, 0), (5, 0), (5, 1), (8, 0), (8, 1), (8, 2)]
  refine goR ?_ ?_ ?_ ?_ ?_ ?_ ?_ ?_ ?_ ?_ ?_ ?_ ?_ ?_ ?_ ?_
  any_goals (first | exact True.intro | skip)
  all_goals (repeat (refine Wh.mk fun hcc => ?_))
  exact SW.ret (show RetQ _ _ _ _ _ _ _ from RetQ.y [1] [.ow 1 (P3.map Enc.o)])
theorem sPutObj_n (x : (Int × (List Int) × (List Int) × Unit)) (hx : Enc.lim 1048576 x) (ho : objB x = false) : CallR Try.prog 62 [.nd [.int .i64 x.1, .sl .b (x.2.1.map Enc.b), .sl .b (x.2.2.1.map Enc.b)]] [] (.ow 1 (([] : List UInt8).map Enc.o)) := by
  refine CallR.of_body (n := 17) (rs := [.tmp 2]) hY.ok Try.func62 rfl (by decide) rfl rfl rfl rfl (fun F => ?_)
  have fx := And.intro Y1 (And.intro Y2 (And.intro Y3 (And.intro Y4 (And.intro Y5 (And.intro Y24 (And.intro Y34 (Y36)))))))
  have hO := specObjOk_ok x hx
  rw [ho] at hO
  have hC1 := cx [] (hO)
  have fy := bs0_24
  have hD1 := dx 3 [1, 3, 3, 3] [(2, 0), (5, 0), (5, 1), (8, 0), (8, 1), (8, 2)]
  refine goR ?_ ?_ ?_ ?_ ?_ ?_ ?_ ?_ ?_ ?_ ?_ ?_ ?_ ?_ ?_ ?_
  any_goals (first | exact True.intro | skip)
  all_goals (repeat (refine Wh.mk fun hcc => ?_))
  exact SW.ret (show RetQ _ _ _ _ _ _ _ from RetQ.y [1] [.ow 1 []])
end Q6

namespace Q6
open Go Go.Vm Go.Proofs
set_option maxHeartbeats 4000000
set_option synthInstance.maxSize 2000
set_option synthInstance.maxHeartbeats 400000
set_option maxRecDepth 10000
set_option linter.unusedSimpArgs false
set_option linter.unusedVariables false

theorem implObjOk_ok (x : (Int × (List Int) × (List Int) × Unit)) (hx : Enc.lim 1048576 x) : CallR Try.prog 141 [.nd [.int .i64 x.1, .sl .b (x.2.1.map Enc.b), .sl .b (x.2.2.1.map Enc.b)]] [] (.bool (objB x)) := by
  refine CallR.of_body (n := 29) (rs := [.tmp 2]) hY.ok Try.func141 rfl (by decide) rfl rfl rfl rfl (fun F => ?_)
  have fx := And.intro Y1 (And.intro Y2 (And.intro Y3 (And.intro Y4 (And.intro Y34 (And.intro Y36 (Y96))))))
  have hG1 := fun u1 u2 u3 => in_ok u1 u2 u3
  have hC1 := cx [] (anyInt_ok x.2.1 hx.2.1)
  have hC2 := cx [] (anyRef_ok x.2.2.1 hx.2.2.1)
  have fy := len5
  refine goK ?_ ?_ ?_ ?_ ?_ ?_ ?_ ?_ ?_ ?_ ?_ ?_ ?_ ?_ ?_ ?_
  any_goals (first | exact True.intro | skip)
  all_goals (repeat (refine Wh.mk fun hcc => ?_))
  all_goals (first | rfl | ((try simp only [tupOf, fixEs]); (first | done | rfl | (simp_all [objB, len5, any_not]; done) | grind [objB, len5, any_not])))
theorem slotOk_ok (x : (Bool × ((Int × (List Int) × (List Int) × Unit)) × Unit)) (hx : Enc.lim 1048576 x) : CallR Try.prog 84 [.nd [.bool x.1, .nd [.int .i64 x.2.1.1, .sl .b (x.2.1.2.1.map Enc.b), .sl .b (x.2.1.2.2.1.map Enc.b)]]] [] (.bool (slotB x)) := by
  refine CallR.of_body (n := 11) (rs := [.tmp 2]) hY.ok Try.func84 rfl (by decide) rfl rfl rfl rfl (fun F => ?_)
  have fx := And.intro Y1 (And.intro Y3 (And.intro Y4 (And.intro Y34 (And.intro Y36 (Y38)))))
  have hC1 := cx [] (implObjOk_ok x.2.1 hx.2.1)
  have hC2 := cx [] (noObj_ok x.2.1)
  have fy := Nat.add_zero
  refine goK ?_ ?_ ?_ ?_ ?_ ?_ ?_ ?_ ?_ ?_ ?_ ?_ ?_ ?_ ?_ ?_
  any_goals (first | exact True.intro | skip)
  all_goals (repeat (refine Wh.mk fun hcc => ?_))
  all_goals (first | rfl | ((try simp only [tupOf, fixEs]); (first | done | rfl | (simp_all [slotB]; done) | grind [slotB])))
theorem view1_ok (x : (Bool × ((Int × (List Int) × (List Int) × Unit)) × Unit)) (hx : Enc.lim 1048576 x) : CallR Try.prog 132 [.nd [.bool x.1, .nd [.int .i64 x.2.1.1, .sl .b (x.2.1.2.1.map Enc.b), .sl .b (x.2.1.2.2.1.map Enc.b)]]] [] (.bool (!slotB x)) := by
  refine CallR.of_body (n := 6) (rs := [.tmp 2]) hY.ok Try.func132 rfl (by decide) rfl rfl rfl rfl (fun F => ?_)
  have fx := And.intro Y3 (And.intro Y4 (And.intro Y34 (And.intro Y36 (Y38))))
  have hC1 := cx [] (slotOk_ok x hx)
  have fy := Nat.add_zero
  refine goK ?_ ?_ ?_ ?_ ?_ ?_ ?_ ?_ ?_ ?_ ?_ ?_ ?_ ?_ ?_ ?_
  any_goals (first | exact True.intro | skip)
  all_goals (repeat (refine Wh.mk fun hcc => ?_))
  all_goals (first | rfl | ((try simp only [tupOf, fixEs]); (first | done | rfl | (simp_all []; done) | grind [])))
theorem idxSlot_ok (l : List ((Bool × ((Int × (List Int) × (List Int) × Unit)) × Unit))) (hl : Enc.lim 1048576 l) : CallR Try.prog 101 [.sl .b (l.map Enc.b), .fn 132 [] []] [] (.int .i64 (idxOf (fun x => !slotB x) l)) := by
  refine CallR.of_body (n := 19) (rs := [.tmp 4]) hY.ok Try.func101 rfl (by decide) rfl rfl rfl rfl (fun F => ?_)
  have fx := And.intro Y3 (And.intro Y4 (And.intro Y26 (And.intro Y34 (And.intro Y36 (And.intro Y38 (Y93))))))
  have hl1 : l.length ≤ 1048576 := hl.1
  have fy := Nat.add_zero
  refine goN ?_ ?_ ?_ ?_ ?_ ?_ ?_ ?_ ?_ ?_ ?_ ?_ ?_ ?_ ?_ ?_
  any_goals (first | exact True.intro | skip)
  skip
  refine SW.loop (fun i : Nat => ⟨[.sl .b (l.map Enc.b), .fn 132 [] [], .undef, .undef, .undef, .undef, .undef, .int .i64 l.length, .int .i64 i, .undef, .undef, .undef, .undef, .undef, .undef, .undef, .undef, .undef, .undef], [[]]⟩)
    (fun n i => n = l.length - i ∧ i ≤ l.length ∧ ∀ j (h : j < l.length), j < i → (fun x => !slotB x) l[j] = false) (n := l.length) (x := 0) (Norm.to 0 rfl (by simp [weakL])) ⟨rfl, Nat.zero_le _, fun j _ h => absurd h (Nat.not_lt_zero _)⟩ ?_
  rintro n i ⟨hn, hi, hp⟩
  have fy := Nat.add_zero
  refine goS ?_
  refine SW.cond rfl (fun hc => ?_) (fun hc => ?_)
  · have hlt : i < l.length := by simpa using hc
    have hg : (l.map Enc.b)[i]? = some (.nd [.bool l[i].1, .nd [.int .i64 l[i].2.1.1, .sl .b (l[i].2.1.2.1.map Enc.b), .sl .b (l[i].2.1.2.2.1.map Enc.b)]]) := map_get Enc.b l i hlt
    have hC1 := cx [] (view1_ok l[i] (hl.2 _ (List.getElem_mem hlt)))
    have fy := hg
    refine goK ?_ ?_ ?_ ?_ ?_ ?_ ?_ ?_ ?_ ?_ ?_ ?_ ?_ ?_ ?_ ?_
    any_goals (first | exact True.intro | skip)
    all_goals (repeat (refine Wh.mk fun hcc => ?_))
    · have hx := hcc
      have hx' : (fun x => !slotB x) l[i] = true := by simpa using hx
      simp only [tupOf, fixEs, idxOf_eq (fun x => !slotB x) l hlt hx' (fun j hj => hp j (by omega) hj)]
    · have hx := hcc
      have hx' : (fun x => !slotB x) l[i] = false := by simpa using hx
      refine ⟨n - 1, i + 1, by omega, ⟨by omega, by omega, fun j hj hji => ?_⟩, ?_⟩
      · by_cases he : j = i
        · subst he; exact hx'
        · exact hp j hj (by omega)
      · rw [wrap64 _ (by omega) (by omega)]
        first | exact Norm.to 0 rfl (by simp [weakL]) | exact Norm.to 1 rfl (by simp [weakL]) | exact Norm.to 2 rfl (by simp [weakL])
  · have hge : i = l.length := by
      have : ¬ i < l.length := by simpa using hc
      omega
    have fy := Nat.add_zero
    refine goK ?_ ?_ ?_ ?_ ?_ ?_ ?_ ?_ ?_ ?_ ?_ ?_ ?_ ?_ ?_ ?_
    any_goals (first | exact True.intro | skip)
    all_goals (repeat (refine Wh.mk fun hcc => ?_))
    simp only [tupOf, fixEs, idxOf_none (fun x => !slotB x) l (fun j hj => hp j hj (by omega))]
theorem anySlot_ok (l : List ((Bool × ((Int × (List Int) × (List Int) × Unit)) × Unit))) (hl : Enc.lim 1048576 l) : CallR Try.prog 95 [.sl .b (l.map Enc.b), .fn 132 [] []] [] (.bool (l.any (fun x => !slotB x))) := by
  refine CallR.of_body (n := 9) (rs := [.tmp 4]) hY.ok Try.func95 rfl (by decide) rfl rfl rfl rfl (fun F => ?_)
  have fx := And.intro Y3 (And.intro Y4 (And.intro Y26 (And.intro Y34 (And.intro Y36 (And.intro Y38 (Y93))))))
  have hC1 := cx [] (idxSlot_ok l hl)
  have fy := Nat.add_zero
  refine goK ?_ ?_ ?_ ?_ ?_ ?_ ?_ ?_ ?_ ?_ ?_ ?_ ?_ ?_ ?_ ?_
  any_goals (first | exact True.intro | skip)
  all_goals (repeat (refine Wh.mk fun hcc => ?_))
  all_goals simp only [tupOf, fixEs, ge_iff_le, idx_any]
theorem implViewOk_y (l : List ((Bool × ((Int × (List Int) × (List Int) × Unit)) × Unit))) (hl : Enc.lim 1048576 l) (h32 : l.length = 32) : CallR Try.prog 66 [.sl .b (l.map Enc.b)] [] (.bool (viewB l)) := by
  refine CallR.of_body (n := 17) (rs := [.tmp 2]) hY.ok Try.func66 rfl (by decide) rfl rfl rfl rfl (fun F => ?_)
  have fx := And.intro Y3 (And.intro Y4 (And.intro Y26 (And.intro Y34 (And.intro Y36 (And.intro Y38 (Y93))))))
  have hE : ((l.length : Int) == 32) = true := by simp [h32]
  have hlt : 0 < l.length := by omega
  have hI : (0 : Int) < (l.length : Int) := by omega
  have hg : (l.map Enc.b)[0]? = some (.nd [.bool l[0].1, .nd [.int .i64 l[0].2.1.1, .sl .b (l[0].2.1.2.1.map Enc.b), .sl .b (l[0].2.1.2.2.1.map Enc.b)]]) := map_get Enc.b l 0 hlt
  have hC1 := cx [] (noSlot_ok l[0])
  have hC2 := cx [] (anySlot_ok l hl)
  have fy := And.intro hE (And.intro hg (And.intro hI (hlt)))
  refine goK ?_ ?_ ?_ ?_ ?_ ?_ ?_ ?_ ?_ ?_ ?_ ?_ ?_ ?_ ?_ ?_
  any_goals (first | exact True.intro | skip)
  all_goals (repeat (refine Wh.mk fun hcc => ?_))
  all_goals (obtain ⟨s, l', rfl⟩ : ∃ s l', l = s :: l' := by cases l with | nil => simp at h32 | cons s l' => exact ⟨s, l', rfl⟩)
  all_goals (skip; try simp only [tupOf, fixEs]; first | trivial | (simp_all [viewB, any_not, slotB]; done) | grind [viewB, any_not, slotB])
theorem implViewOk_n (l : List ((Bool × ((Int × (List Int) × (List Int) × Unit)) × Unit))) (hl : Enc.lim 1048576 l) (h32 : ¬ l.length = 32) : CallR Try.prog 66 [.sl .b (l.map Enc.b)] [] (.bool (viewB l)) := by
  refine CallR.of_body (n := 17) (rs := [.tmp 2]) hY.ok Try.func66 rfl (by decide) rfl rfl rfl rfl (fun F => ?_)
  have fx := And.intro Y3 (And.intro Y4 (And.intro Y26 (And.intro Y34 (And.intro Y36 (And.intro Y38 (Y93))))))
  have hE : ((l.length : Int) == 32) = false := by 
    have : ¬ (l.length : Int) = 32 := by omega
    simp [this]
  have hC1 := cx [] (anySlot_ok l hl)
  have fy := hE
  refine goK ?_ ?_ ?_ ?_ ?_ ?_ ?_ ?_ ?_ ?_ ?_ ?_ ?_ ?_ ?_ ?_
  any_goals (first | exact True.intro | skip)
  all_goals (repeat (refine Wh.mk fun hcc => ?_))
  all_goals ((try simp only [tupOf, fixEs]); first | done | (simp_all [viewB]; done) | (exfalso; simp_all; done))
theorem implViewOk_ok (l : List ((Bool × ((Int × (List Int) × (List Int) × Unit)) × Unit))) (hl : Enc.lim 1048576 l) : CallR Try.prog 66 [.sl .b (l.map Enc.b)] [] (.bool (viewB l)) := by
  by_cases h : l.length = 32
  · exact implViewOk_y l hl h
  · exact implViewOk_n l hl h
end Q6

namespace Q6
open Go Go.Vm Go.Proofs
set_option maxHeartbeats 4000000
set_option synthInstance.maxSize 2000
set_option synthInstance.maxHeartbeats 400000
set_option maxRecDepth 10000
set_option linter.unusedSimpArgs false
set_option linter.unusedVariables false


def rng (a b c : Int) : Bool := decide (a ≥ b) && decide (a ≤ c)
def noSlotB (s : SlotT) : Bool := !s.1 && noObjB s.2.1
/-- one of a RecCheck's transactions, with the one ahead of it -/
def liveB (lsn : Int) (p : Option LiveT) (x : LiveT) : Bool := (rng x.1 1 1000 && rng x.2.1 1 (lsn - 1)) && (match p with | none => true | some q => decide (q.1 < x.1))
def livesL (lsn : Int) : Option LiveT → List LiveT → Bool
  | _, [] => true
  | p, x :: l => liveB lsn p x && livesL lsn (some x) l
def livesB (l : List LiveT) (lsn : Int) : Bool := livesL lsn none l && decide (l.length ≤ 20)
def recB (r : RecT) : Bool :=
  rng r.1 1 1000000 &&
  (if r.2.2.2.1 = 6 then ((((decide (r.2.1 = 0) && decide (r.2.2.1 = 0)) && (decide (r.2.2.2.2.1 = 0) && noSlotB r.2.2.2.2.2.1 && noSlotB r.2.2.2.2.2.2.1)) && decide (r.2.2.2.2.2.2.2.1 = 0)) && livesB r.2.2.2.2.2.2.2.2.1 r.1)
   else (rng r.2.1 1 1000 && rng r.2.2.1 0 (r.1 - 1) && decide (r.2.2.2.2.2.2.2.2.1.length = 0)) &&
    (if r.2.2.2.1 = 1 then rng r.2.2.2.2.1 1 31 && slotB r.2.2.2.2.2.1 && slotB r.2.2.2.2.2.2.1 && decide (r.2.2.2.2.2.2.2.1 = 0)
     else if r.2.2.2.1 = 4 then rng r.2.2.2.2.1 1 31 && noSlotB r.2.2.2.2.2.1 && slotB r.2.2.2.2.2.2.1 && rng r.2.2.2.2.2.2.2.1 0 (r.1 - 1)
     else if r.2.2.2.1 = 2 ∨ r.2.2.2.1 = 3 ∨ r.2.2.2.1 = 5 then (decide (r.2.2.2.2.1 = 0) && noSlotB r.2.2.2.2.2.1 && noSlotB r.2.2.2.2.2.2.1) && decide (r.2.2.2.2.2.2.2.1 = 0)
     else false))

theorem inR_ok (a b c : Int) : CallR Try.prog 79 [.int .i64 a, .int .i64 b, .int .i64 c] [] (.bool (rng a b c)) := in_ok a b c
theorem l1InR_ok (a b c : Int) : CallR Try.prog 75 [.int .i64 a, .int .i64 b, .int .i64 c] [] (.bool (rng a b c)) := l1In_ok a b c
theorem isTx_ok (a : Int) : CallR Try.prog 82 [.int .i64 a] [] (.bool (rng a 1 1000)) := by
  refine CallR.of_body (n := 5) (rs := [.tmp 2]) hY.ok Try.func82 rfl (by decide) rfl rfl rfl rfl (fun F => ?_)
  have fx := And.intro Y3 (Y4)
  have hG1 := fun u1 u2 u3 => in_ok u1 u2 u3
  have fy := Nat.add_zero
  refine goK ?_ ?_ ?_ ?_ ?_ ?_ ?_ ?_ ?_ ?_ ?_ ?_ ?_ ?_ ?_ ?_
  any_goals (first | exact True.intro | skip)
  all_goals (repeat (refine Wh.mk fun hcc => ?_))
  all_goals (first | rfl | ((try simp only [tupOf, fixEs]); (first | done | rfl | (simp_all []; done) | grind [])))
theorem spec_l2SameInts_ok (l m : List Int) (hl : Enc.lim 1048576 l) : CallR Try.prog 152 [.sl .b (l.map Enc.b), .sl .b (m.map Enc.b)] [] (.bool (decide (l = m))) := by
  refine CallR.of_body (n := 26) (rs := [.tmp 4]) hY.ok Try.func152 rfl (by decide) rfl rfl rfl rfl (fun F => ?_)
  have fx := And.intro Y3 (And.intro Y4 (Y34))
  have hl1 : l.length ≤ 1048576 := hl.1
  have fy := Nat.add_zero
  refine goS ?_
  refine SW.cond rfl (fun hc => ?_) (fun hc => ?_)
  · have hne : ¬ l = m := by intro e; subst e; simp at hc
    have fy := Nat.add_zero
    refine goK ?_ ?_ ?_ ?_ ?_ ?_ ?_ ?_ ?_ ?_ ?_ ?_ ?_ ?_ ?_ ?_
    any_goals (first | exact True.intro | skip)
    all_goals (repeat (refine Wh.mk fun hcc => ?_))
    simp [tupOf, fixEs, hne]
  have hlen : l.length = m.length := by have : (l.length : Int) = m.length := by simpa using hc
                                        omega
  refine SW.skip ?_
  simp only [thenS]
  have fy := Nat.add_zero
  refine goN ?_ ?_ ?_ ?_ ?_ ?_ ?_ ?_ ?_ ?_ ?_ ?_ ?_ ?_ ?_ ?_
  any_goals (first | exact True.intro | skip)
  skip
  refine SW.loop (fun i : Nat => ⟨[.sl .b (l.map Enc.b), .sl .b (m.map Enc.b), .undef, .undef, .undef, .int .i64 i, .undef, .undef, .undef, .undef, .undef, .undef, .undef, .undef, .undef, .undef, .undef, .undef, .undef, .undef, .undef, .undef, .undef, .undef, .undef, .undef], [[]]⟩)
    (fun n i => n = l.length - i ∧ i ≤ l.length ∧ ∀ j (h : j < l.length), j < i → l[j] = m[j]'(by omega)) (n := l.length) (x := 0) (Norm.to 0 rfl (by simp [weakL])) ⟨rfl, Nat.zero_le _, fun j _ h => absurd h (Nat.not_lt_zero _)⟩ ?_
  rintro n i ⟨hn, hi, hp⟩
  have fy := Nat.add_zero
  refine goS ?_
  refine SW.cond rfl (fun hc => ?_) (fun hc => ?_)
  · have hlt : i < l.length := by simpa using hc
    have hlt' : i < m.length := by omega
    have hgl : (l.map Enc.b)[i]? = some (.int .i64 l[i]) := map_get Enc.b l i hlt
    have hgm : (m.map Enc.b)[i]? = some (.int .i64 m[i]) := map_get Enc.b m i hlt'
    have fy := And.intro hgl (hgm)
    refine goK ?_ ?_ ?_ ?_ ?_ ?_ ?_ ?_ ?_ ?_ ?_ ?_ ?_ ?_ ?_ ?_
    any_goals (first | exact True.intro | skip)
    all_goals (repeat (refine Wh.mk fun hcc => ?_))
    · have hx := hcc
      have hne : ¬ l[i] = m[i] := by intro e; simp [e] at hx
      have hlm : ¬ l = m := by intro e; subst e; exact hne rfl
      simp [tupOf, fixEs, hlm]
    · have hx := hcc
      have hx' : l[i] = m[i] := by first | (simpa using hx; done) | (apply UInt8.toNat_inj.1; simp at hx; omega)
      refine ⟨n - 1, i + 1, by omega, ⟨by omega, by omega, fun j hj hji => ?_⟩, ?_⟩
      · by_cases he : j = i
        · subst he; exact hx'
        · exact hp j hj (by omega)
      · rw [wrap64 _ (by omega) (by omega)]
        first | exact Norm.to 0 rfl (by simp [weakL]) | exact Norm.to 1 rfl (by simp [weakL])
  · have hge : i = l.length := by
      have : ¬ i < l.length := by simpa using hc
      omega
    have hlm : l = m := List.ext_getElem hlen fun j h1 h2 => hp j h1 (by omega)
    have fy := Nat.add_zero
    refine goK ?_ ?_ ?_ ?_ ?_ ?_ ?_ ?_ ?_ ?_ ?_ ?_ ?_ ?_ ?_ ?_
    any_goals (first | exact True.intro | skip)
    all_goals (repeat (refine Wh.mk fun hcc => ?_))
    simp [tupOf, fixEs, hlm]
theorem sSameObj_ok (x y : ObjT) (hx : Enc.lim 1048576 x) : CallR Try.prog 100 [.nd [.int .i64 x.1, .sl .b (x.2.1.map Enc.b), .sl .b (x.2.2.1.map Enc.b)], .nd [.int .i64 y.1, .sl .b (y.2.1.map Enc.b), .sl .b (y.2.2.1.map Enc.b)]] [] (.bool (decide (x = y))) := by
  refine CallR.of_body (n := 24) (rs := [.tmp 4]) hY.ok Try.func100 rfl (by decide) rfl rfl rfl rfl (fun F => ?_)
  have fx := And.intro Y1 (And.intro Y2 (And.intro Y3 (And.intro Y4 (And.intro Y34 (Y36)))))
  have hC1 := cx [] (spec_l2SameInts_ok x.2.1 y.2.1 hx.2.1)
  have hC2 := cx [] (spec_l2SameInts_ok x.2.2.1 y.2.2.1 hx.2.2.1)
  have fy := Nat.add_zero
  refine goK ?_ ?_ ?_ ?_ ?_ ?_ ?_ ?_ ?_ ?_ ?_ ?_ ?_ ?_ ?_ ?_
  any_goals (first | exact True.intro | skip)
  all_goals (repeat (refine Wh.mk fun hcc => ?_))
  all_goals (obtain ⟨a, b, c, ⟨⟩⟩ := x; obtain ⟨a', b', c', ⟨⟩⟩ := y; (try simp only [tupOf, fixEs]); by_cases h1 : a = a' <;> by_cases h2 : b = b' <;> by_cases h3 : c = c' <;> simp_all)
theorem sSameSlot_ok (x y : SlotT) (hx : Enc.lim 1048576 x) : CallR Try.prog 139 [.nd [.bool x.1, .nd [.int .i64 x.2.1.1, .sl .b (x.2.1.2.1.map Enc.b), .sl .b (x.2.1.2.2.1.map Enc.b)]], .nd [.bool y.1, .nd [.int .i64 y.2.1.1, .sl .b (y.2.1.2.1.map Enc.b), .sl .b (y.2.1.2.2.1.map Enc.b)]]] [] (.bool (decide (x = y))) := by
  refine CallR.of_body (n := 17) (rs := [.tmp 4]) hY.ok Try.func139 rfl (by decide) rfl rfl rfl rfl (fun F => ?_)
  have fx := And.intro Y1 (And.intro Y3 (And.intro Y4 (And.intro Y34 (And.intro Y36 (Y38)))))
  have hC1 := cx [] (sSameObj_ok x.2.1 y.2.1 hx.2.1)
  have fy := Nat.add_zero
  refine goK ?_ ?_ ?_ ?_ ?_ ?_ ?_ ?_ ?_ ?_ ?_ ?_ ?_ ?_ ?_ ?_
  any_goals (first | exact True.intro | skip)
  all_goals (repeat (refine Wh.mk fun hcc => ?_))
  all_goals (obtain ⟨a, b, ⟨⟩⟩ := x; obtain ⟨a', b', ⟨⟩⟩ := y; (try simp only [tupOf, fixEs]); by_cases h1 : a = a' <;> by_cases h2 : b = b' <;> simp_all)
end Q6

namespace Q6
open Go Go.Vm Go.Proofs
set_option maxHeartbeats 4000000
set_option synthInstance.maxSize 2000
set_option synthInstance.maxHeartbeats 400000
set_option maxRecDepth 10000
set_option linter.unusedSimpArgs false
set_option linter.unusedVariables false


def pvL (l : List LiveT) (i : Nat) : Option LiveT := if i = 0 then none else l[i - 1]?
theorem pvL_zero (l : List LiveT) : pvL l 0 = none := rfl
theorem pvL_succ (l : List LiveT) (i : Nat) (h : i < l.length) : pvL l (i + 1) = some l[i] := by unfold pvL; rw [if_neg (by omega), Nat.add_sub_cancel, List.getElem?_eq_getElem h]
theorem pvL_pos (l : List LiveT) (i : Nat) (h : i < l.length) (h0 : ¬ i = 0) : pvL l i = some (l[i - 1]'(by omega)) := by unfold pvL; rw [if_neg h0, List.getElem?_eq_getElem (by omega)]


theorem live_get (l : List LiveT) (i : Nat) (h : i < l.length) : (l.map Enc.b)[i]? = some (.nd [.int .i64 l[i].1, .int .i64 l[i].2.1, .bool l[i].2.2.1]) := map_get Enc.b l i h

theorem livesOk_ok (l : List LiveT) (lsn : Int) (hl : l.length ≤ 1048576) (h1 : 1 ≤ lsn) (h2 : lsn ≤ 1000000) : CallR Try.prog 81 [.sl .b (l.map Enc.b), .int .i64 lsn] [] (.bool (livesB l lsn)) := by
  refine CallR.of_body (n := 45) (rs := [.tmp 4]) hY.ok Try.func81 rfl (by decide) rfl rfl rfl rfl (fun F => ?_)
  have fx := And.intro Y1 (And.intro Y3 (And.intro Y4 (And.intro Y39 (Y91))))
  have hwl : IntKind.i64.wrap (lsn - 1) = lsn - 1 := wrap64 _ (by omega) (by omega)
  have fy := Nat.add_zero
  refine goN ?_ ?_ ?_ ?_ ?_ ?_ ?_ ?_ ?_ ?_ ?_ ?_ ?_ ?_ ?_ ?_
  any_goals (first | exact True.intro | skip)
  skip
  refine SW.loop (fun i : Nat => ⟨[.sl .b (l.map Enc.b), .int .i64 lsn, .undef, .undef, .undef, .undef, .undef, .sl .b (l.map Enc.b), .int .i64 l.length, .int .i64 i, .undef, .undef, .undef, .undef, .undef, .undef, .undef, .undef, .undef, .undef, .undef, .undef, .undef, .undef, .undef, .undef, .undef, .undef, .undef, .undef, .undef, .undef, .undef, .undef, .undef, .undef, .undef, .undef, .undef, .undef, .undef, .undef, .undef, .undef, .undef], [[]]⟩)
    (fun n i => n = l.length - i ∧ i ≤ l.length ∧ livesL lsn (pvL l i) (l.drop i) = livesL lsn none l) (n := l.length) (x := 0) (Norm.re [0] (by decide) rfl (by first | (simp only [eq_self, heapFits, rowFits, obFits, List.getElem?_cons_zero, List.getElem?_cons_succ, renL_o, renL_b, true_and, and_true, and_self]; done) | simp [-List.map_append, heapFits, rowFits, obFits, T.ren, renL]) (by simp [tmFits, T.ren])) ⟨rfl, Nat.zero_le _, rfl⟩ ?_
  rintro n i ⟨hn, hi, hfd⟩
  have fy := Nat.add_zero
  refine goS ?_
  refine SW.cond rfl (fun hc => ?_) (fun hc => ?_)
  · have hlt : i < l.length := by simpa using hc
    have hg := live_get l i hlt
    have hltI : (i : Int) < (l.length : Int) := by omega
    rw [List.drop_eq_getElem_cons hlt, livesL] at hfd
    have hA := isTx_ok l[i].1
    have hB := inR_ok l[i].2.1 1 (lsn - 1)
    have hcon : ∀ b, liveB lsn (pvL l i) l[i] = b → (b = false → livesB l lsn = false) := fun b hb h => by subst h; rw [hb] at hfd; unfold livesB; rw [← hfd]; rfl
    have hgo : liveB lsn (pvL l i) l[i] = true → livesL lsn (pvL l (i + 1)) (l.drop (i + 1)) = livesL lsn none l := fun hb => by rw [hb, Bool.true_and] at hfd; rw [pvL_succ l i hlt]; exact hfd
    have hlb : liveB lsn (pvL l i) l[i] = ((rng l[i].1 1 1000 && rng l[i].2.1 1 (lsn - 1)) && (match pvL l i with | none => true | some q => decide (q.1 < l[i].1))) := rfl
    have hz : (i = 0 ∧ decide ((i : Int) > 0) = false ∧ (match pvL l i with | none => true | some q => decide (q.1 < l[i].1)) = true) ∨ (¬ i = 0 ∧ decide ((i : Int) > 0) = true) := by
      by_cases h : i = 0
      · subst h; exact .inl ⟨rfl, rfl, rfl⟩
      · exact .inr ⟨h, by simp; omega⟩
    cases hAv : rng l[i].1 1 1000
    · rw [hAv] at hA
      have hC1 := cx [] (hA)
      have hC2 := cx [] (hB)
      have fy := And.intro hg (And.intro hltI (hwl))
      refine goK ?_ ?_ ?_ ?_ ?_ ?_ ?_ ?_ ?_ ?_ ?_ ?_ ?_ ?_ ?_ ?_
      any_goals (first | exact True.intro | skip)
      all_goals (repeat (refine Wh.mk fun hcc => ?_))
      all_goals (simp only [tupOf, fixEs]; rw [hcon _ rfl (by rw [hlb]; simp_all)])
    · rw [hAv] at hA
      cases hBv : rng l[i].2.1 1 (lsn - 1)
      · rw [hBv] at hB
        have hC1 := cx [] (hA)
        have hC2 := cx [] (hB)
        have fy := And.intro hg (And.intro hltI (hwl))
        refine goK ?_ ?_ ?_ ?_ ?_ ?_ ?_ ?_ ?_ ?_ ?_ ?_ ?_ ?_ ?_ ?_
        any_goals (first | exact True.intro | skip)
        all_goals (repeat (refine Wh.mk fun hcc => ?_))
        all_goals (simp only [tupOf, fixEs]; rw [hcon _ rfl (by rw [hlb]; simp_all)])
      · rw [hBv] at hB
        rcases hz with ⟨hi0, hzd, hzm⟩ | ⟨hi0, hzd⟩
        · skip
          have hC1 := cx [] (hA)
          have hC2 := cx [] (hB)
          have fy := And.intro hg (And.intro hltI (And.intro hwl (hzd)))
          refine goK ?_ ?_ ?_ ?_ ?_ ?_ ?_ ?_ ?_ ?_ ?_ ?_ ?_ ?_ ?_ ?_
          any_goals (first | exact True.intro | skip)
          all_goals (repeat (refine Wh.mk fun hcc => ?_))
          all_goals (refine ⟨n - 1, i + 1, by omega, ⟨by omega, by omega, hgo (by rw [hlb]; simp_all)⟩, ?_⟩; rw [wrap64 _ (by omega) (by omega)]; exact Norm.re [0] (by decide) rfl (by first | (simp only [eq_self, heapFits, rowFits, obFits, List.getElem?_cons_zero, List.getElem?_cons_succ, renL_o, renL_b, true_and, and_true, and_self]; done) | simp [-List.map_append, heapFits, rowFits, obFits, T.ren, renL]) (by simp [tmFits, T.ren]))
        · have hgp : (l.map Enc.b)[i - 1]? = some (.nd [.int .i64 (((l[i - 1]'(by omega))).1), .int .i64 (((l[i - 1]'(by omega))).2.1), .bool (((l[i - 1]'(by omega))).2.2.1)]) := map_get Enc.b l (i - 1) (by omega)
          have hwi : IntKind.i64.wrap ((i : Int) - 1) = ((i - 1 : Nat) : Int) := by rw [wrap64 _ (by omega) (by omega)]; omega
          have hpI : ((i - 1 : Nat) : Int) < (l.length : Int) := by omega
          have hpm : (match pvL l i with | none => true | some q => decide (q.1 < l[i].1)) = decide ((l[i - 1]'(by omega)).1 < l[i].1) := by rw [pvL_pos l i hlt hi0]
          rw [hpm] at hlb
          by_cases hC : (l[i - 1]'(by omega)).1 < l[i].1
          · have hCd : decide ((l[i - 1]'(by omega)).1 ≥ l[i].1) = false := by simp; omega
            have hC1 := cx [] (hA)
            have hC2 := cx [] (hB)
            have fy := And.intro hg (And.intro hltI (And.intro hwl (And.intro hzd (And.intro hgp (And.intro hwi (And.intro hpI (hCd)))))))
            refine goK ?_ ?_ ?_ ?_ ?_ ?_ ?_ ?_ ?_ ?_ ?_ ?_ ?_ ?_ ?_ ?_
            any_goals (first | exact True.intro | skip)
            all_goals (repeat (refine Wh.mk fun hcc => ?_))
            all_goals (refine ⟨n - 1, i + 1, by omega, ⟨by omega, by omega, hgo (by rw [hlb]; simp_all)⟩, ?_⟩; rw [wrap64 _ (by omega) (by omega)]; exact Norm.re [0] (by decide) rfl (by first | (simp only [eq_self, heapFits, rowFits, obFits, List.getElem?_cons_zero, List.getElem?_cons_succ, renL_o, renL_b, true_and, and_true, and_self]; done) | simp [-List.map_append, heapFits, rowFits, obFits, T.ren, renL]) (by simp [tmFits, T.ren]))
          · have hCd : decide ((l[i - 1]'(by omega)).1 ≥ l[i].1) = true := by simp; omega
            have hC1 := cx [] (hA)
            have hC2 := cx [] (hB)
            have fy := And.intro hg (And.intro hltI (And.intro hwl (And.intro hzd (And.intro hgp (And.intro hwi (And.intro hpI (hCd)))))))
            refine goK ?_ ?_ ?_ ?_ ?_ ?_ ?_ ?_ ?_ ?_ ?_ ?_ ?_ ?_ ?_ ?_
            any_goals (first | exact True.intro | skip)
            all_goals (repeat (refine Wh.mk fun hcc => ?_))
            all_goals (simp only [tupOf, fixEs]; rw [hcon _ rfl (by rw [hlb]; simp_all)])
  · have hge : i = l.length := by
      have : ¬ i < l.length := by simpa using hc
      omega
    subst hge
    rw [List.drop_length] at hfd
    have hlv : livesB l lsn = decide ((l.length : Int) ≤ 20) := by
      unfold livesB; rw [← hfd]; simp only [livesL, Bool.true_and]; exact decide_eq_decide.2 (by omega)
    have fy := Nat.add_zero
    refine goK ?_ ?_ ?_ ?_ ?_ ?_ ?_ ?_ ?_ ?_ ?_ ?_ ?_ ?_ ?_ ?_
    any_goals (first | exact True.intro | skip)
    all_goals (repeat (refine Wh.mk fun hcc => ?_))
    all_goals simp only [tupOf, fixEs, hlv]
theorem l4Lives_ok (l : List LiveT) (lsn : Int) (a2 a3 a4 a5 a8 : Int) (s1 s2 : SlotT) (hl : l.length ≤ 1048576) (h1 : 1 ≤ lsn) (h2 : lsn ≤ 1000000) : CallR Try.prog 78 [.nd [.int .i64 lsn, .int .i64 a2, .int .i64 a3, .int .i64 a4, .int .i64 a5, .nd [.bool s1.1, .nd [.int .i64 s1.2.1.1, .sl .b (s1.2.1.2.1.map Enc.b), .sl .b (s1.2.1.2.2.1.map Enc.b)]], .nd [.bool s2.1, .nd [.int .i64 s2.2.1.1, .sl .b (s2.2.1.2.1.map Enc.b), .sl .b (s2.2.1.2.2.1.map Enc.b)]], .int .i64 a8, .sl .b (l.map Enc.b)]] [] (.bool (livesB l lsn)) := by
  refine CallR.of_body (n := 56) (rs := [.tmp 2]) hY.ok Try.func78 rfl (by decide) rfl rfl rfl rfl (fun F => ?_)
  have fx := And.intro Y1 (And.intro Y2 (And.intro Y3 (And.intro Y4 (And.intro Y6 (And.intro Y8 (And.intro Y34 (And.intro Y36 (And.intro Y38 (And.intro Y39 (And.intro Y41 (Y91)))))))))))
  have hwl : IntKind.i64.wrap (lsn - 1) = lsn - 1 := wrap64 _ (by omega) (by omega)
  have fy := Nat.add_zero
  refine goN ?_ ?_ ?_ ?_ ?_ ?_ ?_ ?_ ?_ ?_ ?_ ?_ ?_ ?_ ?_ ?_
  any_goals (first | exact True.intro | skip)
  skip
  refine SW.loop (fun i : Nat => ⟨[.undef, .ptr 1 0 [] 0, .undef, .int .i64 i, .undef, .undef, .undef, .undef, .undef, .undef, .undef, .undef, .undef, .undef, .undef, .undef, .undef, .undef, .undef, .undef, .undef, .undef, .undef, .undef, .undef, .undef, .undef, .undef, .undef, .undef, .undef, .undef, .undef, .undef, .undef, .undef, .undef, .undef, .undef, .undef, .undef, .undef, .undef, .undef, .undef, .undef, .undef, .undef, .undef, .undef, .undef, .undef, .undef, .undef, .undef, .undef], [[], [.var (.nd [.int .i64 lsn, .int .i64 a2, .int .i64 a3, .int .i64 a4, .int .i64 a5, .nd [.bool s1.1, .nd [.int .i64 s1.2.1.1, .sl .b (s1.2.1.2.1.map Enc.b), .sl .b (s1.2.1.2.2.1.map Enc.b)]], .nd [.bool s2.1, .nd [.int .i64 s2.2.1.1, .sl .b (s2.2.1.2.1.map Enc.b), .sl .b (s2.2.1.2.2.1.map Enc.b)]], .int .i64 a8, .sl .b (l.map Enc.b)])]]⟩)
    (fun n i => n = l.length - i ∧ i ≤ l.length ∧ livesL lsn (pvL l i) (l.drop i) = livesL lsn none l) (n := l.length) (x := 0) (Norm.re [0, 1] (by decide) rfl (by first | (simp only [eq_self, heapFits, rowFits, obFits, List.getElem?_cons_zero, List.getElem?_cons_succ, renL_o, renL_b, true_and, and_true, and_self]; done) | simp [-List.map_append, heapFits, rowFits, obFits, T.ren, renL]) (by simp [tmFits, T.ren])) ⟨rfl, Nat.zero_le _, rfl⟩ ?_
  rintro n i ⟨hn, hi, hfd⟩
  have fy := Nat.add_zero
  refine goS ?_
  refine SW.cond rfl (fun hc => ?_) (fun hc => ?_)
  · have hlt : i < l.length := by simpa using hc
    have hg := live_get l i hlt
    have hltI : (i : Int) < (l.length : Int) := by omega
    rw [List.drop_eq_getElem_cons hlt, livesL] at hfd
    have hA := l1InR_ok l[i].1 1 1000
    have hB := l1InR_ok l[i].2.1 1 (lsn - 1)
    have hcon : ∀ b, liveB lsn (pvL l i) l[i] = b → (b = false → livesB l lsn = false) := fun b hb h => by subst h; rw [hb] at hfd; unfold livesB; rw [← hfd]; rfl
    have hgo : liveB lsn (pvL l i) l[i] = true → livesL lsn (pvL l (i + 1)) (l.drop (i + 1)) = livesL lsn none l := fun hb => by rw [hb, Bool.true_and] at hfd; rw [pvL_succ l i hlt]; exact hfd
    have hlb : liveB lsn (pvL l i) l[i] = ((rng l[i].1 1 1000 && rng l[i].2.1 1 (lsn - 1)) && (match pvL l i with | none => true | some q => decide (q.1 < l[i].1))) := rfl
    have hz : (i = 0 ∧ decide ((i : Int) > 0) = false ∧ (match pvL l i with | none => true | some q => decide (q.1 < l[i].1)) = true) ∨ (¬ i = 0 ∧ decide ((i : Int) > 0) = true) := by
      by_cases h : i = 0
      · subst h; exact .inl ⟨rfl, rfl, rfl⟩
      · exact .inr ⟨h, by simp; omega⟩
    cases hAv : rng l[i].1 1 1000
    · rw [hAv] at hA
      have hC1 := cx [] (hA)
      have hC2 := cx [] (hB)
      have fy := And.intro hg (And.intro hltI (hwl))
      refine goK ?_ ?_ ?_ ?_ ?_ ?_ ?_ ?_ ?_ ?_ ?_ ?_ ?_ ?_ ?_ ?_
      any_goals (first | exact True.intro | skip)
      all_goals (repeat (refine Wh.mk fun hcc => ?_))
      all_goals (simp only [tupOf, fixEs]; rw [hcon _ rfl (by rw [hlb]; simp_all)])
    · rw [hAv] at hA
      cases hBv : rng l[i].2.1 1 (lsn - 1)
      · rw [hBv] at hB
        have hC1 := cx [] (hA)
        have hC2 := cx [] (hB)
        have fy := And.intro hg (And.intro hltI (hwl))
        refine goK ?_ ?_ ?_ ?_ ?_ ?_ ?_ ?_ ?_ ?_ ?_ ?_ ?_ ?_ ?_ ?_
        any_goals (first | exact True.intro | skip)
        all_goals (repeat (refine Wh.mk fun hcc => ?_))
        all_goals (simp only [tupOf, fixEs]; rw [hcon _ rfl (by rw [hlb]; simp_all)])
      · rw [hBv] at hB
        rcases hz with ⟨hi0, hzd, hzm⟩ | ⟨hi0, hzd⟩
        · skip
          have hC1 := cx [] (hA)
          have hC2 := cx [] (hB)
          have fy := And.intro hg (And.intro hltI (And.intro hwl (hzd)))
          refine goK ?_ ?_ ?_ ?_ ?_ ?_ ?_ ?_ ?_ ?_ ?_ ?_ ?_ ?_ ?_ ?_
          any_goals (first | exact True.intro | skip)
          all_goals (repeat (refine Wh.mk fun hcc => ?_))
          all_goals (refine ⟨n - 1, i + 1, by omega, ⟨by omega, by omega, hgo (by rw [hlb]; simp_all)⟩, ?_⟩; rw [wrap64 _ (by omega) (by omega)]; exact Norm.re [0, 1] (by decide) rfl (by first | (simp only [eq_self, heapFits, rowFits, obFits, List.getElem?_cons_zero, List.getElem?_cons_succ, renL_o, renL_b, true_and, and_true, and_self]; done) | simp [-List.map_append, heapFits, rowFits, obFits, T.ren, renL]) (by simp [tmFits, T.ren]))
        · have hgp : (l.map Enc.b)[i - 1]? = some (.nd [.int .i64 (((l[i - 1]'(by omega))).1), .int .i64 (((l[i - 1]'(by omega))).2.1), .bool (((l[i - 1]'(by omega))).2.2.1)]) := map_get Enc.b l (i - 1) (by omega)
          have hwi : IntKind.i64.wrap ((i : Int) - 1) = ((i - 1 : Nat) : Int) := by rw [wrap64 _ (by omega) (by omega)]; omega
          have hpI : ((i - 1 : Nat) : Int) < (l.length : Int) := by omega
          have hpm : (match pvL l i with | none => true | some q => decide (q.1 < l[i].1)) = decide ((l[i - 1]'(by omega)).1 < l[i].1) := by rw [pvL_pos l i hlt hi0]
          rw [hpm] at hlb
          by_cases hC : (l[i - 1]'(by omega)).1 < l[i].1
          · have hCd : decide ((l[i - 1]'(by omega)).1 ≥ l[i].1) = false := by simp; omega
            have hC1 := cx [] (hA)
            have hC2 := cx [] (hB)
            have fy := And.intro hg (And.intro hltI (And.intro hwl (And.intro hzd (And.intro hgp (And.intro hwi (And.intro hpI (hCd)))))))
            refine goK ?_ ?_ ?_ ?_ ?_ ?_ ?_ ?_ ?_ ?_ ?_ ?_ ?_ ?_ ?_ ?_
            any_goals (first | exact True.intro | skip)
            all_goals (repeat (refine Wh.mk fun hcc => ?_))
            all_goals (refine ⟨n - 1, i + 1, by omega, ⟨by omega, by omega, hgo (by rw [hlb]; simp_all)⟩, ?_⟩; rw [wrap64 _ (by omega) (by omega)]; exact Norm.re [0, 1] (by decide) rfl (by first | (simp only [eq_self, heapFits, rowFits, obFits, List.getElem?_cons_zero, List.getElem?_cons_succ, renL_o, renL_b, true_and, and_true, and_self]; done) | simp [-List.map_append, heapFits, rowFits, obFits, T.ren, renL]) (by simp [tmFits, T.ren]))
          · have hCd : decide ((l[i - 1]'(by omega)).1 ≥ l[i].1) = true := by simp; omega
            have hC1 := cx [] (hA)
            have hC2 := cx [] (hB)
            have fy := And.intro hg (And.intro hltI (And.intro hwl (And.intro hzd (And.intro hgp (And.intro hwi (And.intro hpI (hCd)))))))
            refine goK ?_ ?_ ?_ ?_ ?_ ?_ ?_ ?_ ?_ ?_ ?_ ?_ ?_ ?_ ?_ ?_
            any_goals (first | exact True.intro | skip)
            all_goals (repeat (refine Wh.mk fun hcc => ?_))
            all_goals (simp only [tupOf, fixEs]; rw [hcon _ rfl (by rw [hlb]; simp_all)])
  · have hge : i = l.length := by
      have : ¬ i < l.length := by simpa using hc
      omega
    subst hge
    rw [List.drop_length] at hfd
    have hlv : livesB l lsn = decide ((l.length : Int) ≤ 20) := by
      unfold livesB; rw [← hfd]; simp only [livesL, Bool.true_and]; exact decide_eq_decide.2 (by omega)
    have fy := Nat.add_zero
    refine goK ?_ ?_ ?_ ?_ ?_ ?_ ?_ ?_ ?_ ?_ ?_ ?_ ?_ ?_ ?_ ?_
    any_goals (first | exact True.intro | skip)
    all_goals (repeat (refine Wh.mk fun hcc => ?_))
    all_goals simp only [tupOf, fixEs, hlv]
end Q6

namespace Q6
open Go Go.Vm Go.Proofs
set_option maxHeartbeats 4000000
set_option synthInstance.maxSize 2000
set_option synthInstance.maxHeartbeats 400000
set_option maxRecDepth 10000
set_option linter.unusedSimpArgs false
set_option linter.unusedVariables false


def slot0 : SlotT := (false, (0, [], [], ()), ())
theorem noSlot_eq (s : SlotT) : decide (s = slot0) = noSlotB s := by
  obtain ⟨b, ⟨k, i, r, u⟩, u'⟩ := s
  unfold noSlotB noObjB slot0
  simp only [Prod.mk.injEq, List.length_eq_zero_iff, and_true]
  cases b <;> simp [Bool.and_assoc]
theorem sNoSlot_ok (s : SlotT) (hs : Enc.lim 1048576 s) : CallR Try.prog 139 [.nd [.bool s.1, .nd [.int .i64 s.2.1.1, .sl .b (s.2.1.2.1.map Enc.b), .sl .b (s.2.1.2.2.1.map Enc.b)]], .nd [.bool false, .nd [.int .i64 0, .sl .b [], .sl .b []]]] [] (.bool (noSlotB s)) := by
  rw [← noSlot_eq]; exact sSameSlot_ok s slot0 hs
def z6 (x : RecT) : Bool := ((((decide (x.2.1 = 0) && decide (x.2.2.1 = 0)) && (decide (x.2.2.2.2.1 = 0) && noSlotB x.2.2.2.2.2.2.1)) && noSlotB x.2.2.2.2.2.1) && decide (x.2.2.2.2.2.2.2.1 = 0))
def z1 (x : RecT) : Bool := decide (x.2.2.2.2.2.2.2.1 = 0) && decide (x.2.2.2.2.2.2.2.2.1.length = 0)
def z4 (x : RecT) : Bool := noSlotB x.2.2.2.2.2.1 && decide (x.2.2.2.2.2.2.2.2.1.length = 0)
def z2 (x : RecT) : Bool := (((decide (x.2.2.2.2.1 = 0) && noSlotB x.2.2.2.2.2.2.1) && noSlotB x.2.2.2.2.2.1) && decide (x.2.2.2.2.2.2.2.1 = 0)) && decide (x.2.2.2.2.2.2.2.2.1.length = 0)

theorem l4Zero_z6 (x : RecT) (hx : Enc.lim 1048576 x) : CallR Try.prog 77 [.nd [.int .i64 x.1, .int .i64 x.2.1, .int .i64 x.2.2.1, .int .i64 x.2.2.2.1, .int .i64 x.2.2.2.2.1, .nd [.bool x.2.2.2.2.2.1.1, .nd [.int .i64 x.2.2.2.2.2.1.2.1.1, .sl .b (x.2.2.2.2.2.1.2.1.2.1.map Enc.b), .sl .b (x.2.2.2.2.2.1.2.1.2.2.1.map Enc.b)]], .nd [.bool x.2.2.2.2.2.2.1.1, .nd [.int .i64 x.2.2.2.2.2.2.1.2.1.1, .sl .b (x.2.2.2.2.2.2.1.2.1.2.1.map Enc.b), .sl .b (x.2.2.2.2.2.2.1.2.1.2.2.1.map Enc.b)]], .int .i64 x.2.2.2.2.2.2.2.1, .sl .b (x.2.2.2.2.2.2.2.2.1.map Enc.b)], .bool false, .bool false, .bool false, .bool false, .bool true] [] (.bool (z6 x)) := by
  refine CallR.of_body (n := 66) (rs := [.tmp 12]) hY.ok Try.func77 rfl (by decide) rfl rfl rfl rfl (fun F => ?_)
  have fx := And.intro Y1 (And.intro Y2 (And.intro Y3 (And.intro Y4 (And.intro Y5 (And.intro Y6 (And.intro Y7 (And.intro Y8 (And.intro Y34 (And.intro Y36 (And.intro Y38 (And.intro Y39 (And.intro Y41 (Y91)))))))))))))
  have hA := sNoSlot_ok x.2.2.2.2.2.2.1 hx.2.2.2.2.2.2.1
  have hB := sNoSlot_ok x.2.2.2.2.2.1 hx.2.2.2.2.2.1
  have hq1 : (x.2.1 == 0) = decide (x.2.1 = 0) := rfl
  have hq2 : (x.2.2.1 == 0) = decide (x.2.2.1 = 0) := rfl
  have hq3 : (x.2.2.2.2.1 == 0) = decide (x.2.2.2.2.1 = 0) := rfl
  have hq4 : (x.2.2.2.2.2.2.2.1 == 0) = decide (x.2.2.2.2.2.2.2.1 = 0) := rfl
  have hq5 : ((x.2.2.2.2.2.2.2.2.1.length : Int) == 0) = decide (x.2.2.2.2.2.2.2.2.1.length = 0) := by
    by_cases h : x.2.2.2.2.2.2.2.2.1.length = 0
    · simp [h]
    · have : ¬ (x.2.2.2.2.2.2.2.2.1.length : Int) = 0 := by omega
      rw [beq_eq_false_iff_ne.2 this]; simp [h]
  unfold z6
  generalize noSlotB x.2.2.2.2.2.2.1 = sa at *
  generalize noSlotB x.2.2.2.2.2.1 = sb at *
  generalize decide (x.2.1 = 0) = d1 at *
  generalize decide (x.2.2.1 = 0) = d2 at *
  generalize decide (x.2.2.2.2.1 = 0) = d3 at *
  generalize decide (x.2.2.2.2.2.2.2.1 = 0) = d4 at *
  generalize decide (x.2.2.2.2.2.2.2.2.1.length = 0) = d5 at *
  have hC1 := cx [] (hA)
  have hC2 := cx [] (hB)
  have fy := And.intro hq1 (And.intro hq2 (And.intro hq3 (And.intro hq4 (hq5))))
  refine goK ?_ ?_ ?_ ?_ ?_ ?_ ?_ ?_ ?_ ?_ ?_ ?_ ?_ ?_ ?_ ?_
  any_goals (first | exact True.intro | skip)
  all_goals (repeat (refine Wh.mk fun hcc => ?_))
  all_goals (first | rfl | ((try simp only [tupOf, fixEs]); (first | done | (revert d1 d2 d3 d4 d5 sa sb; decide) | (simp_all; done) | grind)))
theorem l4Zero_z1 (x : RecT) (hx : Enc.lim 1048576 x) : CallR Try.prog 77 [.nd [.int .i64 x.1, .int .i64 x.2.1, .int .i64 x.2.2.1, .int .i64 x.2.2.2.1, .int .i64 x.2.2.2.2.1, .nd [.bool x.2.2.2.2.2.1.1, .nd [.int .i64 x.2.2.2.2.2.1.2.1.1, .sl .b (x.2.2.2.2.2.1.2.1.2.1.map Enc.b), .sl .b (x.2.2.2.2.2.1.2.1.2.2.1.map Enc.b)]], .nd [.bool x.2.2.2.2.2.2.1.1, .nd [.int .i64 x.2.2.2.2.2.2.1.2.1.1, .sl .b (x.2.2.2.2.2.2.1.2.1.2.1.map Enc.b), .sl .b (x.2.2.2.2.2.2.1.2.1.2.2.1.map Enc.b)]], .int .i64 x.2.2.2.2.2.2.2.1, .sl .b (x.2.2.2.2.2.2.2.2.1.map Enc.b)], .bool true, .bool true, .bool true, .bool false, .bool false] [] (.bool (z1 x)) := by
  refine CallR.of_body (n := 66) (rs := [.tmp 12]) hY.ok Try.func77 rfl (by decide) rfl rfl rfl rfl (fun F => ?_)
  have fx := And.intro Y1 (And.intro Y2 (And.intro Y3 (And.intro Y4 (And.intro Y5 (And.intro Y6 (And.intro Y7 (And.intro Y8 (And.intro Y34 (And.intro Y36 (And.intro Y38 (And.intro Y39 (And.intro Y41 (Y91)))))))))))))
  have hA := sNoSlot_ok x.2.2.2.2.2.2.1 hx.2.2.2.2.2.2.1
  have hB := sNoSlot_ok x.2.2.2.2.2.1 hx.2.2.2.2.2.1
  have hq1 : (x.2.1 == 0) = decide (x.2.1 = 0) := rfl
  have hq2 : (x.2.2.1 == 0) = decide (x.2.2.1 = 0) := rfl
  have hq3 : (x.2.2.2.2.1 == 0) = decide (x.2.2.2.2.1 = 0) := rfl
  have hq4 : (x.2.2.2.2.2.2.2.1 == 0) = decide (x.2.2.2.2.2.2.2.1 = 0) := rfl
  have hq5 : ((x.2.2.2.2.2.2.2.2.1.length : Int) == 0) = decide (x.2.2.2.2.2.2.2.2.1.length = 0) := by
    by_cases h : x.2.2.2.2.2.2.2.2.1.length = 0
    · simp [h]
    · have : ¬ (x.2.2.2.2.2.2.2.2.1.length : Int) = 0 := by omega
      rw [beq_eq_false_iff_ne.2 this]; simp [h]
  unfold z1
  generalize noSlotB x.2.2.2.2.2.2.1 = sa at *
  generalize noSlotB x.2.2.2.2.2.1 = sb at *
  generalize decide (x.2.1 = 0) = d1 at *
  generalize decide (x.2.2.1 = 0) = d2 at *
  generalize decide (x.2.2.2.2.1 = 0) = d3 at *
  generalize decide (x.2.2.2.2.2.2.2.1 = 0) = d4 at *
  generalize decide (x.2.2.2.2.2.2.2.2.1.length = 0) = d5 at *
  have hC1 := cx [] (hA)
  have hC2 := cx [] (hB)
  have fy := And.intro hq1 (And.intro hq2 (And.intro hq3 (And.intro hq4 (hq5))))
  refine goK ?_ ?_ ?_ ?_ ?_ ?_ ?_ ?_ ?_ ?_ ?_ ?_ ?_ ?_ ?_ ?_
  any_goals (first | exact True.intro | skip)
  all_goals (repeat (refine Wh.mk fun hcc => ?_))
  all_goals (first | rfl | ((try simp only [tupOf, fixEs]); (first | done | (revert d1 d2 d3 d4 d5 sa sb; decide) | (simp_all; done) | grind)))
theorem l4Zero_z4 (x : RecT) (hx : Enc.lim 1048576 x) : CallR Try.prog 77 [.nd [.int .i64 x.1, .int .i64 x.2.1, .int .i64 x.2.2.1, .int .i64 x.2.2.2.1, .int .i64 x.2.2.2.2.1, .nd [.bool x.2.2.2.2.2.1.1, .nd [.int .i64 x.2.2.2.2.2.1.2.1.1, .sl .b (x.2.2.2.2.2.1.2.1.2.1.map Enc.b), .sl .b (x.2.2.2.2.2.1.2.1.2.2.1.map Enc.b)]], .nd [.bool x.2.2.2.2.2.2.1.1, .nd [.int .i64 x.2.2.2.2.2.2.1.2.1.1, .sl .b (x.2.2.2.2.2.2.1.2.1.2.1.map Enc.b), .sl .b (x.2.2.2.2.2.2.1.2.1.2.2.1.map Enc.b)]], .int .i64 x.2.2.2.2.2.2.2.1, .sl .b (x.2.2.2.2.2.2.2.2.1.map Enc.b)], .bool true, .bool true, .bool false, .bool true, .bool false] [] (.bool (z4 x)) := by
  refine CallR.of_body (n := 66) (rs := [.tmp 12]) hY.ok Try.func77 rfl (by decide) rfl rfl rfl rfl (fun F => ?_)
  have fx := And.intro Y1 (And.intro Y2 (And.intro Y3 (And.intro Y4 (And.intro Y5 (And.intro Y6 (And.intro Y7 (And.intro Y8 (And.intro Y34 (And.intro Y36 (And.intro Y38 (And.intro Y39 (And.intro Y41 (Y91)))))))))))))
  have hA := sNoSlot_ok x.2.2.2.2.2.2.1 hx.2.2.2.2.2.2.1
  have hB := sNoSlot_ok x.2.2.2.2.2.1 hx.2.2.2.2.2.1
  have hq1 : (x.2.1 == 0) = decide (x.2.1 = 0) := rfl
  have hq2 : (x.2.2.1 == 0) = decide (x.2.2.1 = 0) := rfl
  have hq3 : (x.2.2.2.2.1 == 0) = decide (x.2.2.2.2.1 = 0) := rfl
  have hq4 : (x.2.2.2.2.2.2.2.1 == 0) = decide (x.2.2.2.2.2.2.2.1 = 0) := rfl
  have hq5 : ((x.2.2.2.2.2.2.2.2.1.length : Int) == 0) = decide (x.2.2.2.2.2.2.2.2.1.length = 0) := by
    by_cases h : x.2.2.2.2.2.2.2.2.1.length = 0
    · simp [h]
    · have : ¬ (x.2.2.2.2.2.2.2.2.1.length : Int) = 0 := by omega
      rw [beq_eq_false_iff_ne.2 this]; simp [h]
  unfold z4
  generalize noSlotB x.2.2.2.2.2.2.1 = sa at *
  generalize noSlotB x.2.2.2.2.2.1 = sb at *
  generalize decide (x.2.1 = 0) = d1 at *
  generalize decide (x.2.2.1 = 0) = d2 at *
  generalize decide (x.2.2.2.2.1 = 0) = d3 at *
  generalize decide (x.2.2.2.2.2.2.2.1 = 0) = d4 at *
  generalize decide (x.2.2.2.2.2.2.2.2.1.length = 0) = d5 at *
  have hC1 := cx [] (hA)
  have hC2 := cx [] (hB)
  have fy := And.intro hq1 (And.intro hq2 (And.intro hq3 (And.intro hq4 (hq5))))
  refine goK ?_ ?_ ?_ ?_ ?_ ?_ ?_ ?_ ?_ ?_ ?_ ?_ ?_ ?_ ?_ ?_
  any_goals (first | exact True.intro | skip)
  all_goals (repeat (refine Wh.mk fun hcc => ?_))
  all_goals (first | rfl | ((try simp only [tupOf, fixEs]); (first | done | (revert d1 d2 d3 d4 d5 sa sb; decide) | (simp_all; done) | grind)))
theorem l4Zero_z2 (x : RecT) (hx : Enc.lim 1048576 x) : CallR Try.prog 77 [.nd [.int .i64 x.1, .int .i64 x.2.1, .int .i64 x.2.2.1, .int .i64 x.2.2.2.1, .int .i64 x.2.2.2.2.1, .nd [.bool x.2.2.2.2.2.1.1, .nd [.int .i64 x.2.2.2.2.2.1.2.1.1, .sl .b (x.2.2.2.2.2.1.2.1.2.1.map Enc.b), .sl .b (x.2.2.2.2.2.1.2.1.2.2.1.map Enc.b)]], .nd [.bool x.2.2.2.2.2.2.1.1, .nd [.int .i64 x.2.2.2.2.2.2.1.2.1.1, .sl .b (x.2.2.2.2.2.2.1.2.1.2.1.map Enc.b), .sl .b (x.2.2.2.2.2.2.1.2.1.2.2.1.map Enc.b)]], .int .i64 x.2.2.2.2.2.2.2.1, .sl .b (x.2.2.2.2.2.2.2.2.1.map Enc.b)], .bool true, .bool false, .bool false, .bool false, .bool false] [] (.bool (z2 x)) := by
  refine CallR.of_body (n := 66) (rs := [.tmp 12]) hY.ok Try.func77 rfl (by decide) rfl rfl rfl rfl (fun F => ?_)
  have fx := And.intro Y1 (And.intro Y2 (And.intro Y3 (And.intro Y4 (And.intro Y5 (And.intro Y6 (And.intro Y7 (And.intro Y8 (And.intro Y34 (And.intro Y36 (And.intro Y38 (And.intro Y39 (And.intro Y41 (Y91)))))))))))))
  have hA := sNoSlot_ok x.2.2.2.2.2.2.1 hx.2.2.2.2.2.2.1
  have hB := sNoSlot_ok x.2.2.2.2.2.1 hx.2.2.2.2.2.1
  have hq1 : (x.2.1 == 0) = decide (x.2.1 = 0) := rfl
  have hq2 : (x.2.2.1 == 0) = decide (x.2.2.1 = 0) := rfl
  have hq3 : (x.2.2.2.2.1 == 0) = decide (x.2.2.2.2.1 = 0) := rfl
  have hq4 : (x.2.2.2.2.2.2.2.1 == 0) = decide (x.2.2.2.2.2.2.2.1 = 0) := rfl
  have hq5 : ((x.2.2.2.2.2.2.2.2.1.length : Int) == 0) = decide (x.2.2.2.2.2.2.2.2.1.length = 0) := by
    by_cases h : x.2.2.2.2.2.2.2.2.1.length = 0
    · simp [h]
    · have : ¬ (x.2.2.2.2.2.2.2.2.1.length : Int) = 0 := by omega
      rw [beq_eq_false_iff_ne.2 this]; simp [h]
  unfold z2
  generalize noSlotB x.2.2.2.2.2.2.1 = sa at *
  generalize noSlotB x.2.2.2.2.2.1 = sb at *
  generalize decide (x.2.1 = 0) = d1 at *
  generalize decide (x.2.2.1 = 0) = d2 at *
  generalize decide (x.2.2.2.2.1 = 0) = d3 at *
  generalize decide (x.2.2.2.2.2.2.2.1 = 0) = d4 at *
  generalize decide (x.2.2.2.2.2.2.2.2.1.length = 0) = d5 at *
  have hC1 := cx [] (hA)
  have hC2 := cx [] (hB)
  have fy := And.intro hq1 (And.intro hq2 (And.intro hq3 (And.intro hq4 (hq5))))
  refine goK ?_ ?_ ?_ ?_ ?_ ?_ ?_ ?_ ?_ ?_ ?_ ?_ ?_ ?_ ?_ ?_
  any_goals (first | exact True.intro | skip)
  all_goals (repeat (refine Wh.mk fun hcc => ?_))
  all_goals (first | rfl | ((try simp only [tupOf, fixEs]); (first | done | (revert d1 d2 d3 d4 d5 sa sb; decide) | (simp_all; done) | grind)))
end Q6

namespace Q6
open Go Go.Vm Go.Proofs
set_option maxHeartbeats 4000000
set_option synthInstance.maxSize 2000
set_option synthInstance.maxHeartbeats 400000
set_option maxRecDepth 10000
set_option linter.unusedSimpArgs false
set_option linter.unusedVariables false


theorem noSlot_slot {s : SlotT} (h : noSlotB s = true) : slotB s = true := by
  unfold noSlotB at h; simp only [Bool.and_eq_true, Bool.not_eq_true'] at h
  unfold slotB; rw [h.1]; simpa using h.2

theorem specRecOk_ok (x : RecT) (hx : Enc.lim 1048576 x) : CallR Try.prog 23 [.nd [.int .i64 x.1, .int .i64 x.2.1, .int .i64 x.2.2.1, .int .i64 x.2.2.2.1, .int .i64 x.2.2.2.2.1, .nd [.bool x.2.2.2.2.2.1.1, .nd [.int .i64 x.2.2.2.2.2.1.2.1.1, .sl .b (x.2.2.2.2.2.1.2.1.2.1.map Enc.b), .sl .b (x.2.2.2.2.2.1.2.1.2.2.1.map Enc.b)]], .nd [.bool x.2.2.2.2.2.2.1.1, .nd [.int .i64 x.2.2.2.2.2.2.1.2.1.1, .sl .b (x.2.2.2.2.2.2.1.2.1.2.1.map Enc.b), .sl .b (x.2.2.2.2.2.2.1.2.1.2.2.1.map Enc.b)]], .int .i64 x.2.2.2.2.2.2.2.1, .sl .b (x.2.2.2.2.2.2.2.2.1.map Enc.b)]] [] (.bool (recB x)) := by
  refine CallR.of_body (n := 75) (rs := [.tmp 2]) hY.ok Try.func23 rfl (by decide) rfl rfl rfl rfl (fun F => ?_)
  have fx := And.intro Y1 (And.intro Y2 (And.intro Y3 (And.intro Y4 (And.intro Y5 (And.intro Y6 (And.intro Y7 (And.intro Y34 (And.intro Y36 (And.intro Y38 (And.intro Y39 (And.intro Y41 (Y91))))))))))))
  have hk6 : (x.2.2.2.1 == 6) = decide (x.2.2.2.1 = 6) := rfl
  have hk1 : (x.2.2.2.1 == 1) = decide (x.2.2.2.1 = 1) := rfl
  have hk2 : (x.2.2.2.1 == 2) = decide (x.2.2.2.1 = 2) := rfl
  have hk3 : (x.2.2.2.1 == 3) = decide (x.2.2.2.1 = 3) := rfl
  have hk4 : (x.2.2.2.1 == 4) = decide (x.2.2.2.1 = 4) := rfl
  have hk5 : (x.2.2.2.1 == 5) = decide (x.2.2.2.1 = 5) := rfl
  have hI := l1InR_ok x.1 1 1000000
  have hSA := l3Slot_ok x.2.2.2.2.2.1 hx.2.2.2.2.2.1
  have hSB := l3Slot_ok x.2.2.2.2.2.2.1 hx.2.2.2.2.2.2.1
  have hn1 := @noSlot_slot x.2.2.2.2.2.1
  have hn2 := @noSlot_slot x.2.2.2.2.2.2.1
  cases hL : (rng x.1 1 1000000 && slotB x.2.2.2.2.2.1 && slotB x.2.2.2.2.2.2.1)
  · have hL2 : (!rng x.1 1 1000000 || !slotB x.2.2.2.2.2.1 || !slotB x.2.2.2.2.2.2.1) = true := by rw [← Bool.not_and, ← Bool.not_and, hL]; rfl
    have hG1 := fun u1 u2 u3 => l1InR_ok u1 u2 u3
    have hC1 := cx [] (hSA)
    have hC2 := cx [] (hSB)
    have fy := hL2
    refine goK ?_ ?_ ?_ ?_ ?_ ?_ ?_ ?_ ?_ ?_ ?_ ?_ ?_ ?_ ?_ ?_
    any_goals (first | exact True.intro | skip)
    all_goals (repeat (refine Wh.mk fun hcc => ?_))
    all_goals (try simp only [tupOf, fixEs])
    all_goals (simp only [recB])
    all_goals (try (exfalso; simp_all; done))
    all_goals (congr 1; revert hL hn1 hn2; cases rng x.1 1 1000000 <;> cases slotB x.2.2.2.2.2.1 <;> cases slotB x.2.2.2.2.2.2.1 <;> simp_all)
  · have hL2 : (!rng x.1 1 1000000 || !slotB x.2.2.2.2.2.1 || !slotB x.2.2.2.2.2.2.1) = false := by rw [← Bool.not_and, ← Bool.not_and, hL]; rfl
    have hb := hL
    simp only [Bool.and_eq_true] at hb
    obtain ⟨⟨hr, hs1⟩, hs2⟩ := hb
    have hb := hr
    unfold rng at hb
    simp only [Bool.and_eq_true, decide_eq_true_eq] at hb
    have hw : IntKind.i64.wrap (x.1 - 1) = x.1 - 1 := wrap64 _ (by omega) (by omega)
    have hV := l4Lives_ok x.2.2.2.2.2.2.2.2.1 x.1 x.2.1 x.2.2.1 x.2.2.2.1 x.2.2.2.2.1 x.2.2.2.2.2.2.2.1 x.2.2.2.2.2.1 x.2.2.2.2.2.2.1 hx.2.2.2.2.2.2.2.2.1.1 (by omega) (by omega)
    have hT := l1InR_ok x.2.1 1 1000
    have hP := l1InR_ok x.2.2.1 0 (x.1 - 1)
    have hN := l1InR_ok x.2.2.2.2.2.2.2.1 0 (x.1 - 1)
    have hO := l1InR_ok x.2.2.2.2.1 1 31
    have hz6 := l4Zero_z6 x hx
    have hz1 := l4Zero_z1 x hx
    have hz4 := l4Zero_z4 x hx
    have hz2 := l4Zero_z2 x hx
    have hG1 := fun u1 u2 u3 => l1InR_ok u1 u2 u3
    have hC1 := cx [] (hSA)
    have hC2 := cx [] (hSB)
    have hC3 := cx [] (hV)
    have hC4 := cx [] (hz6)
    have hC5 := cx [] (hz1)
    have hC6 := cx [] (hz4)
    have hC7 := cx [] (hz2)
    have fy := And.intro hL2 (And.intro hk1 (And.intro hk2 (And.intro hk3 (And.intro hk4 (And.intro hk5 (And.intro hk6 (hw)))))))
    refine goK ?_ ?_ ?_ ?_ ?_ ?_ ?_ ?_ ?_ ?_ ?_ ?_ ?_ ?_ ?_ ?_
    any_goals (first | exact True.intro | skip)
    all_goals (repeat (refine Wh.mk fun hcc => ?_))
    all_goals (try simp only [tupOf, fixEs])
    all_goals (try (exfalso; simp_all; done))
    all_goals (simp only [recB, hr, hs1, hs2, Bool.true_and, Bool.and_true, z6, z1, z4, z2])
    all_goals first | rfl | (simp_all; done) | grind
end Q6

namespace Q6
open Go Go.Vm Go.Proofs
set_option maxHeartbeats 4000000
set_option synthInstance.maxSize 2000
set_option synthInstance.maxHeartbeats 400000
set_option maxRecDepth 10000
set_option linter.unusedSimpArgs false
set_option linter.unusedVariables false

open Go.By

def putSl (s : SlotT) : List UInt8 := if s.1 = true then putI (putObj s.2.1).length ++ putObj s.2.1 else putI 0
theorem putObj_len {x : ObjT} (h : objB x = true) : (putObj x).length ≤ 78 := by
  have h5 := objB_len h
  have h1 := putI_len x.1
  have h2 := putL_len x.2.1
  have h3 := putL_len x.2.2.1
  unfold putObj; simp only [List.length_append]; omega
theorem putSl_len {s : SlotT} (h : slotB s = true) : (putSl s).length ≤ 84 := by
  unfold putSl
  split
  · rename_i hs
    have hb : objB s.2.1 = true := by unfold slotB at h; rw [if_pos hs] at h; exact h
    have h1 := putI_len (putObj s.2.1).length
    have h2 := putObj_len hb
    simp only [List.length_append]; omega
  · have := putI_len 0; omega

theorem sPutSlot_ok (b : List UInt8) (s : SlotT) (hs : Enc.lim 1048576 s) (hsb : slotB s = true) (hb : b.length ≤ 1048576) : CallR Try.prog 125 [.sl .b (b.map Enc.b), .nd [.bool s.1, .nd [.int .i64 s.2.1.1, .sl .b (s.2.1.2.1.map Enc.b), .sl .b (s.2.1.2.2.1.map Enc.b)]]] [] (.ow 1 ((b ++ putSl s).map Enc.o)) := by
  refine CallR.of_body (n := 20) (rs := [.tmp 4]) hY.ok Try.func125 rfl (by decide) rfl rfl rfl rfl (fun F => ?_)
  have fx := And.intro Y1 (And.intro Y3 (And.intro Y4 (And.intro Y5 (And.intro Y24 (And.intro Y34 (And.intro Y36 (Y38)))))))
  obtain ⟨has, o, ⟨⟩⟩ := s
  unfold putSl
  simp only at hs ⊢
  cases has
  · have hP := PutInt_ok b 0 (by omega)
    simp only [Bool.false_eq_true, if_false]
    have hC1 := cx [] (hP)
    have fy := Nat.add_zero
    refine goR ?_ ?_ ?_ ?_ ?_ ?_ ?_ ?_ ?_ ?_ ?_ ?_ ?_ ?_ ?_ ?_
    any_goals (first | exact True.intro | skip)
    all_goals (repeat (refine Wh.mk fun hcc => ?_))
    all_goals exact SW.ret (show RetQ _ _ _ _ _ _ _ from RetQ.y [1] [.ow 1 ((b ++ putI 0).map Enc.o)])
  · have hob : objB o = true := hsb
    have hO := sPutObj_y o hs.2.1 hob
    have hol := putObj_len hob
    simp only [if_true]
    generalize putObj o = p at *
    have hP := PutInt_ok b p.length (by omega)
    have hpl := putI_len p.length
    have hap := append_runR (Y := Y) (H := [[], [.var (.nd [.bool (((true, o, ())).1), .nd [.int .i64 ((((true, o, ())).2.1).1), .sl .b (((((true, o, ())).2.1).2.1).map Enc.b), .sl .b (((((true, o, ())).2.1).2.2.1).map Enc.b)]])], [.arr 1 (p.map Enc.o) false], [.arr 1 ((b ++ putI p.length).map Enc.o) false], []]) (own := 4) (t := 24) (u := 24) (e := 3) (j := 0) (off := 0) (n := (b ++ putI p.length).length) (e2 := 2) (j2 := 0) (f := (b ++ putI p.length).map Enc.o) (l := b ++ putI p.length) (m := p) Y24 Y24 Y5 rfl (by decide) rfl rfl (by rw [List.drop_zero]; exact take_map_len _ _) (by simp) (by simp only [List.length_append]; omega) rfl b_byte
    rw [List.append_assoc] at hap
    have hq : (b ++ putI p.length).length = (b ++ putI p.length).length := rfl
    generalize hP2 : b ++ putI p.length = P2 at *
    have hPP : b ++ (putI p.length ++ p) = P2 ++ p := by rw [← List.append_assoc, hP2]
    rw [hPP] at hap ⊢
    have hC1 := cx [] (hO)
    have hC2 := cx [] (hP)
    have fy := hap
    refine goR ?_ ?_ ?_ ?_ ?_ ?_ ?_ ?_ ?_ ?_ ?_ ?_ ?_ ?_ ?_ ?_
    any_goals (first | exact True.intro | skip)
    all_goals (repeat (refine Wh.mk fun hcc => ?_))
    all_goals exact SW.ret (show RetQ _ _ _ _ _ _ _ from RetQ.y [1] [.ow 1 ((P2 ++ p).map Enc.o)])
end Q6

namespace Q6
open Go Go.Vm Go.Proofs
/-! ### Bits: what the operations on 64 and 32 bits do to numbers below 2^32 -/
theorem xor_lt32 {a b : Nat} (ha : a < 4294967296) (hb : b < 4294967296) : a ^^^ b < 4294967296 := Nat.xor_lt_two_pow (n := 32) ha hb
theorem xor64 (a b : Nat) (ha : a < 4294967296) (hb : b < 4294967296) : IntKind.i64.wrap ((BitVec.ofInt 64 (a : Int) ^^^ BitVec.ofInt 64 (b : Int)).toNat : Int) = ((a ^^^ b : Nat) : Int) := by
  have h := xor_lt32 ha hb
  rw [BitVec.toNat_xor, BitVec.ofInt_natCast, BitVec.ofInt_natCast, BitVec.toNat_ofNat, BitVec.toNat_ofNat, Nat.mod_eq_of_lt (by omega), Nat.mod_eq_of_lt (by omega), wrap64 _ (by omega) (by omega)]
theorem and64 (a : Nat) (ha : a < 4294967296) : IntKind.i64.wrap ((BitVec.ofInt 64 (a : Int) &&& BitVec.ofInt 64 1).toNat : Int) = ((a % 2 : Nat) : Int) := by
  have : (BitVec.ofInt 64 1) = BitVec.ofNat 64 1 := rfl
  rw [this, BitVec.toNat_and, BitVec.ofInt_natCast, BitVec.toNat_ofNat, BitVec.toNat_ofNat, Nat.mod_eq_of_lt (by omega), Nat.mod_eq_of_lt (by omega), Nat.and_one_is_mod, wrap64 _ (by omega) (by omega)]
theorem shr1 (a : Nat) : ((a : Int).fdiv (2 ^ 1)) = ((a / 2 : Nat) : Int) := by
  rw [Int.fdiv_eq_ediv_of_nonneg _ (by decide)]; omega
theorem wrap32 (n : Int) (h0 : 0 ≤ n) (h1 : n < 4294967296) : IntKind.u32.wrap n = n := by
  simp [IntKind.wrap, IntKind.bits, IntKind.signed]; omega
theorem xor32 (a b : Nat) (ha : a < 4294967296) (hb : b < 4294967296) : IntKind.u32.wrap ((BitVec.ofInt 32 (a : Int) ^^^ BitVec.ofInt 32 (b : Int)).toNat : Int) = ((a ^^^ b : Nat) : Int) := by
  have h := xor_lt32 ha hb
  rw [BitVec.toNat_xor, BitVec.ofInt_natCast, BitVec.ofInt_natCast, BitVec.toNat_ofNat, BitVec.toNat_ofNat, Nat.mod_eq_of_lt (by omega), Nat.mod_eq_of_lt (by omega), wrap32 _ (by omega) (by omega)]
theorem and32 (a : Nat) (ha : a < 4294967296) : IntKind.u32.wrap ((BitVec.ofInt 32 (a : Int) &&& BitVec.ofInt 32 1).toNat : Int) = ((a % 2 : Nat) : Int) := by
  have : (BitVec.ofInt 32 1) = BitVec.ofNat 32 1 := rfl
  rw [this, BitVec.toNat_and, BitVec.ofInt_natCast, BitVec.toNat_ofNat, BitVec.toNat_ofNat, Nat.mod_eq_of_lt (by omega), Nat.mod_eq_of_lt (by omega), Nat.and_one_is_mod, wrap32 _ (by omega) (by omega)]
/-- One round of the sum: eight of these a byte. -/
def crc1 (r : Nat) : Nat := if r % 2 = 1 then (r / 2) ^^^ 3988292384 else r / 2
def crc8 : Nat → Nat → Nat
  | 0, r => r
  | n + 1, r => crc8 n (crc1 r)
def crcB (r : Nat) (b : UInt8) : Nat := crc8 8 (r ^^^ b.toNat)
def crc (l : List UInt8) : Nat := (l.foldl crcB 4294967295) ^^^ 4294967295
theorem crc1_lt {r : Nat} (h : r < 4294967296) : crc1 r < 4294967296 := by
  unfold crc1
  split
  · exact xor_lt32 (by omega) (by decide)
  · omega
theorem crc8_lt : ∀ (n : Nat) {r : Nat}, r < 4294967296 → crc8 n r < 4294967296
  | 0, _, h => h
  | n + 1, _, h => crc8_lt n (crc1_lt h)
theorem crc8_succ : ∀ (n r : Nat), crc8 (n + 1) r = crc1 (crc8 n r)
  | 0, _ => rfl
  | n + 1, r => crc8_succ n (crc1 r)
theorem crcB_lt {r : Nat} (h : r < 4294967296) (b : UInt8) : crcB r b < 4294967296 := crc8_lt 8 (xor_lt32 h (by have := b.toNat_lt; omega))
theorem crcF_lt : ∀ (l : List UInt8) {r : Nat}, r < 4294967296 → l.foldl crcB r < 4294967296
  | [], _, h => h
  | b :: l, _, h => crcF_lt l (crcB_lt h b)
theorem crc_lt (l : List UInt8) : crc l < 4294967296 := xor_lt32 (crcF_lt l (by decide)) (by decide)
theorem crcF_take (l : List UInt8) (i : Nat) (h : i < l.length) (r : Nat) : (l.take (i + 1)).foldl crcB r = crcB ((l.take i).foldl crcB r) l[i] := by
  rw [List.take_succ_eq_append_getElem h, List.foldl_append]; rfl
end Q6

namespace Q6
open Go Go.Vm Go.Proofs
set_option maxHeartbeats 4000000
set_option synthInstance.maxSize 2000
set_option synthInstance.maxHeartbeats 400000
set_option maxRecDepth 10000
set_option linter.unusedSimpArgs false
set_option linter.unusedVariables false

theorem specCrc_ok (l : List UInt8) (hl : l.length ≤ 1048576) : CallR Try.prog 130 [.sl .b (l.map Enc.b)] [] (.int .i64 (crc l)) := by
  refine CallR.of_body (n := 34) (rs := [.tmp 2]) hY.ok Try.func130 rfl (by decide) rfl rfl rfl rfl (fun F => ?_)
  have fx := And.intro Y3 (And.intro Y4 (And.intro Y5 (And.intro Y24 (Y133))))
  have fy := Nat.add_zero
  refine goN ?_ ?_ ?_ ?_ ?_ ?_ ?_ ?_ ?_ ?_ ?_ ?_ ?_ ?_ ?_ ?_
  any_goals (first | exact True.intro | skip)
  skip
  refine SW.loop (fun i : Nat => ⟨[.sl .b (l.map Enc.b), .undef, .undef, .int .i64 (((l.take i).foldl crcB 4294967295 : Nat) : Int), .int .i64 (i : Nat), .undef, .undef, .undef, .undef, .undef, .undef, .undef, .undef, .undef, .undef, .undef, .undef, .undef, .undef, .undef, .undef, .undef, .undef, .undef, .undef, .undef, .undef, .undef, .undef, .undef, .undef, .undef, .undef, .undef], [[]]⟩)
    (fun N i => N = l.length - i ∧ i ≤ l.length) (n := l.length) (x := 0) (Norm.to 0 rfl (by simp [weakL])) ⟨rfl, Nat.zero_le _⟩ ?_
  rintro N i ⟨hn, hi⟩
  have fy := Nat.add_zero
  refine goS ?_
  refine SW.cond rfl (fun hc => ?_) (fun hc => ?_)
  · have hlt : i < l.length := by simp at hc; omega
    have hgl : (l.map Enc.b)[i]? = some (T.int .u8 (l[i].toNat : Int)) := map_get Enc.b l i hlt
    have hr : (l.take i).foldl crcB 4294967295 < 4294967296 := crcF_lt _ (by decide)
    have hb8 : l[i].toNat < 4294967296 := by have := l[i].toNat_lt; omega
    have hx : IntKind.i64.wrap ((BitVec.ofInt IntKind.i64.bits (((l.take i).foldl crcB 4294967295 : Nat) : Int) ^^^ BitVec.ofInt IntKind.i64.bits (l[i].toNat : Int)).toNat : Int) = ((((l.take i).foldl crcB 4294967295) ^^^ l[i].toNat : Nat) : Int) := xor64 _ _ hr hb8
    have hq : ((l.take i).foldl crcB 4294967295) ^^^ l[i].toNat < 4294967296 := xor_lt32 hr hb8
    have hwb : IntKind.i64.wrap (l[i].toNat : Int) = (l[i].toNat : Int) := wrap64 _ (by omega) (by omega)
    have hwc : IntKind.u32.wrap (l[i].toNat : Int) = (l[i].toNat : Int) := wrap32 _ (by omega) (by omega)
    have hwi : IntKind.i64.wrap ((i : Int) + 1) = ((i + 1 : Nat) : Int) := by rw [wrap64 _ (by omega) (by omega)]; omega
    have fy := And.intro hgl (And.intro hx (And.intro hwb (And.intro hwc (hwi))))
    refine goN ?_ ?_ ?_ ?_ ?_ ?_ ?_ ?_ ?_ ?_ ?_ ?_ ?_ ?_ ?_ ?_
    any_goals (first | exact True.intro | skip)
    skip
    refine SW.loop (fun j : Nat => ⟨[.sl .b (l.map Enc.b), .undef, .undef, .int .i64 ((crc8 j (((l.take i).foldl crcB 4294967295) ^^^ l[i].toNat) : Nat) : Int), .int .i64 (i : Nat), .int .i64 (j : Nat), .undef, .undef, .undef, .undef, .undef, .undef, .undef, .undef, .undef, .undef, .undef, .undef, .undef, .undef, .undef, .undef, .undef, .undef, .undef, .undef, .undef, .undef, .undef, .undef, .undef, .undef, .undef, .undef], [[]]⟩)
      (fun M j => M = 8 - j ∧ j ≤ 8) (n := 8) (x := 0) (Norm.to 0 rfl (by simp [weakL, crc8])) ⟨rfl, Nat.zero_le _⟩ ?_
    rintro M j ⟨hm, hj⟩
    have fy := Nat.add_zero
    refine goS ?_
    refine SW.cond rfl (fun hc => ?_) (fun hc => ?_)
    · have hlj : j < 8 := by simp at hc; omega
      have hrj : crc8 j (((l.take i).foldl crcB 4294967295) ^^^ l[i].toNat) < 4294967296 := crc8_lt j hq
      have hwj : IntKind.i64.wrap ((j : Int) + 1) = ((j + 1 : Nat) : Int) := by rw [wrap64 _ (by omega) (by omega)]; omega
      have hsj := crc8_succ j (((l.take i).foldl crcB 4294967295) ^^^ l[i].toNat)
      rw [crc1] at hsj
      generalize crc8 j (((l.take i).foldl crcB 4294967295) ^^^ l[i].toNat) = r at *
      have ha : IntKind.i64.wrap ((BitVec.ofInt IntKind.i64.bits (r : Int) &&& BitVec.ofInt IntKind.i64.bits 1).toNat : Int) = ((r % 2 : Nat) : Int) := and64 r hrj
      have hh : IntKind.i64.wrap ((BitVec.ofInt IntKind.i64.bits ((r / 2 : Nat) : Int) ^^^ BitVec.ofInt IntKind.i64.bits 3988292384).toNat : Int) = (((r / 2) ^^^ 3988292384 : Nat) : Int) := xor64 (r / 2) 3988292384 (by omega) (by decide)
      have hs : ((r : Int).fdiv (2 ^ (min 1 IntKind.i64.bits))) = ((r / 2 : Nat) : Int) := shr1 r
      have fy := And.intro ha (And.intro hh (And.intro hs (hwj)))
      refine goR ?_ ?_ ?_ ?_ ?_ ?_ ?_ ?_ ?_ ?_ ?_ ?_ ?_ ?_ ?_ ?_
      any_goals (first | exact True.intro | skip)
      all_goals (repeat (refine Wh.mk fun hcc => ?_))
      · refine ⟨M - 1, j + 1, by omega, ⟨by omega, by omega⟩, ?_⟩
        rw [hsj, if_pos (by have := hcc; simp at this; omega)]
        exact Norm.to 0 rfl (by simp [weakL])
      · refine ⟨M - 1, j + 1, by omega, ⟨by omega, by omega⟩, ?_⟩
        rw [hsj, if_neg (by have := hcc; simp at this; omega)]
        exact Norm.to 0 rfl (by simp [weakL])
    · have hj8 : j = 8 := by
        have : ¬ j < 8 := by simp at hc; omega
        omega
      subst hj8
      rw [show crc8 8 (((l.take i).foldl crcB 4294967295) ^^^ l[i].toNat) = (l.take (i + 1)).foldl crcB 4294967295 from (crcF_take l i hlt _).symm]
      have fy := hwi
      refine goR ?_ ?_ ?_ ?_ ?_ ?_ ?_ ?_ ?_ ?_ ?_ ?_ ?_ ?_ ?_ ?_
      any_goals (first | exact True.intro | skip)
      all_goals (repeat (refine Wh.mk fun hcc => ?_))
      refine ⟨N - 1, i + 1, by omega, ⟨by omega, by omega⟩, ?_⟩
      exact Norm.to 0 rfl (by simp [weakL])
  · have hge : i = l.length := by
      have : ¬ i < l.length := by simp at hc; omega
      omega
    subst hge
    have hr : (l.take l.length).foldl crcB 4294967295 < 4294967296 := crcF_lt _ (by decide)
    have hf : IntKind.i64.wrap ((BitVec.ofInt IntKind.i64.bits (((l.take l.length).foldl crcB 4294967295 : Nat) : Int) ^^^ BitVec.ofInt IntKind.i64.bits 4294967295).toNat : Int) = (crc l : Int) := by
      have := xor64 _ 4294967295 hr (by decide)
      rw [List.take_length] at this ⊢
      exact this
    have hcl := crc_lt l
    have hwz : IntKind.i64.wrap (crc l : Int) = (crc l : Int) := wrap64 _ (by omega) (by omega)
    have fy := And.intro hf (hwz)
    refine goK ?_ ?_ ?_ ?_ ?_ ?_ ?_ ?_ ?_ ?_ ?_ ?_ ?_ ?_ ?_ ?_
    any_goals (first | exact True.intro | skip)
    all_goals (repeat (refine Wh.mk fun hcc => ?_))
    all_goals (first | rfl | ((try simp only [tupOf, fixEs]); (first | done | rfl | (simp_all []; done) | grind [])))
theorem implCrc_ok (l : List UInt8) (hl : l.length ≤ 1048576) : CallR Try.prog 166 [.sl .b (l.map Enc.b)] [] (.int .i64 (crc l)) := by
  refine CallR.of_body (n := 32) (rs := [.tmp 2]) hY.ok Try.func166 rfl (by decide) rfl rfl rfl rfl (fun F => ?_)
  have fx := And.intro Y3 (And.intro Y4 (And.intro Y5 (And.intro Y24 (And.intro Y133 (Y171)))))
  have fy := Nat.add_zero
  refine goN ?_ ?_ ?_ ?_ ?_ ?_ ?_ ?_ ?_ ?_ ?_ ?_ ?_ ?_ ?_ ?_
  any_goals (first | exact True.intro | skip)
  skip
  refine SW.loop (fun i : Nat => ⟨[.undef, .undef, .undef, .int .u32 (((l.take i).foldl crcB 4294967295 : Nat) : Int), .undef, .undef, .undef, .sl .b (l.map Enc.b), .int .i64 (l.length : Nat), .int .i64 (i : Nat), .undef, .undef, .undef, .undef, .undef, .undef, .undef, .undef, .undef, .undef, .undef, .undef, .undef, .undef, .undef, .undef, .undef, .undef, .undef, .undef, .undef, .undef], [[]]⟩)
    (fun N i => N = l.length - i ∧ i ≤ l.length) (n := l.length) (x := 0) (Norm.to 0 rfl (by simp [weakL])) ⟨rfl, Nat.zero_le _⟩ ?_
  rintro N i ⟨hn, hi⟩
  have fy := Nat.add_zero
  refine goS ?_
  refine SW.cond rfl (fun hc => ?_) (fun hc => ?_)
  · have hlt : i < l.length := by simp at hc; omega
    have hgl : (l.map Enc.b)[i]? = some (T.int .u8 (l[i].toNat : Int)) := map_get Enc.b l i hlt
    have hr : (l.take i).foldl crcB 4294967295 < 4294967296 := crcF_lt _ (by decide)
    have hb8 : l[i].toNat < 4294967296 := by have := l[i].toNat_lt; omega
    have hx : IntKind.u32.wrap ((BitVec.ofInt IntKind.u32.bits (((l.take i).foldl crcB 4294967295 : Nat) : Int) ^^^ BitVec.ofInt IntKind.u32.bits (l[i].toNat : Int)).toNat : Int) = ((((l.take i).foldl crcB 4294967295) ^^^ l[i].toNat : Nat) : Int) := xor32 _ _ hr hb8
    have hq : ((l.take i).foldl crcB 4294967295) ^^^ l[i].toNat < 4294967296 := xor_lt32 hr hb8
    have hwb : IntKind.i64.wrap (l[i].toNat : Int) = (l[i].toNat : Int) := wrap64 _ (by omega) (by omega)
    have hwc : IntKind.u32.wrap (l[i].toNat : Int) = (l[i].toNat : Int) := wrap32 _ (by omega) (by omega)
    have hwi : IntKind.i64.wrap ((i : Int) + 1) = ((i + 1 : Nat) : Int) := by rw [wrap64 _ (by omega) (by omega)]; omega
    have fy := And.intro hgl (And.intro hx (And.intro hwb (And.intro hwc (hwi))))
    refine goN ?_ ?_ ?_ ?_ ?_ ?_ ?_ ?_ ?_ ?_ ?_ ?_ ?_ ?_ ?_ ?_
    any_goals (first | exact True.intro | skip)
    skip
    refine SW.loop (fun j : Nat => ⟨[.undef, .undef, .undef, .int .u32 ((crc8 j (((l.take i).foldl crcB 4294967295) ^^^ l[i].toNat) : Nat) : Int), .undef, .undef, .undef, .sl .b (l.map Enc.b), .int .i64 (l.length : Nat), .int .i64 (i : Nat), .undef, .undef, .undef, .undef, .undef, .undef, .undef, .int .i64 (j : Nat), .undef, .undef, .undef, .undef, .undef, .undef, .undef, .undef, .undef, .undef, .undef, .undef, .undef, .undef], [[]]⟩)
      (fun M j => M = 8 - j ∧ j ≤ 8) (n := 8) (x := 0) (Norm.to 0 rfl (by simp [weakL, crc8])) ⟨rfl, Nat.zero_le _⟩ ?_
    rintro M j ⟨hm, hj⟩
    have fy := Nat.add_zero
    refine goS ?_
    refine SW.cond rfl (fun hc => ?_) (fun hc => ?_)
    · have hlj : j < 8 := by simp at hc; omega
      have hrj : crc8 j (((l.take i).foldl crcB 4294967295) ^^^ l[i].toNat) < 4294967296 := crc8_lt j hq
      have hwj : IntKind.i64.wrap ((j : Int) + 1) = ((j + 1 : Nat) : Int) := by rw [wrap64 _ (by omega) (by omega)]; omega
      have hsj := crc8_succ j (((l.take i).foldl crcB 4294967295) ^^^ l[i].toNat)
      rw [crc1] at hsj
      generalize crc8 j (((l.take i).foldl crcB 4294967295) ^^^ l[i].toNat) = r at *
      have ha : IntKind.u32.wrap ((BitVec.ofInt IntKind.u32.bits (r : Int) &&& BitVec.ofInt IntKind.u32.bits 1).toNat : Int) = ((r % 2 : Nat) : Int) := and32 r hrj
      have hh : IntKind.u32.wrap ((BitVec.ofInt IntKind.u32.bits ((r / 2 : Nat) : Int) ^^^ BitVec.ofInt IntKind.u32.bits 3988292384).toNat : Int) = (((r / 2) ^^^ 3988292384 : Nat) : Int) := xor32 (r / 2) 3988292384 (by omega) (by decide)
      have hs : ((r : Int).fdiv (2 ^ (min 1 IntKind.u32.bits))) = ((r / 2 : Nat) : Int) := shr1 r
      have fy := And.intro ha (And.intro hh (And.intro hs (hwj)))
      refine goR ?_ ?_ ?_ ?_ ?_ ?_ ?_ ?_ ?_ ?_ ?_ ?_ ?_ ?_ ?_ ?_
      any_goals (first | exact True.intro | skip)
      all_goals (repeat (refine Wh.mk fun hcc => ?_))
      · refine ⟨M - 1, j + 1, by omega, ⟨by omega, by omega⟩, ?_⟩
        rw [hsj, if_pos (by have := hcc; simp at this; omega)]
        exact Norm.to 0 rfl (by simp [weakL])
      · refine ⟨M - 1, j + 1, by omega, ⟨by omega, by omega⟩, ?_⟩
        rw [hsj, if_neg (by have := hcc; simp at this; omega)]
        exact Norm.to 0 rfl (by simp [weakL])
    · have hj8 : j = 8 := by
        have : ¬ j < 8 := by simp at hc; omega
        omega
      subst hj8
      rw [show crc8 8 (((l.take i).foldl crcB 4294967295) ^^^ l[i].toNat) = (l.take (i + 1)).foldl crcB 4294967295 from (crcF_take l i hlt _).symm]
      have fy := hwi
      refine goR ?_ ?_ ?_ ?_ ?_ ?_ ?_ ?_ ?_ ?_ ?_ ?_ ?_ ?_ ?_ ?_
      any_goals (first | exact True.intro | skip)
      all_goals (repeat (refine Wh.mk fun hcc => ?_))
      refine ⟨N - 1, i + 1, by omega, ⟨by omega, by omega⟩, ?_⟩
      exact Norm.to 0 rfl (by simp [weakL])
  · have hge : i = l.length := by
      have : ¬ i < l.length := by simp at hc; omega
      omega
    subst hge
    have hr : (l.take l.length).foldl crcB 4294967295 < 4294967296 := crcF_lt _ (by decide)
    have hf : IntKind.u32.wrap ((BitVec.ofInt IntKind.u32.bits (((l.take l.length).foldl crcB 4294967295 : Nat) : Int) ^^^ BitVec.ofInt IntKind.u32.bits 4294967295).toNat : Int) = (crc l : Int) := by
      have := xor32 _ 4294967295 hr (by decide)
      rw [List.take_length] at this ⊢
      exact this
    have hcl := crc_lt l
    have hwz : IntKind.i64.wrap (crc l : Int) = (crc l : Int) := wrap64 _ (by omega) (by omega)
    have fy := And.intro hf (hwz)
    refine goK ?_ ?_ ?_ ?_ ?_ ?_ ?_ ?_ ?_ ?_ ?_ ?_ ?_ ?_ ?_ ?_
    any_goals (first | exact True.intro | skip)
    all_goals (repeat (refine Wh.mk fun hcc => ?_))
    all_goals (first | rfl | ((try simp only [tupOf, fixEs]); (first | done | rfl | (simp_all []; done) | grind [])))
end Q6

namespace Q6
open Go Go.Vm Go.Proofs
set_option maxHeartbeats 4000000
set_option synthInstance.maxSize 2000
set_option synthInstance.maxHeartbeats 400000
set_option maxRecDepth 10000
set_option linter.unusedSimpArgs false
set_option linter.unusedVariables false


/-- The four bytes of a sum, the lowest first. -/
def four (c : Nat) : List UInt8 := [byt (c : Nat), byt ((c / 256 : Nat) : Int), byt ((c / 65536 : Nat) : Int), byt ((c / 16777216 : Nat) : Int)]
theorem four_len (c : Nat) : (four c).length = 4 := rfl
theorem shr8 (a : Nat) : ((a : Int).fdiv (2 ^ 8)) = ((a / 256 : Nat) : Int) := by
  rw [Int.fdiv_eq_ediv_of_nonneg _ (by decide)]; omega
theorem shr16 (a : Nat) : ((a : Int).fdiv (2 ^ 16)) = ((a / 65536 : Nat) : Int) := by
  rw [Int.fdiv_eq_ediv_of_nonneg _ (by decide)]; omega
theorem shr24 (a : Nat) : ((a : Int).fdiv (2 ^ 24)) = ((a / 16777216 : Nat) : Int) := by
  rw [Int.fdiv_eq_ediv_of_nonneg _ (by decide)]; omega
theorem build4 {Y : TypeId → TyI} {own t el by' : Nat} {k : Ty} {a b c d : T} (h1 : Y t = ⟨.sl el, 1, 24⟩) (h2 : Y el = ⟨k, 1, by'⟩) (h3 : k.isFn = false)
    (hs : setAll (plAr 1) (List.replicate 4 (zeroT Y 9 el)) [(0, a), (1, b), (2, c), (3, d)] = some [a, b, c, d]) :
    buildSliceM Y own t 4 [(0, a), (1, b), (2, c), (3, d)] = .pure { v := .ref own 0 0 4, news := [.arr 1 [a, b, c, d] false] } := by
  simp only [buildSliceM, h1, h2, h3]
  rw [if_pos ⟨by decide, by decide, trivial⟩, hs]
theorem bs4_24 (own : Nat) (x y z w : UInt8) : buildSliceM Y own 24 4 [(0, .int .u8 (x.toNat : Int)), (1, .int .u8 (y.toNat : Int)), (2, .int .u8 (z.toNat : Int)), (3, .int .u8 (w.toNat : Int))] = .pure { v := .ref own 0 0 4, news := [.arr 1 [.int .u8 (x.toNat : Int), .int .u8 (y.toNat : Int), .int .u8 (z.toNat : Int), .int .u8 (w.toNat : Int)] false] } :=
  build4 Y24 Y5 rfl rfl

theorem l1Four_ok (c : Nat) : CallR Try.prog 129 [.int .i64 (c : Int)] [] (.ow 1 ((four c).map Enc.o)) := by
  refine CallR.of_body (n := 15) (rs := [.tmp 2]) hY.ok Try.func129 rfl (by decide) rfl rfl rfl rfl (fun F => ?_)
  have fx := And.intro Y1 (And.intro Y2 (And.intro Y3 (And.intro Y4 (And.intro Y5 (And.intro Y24 (Y133))))))
  have e8 : ((c : Int).fdiv (2 ^ (min (Int.toNat 8) IntKind.i64.bits))) = ((c / 256 : Nat) : Int) := shr8 c
  have e16 : ((c : Int).fdiv (2 ^ (min (Int.toNat 16) IntKind.i64.bits))) = ((c / 65536 : Nat) : Int) := shr16 c
  have e24 : ((c : Int).fdiv (2 ^ (min (Int.toNat 24) IntKind.i64.bits))) = ((c / 16777216 : Nat) : Int) := shr24 c
  have fy := And.intro e8 (And.intro e16 (And.intro e24 (bs4_24)))
  refine goR ?_ ?_ ?_ ?_ ?_ ?_ ?_ ?_ ?_ ?_ ?_ ?_ ?_ ?_ ?_ ?_
  any_goals (first | exact True.intro | skip)
  all_goals (repeat (refine Wh.mk fun hcc => ?_))
  all_goals exact SW.ret (show RetQ _ _ _ _ _ _ _ from RetQ.y [0] [.ow 1 ((four c).map Enc.o)])
theorem sumBytes_ok (l : List UInt8) (hl : l.length ≤ 1048576) : CallR Try.prog 135 [.sl .b (l.map Enc.b)] [] (.ow 1 ((four (crc l)).map Enc.o)) := by
  refine CallR.of_body (n := 18) (rs := [.tmp 2]) hY.ok Try.func135 rfl (by decide) rfl rfl rfl rfl (fun F => ?_)
  have fx := And.intro Y1 (And.intro Y2 (And.intro Y3 (And.intro Y4 (And.intro Y5 (And.intro Y24 (Y133))))))
  have hC := implCrc_ok l hl
  generalize crc l = c at *
  have e8 : ((c : Int).fdiv (2 ^ (min (Int.toNat 8) IntKind.i64.bits))) = ((c / 256 : Nat) : Int) := shr8 c
  have e16 : ((c : Int).fdiv (2 ^ (min (Int.toNat 16) IntKind.i64.bits))) = ((c / 65536 : Nat) : Int) := shr16 c
  have e24 : ((c : Int).fdiv (2 ^ (min (Int.toNat 24) IntKind.i64.bits))) = ((c / 16777216 : Nat) : Int) := shr24 c
  have hC1 := cx [] (hC)
  have fy := And.intro e8 (And.intro e16 (And.intro e24 (bs4_24)))
  refine goR ?_ ?_ ?_ ?_ ?_ ?_ ?_ ?_ ?_ ?_ ?_ ?_ ?_ ?_ ?_ ?_
  any_goals (first | exact True.intro | skip)
  all_goals (repeat (refine Wh.mk fun hcc => ?_))
  all_goals exact SW.ret (show RetQ _ _ _ _ _ _ _ from RetQ.y [0] [.ow 1 ((four c).map Enc.o)])
end Q6

namespace Q6
open Go Go.Vm Go.Proofs
set_option maxHeartbeats 4000000
set_option synthInstance.maxSize 2000
set_option synthInstance.maxHeartbeats 400000
set_option maxRecDepth 10000
set_option linter.unusedSimpArgs false
set_option linter.unusedVariables false

def endsB (l : List UInt8) (a : Nat) : Bool := (l.drop a).all (fun b => !decide ((b.toNat : Int) < 128)) && decide ((l.length : Int) - (a : Int) < 6)
theorem drop_all {l : List UInt8} {p : UInt8 → Bool} {i : Nat} (h : i < l.length) : (l.drop i).all p = (p l[i] && (l.drop (i + 1)).all p) := by
  rw [List.drop_eq_getElem_cons h]; rfl
theorem ends_ok (l : List UInt8) (a : Nat) (hl : l.length ≤ 1048576) (ha : a ≤ l.length) : CallR Try.prog 154 [.sl .b (l.map Enc.b), .int .i64 (a : Nat)] [] (.bool (endsB l a)) := by
  refine CallR.of_body (n := 23) (rs := [.tmp 4]) hY.ok Try.func154 rfl (by decide) rfl rfl rfl rfl (fun F => ?_)
  have fx := And.intro Y3 (And.intro Y4 (And.intro Y5 (Y24)))
  have fy := Nat.add_zero
  refine goN ?_ ?_ ?_ ?_ ?_ ?_ ?_ ?_ ?_ ?_ ?_ ?_ ?_ ?_ ?_ ?_
  any_goals (first | exact True.intro | skip)
  skip
  unfold endsB
  generalize hp : (fun b : UInt8 => !decide ((b.toNat : Int) < 128)) = p
  refine SW.loop (fun i : Nat => ⟨[.sl .b (l.map Enc.b), .int .i64 (a : Nat), .undef, .undef, .undef, .int .i64 (i : Nat), .undef, .undef, .undef, .undef, .undef, .undef, .undef, .undef, .undef, .undef, .undef, .undef, .undef, .undef, .undef, .undef, .undef], [[]]⟩)
    (fun N i => N = l.length - i ∧ i ≤ l.length ∧ (l.drop a).all p = (l.drop i).all p) (n := l.length - a) (x := a) (Norm.to 0 rfl (by simp [weakL])) ⟨rfl, ha, rfl⟩ ?_
  rintro N i ⟨hn, hi, hall⟩
  have fy := Nat.add_zero
  refine goS ?_
  refine SW.cond rfl (fun hc => ?_) (fun hc => ?_)
  · have hlt : i < l.length := by simp at hc; omega
    have hgl : (l.map Enc.b)[i]? = some (T.int .u8 (l[i].toNat : Int)) := map_get Enc.b l i hlt
    have hwi : IntKind.i64.wrap ((i : Int) + 1) = ((i + 1 : Nat) : Int) := by rw [wrap64 _ (by omega) (by omega)]; omega
    rw [drop_all hlt] at hall
    have hpi : p l[i] = !decide ((l[i].toNat : Int) < 128) := by rw [← hp]
    rw [hpi] at hall
    have fy := And.intro hgl (hwi)
    refine goK ?_ ?_ ?_ ?_ ?_ ?_ ?_ ?_ ?_ ?_ ?_ ?_ ?_ ?_ ?_ ?_
    any_goals (first | exact True.intro | skip)
    all_goals (repeat (refine Wh.mk fun hcc => ?_))
    · rw [hcc] at hall
      rw [hall]
      simp [tupOf, fixEs]
    · rw [hcc] at hall
      refine ⟨N - 1, i + 1, by omega, ⟨by omega, by omega, by rw [hall]; simp⟩, ?_⟩
      exact Norm.to 0 rfl (by simp [weakL])
  · have hge : i = l.length := by
      have : ¬ i < l.length := by simp at hc; omega
      omega
    subst hge
    rw [List.drop_length, List.all_nil] at hall
    rw [hall]
    have hw : IntKind.i64.wrap ((l.length : Int) - (a : Int)) = (l.length : Int) - (a : Int) := wrap64 _ (by omega) (by omega)
    have fy := hw
    refine goK ?_ ?_ ?_ ?_ ?_ ?_ ?_ ?_ ?_ ?_ ?_ ?_ ?_ ?_ ?_ ?_
    any_goals (first | exact True.intro | skip)
    all_goals (repeat (refine Wh.mk fun hcc => ?_))
    all_goals (first | rfl | ((try simp only [tupOf, fixEs]); (first | done | rfl | (simp_all []; done) | grind [])))
end Q6

namespace Q6
open Go Go.Vm Go.Proofs
set_option maxHeartbeats 4000000
set_option synthInstance.maxSize 2000
set_option synthInstance.maxHeartbeats 400000
set_option maxRecDepth 10000
set_option linter.unusedSimpArgs false
set_option linter.unusedVariables false

theorem equalBytes_ok (l m : List UInt8) (hl : l.length ≤ 1048576) : CallR Try.prog 118 [.sl .b (l.map Enc.b), .sl .b (m.map Enc.b)] [] (.bool (decide (l = m))) := by
  refine CallR.of_body (n := 26) (rs := [.tmp 4]) hY.ok Try.func118 rfl (by decide) rfl rfl rfl rfl (fun F => ?_)
  have fx := And.intro Y3 (And.intro Y4 (And.intro Y5 (Y24)))
  have fy := Nat.add_zero
  refine goS ?_
  refine SW.cond rfl (fun hc => ?_) (fun hc => ?_)
  · have hne : ¬ l = m := by intro e; subst e; simp at hc
    have fy := Nat.add_zero
    refine goK ?_ ?_ ?_ ?_ ?_ ?_ ?_ ?_ ?_ ?_ ?_ ?_ ?_ ?_ ?_ ?_
    any_goals (first | exact True.intro | skip)
    all_goals (repeat (refine Wh.mk fun hcc => ?_))
    simp [tupOf, fixEs, hne]
  have hlen : l.length = m.length := by have : (l.length : Int) = m.length := by simpa using hc
                                        omega
  refine SW.skip ?_
  simp only [thenS]
  have fy := Nat.add_zero
  refine goN ?_ ?_ ?_ ?_ ?_ ?_ ?_ ?_ ?_ ?_ ?_ ?_ ?_ ?_ ?_ ?_
  any_goals (first | exact True.intro | skip)
  skip
  refine SW.loop (fun i : Nat => ⟨[.sl .b (l.map Enc.b), .sl .b (m.map Enc.b), .undef, .undef, .undef, .undef, .undef, .undef, .undef, .undef, .undef, .undef, .int .i64 (l.length : Nat), .int .i64 (i : Nat), .undef, .undef, .undef, .undef, .undef, .undef, .undef, .undef, .undef, .undef, .undef, .undef], [[]]⟩)
    (fun n i => n = l.length - i ∧ i ≤ l.length ∧ ∀ j (h : j < l.length), j < i → l[j] = m[j]'(by omega)) (n := l.length) (x := 0) (Norm.to 0 rfl (by simp [weakL])) ⟨rfl, Nat.zero_le _, fun j _ h => absurd h (Nat.not_lt_zero j)⟩ ?_
  rintro n i ⟨hn, hi, hp⟩
  have fy := Nat.add_zero
  refine goS ?_
  refine SW.cond rfl (fun hc => ?_) (fun hc => ?_)
  · have hlt : i < l.length := by simpa using hc
    have hlt' : i < m.length := by omega
    have hgl : (l.map Enc.b)[i]? = some (T.int .u8 (l[i].toNat : Int)) := map_get Enc.b l i hlt
    have hgm : (m.map Enc.b)[i]? = some (T.int .u8 (m[i].toNat : Int)) := map_get Enc.b m i hlt'
    have hwi : IntKind.i64.wrap ((i : Int) + 1) = ((i + 1 : Nat) : Int) := by rw [wrap64 _ (by omega) (by omega)]; omega
    have fy := And.intro hgl (And.intro hgm (hwi))
    refine goK ?_ ?_ ?_ ?_ ?_ ?_ ?_ ?_ ?_ ?_ ?_ ?_ ?_ ?_ ?_ ?_
    any_goals (first | exact True.intro | skip)
    all_goals (repeat (refine Wh.mk fun hcc => ?_))
    · have hx := hcc
      have hne : ¬ l[i] = m[i] := by intro e; simp [e] at hx
      have hlm : ¬ l = m := by intro e; subst e; exact hne rfl
      simp [tupOf, fixEs, hlm]
    · have hx := hcc
      have hx' : l[i] = m[i] := by apply UInt8.toNat_inj.1; simp at hx; omega
      refine ⟨n - 1, i + 1, by omega, ⟨by omega, by omega, fun j hj hji => ?_⟩, ?_⟩
      · by_cases he : j = i
        · subst he; exact hx'
        · exact hp j hj (by omega)
      · first | exact Norm.to 0 rfl (by simp [weakL]) | exact Norm.to 1 rfl (by simp [weakL])
  · have hge : i = l.length := by
      have : ¬ i < l.length := by simpa using hc
      omega
    have hlm : l = m := List.ext_getElem hlen fun j h1 h2 => hp j h1 (by omega)
    have fy := Nat.add_zero
    refine goK ?_ ?_ ?_ ?_ ?_ ?_ ?_ ?_ ?_ ?_ ?_ ?_ ?_ ?_ ?_ ?_
    any_goals (first | exact True.intro | skip)
    all_goals (repeat (refine Wh.mk fun hcc => ?_))
    simp [tupOf, fixEs, hlm]
end Q6

namespace Q6
open Go Go.Vm Go.Proofs
set_option maxHeartbeats 4000000
set_option synthInstance.maxSize 2000
set_option synthInstance.maxHeartbeats 400000
set_option maxRecDepth 10000
set_option linter.unusedSimpArgs false
set_option linter.unusedVariables false

theorem cloneBytes_ok (l : List UInt8) (hl : l.length ≤ 1048576) : CallR Try.prog 150 [.sl .b (l.map Enc.b)] [] (.ow 1 (l.map Enc.o)) := by
  refine CallR.of_body (n := 8) (rs := [.tmp 2]) hY.ok Try.func150 rfl (by decide) rfl rfl rfl rfl (fun F => ?_)
  have fx := And.intro Y4 (And.intro Y5 (Y24))
  have hap := @append_run Y 2 24 24 1 0 0 0 5 1 1 _ .b [] (l.map Enc.b) [[], [.arr 1 [] false], []] Y24 Y24 Y5 rfl (by decide) rfl (by simp) (by simp; omega) (nwL_b l) (fun z hz => by have := List.mem_of_mem_take hz; obtain ⟨x, _, rfl⟩ := List.mem_map.1 this; rfl)
  have hbo : l.map (Enc.b : UInt8 → T) = l.map Enc.o := rfl
  simp only [List.drop_nil, List.take_nil, List.nil_append, List.length_map, Nat.zero_add, kill] at hap
  refine SW.ops_seq hY fun y1 hy1 => ?_
  simp only [k13, upT_g, dnT_g, nb_g, dnT_b, dnT_s, dnT_0, dnT_r, fx, wo, decide_true, decide_false, wz0, wz1, wz2, wz3, wz4, wz5, wz6, wz7, wz8, appM, Ty.isInt, capT, appendZM, buildM, setAll, plSt, plAr, mnmx, Int.reduceLT, vrec, List.drop_succ_cons, List.drop_zero, convertM, indexM, fieldM, Int.toNat_zero, Int.toNat_one, Int.le_refl, Int.zero_le_ofNat, Int.reduceEq, Int.reduceNe, ne_eq, not_false_eq_true, u8_wrap, marksG_len, marks_len, bne_self_eq_false, take_map_len, tgL_byte, T.asArr, T.tg, tgL, indexAddrM, wk, wl, eq_self, isCall, callT, opM, S.ev, S.put, entryS, thawAL, thawA, RM.run, RM.bind, RM.ofOpt, allocs, Heap.ups, Heap.put, Heap.at, List.replicate, Nat.reduceAdd, Nat.reduceSub, ofConst, nilAs, if_false, if_true, binT, binTy, unT, guardT, quietK, reduceIte, boxM, allocM, loadM, storeM, fieldAddrM, lenT, extractT, subM, setOb, T.get, T.setp, T.offs, T.nw, nwL, T.cel, T.isNd, T.size, sizeL, TyI.agg, Ty.agg, Ty.isFn, zeroT, Nat.reduceLT, Nat.reduceEqDiff, sumT, kill]
  subst hy1
  refine SW.seq ?_
  refine SW.seq ?_
  refine SW.nilq hY rfl (by rw [Y24]) (by rw [Y24]; decide) (by simp) fun b hb => ?_
  simp only [thenS, List.set_cons_succ, List.set_cons_zero]
  cases b with
  | true =>
    have hl0 : l = [] := by cases l with | nil => rfl | cons x m => exact absurd (hb (by simp)) (by decide)
    subst hl0
    have fy := Nat.add_zero
    refine goK ?_ ?_ ?_ ?_ ?_ ?_ ?_ ?_ ?_ ?_ ?_ ?_ ?_ ?_ ?_ ?_
    any_goals (first | exact True.intro | skip)
    all_goals (repeat (refine Wh.mk fun hcc => ?_))
    all_goals simp [tupOf, fixEs]
  | false =>
    have fy := And.intro bs0_24 (hap)
    refine goR ?_ ?_ ?_ ?_ ?_ ?_ ?_ ?_ ?_ ?_ ?_ ?_ ?_ ?_ ?_ ?_
    any_goals (first | exact True.intro | skip)
    all_goals (repeat (refine Wh.mk fun hcc => ?_))
    rw [hbo]
    exact SW.ret (show RetQ _ _ _ _ _ _ _ from RetQ.y [1] [.ow 1 (l.map Enc.o)])
end Q6

namespace Q6
open Go Go.Vm Go.Proofs
set_option maxHeartbeats 4000000
set_option synthInstance.maxSize 2000
set_option synthInstance.maxHeartbeats 400000
set_option maxRecDepth 10000
set_option linter.unusedSimpArgs false
set_option linter.unusedVariables false

open Go.By

def grpR (l : List UInt8) (a : Nat) : Nat × Nat × Bool × Bool := let x := grp (l.drop a) 0 0 true; (x.1, if x.2.2.2 = true then 0 else a + x.2.1, x.2.2.1, x.2.2.2)

theorem groups_ok (l : List UInt8) (a : Nat) (hl : l.length ≤ 1048576) (ha : a ≤ l.length) : CallR Try.prog 149 [.sl .b (l.map Enc.b), .int .i64 (a : Nat)] [] (.tup [.int .i64 ((grpR l a).1 : Nat), .int .i64 ((grpR l a).2.1 : Nat), .bool (grpR l a).2.2.1, .bool (grpR l a).2.2.2]) := by
  refine CallR.of_body (n := 57) (rs := [.tmp 4, .tmp 5, .tmp 6, .tmp 7]) hY.ok Try.func149 rfl (by decide) rfl rfl rfl rfl (fun F => ?_)
  have fx := And.intro Y3 (And.intro Y4 (And.intro Y5 (Y24)))
  have fy := Nat.add_zero
  refine goN ?_ ?_ ?_ ?_ ?_ ?_ ?_ ?_ ?_ ?_ ?_ ?_ ?_ ?_ ?_ ?_
  any_goals (first | exact True.intro | skip)
  skip
  refine SW.loop (fun x : Nat × Nat × Bool => ⟨[.sl .b (l.map Enc.b), .int .i64 (a : Nat), .undef, .undef, .undef, .undef, .undef, .undef, .int .i64 (x.2.1 : Nat), .bool x.2.2, .int .i64 (x.1 : Nat), .undef, .undef, .undef, .undef, .undef, .undef, .undef, .undef, .undef, .undef, .undef, .undef, .undef, .undef, .undef, .undef, .undef, .undef, .undef, .undef, .undef, .undef, .undef, .undef, .undef, .undef, .undef, .undef, .undef, .undef, .undef, .undef, .undef, .undef, .undef, .undef, .undef, .undef, .undef, .undef, .undef, .undef, .undef, .undef, .undef, .undef], [[]]⟩)
    (fun N x => N = l.length - (a + x.1) ∧ a + x.1 ≤ l.length ∧ grp (l.drop (a + x.1)) x.1 x.2.1 x.2.2 = grp (l.drop a) 0 0 true ∧ (x.1 ≤ 6 → x.2.1 < 2 ^ (7 * x.1)) ∧ x.2.1 < 2 ^ 42) (n := l.length - a) (x := (0, 0, true)) (Norm.to 0 rfl (by simp [weakL])) ⟨rfl, ha, rfl, fun _ => by decide, by decide⟩ ?_
  rintro N ⟨k, m, g⟩ ⟨hN, hk, hg, hm6, hm42⟩
  simp only at hN hk hg hm6 hm42 ⊢
  have hw0 : IntKind.i64.wrap ((a : Int) + (k : Int)) = ((a + k : Nat) : Int) := by rw [wrap64 _ (by omega) (by omega)]; omega
  have fy := hw0
  refine goS ?_
  refine SW.cond rfl (fun hc => ?_) (fun hc => ?_)
  · have hlt : a + k < l.length := by simp at hc; omega
    have hgb : (l.map Enc.b)[a + k]? = some (.int .u8 ((l[a + k]).toNat : Int)) := map_get Enc.b l _ hlt
    have hd : l.drop (a + k) = l[a + k] :: l.drop (a + (k + 1)) := List.drop_eq_getElem_cons hlt
    rw [hd] at hg
    generalize hv : l[a + k] = v at *
    have hvl := v.toNat_lt
    have hbi := byte_i64 v
    have h127 := i64_and127 v.toNat (by omega)
    have hwk : IntKind.i64.wrap ((k : Int) + 1) = ((k + 1 : Nat) : Int) := by rw [wrap64 _ (by omega) (by omega)]; omega
    have hw1 : IntKind.i64.wrap (((a + k : Nat) : Int) + 1) = ((a + (k + 1) : Nat) : Int) := by rw [wrap64 _ (by omega) (by omega)]; omega
    have hk0 : ((k : Int) == 0) = decide (k = 0) := by by_cases h : k = 0 <;> simp [h]
    by_cases h6 : k < 6
    · have h6d : decide ((k : Int) < 6) = true := by simp; omega
      have hw7 : IntKind.i64.wrap (7 * (k : Int)) = ((7 * k : Nat) : Int) := by rw [wrap64 _ (by omega) (by omega)]; simp
      have h70 : (((7 * k : Nat) : Int) < 0) = False := by simp; omega
      have hgr := i64_grp m (v.toNat % 128) k (hm6 (by omega)) (by omega) h6
      rw [hw7, Int.toNat_natCast] at hgr
      rw [grp] at hg; simp only [if_pos h6] at hg
      by_cases hhi : v.toNat > 127
      · have hhd : decide ((v.toNat : Int) > 127) = true := by simp; omega
        rw [if_pos hhi] at hg
        have fy := And.intro hw0 (And.intro hgb (And.intro hbi (And.intro h127 (And.intro hwk (And.intro hw1 (And.intro h6d (And.intro hhd (And.intro hk0 (And.intro hw7 (And.intro h70 (hgr)))))))))))
        refine goR ?_ ?_ ?_ ?_ ?_ ?_ ?_ ?_ ?_ ?_ ?_ ?_ ?_ ?_ ?_ ?_
        any_goals (first | exact True.intro | skip)
        all_goals (repeat (refine Wh.mk fun hcc => ?_))
        refine ⟨N - 1, (k + 1, m + v.toNat % 128 * 2 ^ (7 * k), g), by omega, ⟨by simp only; omega, by simp only; omega, hg, fun _ => ?_, ?_⟩, Norm.to 0 rfl (by simp [weakL])⟩
        · have h1 : v.toNat % 128 * 2 ^ (7 * k) ≤ 127 * 2 ^ (7 * k) := Nat.mul_le_mul_right _ (by omega)
          have := hm6 (by omega)
          simp only; rw [show 7 * (k + 1) = 7 * k + 7 by omega, Nat.pow_add]; omega
        · have h1 : v.toNat % 128 * 2 ^ (7 * k) ≤ 127 * 2 ^ (7 * k) := Nat.mul_le_mul_right _ (by omega)
          have h2 := hm6 (by omega)
          have h3 : 2 ^ (7 * k) ≤ 2 ^ 35 := Nat.pow_le_pow_right (by decide) (by omega)
          simp only; omega
      · have hhd : decide ((v.toNat : Int) > 127) = false := by simp; omega
        rw [if_neg hhi] at hg
        have hgR : grpR l a = (m + v.toNat % 128 * 2 ^ (7 * k), a + (k + 1), g && (decide (v.toNat ≠ 0) || decide (k = 0)), false) := by unfold grpR; simp only [← hg]; simp
        rw [hgR]
        cases g <;> by_cases hz : v.toNat = 0
        · have hv0 : ((v.toNat : Int) != 0) = false := by simp [hz]
          have fy := And.intro hw0 (And.intro hgb (And.intro hbi (And.intro h127 (And.intro hwk (And.intro hw1 (And.intro h6d (And.intro hhd (And.intro hk0 (And.intro hw7 (And.intro h70 (And.intro hgr (hv0))))))))))))
          refine goK ?_ ?_ ?_ ?_ ?_ ?_ ?_ ?_ ?_ ?_ ?_ ?_ ?_ ?_ ?_ ?_
          any_goals (first | exact True.intro | skip)
          all_goals (repeat (refine Wh.mk fun hcc => ?_))
          all_goals (first | rfl | (simp [tupOf, fixEs, hz]; done))
        · have hv0 : ((v.toNat : Int) != 0) = true := by simp [hz]
          have fy := And.intro hw0 (And.intro hgb (And.intro hbi (And.intro h127 (And.intro hwk (And.intro hw1 (And.intro h6d (And.intro hhd (And.intro hk0 (And.intro hw7 (And.intro h70 (And.intro hgr (hv0))))))))))))
          refine goK ?_ ?_ ?_ ?_ ?_ ?_ ?_ ?_ ?_ ?_ ?_ ?_ ?_ ?_ ?_ ?_
          any_goals (first | exact True.intro | skip)
          all_goals (repeat (refine Wh.mk fun hcc => ?_))
          all_goals (first | rfl | (simp [tupOf, fixEs, hz]; done))
        · have hv0 : ((v.toNat : Int) != 0) = false := by simp [hz]
          have fy := And.intro hw0 (And.intro hgb (And.intro hbi (And.intro h127 (And.intro hwk (And.intro hw1 (And.intro h6d (And.intro hhd (And.intro hk0 (And.intro hw7 (And.intro h70 (And.intro hgr (hv0))))))))))))
          refine goK ?_ ?_ ?_ ?_ ?_ ?_ ?_ ?_ ?_ ?_ ?_ ?_ ?_ ?_ ?_ ?_
          any_goals (first | exact True.intro | skip)
          all_goals (repeat (refine Wh.mk fun hcc => ?_))
          all_goals (first | rfl | (simp [tupOf, fixEs, hz]; done))
        · have hv0 : ((v.toNat : Int) != 0) = true := by simp [hz]
          have fy := And.intro hw0 (And.intro hgb (And.intro hbi (And.intro h127 (And.intro hwk (And.intro hw1 (And.intro h6d (And.intro hhd (And.intro hk0 (And.intro hw7 (And.intro h70 (And.intro hgr (hv0))))))))))))
          refine goK ?_ ?_ ?_ ?_ ?_ ?_ ?_ ?_ ?_ ?_ ?_ ?_ ?_ ?_ ?_ ?_
          any_goals (first | exact True.intro | skip)
          all_goals (repeat (refine Wh.mk fun hcc => ?_))
          all_goals (first | rfl | (simp [tupOf, fixEs, hz]; done))
    · have h6d : decide ((k : Int) < 6) = false := by simp; omega
      rw [grp] at hg; simp only [if_neg h6] at hg
      have hv1 : (((v.toNat % 128 : Nat) : Int) != 0) = decide (v.toNat % 128 ≠ 0) := by by_cases h : v.toNat % 128 = 0 <;> simp [h]; omega
      by_cases hhi : v.toNat > 127
      · have hhd : decide ((v.toNat : Int) > 127) = true := by simp; omega
        rw [if_pos hhi] at hg
        by_cases h1 : v.toNat % 128 = 0
        · have hv1 : (((v.toNat % 128 : Nat) : Int) != 0) = false := by simp [h1]
          rw [if_neg (by simpa using h1)] at hg
          have fy := And.intro hw0 (And.intro hgb (And.intro hbi (And.intro h127 (And.intro hwk (And.intro hw1 (And.intro h6d (And.intro hhd (And.intro hk0 (hv1)))))))))
          refine goR ?_ ?_ ?_ ?_ ?_ ?_ ?_ ?_ ?_ ?_ ?_ ?_ ?_ ?_ ?_ ?_
          any_goals (first | exact True.intro | skip)
          all_goals (repeat (refine Wh.mk fun hcc => ?_))
          refine ⟨N - 1, (k + 1, m, g), by omega, ⟨by simp only; omega, by simp only; omega, hg, fun h => absurd h (by simp only; omega), hm42⟩, Norm.to 0 rfl (by simp [weakL])⟩
        · have hv1 : (((v.toNat % 128 : Nat) : Int) != 0) = true := by simp; omega
          rw [if_pos h1] at hg
          have fy := And.intro hw0 (And.intro hgb (And.intro hbi (And.intro h127 (And.intro hwk (And.intro hw1 (And.intro h6d (And.intro hhd (And.intro hk0 (hv1)))))))))
          refine goR ?_ ?_ ?_ ?_ ?_ ?_ ?_ ?_ ?_ ?_ ?_ ?_ ?_ ?_ ?_ ?_
          any_goals (first | exact True.intro | skip)
          all_goals (repeat (refine Wh.mk fun hcc => ?_))
          refine ⟨N - 1, (k + 1, m, false), by omega, ⟨by simp only; omega, by simp only; omega, hg, fun h => absurd h (by simp only; omega), hm42⟩, Norm.to 0 rfl (by simp [weakL])⟩
      · have hhd : decide ((v.toNat : Int) > 127) = false := by simp; omega
        rw [if_neg hhi] at hg
        have hgR : grpR l a = (m, a + (k + 1), (if v.toNat % 128 ≠ 0 then false else g) && (decide (v.toNat ≠ 0) || decide (k = 0)), false) := by unfold grpR; simp only [← hg]; simp
        rw [hgR]
        cases g <;> by_cases hz : v.toNat = 0
        · have hv0 : ((v.toNat : Int) != 0) = false := by simp [hz]
          have hv1 : (((v.toNat % 128 : Nat) : Int) != 0) = false := by simp [hz]
          have fy := And.intro hw0 (And.intro hgb (And.intro hbi (And.intro h127 (And.intro hwk (And.intro hw1 (And.intro h6d (And.intro hhd (And.intro hk0 (And.intro hv0 (hv1))))))))))
          refine goK ?_ ?_ ?_ ?_ ?_ ?_ ?_ ?_ ?_ ?_ ?_ ?_ ?_ ?_ ?_ ?_
          any_goals (first | exact True.intro | skip)
          all_goals (repeat (refine Wh.mk fun hcc => ?_))
          all_goals (first | rfl | (simp [tupOf, fixEs, hz]; done) | (have h9 : ¬ v.toNat % 128 = 0 := (by omega); simp [tupOf, fixEs, hz, h9]))
        · have hv0 : ((v.toNat : Int) != 0) = true := by simp [hz]
          have hv1 : (((v.toNat % 128 : Nat) : Int) != 0) = true := by simp; omega
          have fy := And.intro hw0 (And.intro hgb (And.intro hbi (And.intro h127 (And.intro hwk (And.intro hw1 (And.intro h6d (And.intro hhd (And.intro hk0 (And.intro hv0 (hv1))))))))))
          refine goK ?_ ?_ ?_ ?_ ?_ ?_ ?_ ?_ ?_ ?_ ?_ ?_ ?_ ?_ ?_ ?_
          any_goals (first | exact True.intro | skip)
          all_goals (repeat (refine Wh.mk fun hcc => ?_))
          all_goals (first | rfl | (simp [tupOf, fixEs, hz]; done) | (have h9 : ¬ v.toNat % 128 = 0 := (by omega); simp [tupOf, fixEs, hz, h9]))
        · have hv0 : ((v.toNat : Int) != 0) = false := by simp [hz]
          have hv1 : (((v.toNat % 128 : Nat) : Int) != 0) = false := by simp [hz]
          have fy := And.intro hw0 (And.intro hgb (And.intro hbi (And.intro h127 (And.intro hwk (And.intro hw1 (And.intro h6d (And.intro hhd (And.intro hk0 (And.intro hv0 (hv1))))))))))
          refine goK ?_ ?_ ?_ ?_ ?_ ?_ ?_ ?_ ?_ ?_ ?_ ?_ ?_ ?_ ?_ ?_
          any_goals (first | exact True.intro | skip)
          all_goals (repeat (refine Wh.mk fun hcc => ?_))
          all_goals (first | rfl | (simp [tupOf, fixEs, hz]; done) | (have h9 : ¬ v.toNat % 128 = 0 := (by omega); simp [tupOf, fixEs, hz, h9]))
        · have hv0 : ((v.toNat : Int) != 0) = true := by simp [hz]
          have hv1 : (((v.toNat % 128 : Nat) : Int) != 0) = true := by simp; omega
          have fy := And.intro hw0 (And.intro hgb (And.intro hbi (And.intro h127 (And.intro hwk (And.intro hw1 (And.intro h6d (And.intro hhd (And.intro hk0 (And.intro hv0 (hv1))))))))))
          refine goK ?_ ?_ ?_ ?_ ?_ ?_ ?_ ?_ ?_ ?_ ?_ ?_ ?_ ?_ ?_ ?_
          any_goals (first | exact True.intro | skip)
          all_goals (repeat (refine Wh.mk fun hcc => ?_))
          all_goals (first | rfl | (simp [tupOf, fixEs, hz]; done) | (have h9 : ¬ v.toNat % 128 = 0 := (by omega); simp [tupOf, fixEs, hz, h9]))
  · have hge : a + k = l.length := by
      have : ¬ a + k < l.length := by simp at hc; omega
      omega
    rw [hge, List.drop_length] at hg
    have hgR : grpR l a = (0, 0, false, true) := by unfold grpR; simp only [← hg]; rfl
    rw [hgR]
    have fy := hw0
    refine goK ?_ ?_ ?_ ?_ ?_ ?_ ?_ ?_ ?_ ?_ ?_ ?_ ?_ ?_ ?_ ?_
    any_goals (first | exact True.intro | skip)
    all_goals (repeat (refine Wh.mk fun hcc => ?_))
    all_goals (first | rfl | (simp [tupOf, fixEs]; done))
end Q6
