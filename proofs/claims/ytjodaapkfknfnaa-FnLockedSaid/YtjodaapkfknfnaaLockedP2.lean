/- Shows what the parts of the program do that the claim reaches: a machine of values over the model, and the contracts of functions, for all arguments within the lengths that each theorem names. -/
import Derived.Test.YtjodaapkfknfnaaLockedP1
import Derived.Test.YtjodaapkfknfnaaLockedV5
import Derived.Test.YtjodaapkfknfnaaLockedV4
set_option linter.all false

namespace Q6
open Go Go.Vm Go.Proofs
set_option maxHeartbeats 4000000
set_option synthInstance.maxSize 2000
set_option synthInstance.maxHeartbeats 400000
set_option maxRecDepth 10000
set_option linter.unusedSimpArgs false
set_option linter.unusedVariables false

open Qlk
theorem idxW_ok (tx : Int) (l : List ((Int × Int × Int × Unit))) (hl : Enc.lim 1048576 l) : CallR Try.prog 133 [.sl .b (l.map Enc.b), .fn 134 [] [.fp (.int .i64 tx)]] [] (.int .i64 (idxOf (fun x => decide (x.1 = tx)) l)) := by
  refine CallR.of_body (n := 19) (rs := [.tmp 4]) hY.ok Try.func133 rfl (by decide) rfl rfl rfl rfl (fun F => ?_)
  have fx := And.intro Y3 (And.intro Y4 (And.intro Y41 (And.intro Y50 (Y123))))
  have hl1 : l.length ≤ 1048576 := hl.1
  have fy := Nat.add_zero
  refine goN ?_ ?_ ?_ ?_ ?_ ?_ ?_ ?_ ?_ ?_ ?_ ?_ ?_ ?_ ?_ ?_
  any_goals (first | exact True.intro | skip)
  skip
  refine SW.loop (fun i : Nat => ⟨[.sl .b (l.map Enc.b), .fn 134 [] [.fp (.int .i64 tx)], .undef, .undef, .undef, .undef, .undef, .int .i64 l.length, .int .i64 i, .undef, .undef, .undef, .undef, .undef, .undef, .undef, .undef, .undef, .undef], [[]]⟩)
    (fun n i => n = l.length - i ∧ i ≤ l.length ∧ ∀ j (h : j < l.length), j < i → (fun x => decide (x.1 = tx)) l[j] = false) (n := l.length) (x := 0) (Norm.to 0 rfl (by simp [weakL])) ⟨rfl, Nat.zero_le _, fun j _ h => absurd h (Nat.not_lt_zero _)⟩ ?_
  rintro n i ⟨hn, hi, hp⟩
  have fy := Nat.add_zero
  refine goS ?_
  refine SW.cond rfl (fun hc => ?_) (fun hc => ?_)
  · have hlt : i < l.length := by simpa using hc
    have hg : (l.map Enc.b)[i]? = some (.nd [.int .i64 l[i].1, .int .i64 l[i].2.1, .int .i64 l[i].2.2.1]) := map_get Enc.b l i hlt
    have hC1 := cx [] (clw_ok l[i] tx)
    have fy := hg
    refine goK ?_ ?_ ?_ ?_ ?_ ?_ ?_ ?_ ?_ ?_ ?_ ?_ ?_ ?_ ?_ ?_
    any_goals (first | exact True.intro | skip)
    all_goals (repeat (refine Wh.mk fun hcc => ?_))
    · have hx := hcc
      have hx' : (fun x => decide (x.1 = tx)) l[i] = true := by simpa using hx
      simp only [tupOf, fixEs, idxOf_eq (fun x => decide (x.1 = tx)) l hlt hx' (fun j hj => hp j (by omega) hj)]
    · have hx := hcc
      have hx' : (fun x => decide (x.1 = tx)) l[i] = false := by simpa using hx
      refine ⟨n - 1, i + 1, by omega, ⟨by omega, by omega, fun j hj hji => ?_⟩, ?_⟩
      · by_cases he : j = i
        · subst he; exact hx'
        · exact hp j hj (by omega)
      · rw [wrap64 _ (by omega) (by omega)]
        first | exact Norm.to 0 rfl (by simp [weakL]) | exact Norm.to 1 rfl (by simp [weakL]) | exact Norm.to 2 rfl (by simp [weakL])
  · have hge : i = l.length := by
      have : ¬ i < l.length := by simpa using hc
      omega
    have fy := Nat.add_zero
    refine goK ?_ ?_ ?_ ?_ ?_ ?_ ?_ ?_ ?_ ?_ ?_ ?_ ?_ ?_ ?_ ?_
    any_goals (first | exact True.intro | skip)
    all_goals (repeat (refine Wh.mk fun hcc => ?_))
    simp only [tupOf, fixEs, idxOf_none (fun x => decide (x.1 = tx)) l (fun j hj => hp j hj (by omega))]
theorem idxD_ok (tx : Int) (l : List ((Int × Int × Int × Unit))) (hl : Enc.lim 1048576 l) : CallR Try.prog 133 [.sl .b (l.map Enc.b), .fn 87 [] [.fp (.int .i64 tx)]] [] (.int .i64 (idxOf (fun x => decide (x.1 = tx)) l)) := by
  refine CallR.of_body (n := 19) (rs := [.tmp 4]) hY.ok Try.func133 rfl (by decide) rfl rfl rfl rfl (fun F => ?_)
  have fx := And.intro Y3 (And.intro Y4 (And.intro Y41 (And.intro Y50 (Y123))))
  have hl1 : l.length ≤ 1048576 := hl.1
  have fy := Nat.add_zero
  refine goN ?_ ?_ ?_ ?_ ?_ ?_ ?_ ?_ ?_ ?_ ?_ ?_ ?_ ?_ ?_ ?_
  any_goals (first | exact True.intro | skip)
  skip
  refine SW.loop (fun i : Nat => ⟨[.sl .b (l.map Enc.b), .fn 87 [] [.fp (.int .i64 tx)], .undef, .undef, .undef, .undef, .undef, .int .i64 l.length, .int .i64 i, .undef, .undef, .undef, .undef, .undef, .undef, .undef, .undef, .undef, .undef], [[]]⟩)
    (fun n i => n = l.length - i ∧ i ≤ l.length ∧ ∀ j (h : j < l.length), j < i → (fun x => decide (x.1 = tx)) l[j] = false) (n := l.length) (x := 0) (Norm.to 0 rfl (by simp [weakL])) ⟨rfl, Nat.zero_le _, fun j _ h => absurd h (Nat.not_lt_zero _)⟩ ?_
  rintro n i ⟨hn, hi, hp⟩
  have fy := Nat.add_zero
  refine goS ?_
  refine SW.cond rfl (fun hc => ?_) (fun hc => ?_)
  · have hlt : i < l.length := by simpa using hc
    have hg : (l.map Enc.b)[i]? = some (.nd [.int .i64 l[i].1, .int .i64 l[i].2.1, .int .i64 l[i].2.2.1]) := map_get Enc.b l i hlt
    have hC1 := cx [] (cld_ok l[i] tx)
    have fy := hg
    refine goK ?_ ?_ ?_ ?_ ?_ ?_ ?_ ?_ ?_ ?_ ?_ ?_ ?_ ?_ ?_ ?_
    any_goals (first | exact True.intro | skip)
    all_goals (repeat (refine Wh.mk fun hcc => ?_))
    · have hx := hcc
      have hx' : (fun x => decide (x.1 = tx)) l[i] = true := by simpa using hx
      simp only [tupOf, fixEs, idxOf_eq (fun x => decide (x.1 = tx)) l hlt hx' (fun j hj => hp j (by omega) hj)]
    · have hx := hcc
      have hx' : (fun x => decide (x.1 = tx)) l[i] = false := by simpa using hx
      refine ⟨n - 1, i + 1, by omega, ⟨by omega, by omega, fun j hj hji => ?_⟩, ?_⟩
      · by_cases he : j = i
        · subst he; exact hx'
        · exact hp j hj (by omega)
      · rw [wrap64 _ (by omega) (by omega)]
        first | exact Norm.to 0 rfl (by simp [weakL]) | exact Norm.to 1 rfl (by simp [weakL]) | exact Norm.to 2 rfl (by simp [weakL])
  · have hge : i = l.length := by
      have : ¬ i < l.length := by simpa using hc
      omega
    have fy := Nat.add_zero
    refine goK ?_ ?_ ?_ ?_ ?_ ?_ ?_ ?_ ?_ ?_ ?_ ?_ ?_ ?_ ?_ ?_
    any_goals (first | exact True.intro | skip)
    all_goals (repeat (refine Wh.mk fun hcc => ?_))
    simp only [tupOf, fixEs, idxOf_none (fun x => decide (x.1 = tx)) l (fun j hj => hp j hj (by omega))]
theorem idxG_ok (tx res : Int) (l : List ((Int × Int × Int × Unit))) (hl : Enc.lim 1048576 l) : CallR Try.prog 133 [.sl .b (l.map Enc.b), .fn 135 [] [.fp (.int .i64 tx), .fp (.int .i64 res)]] [] (.int .i64 (idxOf (fun x => decide (x.1 = tx) && decide (x.2.1 = res)) l)) := by
  refine CallR.of_body (n := 19) (rs := [.tmp 4]) hY.ok Try.func133 rfl (by decide) rfl rfl rfl rfl (fun F => ?_)
  have fx := And.intro Y3 (And.intro Y4 (And.intro Y41 (And.intro Y50 (Y123))))
  have hl1 : l.length ≤ 1048576 := hl.1
  have fy := Nat.add_zero
  refine goN ?_ ?_ ?_ ?_ ?_ ?_ ?_ ?_ ?_ ?_ ?_ ?_ ?_ ?_ ?_ ?_
  any_goals (first | exact True.intro | skip)
  skip
  refine SW.loop (fun i : Nat => ⟨[.sl .b (l.map Enc.b), .fn 135 [] [.fp (.int .i64 tx), .fp (.int .i64 res)], .undef, .undef, .undef, .undef, .undef, .int .i64 l.length, .int .i64 i, .undef, .undef, .undef, .undef, .undef, .undef, .undef, .undef, .undef, .undef], [[]]⟩)
    (fun n i => n = l.length - i ∧ i ≤ l.length ∧ ∀ j (h : j < l.length), j < i → (fun x => decide (x.1 = tx) && decide (x.2.1 = res)) l[j] = false) (n := l.length) (x := 0) (Norm.to 0 rfl (by simp [weakL])) ⟨rfl, Nat.zero_le _, fun j _ h => absurd h (Nat.not_lt_zero _)⟩ ?_
  rintro n i ⟨hn, hi, hp⟩
  have fy := Nat.add_zero
  refine goS ?_
  refine SW.cond rfl (fun hc => ?_) (fun hc => ?_)
  · have hlt : i < l.length := by simpa using hc
    have hg : (l.map Enc.b)[i]? = some (.nd [.int .i64 l[i].1, .int .i64 l[i].2.1, .int .i64 l[i].2.2.1]) := map_get Enc.b l i hlt
    have hC1 := cx [] (clg_ok l[i] tx res)
    have fy := hg
    refine goK ?_ ?_ ?_ ?_ ?_ ?_ ?_ ?_ ?_ ?_ ?_ ?_ ?_ ?_ ?_ ?_
    any_goals (first | exact True.intro | skip)
    all_goals (repeat (refine Wh.mk fun hcc => ?_))
    · have hx := hcc
      have hx' : (fun x => decide (x.1 = tx) && decide (x.2.1 = res)) l[i] = true := by simpa using hx
      simp only [tupOf, fixEs, idxOf_eq (fun x => decide (x.1 = tx) && decide (x.2.1 = res)) l hlt hx' (fun j hj => hp j (by omega) hj)]
    · have hx := hcc
      have hx' : (fun x => decide (x.1 = tx) && decide (x.2.1 = res)) l[i] = false := by simpa using hx
      refine ⟨n - 1, i + 1, by omega, ⟨by omega, by omega, fun j hj hji => ?_⟩, ?_⟩
      · by_cases he : j = i
        · subst he; exact hx'
        · exact hp j hj (by omega)
      · rw [wrap64 _ (by omega) (by omega)]
        first | exact Norm.to 0 rfl (by simp [weakL]) | exact Norm.to 1 rfl (by simp [weakL]) | exact Norm.to 2 rfl (by simp [weakL])
  · have hge : i = l.length := by
      have : ¬ i < l.length := by simpa using hc
      omega
    have fy := Nat.add_zero
    refine goK ?_ ?_ ?_ ?_ ?_ ?_ ?_ ?_ ?_ ?_ ?_ ?_ ?_ ?_ ?_ ?_
    any_goals (first | exact True.intro | skip)
    all_goals (repeat (refine Wh.mk fun hcc => ?_))
    simp only [tupOf, fixEs, idxOf_none (fun x => decide (x.1 = tx) && decide (x.2.1 = res)) l (fun j hj => hp j hj (by omega))]
theorem idx1_ok (g : GrT) (l : List ((Int × Int × Int × Unit))) (hl : Enc.lim 1048576 l) : CallR Try.prog 133 [.sl .b (l.map Enc.b), .fn 81 [] [.fp (.nd [.int .i64 g.1, .int .i64 g.2.1, .int .i64 g.2.2.1])]] [] (.int .i64 (idxOf (fun x => decide (x.2.1 = g.2.1) && (decide (x.1 = g.1) || !goesB x.2.2.1 g.2.2.1)) l)) := by
  refine CallR.of_body (n := 19) (rs := [.tmp 4]) hY.ok Try.func133 rfl (by decide) rfl rfl rfl rfl (fun F => ?_)
  have fx := And.intro Y3 (And.intro Y4 (And.intro Y41 (And.intro Y50 (Y123))))
  have hl1 : l.length ≤ 1048576 := hl.1
  have fy := Nat.add_zero
  refine goN ?_ ?_ ?_ ?_ ?_ ?_ ?_ ?_ ?_ ?_ ?_ ?_ ?_ ?_ ?_ ?_
  any_goals (first | exact True.intro | skip)
  skip
  refine SW.loop (fun i : Nat => ⟨[.sl .b (l.map Enc.b), .fn 81 [] [.fp (.nd [.int .i64 g.1, .int .i64 g.2.1, .int .i64 g.2.2.1])], .undef, .undef, .undef, .undef, .undef, .int .i64 l.length, .int .i64 i, .undef, .undef, .undef, .undef, .undef, .undef, .undef, .undef, .undef, .undef], [[]]⟩)
    (fun n i => n = l.length - i ∧ i ≤ l.length ∧ ∀ j (h : j < l.length), j < i → (fun x => decide (x.2.1 = g.2.1) && (decide (x.1 = g.1) || !goesB x.2.2.1 g.2.2.1)) l[j] = false) (n := l.length) (x := 0) (Norm.to 0 rfl (by simp [weakL])) ⟨rfl, Nat.zero_le _, fun j _ h => absurd h (Nat.not_lt_zero _)⟩ ?_
  rintro n i ⟨hn, hi, hp⟩
  have fy := Nat.add_zero
  refine goS ?_
  refine SW.cond rfl (fun hc => ?_) (fun hc => ?_)
  · have hlt : i < l.length := by simpa using hc
    have hg : (l.map Enc.b)[i]? = some (.nd [.int .i64 l[i].1, .int .i64 l[i].2.1, .int .i64 l[i].2.2.1]) := map_get Enc.b l i hlt
    have hC1 := cx [] (cl1_ok l[i] g)
    have fy := hg
    refine goK ?_ ?_ ?_ ?_ ?_ ?_ ?_ ?_ ?_ ?_ ?_ ?_ ?_ ?_ ?_ ?_
    any_goals (first | exact True.intro | skip)
    all_goals (repeat (refine Wh.mk fun hcc => ?_))
    · have hx := hcc
      have hx' : (fun x => decide (x.2.1 = g.2.1) && (decide (x.1 = g.1) || !goesB x.2.2.1 g.2.2.1)) l[i] = true := by simpa using hx
      simp only [tupOf, fixEs, idxOf_eq (fun x => decide (x.2.1 = g.2.1) && (decide (x.1 = g.1) || !goesB x.2.2.1 g.2.2.1)) l hlt hx' (fun j hj => hp j (by omega) hj)]
    · have hx := hcc
      have hx' : (fun x => decide (x.2.1 = g.2.1) && (decide (x.1 = g.1) || !goesB x.2.2.1 g.2.2.1)) l[i] = false := by simpa using hx
      refine ⟨n - 1, i + 1, by omega, ⟨by omega, by omega, fun j hj hji => ?_⟩, ?_⟩
      · by_cases he : j = i
        · subst he; exact hx'
        · exact hp j hj (by omega)
      · rw [wrap64 _ (by omega) (by omega)]
        first | exact Norm.to 0 rfl (by simp [weakL]) | exact Norm.to 1 rfl (by simp [weakL]) | exact Norm.to 2 rfl (by simp [weakL])
  · have hge : i = l.length := by
      have : ¬ i < l.length := by simpa using hc
      omega
    have fy := Nat.add_zero
    refine goK ?_ ?_ ?_ ?_ ?_ ?_ ?_ ?_ ?_ ?_ ?_ ?_ ?_ ?_ ?_ ?_
    any_goals (first | exact True.intro | skip)
    all_goals (repeat (refine Wh.mk fun hcc => ?_))
    simp only [tupOf, fixEs, idxOf_none (fun x => decide (x.2.1 = g.2.1) && (decide (x.1 = g.1) || !goesB x.2.2.1 g.2.2.1)) l (fun j hj => hp j hj (by omega))]
theorem any1_ok (g : GrT) (l : List ((Int × Int × Int × Unit))) (hl : Enc.lim 1048576 l) : CallR Try.prog 72 [.sl .b (l.map Enc.b), .fn 81 [] [.fp (.nd [.int .i64 g.1, .int .i64 g.2.1, .int .i64 g.2.2.1])]] [] (.bool (l.any (fun x => decide (x.2.1 = g.2.1) && (decide (x.1 = g.1) || !goesB x.2.2.1 g.2.2.1)))) := by
  refine CallR.of_body (n := 9) (rs := [.tmp 4]) hY.ok Try.func72 rfl (by decide) rfl rfl rfl rfl (fun F => ?_)
  have fx := And.intro Y3 (And.intro Y4 (And.intro Y41 (And.intro Y50 (Y123))))
  have hC1 := cx [] (idx1_ok g l hl)
  have fy := Nat.add_zero
  refine goK ?_ ?_ ?_ ?_ ?_ ?_ ?_ ?_ ?_ ?_ ?_ ?_ ?_ ?_ ?_ ?_
  any_goals (first | exact True.intro | skip)
  all_goals (repeat (refine Wh.mk fun hcc => ?_))
  all_goals simp only [tupOf, fixEs, ge_iff_le, idx_any]
theorem idxA_ok (g : GrT) (m : Int) (l : List ((Int × Int × Int × Unit))) (hl : Enc.lim 1048576 l) : CallR Try.prog 133 [.sl .b (l.map Enc.b), .fn 136 [] [.fp (.nd [.int .i64 g.1, .int .i64 g.2.1, .int .i64 g.2.2.1]), .fp (.int .i64 m)]] [] (.int .i64 (idxOf (fun x => decide (x.2.1 = g.2.1) && !decide (x.1 = g.1) && !goesB m x.2.2.1) l)) := by
  refine CallR.of_body (n := 19) (rs := [.tmp 4]) hY.ok Try.func133 rfl (by decide) rfl rfl rfl rfl (fun F => ?_)
  have fx := And.intro Y3 (And.intro Y4 (And.intro Y41 (And.intro Y50 (Y123))))
  have hl1 : l.length ≤ 1048576 := hl.1
  have fy := Nat.add_zero
  refine goN ?_ ?_ ?_ ?_ ?_ ?_ ?_ ?_ ?_ ?_ ?_ ?_ ?_ ?_ ?_ ?_
  any_goals (first | exact True.intro | skip)
  skip
  refine SW.loop (fun i : Nat => ⟨[.sl .b (l.map Enc.b), .fn 136 [] [.fp (.nd [.int .i64 g.1, .int .i64 g.2.1, .int .i64 g.2.2.1]), .fp (.int .i64 m)], .undef, .undef, .undef, .undef, .undef, .int .i64 l.length, .int .i64 i, .undef, .undef, .undef, .undef, .undef, .undef, .undef, .undef, .undef, .undef], [[]]⟩)
    (fun n i => n = l.length - i ∧ i ≤ l.length ∧ ∀ j (h : j < l.length), j < i → (fun x => decide (x.2.1 = g.2.1) && !decide (x.1 = g.1) && !goesB m x.2.2.1) l[j] = false) (n := l.length) (x := 0) (Norm.to 0 rfl (by simp [weakL])) ⟨rfl, Nat.zero_le _, fun j _ h => absurd h (Nat.not_lt_zero _)⟩ ?_
  rintro n i ⟨hn, hi, hp⟩
  have fy := Nat.add_zero
  refine goS ?_
  refine SW.cond rfl (fun hc => ?_) (fun hc => ?_)
  · have hlt : i < l.length := by simpa using hc
    have hg : (l.map Enc.b)[i]? = some (.nd [.int .i64 l[i].1, .int .i64 l[i].2.1, .int .i64 l[i].2.2.1]) := map_get Enc.b l i hlt
    have hC1 := cx [] (cla_ok l[i] g m)
    have fy := hg
    refine goK ?_ ?_ ?_ ?_ ?_ ?_ ?_ ?_ ?_ ?_ ?_ ?_ ?_ ?_ ?_ ?_
    any_goals (first | exact True.intro | skip)
    all_goals (repeat (refine Wh.mk fun hcc => ?_))
    · have hx := hcc
      have hx' : (fun x => decide (x.2.1 = g.2.1) && !decide (x.1 = g.1) && !goesB m x.2.2.1) l[i] = true := by simpa using hx
      simp only [tupOf, fixEs, idxOf_eq (fun x => decide (x.2.1 = g.2.1) && !decide (x.1 = g.1) && !goesB m x.2.2.1) l hlt hx' (fun j hj => hp j (by omega) hj)]
    · have hx := hcc
      have hx' : (fun x => decide (x.2.1 = g.2.1) && !decide (x.1 = g.1) && !goesB m x.2.2.1) l[i] = false := by simpa using hx
      refine ⟨n - 1, i + 1, by omega, ⟨by omega, by omega, fun j hj hji => ?_⟩, ?_⟩
      · by_cases he : j = i
        · subst he; exact hx'
        · exact hp j hj (by omega)
      · rw [wrap64 _ (by omega) (by omega)]
        first | exact Norm.to 0 rfl (by simp [weakL]) | exact Norm.to 1 rfl (by simp [weakL]) | exact Norm.to 2 rfl (by simp [weakL])
  · have hge : i = l.length := by
      have : ¬ i < l.length := by simpa using hc
      omega
    have fy := Nat.add_zero
    refine goK ?_ ?_ ?_ ?_ ?_ ?_ ?_ ?_ ?_ ?_ ?_ ?_ ?_ ?_ ?_ ?_
    any_goals (first | exact True.intro | skip)
    all_goals (repeat (refine Wh.mk fun hcc => ?_))
    simp only [tupOf, fixEs, idxOf_none (fun x => decide (x.2.1 = g.2.1) && !decide (x.1 = g.1) && !goesB m x.2.2.1) l (fun j hj => hp j hj (by omega))]
theorem anyA_ok (g : GrT) (m : Int) (l : List ((Int × Int × Int × Unit))) (hl : Enc.lim 1048576 l) : CallR Try.prog 72 [.sl .b (l.map Enc.b), .fn 136 [] [.fp (.nd [.int .i64 g.1, .int .i64 g.2.1, .int .i64 g.2.2.1]), .fp (.int .i64 m)]] [] (.bool (l.any (fun x => decide (x.2.1 = g.2.1) && !decide (x.1 = g.1) && !goesB m x.2.2.1))) := by
  refine CallR.of_body (n := 9) (rs := [.tmp 4]) hY.ok Try.func72 rfl (by decide) rfl rfl rfl rfl (fun F => ?_)
  have fx := And.intro Y3 (And.intro Y4 (And.intro Y41 (And.intro Y50 (Y123))))
  have hC1 := cx [] (idxA_ok g m l hl)
  have fy := Nat.add_zero
  refine goK ?_ ?_ ?_ ?_ ?_ ?_ ?_ ?_ ?_ ?_ ?_ ?_ ?_ ?_ ?_ ?_
  any_goals (first | exact True.intro | skip)
  all_goals (repeat (refine Wh.mk fun hcc => ?_))
  all_goals simp only [tupOf, fixEs, ge_iff_le, idx_any]
theorem idxK_ok (res : Int) (l : List ((Int × Int × Int × Unit))) (hl : Enc.lim 1048576 l) : CallR Try.prog 133 [.sl .b (l.map Enc.b), .fn 73 [] [.fp (.int .i64 res)]] [] (.int .i64 (idxOf (fun x => decide (x.2.1 = res)) l)) := by
  refine CallR.of_body (n := 19) (rs := [.tmp 4]) hY.ok Try.func133 rfl (by decide) rfl rfl rfl rfl (fun F => ?_)
  have fx := And.intro Y3 (And.intro Y4 (And.intro Y41 (And.intro Y50 (Y123))))
  have hl1 : l.length ≤ 1048576 := hl.1
  have fy := Nat.add_zero
  refine goN ?_ ?_ ?_ ?_ ?_ ?_ ?_ ?_ ?_ ?_ ?_ ?_ ?_ ?_ ?_ ?_
  any_goals (first | exact True.intro | skip)
  skip
  refine SW.loop (fun i : Nat => ⟨[.sl .b (l.map Enc.b), .fn 73 [] [.fp (.int .i64 res)], .undef, .undef, .undef, .undef, .undef, .int .i64 l.length, .int .i64 i, .undef, .undef, .undef, .undef, .undef, .undef, .undef, .undef, .undef, .undef], [[]]⟩)
    (fun n i => n = l.length - i ∧ i ≤ l.length ∧ ∀ j (h : j < l.length), j < i → (fun x => decide (x.2.1 = res)) l[j] = false) (n := l.length) (x := 0) (Norm.to 0 rfl (by simp [weakL])) ⟨rfl, Nat.zero_le _, fun j _ h => absurd h (Nat.not_lt_zero _)⟩ ?_
  rintro n i ⟨hn, hi, hp⟩
  have fy := Nat.add_zero
  refine goS ?_
  refine SW.cond rfl (fun hc => ?_) (fun hc => ?_)
  · have hlt : i < l.length := by simpa using hc
    have hg : (l.map Enc.b)[i]? = some (.nd [.int .i64 l[i].1, .int .i64 l[i].2.1, .int .i64 l[i].2.2.1]) := map_get Enc.b l i hlt
    have hC1 := cx [] (clk_ok l[i] res)
    have fy := hg
    refine goK ?_ ?_ ?_ ?_ ?_ ?_ ?_ ?_ ?_ ?_ ?_ ?_ ?_ ?_ ?_ ?_
    any_goals (first | exact True.intro | skip)
    all_goals (repeat (refine Wh.mk fun hcc => ?_))
    · have hx := hcc
      have hx' : (fun x => decide (x.2.1 = res)) l[i] = true := by simpa using hx
      simp only [tupOf, fixEs, idxOf_eq (fun x => decide (x.2.1 = res)) l hlt hx' (fun j hj => hp j (by omega) hj)]
    · have hx := hcc
      have hx' : (fun x => decide (x.2.1 = res)) l[i] = false := by simpa using hx
      refine ⟨n - 1, i + 1, by omega, ⟨by omega, by omega, fun j hj hji => ?_⟩, ?_⟩
      · by_cases he : j = i
        · subst he; exact hx'
        · exact hp j hj (by omega)
      · rw [wrap64 _ (by omega) (by omega)]
        first | exact Norm.to 0 rfl (by simp [weakL]) | exact Norm.to 1 rfl (by simp [weakL]) | exact Norm.to 2 rfl (by simp [weakL])
  · have hge : i = l.length := by
      have : ¬ i < l.length := by simpa using hc
      omega
    have fy := Nat.add_zero
    refine goK ?_ ?_ ?_ ?_ ?_ ?_ ?_ ?_ ?_ ?_ ?_ ?_ ?_ ?_ ?_ ?_
    any_goals (first | exact True.intro | skip)
    all_goals (repeat (refine Wh.mk fun hcc => ?_))
    simp only [tupOf, fixEs, idxOf_none (fun x => decide (x.2.1 = res)) l (fun j hj => hp j hj (by omega))]
theorem anyK_ok (res : Int) (l : List ((Int × Int × Int × Unit))) (hl : Enc.lim 1048576 l) : CallR Try.prog 72 [.sl .b (l.map Enc.b), .fn 73 [] [.fp (.int .i64 res)]] [] (.bool (l.any (fun x => decide (x.2.1 = res)))) := by
  refine CallR.of_body (n := 9) (rs := [.tmp 4]) hY.ok Try.func72 rfl (by decide) rfl rfl rfl rfl (fun F => ?_)
  have fx := And.intro Y3 (And.intro Y4 (And.intro Y41 (And.intro Y50 (Y123))))
  have hC1 := cx [] (idxK_ok res l hl)
  have fy := Nat.add_zero
  refine goK ?_ ?_ ?_ ?_ ?_ ?_ ?_ ?_ ?_ ?_ ?_ ?_ ?_ ?_ ?_ ?_
  any_goals (first | exact True.intro | skip)
  all_goals (repeat (refine Wh.mk fun hcc => ?_))
  all_goals simp only [tupOf, fixEs, ge_iff_le, idx_any]
theorem idxE_ok (g : GrT) (l : List ((Int × Int × Int × Unit))) (hl : Enc.lim 1048576 l) : CallR Try.prog 133 [.sl .b (l.map Enc.b), .fn 89 [] [.fp (.nd [.int .i64 g.1, .int .i64 g.2.1, .int .i64 g.2.2.1])]] [] (.int .i64 (idxOf (fun x => decide (x.2.1 = g.2.1)) l)) := by
  refine CallR.of_body (n := 19) (rs := [.tmp 4]) hY.ok Try.func133 rfl (by decide) rfl rfl rfl rfl (fun F => ?_)
  have fx := And.intro Y3 (And.intro Y4 (And.intro Y41 (And.intro Y50 (Y123))))
  have hl1 : l.length ≤ 1048576 := hl.1
  have fy := Nat.add_zero
  refine goN ?_ ?_ ?_ ?_ ?_ ?_ ?_ ?_ ?_ ?_ ?_ ?_ ?_ ?_ ?_ ?_
  any_goals (first | exact True.intro | skip)
  skip
  refine SW.loop (fun i : Nat => ⟨[.sl .b (l.map Enc.b), .fn 89 [] [.fp (.nd [.int .i64 g.1, .int .i64 g.2.1, .int .i64 g.2.2.1])], .undef, .undef, .undef, .undef, .undef, .int .i64 l.length, .int .i64 i, .undef, .undef, .undef, .undef, .undef, .undef, .undef, .undef, .undef, .undef], [[]]⟩)
    (fun n i => n = l.length - i ∧ i ≤ l.length ∧ ∀ j (h : j < l.length), j < i → (fun x => decide (x.2.1 = g.2.1)) l[j] = false) (n := l.length) (x := 0) (Norm.to 0 rfl (by simp [weakL])) ⟨rfl, Nat.zero_le _, fun j _ h => absurd h (Nat.not_lt_zero _)⟩ ?_
  rintro n i ⟨hn, hi, hp⟩
  have fy := Nat.add_zero
  refine goS ?_
  refine SW.cond rfl (fun hc => ?_) (fun hc => ?_)
  · have hlt : i < l.length := by simpa using hc
    have hg : (l.map Enc.b)[i]? = some (.nd [.int .i64 l[i].1, .int .i64 l[i].2.1, .int .i64 l[i].2.2.1]) := map_get Enc.b l i hlt
    have hC1 := cx [] (cle_ok l[i] g)
    have fy := hg
    refine goK ?_ ?_ ?_ ?_ ?_ ?_ ?_ ?_ ?_ ?_ ?_ ?_ ?_ ?_ ?_ ?_
    any_goals (first | exact True.intro | skip)
    all_goals (repeat (refine Wh.mk fun hcc => ?_))
    · have hx := hcc
      have hx' : (fun x => decide (x.2.1 = g.2.1)) l[i] = true := by simpa using hx
      simp only [tupOf, fixEs, idxOf_eq (fun x => decide (x.2.1 = g.2.1)) l hlt hx' (fun j hj => hp j (by omega) hj)]
    · have hx := hcc
      have hx' : (fun x => decide (x.2.1 = g.2.1)) l[i] = false := by simpa using hx
      refine ⟨n - 1, i + 1, by omega, ⟨by omega, by omega, fun j hj hji => ?_⟩, ?_⟩
      · by_cases he : j = i
        · subst he; exact hx'
        · exact hp j hj (by omega)
      · rw [wrap64 _ (by omega) (by omega)]
        first | exact Norm.to 0 rfl (by simp [weakL]) | exact Norm.to 1 rfl (by simp [weakL]) | exact Norm.to 2 rfl (by simp [weakL])
  · have hge : i = l.length := by
      have : ¬ i < l.length := by simpa using hc
      omega
    have fy := Nat.add_zero
    refine goK ?_ ?_ ?_ ?_ ?_ ?_ ?_ ?_ ?_ ?_ ?_ ?_ ?_ ?_ ?_ ?_
    any_goals (first | exact True.intro | skip)
    all_goals (repeat (refine Wh.mk fun hcc => ?_))
    simp only [tupOf, fixEs, idxOf_none (fun x => decide (x.2.1 = g.2.1)) l (fun j hj => hp j hj (by omega))]
theorem anyE_ok (g : GrT) (l : List ((Int × Int × Int × Unit))) (hl : Enc.lim 1048576 l) : CallR Try.prog 72 [.sl .b (l.map Enc.b), .fn 89 [] [.fp (.nd [.int .i64 g.1, .int .i64 g.2.1, .int .i64 g.2.2.1])]] [] (.bool (l.any (fun x => decide (x.2.1 = g.2.1)))) := by
  refine CallR.of_body (n := 9) (rs := [.tmp 4]) hY.ok Try.func72 rfl (by decide) rfl rfl rfl rfl (fun F => ?_)
  have fx := And.intro Y3 (And.intro Y4 (And.intro Y41 (And.intro Y50 (Y123))))
  have hC1 := cx [] (idxE_ok g l hl)
  have fy := Nat.add_zero
  refine goK ?_ ?_ ?_ ?_ ?_ ?_ ?_ ?_ ?_ ?_ ?_ ?_ ?_ ?_ ?_ ?_
  any_goals (first | exact True.intro | skip)
  all_goals (repeat (refine Wh.mk fun hcc => ?_))
  all_goals simp only [tupOf, fixEs, ge_iff_le, idx_any]
end Q6

namespace Q6
open Go Go.Vm Go.Proofs
set_option maxHeartbeats 4000000
set_option synthInstance.maxSize 2000
set_option synthInstance.maxHeartbeats 400000
set_option maxRecDepth 10000
set_option linter.unusedSimpArgs false
set_option linter.unusedVariables false

open Qlk

theorem idx_cases {α : Type} (p : α → Bool) (l : List α) : (∃ (i : Nat) (h : i < l.length), idxOf p l = (i : Int) ∧ p l[i] = true ∧ l.find? p = some l[i] ∧ ∀ (j : Nat) (hj : j < i), p (l[j]'(by omega)) = false) ∨ (idxOf p l = -1 ∧ l.find? p = none) := by
  cases h : l.findIdx? p with
  | none =>
    right
    refine ⟨by unfold idxOf; rw [h], ?_⟩
    rw [List.findIdx?_eq_none_iff] at h
    rw [List.find?_eq_none]
    intro x hx hp; rw [h x hx] at hp; cases hp
  | some i =>
    left
    obtain ⟨h1, h2, h3⟩ := List.findIdx?_eq_some_iff_getElem.1 h
    refine ⟨i, h1, by unfold idxOf; rw [h], h2, ?_, fun j hj => by simpa using h3 j hj⟩
    rw [List.find?_eq_some_iff_getElem]
    exact ⟨h2, i, h1, rfl, fun j hj => by simpa using h3 j hj⟩
theorem any_not2 (l : List GrT) (g : GrT) (m : Int) : (l.all fun x => !(decide (x.2.1 = g.2.1) && !decide (x.1 = g.1) && !goesB m x.2.2.1)) = !(l.any fun x => decide (x.2.1 = g.2.1) && !decide (x.1 = g.1) && !goesB m x.2.2.1) := by
  induction l with
  | nil => rfl
  | cons x l ih => rw [List.all_cons, List.any_cons, ih, Bool.not_or]
def wouldI (l : List GrT) (g : GrT) : Int := match l.find? (isG g) with | some x => bothF g.2.2.1 x.2.2.1 | none => g.2.2.1
theorem wouldI_eq {l : List GrT} (hl : ∀ x ∈ l, grB x = true) {g : GrT} (hg : grB g = true) : wouldI l g = wouldF l g := by
  unfold wouldI wouldF
  cases h : l.find? (isG g) with
  | none => rfl
  | some x => exact both_comm (grB_mode hg) (grB_mode (hl x (find_of h).1))
theorem give_set : ∀ {l : List GrT} {g : GrT} {m : Int} {i : Nat} (h : i < l.length), isG g l[i] = true → (∀ (j : Nat) (hj : j < i), isG g (l[j]'(by omega)) = false) → giveF l g m = l.set i (l[i].1, l[i].2.1, m, ())
  | [], g, m, i, h, _, _ => by simp at h
  | x :: l, g, m, 0, h, h1, _ => by
    have h1 : isG g x = true := h1
    simp [giveF, h1]
  | x :: l, g, m, i + 1, h, h1, h2 => by
    have h0 : isG g x = false := h2 0 (by omega)
    simp only [giveF, h0, Bool.false_eq_true, if_false, List.set_cons_succ, List.getElem_cons_succ]
    rw [give_set (l := l) (i := i) (by simpa using h) (by simpa using h1) (fun j hj => by have := h2 (j + 1) (by omega); simpa using this)]
theorem give_app : ∀ {l : List GrT} {g : GrT} {m : Int}, l.find? (isG g) = none → giveF l g m = l ++ [(g.1, g.2.1, m, ())]
  | [], g, m, _ => rfl
  | x :: l, g, m, h => by
    rw [List.find?_cons] at h
    split at h
    · cases h
    · rename_i h0
      simp only [giveF, h0, Bool.false_eq_true, if_false, List.cons_append]
      rw [give_app (l := l) h]

theorem waitAt_ok (G W : List GrT) (hW : W.length ≤ 1000) (tx : Int) : CallR Try.prog 69 [.nd [.sl .b (G.map Enc.b), .sl .b (W.map Enc.b)], .int .i64 tx] [] (.int .i64 (idxOf (fun x => decide (x.1 = tx)) W)) := by
  refine CallR.of_body (n := 9) (rs := [.tmp 4]) hY.ok Try.func69 rfl (by decide) rfl rfl rfl rfl (fun F => ?_)
  have fx := And.intro Y1 (And.intro Y3 (And.intro Y41 (And.intro Y43 (And.intro Y50 (Y123)))))
  have hC1 := cx [] (idxW_ok tx W ⟨by omega, fun _ _ => ⟨trivial, trivial, trivial, trivial⟩⟩)
  have fy := Nat.add_zero
  refine goK ?_ ?_ ?_ ?_ ?_ ?_ ?_ ?_ ?_ ?_ ?_ ?_ ?_ ?_ ?_ ?_
  any_goals (first | exact True.intro | skip)
  all_goals (repeat (refine Wh.mk fun hcc => ?_))
  all_goals rfl
theorem givenAt_w (G : List GrT) (hG : G.length ≤ 1000) (W : List GrT) (tx res : Int) : CallR Try.prog 71 [.nd [.sl .b (G.map Enc.b), .sl .b (W.map Enc.b)], .int .i64 tx, .int .i64 res] [] (.int .i64 (idxOf (fun x => decide (x.1 = tx) && decide (x.2.1 = res)) G)) := by
  refine CallR.of_body (n := 11) (rs := [.tmp 6]) hY.ok Try.func71 rfl (by decide) rfl rfl rfl rfl (fun F => ?_)
  have fx := And.intro Y3 (And.intro Y41 (And.intro Y43 (And.intro Y50 (Y123))))
  have hC1 := cx [] (idxG_ok tx res G ⟨by omega, fun _ _ => ⟨trivial, trivial, trivial, trivial⟩⟩)
  have fy := Nat.add_zero
  refine goK ?_ ?_ ?_ ?_ ?_ ?_ ?_ ?_ ?_ ?_ ?_ ?_ ?_ ?_ ?_ ?_
  any_goals (first | exact True.intro | skip)
  all_goals (repeat (refine Wh.mk fun hcc => ?_))
  all_goals rfl
theorem allGo_w (G : List GrT) (hG : G.length ≤ 1000) (W : List GrT) (g : GrT) (m : Int) : CallR Try.prog 74 [.nd [.sl .b (G.map Enc.b), .sl .b (W.map Enc.b)], .nd [.int .i64 g.1, .int .i64 g.2.1, .int .i64 g.2.2.1], .int .i64 m] [] (.bool (fitsF G g m)) := by
  refine CallR.of_body (n := 12) (rs := [.tmp 6]) hY.ok Try.func74 rfl (by decide) rfl rfl rfl rfl (fun F => ?_)
  have fx := And.intro Y3 (And.intro Y4 (And.intro Y41 (And.intro Y43 (And.intro Y50 (Y123)))))
  have hC1 := cx [] (anyA_ok g m G ⟨by omega, fun _ _ => ⟨trivial, trivial, trivial, trivial⟩⟩)
  have fy := Nat.add_zero
  refine goK ?_ ?_ ?_ ?_ ?_ ?_ ?_ ?_ ?_ ?_ ?_ ?_ ?_ ?_ ?_ ?_
  any_goals (first | exact True.intro | skip)
  all_goals (repeat (refine Wh.mk fun hcc => ?_))
  all_goals (simp only [tupOf, fixEs]; unfold fitsF; rw [any_not2])
theorem would_w (G : List GrT) (hG : G.length ≤ 1000) (W : List GrT) (g : GrT) : CallR Try.prog 70 [.nd [.sl .b (G.map Enc.b), .sl .b (W.map Enc.b)], .nd [.int .i64 g.1, .int .i64 g.2.1, .int .i64 g.2.2.1]] [] (.int .i64 (wouldI G g)) := by
  refine CallR.of_body (n := 25) (rs := [.tmp 4]) hY.ok Try.func70 rfl (by decide) rfl rfl rfl rfl (fun F => ?_)
  have fx := And.intro Y1 (And.intro Y2 (And.intro Y3 (And.intro Y4 (And.intro Y41 (And.intro Y43 (Y50))))))
  have hc := givenAt_w G hG W g.1 g.2.1
  unfold wouldI
  rcases idx_cases (isG g) G with ⟨i, hi, h1, h2, h3, _⟩ | ⟨h1, h3⟩
  · have h1 : idxOf (fun x : GrT => decide (x.1 = g.1) && decide (x.2.1 = g.2.1)) G = (i : Int) := h1
    rw [h1] at hc
    rw [h3]
    have hg : (G.map Enc.b)[i]? = some (.nd [.int .i64 G[i].1, .int .i64 G[i].2.1, .int .i64 G[i].2.2.1]) := map_get Enc.b G i hi
    have hltI : (i : Int) < (G.length : Int) := by omega
    have hge : decide ((i : Int) ≥ 0) = true := by simp
    have hB := iBoth_ok g.2.2.1 G[i].2.2.1
    have hC1 := cx [] (hc)
    have hC2 := cx [] (hB)
    have fy := And.intro hg (And.intro hltI (hge))
    refine goK ?_ ?_ ?_ ?_ ?_ ?_ ?_ ?_ ?_ ?_ ?_ ?_ ?_ ?_ ?_ ?_
    any_goals (first | exact True.intro | skip)
    all_goals (repeat (refine Wh.mk fun hcc => ?_))
    all_goals rfl
  · have h1 : idxOf (fun x : GrT => decide (x.1 = g.1) && decide (x.2.1 = g.2.1)) G = -1 := h1
    rw [h1] at hc
    rw [h3]
    have hC1 := cx [] (hc)
    have fy := Nat.add_zero
    refine goK ?_ ?_ ?_ ?_ ?_ ?_ ?_ ?_ ?_ ?_ ?_ ?_ ?_ ?_ ?_ ?_
    any_goals (first | exact True.intro | skip)
    all_goals (repeat (refine Wh.mk fun hcc => ?_))
    all_goals rfl
theorem givenAt_y (G : List GrT) (hG : G.length ≤ 1000) (tx res : Int) : CallR Try.prog 71 [.nd [.sl .b (G.map Enc.b), .any], .int .i64 tx, .int .i64 res] [] (.int .i64 (idxOf (fun x => decide (x.1 = tx) && decide (x.2.1 = res)) G)) := by
  refine CallR.of_body (n := 11) (rs := [.tmp 6]) hY.ok Try.func71 rfl (by decide) rfl rfl rfl rfl (fun F => ?_)
  have fx := And.intro Y3 (And.intro Y41 (And.intro Y43 (And.intro Y50 (Y123))))
  have hC1 := cx [] (idxG_ok tx res G ⟨by omega, fun _ _ => ⟨trivial, trivial, trivial, trivial⟩⟩)
  have fy := Nat.add_zero
  refine goK ?_ ?_ ?_ ?_ ?_ ?_ ?_ ?_ ?_ ?_ ?_ ?_ ?_ ?_ ?_ ?_
  any_goals (first | exact True.intro | skip)
  all_goals (repeat (refine Wh.mk fun hcc => ?_))
  all_goals rfl
theorem allGo_y (G : List GrT) (hG : G.length ≤ 1000) (g : GrT) (m : Int) : CallR Try.prog 74 [.nd [.sl .b (G.map Enc.b), .any], .nd [.int .i64 g.1, .int .i64 g.2.1, .int .i64 g.2.2.1], .int .i64 m] [] (.bool (fitsF G g m)) := by
  refine CallR.of_body (n := 12) (rs := [.tmp 6]) hY.ok Try.func74 rfl (by decide) rfl rfl rfl rfl (fun F => ?_)
  have fx := And.intro Y3 (And.intro Y4 (And.intro Y41 (And.intro Y43 (And.intro Y50 (Y123)))))
  have hC1 := cx [] (anyA_ok g m G ⟨by omega, fun _ _ => ⟨trivial, trivial, trivial, trivial⟩⟩)
  have fy := Nat.add_zero
  refine goK ?_ ?_ ?_ ?_ ?_ ?_ ?_ ?_ ?_ ?_ ?_ ?_ ?_ ?_ ?_ ?_
  any_goals (first | exact True.intro | skip)
  all_goals (repeat (refine Wh.mk fun hcc => ?_))
  all_goals (simp only [tupOf, fixEs]; unfold fitsF; rw [any_not2])
theorem would_y (G : List GrT) (hG : G.length ≤ 1000) (g : GrT) : CallR Try.prog 70 [.nd [.sl .b (G.map Enc.b), .any], .nd [.int .i64 g.1, .int .i64 g.2.1, .int .i64 g.2.2.1]] [] (.int .i64 (wouldI G g)) := by
  refine CallR.of_body (n := 25) (rs := [.tmp 4]) hY.ok Try.func70 rfl (by decide) rfl rfl rfl rfl (fun F => ?_)
  have fx := And.intro Y1 (And.intro Y2 (And.intro Y3 (And.intro Y4 (And.intro Y41 (And.intro Y43 (Y50))))))
  have hc := givenAt_y G hG g.1 g.2.1
  unfold wouldI
  rcases idx_cases (isG g) G with ⟨i, hi, h1, h2, h3, _⟩ | ⟨h1, h3⟩
  · have h1 : idxOf (fun x : GrT => decide (x.1 = g.1) && decide (x.2.1 = g.2.1)) G = (i : Int) := h1
    rw [h1] at hc
    rw [h3]
    have hg : (G.map Enc.b)[i]? = some (.nd [.int .i64 G[i].1, .int .i64 G[i].2.1, .int .i64 G[i].2.2.1]) := map_get Enc.b G i hi
    have hltI : (i : Int) < (G.length : Int) := by omega
    have hge : decide ((i : Int) ≥ 0) = true := by simp
    have hB := iBoth_ok g.2.2.1 G[i].2.2.1
    have hC1 := cx [] (hc)
    have hC2 := cx [] (hB)
    have fy := And.intro hg (And.intro hltI (hge))
    refine goK ?_ ?_ ?_ ?_ ?_ ?_ ?_ ?_ ?_ ?_ ?_ ?_ ?_ ?_ ?_ ?_
    any_goals (first | exact True.intro | skip)
    all_goals (repeat (refine Wh.mk fun hcc => ?_))
    all_goals rfl
  · have h1 : idxOf (fun x : GrT => decide (x.1 = g.1) && decide (x.2.1 = g.2.1)) G = -1 := h1
    rw [h1] at hc
    rw [h3]
    have hC1 := cx [] (hc)
    have fy := Nat.add_zero
    refine goK ?_ ?_ ?_ ?_ ?_ ?_ ?_ ?_ ?_ ?_ ?_ ?_ ?_ ?_ ?_ ?_
    any_goals (first | exact True.intro | skip)
    all_goals (repeat (refine Wh.mk fun hcc => ?_))
    all_goals rfl
theorem cloneGr_ok (l : List ((Int × Int × Int × Unit))) (hl : l.length ≤ 1048576) : CallR Try.prog 132 [.sl .b (l.map Enc.b)] [] (.ow 3 (l.map Enc.o)) := by
  refine CallR.of_body (n := 8) (rs := [.tmp 2]) hY.ok Try.func132 rfl (by decide) rfl rfl rfl rfl (fun F => ?_)
  have fx := And.intro Y3 (And.intro Y4 (And.intro Y41 (Y50)))
  have hap := @append_run Y 2 41 41 1 0 0 0 50 3 24 _ .b [] (l.map Enc.b) [[], [.arr 3 [] false], []] Y41 Y41 Y50 rfl (by decide) rfl (by simp) (by simp; omega) (nwL_b l) (fun z hz => by have := List.mem_of_mem_take hz; obtain ⟨x, _, rfl⟩ := List.mem_map.1 this; rfl)
  have hbo : l.map (Enc.b : (Int × Int × Int × Unit) → T) = l.map Enc.o := rfl
  simp only [List.drop_nil, List.take_nil, List.nil_append, List.length_map, Nat.zero_add, kill] at hap
  refine SW.ops_seq hY fun y1 hy1 => ?_
  simp only [k13, upT_g, dnT_g, nb_g, dnT_b, dnT_s, dnT_0, dnT_r, fx, wo, decide_true, decide_false, wz0, wz1, wz2, wz3, wz4, wz5, wz6, wz7, wz8, appM, Ty.isInt, capT, appendZM, buildM, setAll, plSt, plAr, mnmx, Int.reduceLT, vrec, List.drop_succ_cons, List.drop_zero, convertM, indexM, fieldM, Int.toNat_zero, Int.toNat_one, Int.le_refl, Int.zero_le_ofNat, Int.reduceEq, Int.reduceNe, ne_eq, not_false_eq_true, u8_wrap, marksG_len, marks_len, bne_self_eq_false, take_map_len, tgL_byte, T.asArr, T.tg, tgL, indexAddrM, wk, wl, eq_self, isCall, callT, opM, S.ev, S.put, entryS, thawAL, thawA, RM.run, RM.bind, RM.ofOpt, allocs, Heap.ups, Heap.put, Heap.at, List.replicate, Nat.reduceAdd, Nat.reduceSub, ofConst, nilAs, if_false, if_true, binT, binTy, unT, guardT, quietK, reduceIte, boxM, allocM, loadM, storeM, fieldAddrM, lenT, extractT, subM, setOb, T.get, T.setp, T.offs, T.nw, nwL, T.cel, T.isNd, T.size, sizeL, TyI.agg, Ty.agg, Ty.isFn, zeroT, Nat.reduceLT, Nat.reduceEqDiff, sumT, kill]
  subst hy1
  refine SW.seq ?_
  refine SW.seq ?_
  refine SW.nilq hY rfl (by rw [Y41]) (by rw [Y41]; decide) (by simp) fun b hb => ?_
  simp only [thenS, List.set_cons_succ, List.set_cons_zero]
  cases b with
  | true =>
    have hl0 : l = [] := by cases l with | nil => rfl | cons x m => exact absurd (hb (by simp)) (by decide)
    subst hl0
    have fy := Nat.add_zero
    refine goK ?_ ?_ ?_ ?_ ?_ ?_ ?_ ?_ ?_ ?_ ?_ ?_ ?_ ?_ ?_ ?_
    any_goals (first | exact True.intro | skip)
    all_goals (repeat (refine Wh.mk fun hcc => ?_))
    all_goals simp [tupOf, fixEs]
  | false =>
    have fy := And.intro bs0_41 (hap)
    refine goR ?_ ?_ ?_ ?_ ?_ ?_ ?_ ?_ ?_ ?_ ?_ ?_ ?_ ?_ ?_ ?_
    any_goals (first | exact True.intro | skip)
    all_goals (repeat (refine Wh.mk fun hcc => ?_))
    rw [hbo]
    exact SW.ret (show RetQ _ _ _ _ _ _ _ from RetQ.y [3] [.ow 3 (l.map Enc.o)])
theorem cloneLocks_ok (G W : List GrT) (hG : G.length ≤ 1048576) (hW : W.length ≤ 1048576) : CallR Try.prog 67 [.nd [.sl .b (G.map Enc.b), .sl .b (W.map Enc.b)]] [] (.nd [.ow 3 (G.map Enc.o), .ow 3 (W.map Enc.o)]) := by
  refine CallR.of_body (n := 10) (rs := [.cell 2 43]) hY.ok Try.func67 rfl (by decide) rfl rfl rfl rfl (fun F => ?_)
  have fx := And.intro Y1 (And.intro Y3 (And.intro Y41 (And.intro Y43 (Y50))))
  have c1 := cloneGr_ok G (by omega)
  have c2 := cloneGr_ok W (by omega)
  have hC1 := cx [] (c1)
  have hC2 := cx [] (c2)
  have fy := Nat.add_zero
  have hD1 := dx 1 [3, 3, 1, 1] [(4, 0)]
  refine goR ?_ ?_ ?_ ?_ ?_ ?_ ?_ ?_ ?_ ?_ ?_ ?_ ?_ ?_ ?_ ?_
  any_goals (first | exact True.intro | skip)
  all_goals (repeat (refine Wh.mk fun hcc => ?_))
  all_goals exact SW.ret (show RetQ _ _ _ _ _ _ _ from RetQ.y [0] [.nd [.ow 3 (G.map Enc.o), .ow 3 (W.map Enc.o)]])
theorem give_w (G : List GrT) (hG : G.length ≤ 1000) (W : List GrT) (hW : W.length ≤ 1000) (g : GrT) (m : Int) : CallR Try.prog 75 [.io (.nd [.ow 3 (G.map Enc.o), .ow 3 (W.map Enc.o)]), .nd [.int .i64 g.1, .int .i64 g.2.1, .int .i64 g.2.2.1], .int .i64 m] [.nd [.ow 3 ((giveF G g m).map Enc.o), .ow 3 (W.map Enc.o)]] (.tup []) := by
  refine CallR.of_body (n := 40) (rs := []) hY.ok Try.func75 rfl (by decide) rfl rfl rfl rfl (fun F => ?_)
  have fx := And.intro Y1 (And.intro Y2 (And.intro Y3 (And.intro Y4 (And.intro Y41 (And.intro Y43 (And.intro Y50 (Y131)))))))
  have hc := givenAt_w G hG W g.1 g.2.1
  rcases idx_cases (isG g) G with ⟨i, hi, h1, h2, h3, h4⟩ | ⟨h1, h3⟩
  · have h1 : idxOf (fun x : GrT => decide (x.1 = g.1) && decide (x.2.1 = g.2.1)) G = (i : Int) := h1
    rw [h1] at hc
    rw [give_set hi h2 h4]
    clear h3 h4
    have hg : (G.map Enc.o)[i]? = some (.nd [.int .i64 G[i].1, .int .i64 G[i].2.1, .int .i64 G[i].2.2.1]) := map_get Enc.o G i hi
    have hltI : (i : Int) < (G.length : Int) := by omega
    have hge : decide ((i : Int) ≥ 0) = true := by simp
    have hset : (G.map Enc.o).set i (.nd [.int .i64 G[i].1, .int .i64 G[i].2.1, .int .i64 m]) = (G.set i (G[i].1, G[i].2.1, m, ())).map Enc.o := by rw [List.map_set]; rfl
    skip
    have hC1 := cx [] (hc)
    have fy := And.intro hg (And.intro hltI (And.intro hge (hset)))
    have hD1 := dx 4 [11, 1, 1, 3] [(4, 1), (4, 2)]
    refine goR ?_ ?_ ?_ ?_ ?_ ?_ ?_ ?_ ?_ ?_ ?_ ?_ ?_ ?_ ?_ ?_
    any_goals (first | exact True.intro | skip)
    all_goals (repeat (refine Wh.mk fun hcc => ?_))
    all_goals first | exact SW.ret (show RetQ _ _ _ _ _ _ _ from RetQ.y [] []) | ((try refine SW.skip ?_); exact ⟨.inl rfl, (show RetQ _ _ _ _ _ .ret _ from RetQ.y [] []).2⟩)
  · have h1 : idxOf (fun x : GrT => decide (x.1 = g.1) && decide (x.2.1 = g.2.1)) G = -1 := h1
    rw [h1] at hc
    rw [give_app h3]
    have hap := fun (own e j e2 j2 : Nat) (H : Heap) (q1 : H.at e j = some (.arr 3 ((G).map Enc.o) false)) (q2 : H.at e2 j2 = some (.arr 3 [.nd [.int .i64 (((((g.1, g.2.1, m, ()) : GrT))).1), .int .i64 (((((g.1, g.2.1, m, ()) : GrT))).2.1), .int .i64 (((((g.1, g.2.1, m, ()) : GrT))).2.2.1)]] false)) => append_runP (Y := Y) (own := own) (t := 41) (u := 41) (e := e) (j := j) (off := 0) (n := (G).length) (e2 := e2) (j2 := j2) (f := (G).map Enc.o) (l := G) (x := ((g.1, g.2.1, m, ()) : GrT)) (H := H) Y41 Y41 Y50 rfl (by decide) q1 q2 (by rw [List.drop_zero]; exact take_map_len _ _) (by simp) (by omega) rfl rfl
    have hC1 := cx [] (hc)
    have fy := And.intro bs1_41 (hap)
    have hD1 := dx 4 [11, 1, 1, 3] [(4, 1), (4, 2)]
    refine goR ?_ ?_ ?_ ?_ ?_ ?_ ?_ ?_ ?_ ?_ ?_ ?_ ?_ ?_ ?_ ?_
    any_goals (first | exact True.intro | skip)
    all_goals (repeat (refine Wh.mk fun hcc => ?_))
    all_goals first | exact SW.ret (show RetQ _ _ _ _ _ _ _ from RetQ.y [] []) | ((try refine SW.skip ?_); exact ⟨.inl rfl, (show RetQ _ _ _ _ _ .ret _ from RetQ.y [] []).2⟩)
theorem give_y (G : List GrT) (hG : G.length ≤ 1000) (g : GrT) (m : Int) : CallR Try.prog 75 [.io (.nd [.ow 3 (G.map Enc.o), .any]), .nd [.int .i64 g.1, .int .i64 g.2.1, .int .i64 g.2.2.1], .int .i64 m] [.nd [.ow 3 ((giveF G g m).map Enc.o), .any]] (.tup []) := by
  refine CallR.of_body (n := 40) (rs := []) hY.ok Try.func75 rfl (by decide) rfl rfl rfl rfl (fun F => ?_)
  have fx := And.intro Y1 (And.intro Y2 (And.intro Y3 (And.intro Y4 (And.intro Y41 (And.intro Y43 (And.intro Y50 (Y131)))))))
  have hc := givenAt_y G hG g.1 g.2.1
  rcases idx_cases (isG g) G with ⟨i, hi, h1, h2, h3, h4⟩ | ⟨h1, h3⟩
  · have h1 : idxOf (fun x : GrT => decide (x.1 = g.1) && decide (x.2.1 = g.2.1)) G = (i : Int) := h1
    rw [h1] at hc
    rw [give_set hi h2 h4]
    clear h3 h4
    have hg : (G.map Enc.o)[i]? = some (.nd [.int .i64 G[i].1, .int .i64 G[i].2.1, .int .i64 G[i].2.2.1]) := map_get Enc.o G i hi
    have hltI : (i : Int) < (G.length : Int) := by omega
    have hge : decide ((i : Int) ≥ 0) = true := by simp
    have hset : (G.map Enc.o).set i (.nd [.int .i64 G[i].1, .int .i64 G[i].2.1, .int .i64 m]) = (G.set i (G[i].1, G[i].2.1, m, ())).map Enc.o := by rw [List.map_set]; rfl
    skip
    have hC1 := cx [] (hc)
    have fy := And.intro hg (And.intro hltI (And.intro hge (hset)))
    have hD1 := dx 4 [11, 1, 1, 3] [(4, 1), (4, 2)]
    refine goR ?_ ?_ ?_ ?_ ?_ ?_ ?_ ?_ ?_ ?_ ?_ ?_ ?_ ?_ ?_ ?_
    any_goals (first | exact True.intro | skip)
    all_goals (repeat (refine Wh.mk fun hcc => ?_))
    all_goals first | exact SW.ret (show RetQ _ _ _ _ _ _ _ from RetQ.y [] []) | ((try refine SW.skip ?_); exact ⟨.inl rfl, (show RetQ _ _ _ _ _ .ret _ from RetQ.y [] []).2⟩)
  · have h1 : idxOf (fun x : GrT => decide (x.1 = g.1) && decide (x.2.1 = g.2.1)) G = -1 := h1
    rw [h1] at hc
    rw [give_app h3]
    have hap := fun (own e j e2 j2 : Nat) (H : Heap) (q1 : H.at e j = some (.arr 3 ((G).map Enc.o) false)) (q2 : H.at e2 j2 = some (.arr 3 [.nd [.int .i64 (((((g.1, g.2.1, m, ()) : GrT))).1), .int .i64 (((((g.1, g.2.1, m, ()) : GrT))).2.1), .int .i64 (((((g.1, g.2.1, m, ()) : GrT))).2.2.1)]] false)) => append_runP (Y := Y) (own := own) (t := 41) (u := 41) (e := e) (j := j) (off := 0) (n := (G).length) (e2 := e2) (j2 := j2) (f := (G).map Enc.o) (l := G) (x := ((g.1, g.2.1, m, ()) : GrT)) (H := H) Y41 Y41 Y50 rfl (by decide) q1 q2 (by rw [List.drop_zero]; exact take_map_len _ _) (by simp) (by omega) rfl rfl
    have hC1 := cx [] (hc)
    have fy := And.intro bs1_41 (hap)
    have hD1 := dx 4 [11, 1, 1, 3] [(4, 1), (4, 2)]
    refine goR ?_ ?_ ?_ ?_ ?_ ?_ ?_ ?_ ?_ ?_ ?_ ?_ ?_ ?_ ?_ ?_
    any_goals (first | exact True.intro | skip)
    all_goals (repeat (refine Wh.mk fun hcc => ?_))
    all_goals first | exact SW.ret (show RetQ _ _ _ _ _ _ _ from RetQ.y [] []) | ((try refine SW.skip ?_); exact ⟨.inl rfl, (show RetQ _ _ _ _ _ .ret _ from RetQ.y [] []).2⟩)
end Q6

namespace Q6
open Go Go.Vm Go.Proofs
set_option maxHeartbeats 4000000
set_option synthInstance.maxSize 2000
set_option synthInstance.maxHeartbeats 400000
set_option maxRecDepth 10000
set_option linter.unusedSimpArgs false
set_option linter.unusedVariables false

open Qlk

def qG (G : List GrT) (j : Nat) : Bool := match G[j]? with | some g => grB g && !(G.take j).any (fun x => decide (x.2.1 = g.2.1) && (decide (x.1 = g.1) || !goesB x.2.2.1 g.2.2.1)) | none => true
def qW (W : List GrT) (j : Nat) : Bool := match W[j]? with | some g => grB g && !(W.take j).any (fun x => decide (x.1 = g.1)) | none => true
def lkB (G W : List GrT) : Bool := decide (G.length ≤ 60) && decide (W.length ≤ 60) && (List.range G.length).all (qG G) && (List.range W.length).all (qW W)
theorem qG_at {G : List GrT} {i : Nat} (h : i < G.length) : qG G i = (grB G[i] && !(G.take i).any (fun x => decide (x.2.1 = G[i].2.1) && (decide (x.1 = G[i].1) || !goesB x.2.2.1 G[i].2.2.1))) := by
  unfold qG; rw [List.getElem?_eq_getElem h]
theorem qW_at {W : List GrT} {i : Nat} (h : i < W.length) : qW W i = (grB W[i] && !(W.take i).any (fun x => decide (x.1 = W[i].1))) := by
  unfold qW; rw [List.getElem?_eq_getElem h]
theorem pair_idx {α : Type} {R : α → α → Prop} {l : List α} : l.Pairwise R ↔ ∀ (i : Nat) (h : i < l.length), ∀ x ∈ l.take i, R x l[i] := by
  rw [List.pairwise_iff_getElem]
  constructor
  · intro h i hi x hx
    obtain ⟨j, hj, rfl⟩ := List.mem_iff_getElem.1 hx
    rw [List.length_take] at hj
    rw [List.getElem_take]
    exact h j i (by omega) hi (by omega)
  · intro h i j hi hj hij
    have := h j hj l[i] (List.mem_iff_getElem.2 ⟨i, by rw [List.length_take]; omega, by rw [List.getElem_take]⟩)
    exact this
theorem lkB_iff {G W : List GrT} : lkB G W = true ↔ LkOk (G, W, ()) := by
  unfold lkB
  simp only [Bool.and_eq_true, decide_eq_true_eq, List.all_eq_true, List.mem_range]
  constructor
  · rintro ⟨⟨⟨h1, h2⟩, h3⟩, h4⟩
    refine ⟨h1, h2, fun x hx => ?_, pair_idx.2 fun i hi x hx => ?_, fun x hx => ?_, pair_idx.2 fun i hi x hx => ?_⟩
    · obtain ⟨i, hi, rfl⟩ := List.mem_iff_getElem.1 hx
      have := h3 i hi; rw [qG_at hi, Bool.and_eq_true] at this; exact this.1
    · have := h3 i hi; rw [qG_at hi, Bool.and_eq_true, Bool.not_eq_true', List.any_eq_false] at this
      have := this.2 x hx
      intro he
      simp only [he, decide_true, Bool.true_and, Bool.or_eq_true, decide_eq_true_eq, Bool.not_eq_true', not_or] at this
      exact ⟨this.1, by simpa using this.2⟩
    · obtain ⟨i, hi, rfl⟩ := List.mem_iff_getElem.1 hx
      have := h4 i hi; rw [qW_at hi, Bool.and_eq_true] at this; exact this.1
    · have := h4 i hi; rw [qW_at hi, Bool.and_eq_true, Bool.not_eq_true', List.any_eq_false] at this
      have := this.2 x hx
      simpa using this
  · rintro ⟨h1, h2, h3, h4, h5, h6⟩
    refine ⟨⟨⟨h1, h2⟩, fun i hi => ?_⟩, fun i hi => ?_⟩
    · rw [qG_at hi, Bool.and_eq_true, Bool.not_eq_true', List.any_eq_false]
      refine ⟨h3 _ (List.getElem_mem hi), fun x hx => ?_⟩
      have := pair_idx.1 h4 i hi x hx
      unfold okG at this
      simp only [Bool.and_eq_true, decide_eq_true_eq, Bool.or_eq_true, Bool.not_eq_true', not_and, not_or]
      intro he
      exact ⟨(this he).1, by simp [(this he).2]⟩
    · rw [qW_at hi, Bool.and_eq_true, Bool.not_eq_true', List.any_eq_false]
      refine ⟨h5 _ (List.getElem_mem hi), fun x hx => ?_⟩
      have := pair_idx.1 h6 i hi x hx
      simpa using this
theorem lkB_len {G W : List GrT} (h : ¬ (G.length ≤ 60 ∧ W.length ≤ 60)) : lkB G W = false := by
  unfold lkB
  by_cases h1 : G.length ≤ 60
  · have h2 : ¬ W.length ≤ 60 := fun h2 => h ⟨h1, h2⟩
    simp [h2]
  · simp [h1]
theorem lkB_g {G W : List GrT} {i : Nat} (h : i < G.length) (hq : qG G i = false) : lkB G W = false := by
  unfold lkB
  have : (List.range G.length).all (qG G) = false := by
    rw [List.all_eq_false]; exact ⟨i, List.mem_range.2 h, by simp [hq]⟩
  simp [this]
theorem lkB_w {G W : List GrT} {i : Nat} (h : i < W.length) (hq : qW W i = false) : lkB G W = false := by
  unfold lkB
  have : (List.range W.length).all (qW W) = false := by
    rw [List.all_eq_false]; exact ⟨i, List.mem_range.2 h, by simp [hq]⟩
  simp [this]
theorem lkB_y {G W : List GrT} (h1 : G.length ≤ 60) (h2 : W.length ≤ 60) (hg : ∀ j, j < G.length → qG G j = true) (hw : ∀ j, j < W.length → qW W j = true) : lkB G W = true := by
  unfold lkB
  simp only [Bool.and_eq_true, decide_eq_true_eq, List.all_eq_true, List.mem_range]
  exact ⟨⟨⟨h1, h2⟩, hg⟩, hw⟩
theorem wait_first {W : List GrT} {i : Nat} (h : i < W.length) : (idxOf (fun x : GrT => decide (x.1 = W[i].1)) W != (i : Int)) = (W.take i).any (fun x => decide (x.1 = W[i].1)) := by
  rcases idx_cases (fun x : GrT => decide (x.1 = W[i].1)) W with ⟨k, hk, h1, h2, _, h4⟩ | ⟨_, h3⟩
  · rw [h1]
    rcases Nat.lt_or_ge k i with hki | hki
    · have e1 : (W.take i).any (fun x => decide (x.1 = W[i].1)) = true := List.any_eq_true.2 ⟨W[k], List.mem_iff_getElem.2 ⟨k, by rw [List.length_take]; omega, by rw [List.getElem_take]⟩, h2⟩
      rw [e1]; simp; omega
    · have hik : k = i := by
        rcases Nat.lt_or_ge i k with h' | h'
        · have := h4 i h'; simp at this
        · omega
      subst hik
      have e1 : (W.take k).any (fun x => decide (x.1 = W[k].1)) = false := by
        rw [List.any_eq_false]; intro x hx
        obtain ⟨j, hj, rfl⟩ := List.mem_iff_getElem.1 hx
        rw [List.length_take] at hj
        rw [List.getElem_take]
        have := h4 j (by omega)
        simpa using this
      rw [e1]; simp
  · rw [List.find?_eq_none] at h3
    exact absurd (by simp) (h3 _ (List.getElem_mem h))

theorem iLocksOk_ok (G W : List GrT) (hG : G.length ≤ 1048576) (hW : W.length ≤ 1048576) : CallR Try.prog 23 [.nd [.sl .b (G.map Enc.b), .sl .b (W.map Enc.b)]] [] (.bool (lkB G W)) := by
  refine CallR.of_body (n := 57) (rs := [.tmp 2]) hY.ok Try.func23 rfl (by decide) rfl rfl rfl rfl (fun F => ?_)
  have fx := And.intro Y1 (And.intro Y3 (And.intro Y4 (And.intro Y41 (And.intro Y43 (And.intro Y50 (Y123))))))
  by_cases hlen : ¬ (G.length ≤ 60 ∧ W.length ≤ 60)
  · rw [lkB_len hlen]
    by_cases h1 : G.length ≤ 60
    · have d1 : decide ((G.length : Int) > 60) = false := by simp; omega
      have d2 : decide ((W.length : Int) > 60) = true := by simp; omega
      have fy := And.intro d1 (d2)
      refine goK ?_ ?_ ?_ ?_ ?_ ?_ ?_ ?_ ?_ ?_ ?_ ?_ ?_ ?_ ?_ ?_
      any_goals (first | exact True.intro | skip)
      all_goals (repeat (refine Wh.mk fun hcc => ?_))
      all_goals rfl
    · have d1 : decide ((G.length : Int) > 60) = true := by simp; omega
      have fy := d1
      refine goK ?_ ?_ ?_ ?_ ?_ ?_ ?_ ?_ ?_ ?_ ?_ ?_ ?_ ?_ ?_ ?_
      any_goals (first | exact True.intro | skip)
      all_goals (repeat (refine Wh.mk fun hcc => ?_))
      all_goals rfl
  have hlen : G.length ≤ 60 ∧ W.length ≤ 60 := by omega
  obtain ⟨hg60, hw60⟩ := hlen
  have d1 : decide ((G.length : Int) > 60) = false := by simp; omega
  have d2 : decide ((W.length : Int) > 60) = false := by simp; omega
  have fy := And.intro d1 (d2)
  refine goR ?_ ?_ ?_ ?_ ?_ ?_ ?_ ?_ ?_ ?_ ?_ ?_ ?_ ?_ ?_ ?_
  any_goals (first | exact True.intro | skip)
  all_goals (repeat (refine Wh.mk fun hcc => ?_))
  refine SW.loop (fun i : Nat => ⟨[.undef, .ptr 1 0 [] 0, .undef, .undef, .undef, .undef, .undef, .undef, .undef, .undef, .undef, .undef, .undef, .undef, .undef, .undef, .undef, .undef, .sl .b (G.map Enc.b), .int .i64 G.length, .int .i64 (i : Nat), .undef, .undef, .undef, .undef, .undef, .undef, .undef, .undef, .undef, .undef, .undef, .undef, .undef, .undef, .undef, .undef, .undef, .undef, .undef, .undef, .undef, .undef, .undef, .undef, .undef, .undef, .undef, .undef, .undef, .undef, .undef, .undef, .undef, .undef, .undef, .undef], [[], [.var (.nd [.sl .b (G.map Enc.b), .sl .b (W.map Enc.b)])]]⟩)
    (fun N i => N = G.length - i ∧ i ≤ G.length ∧ ∀ j, j < i → qG G j = true) (n := G.length) (x := 0) ?_ ⟨rfl, Nat.zero_le _, fun j hj => absurd hj (Nat.not_lt_zero _)⟩ ?_
  · exact Norm.re [0, 1] (by decide) rfl (by first | (simp only [eq_self, heapFits, rowFits, obFits, List.getElem?_cons_zero, List.getElem?_cons_succ, renL_o, renL_b, true_and, and_true, and_self]; done) | simp [-List.map_set, -List.map_append, heapFits, rowFits, obFits, T.ren, renL]) (by simp [tmFits, T.ren, renL])
  rintro N i ⟨hN, hi, hp⟩
  have fy := Nat.add_zero
  refine goS ?_
  refine SW.cond rfl (fun hc => ?_) (fun hc => ?_)
  · have hlt : i < G.length := by simp at hc; omega
    have hltI : (i : Int) < (G.length : Int) := by omega
    have hg : (G.map Enc.b)[i]? = some (.nd [.int .i64 G[i].1, .int .i64 G[i].2.1, .int .i64 G[i].2.2.1]) := map_get Enc.b G i hlt
    have hq := qG_at hlt
    have hwi : IntKind.i64.wrap ((i : Int) + 1) = ((i + 1 : Nat) : Int) := by rw [wrap64 _ (by omega) (by omega)]; omega
    have hcg := iGrant_ok G[i]
    have htl : (G.take i).length ≤ 1048576 := by rw [List.length_take]; omega
    have hca := any1_ok G[i] (G.take i) ⟨htl, fun _ _ => ⟨trivial, trivial, trivial, trivial⟩⟩
    have hsr := fun (H : Heap) => show (sliceM Y 41 (.sl .b (G.map Enc.b)) none (some (.int .i64 (i : Nat))) none).run H = some { v := .sl .b ((G.take i).map Enc.b) } by
      simp only [sliceM, Y41, loF, hiF]
      rw [if_pos ⟨by decide, by omega, by rw [List.length_map]; omega, fun u hu => by have := List.mem_of_mem_take hu; obtain ⟨x, _, rfl⟩ := List.mem_map.1 this; rw [Y50]; rfl⟩]
      simp [RM.run]
    generalize (G.take i).any (fun x => decide (x.2.1 = G[i].2.1) && (decide (x.1 = G[i].1) || !goesB x.2.2.1 G[i].2.2.1)) = a at *
    generalize grB G[i] = b at *
    generalize G.take i = Gi at *
    cases b
    · have hF : lkB G W = false := lkB_g hlt (by rw [hq]; rfl)
      rw [hF]
      have hC1 := cx [] (hcg)
      have fy := And.intro hg (And.intro hltI (And.intro hwi (hsr)))
      refine goK ?_ ?_ ?_ ?_ ?_ ?_ ?_ ?_ ?_ ?_ ?_ ?_ ?_ ?_ ?_ ?_
      any_goals (first | exact True.intro | skip)
      all_goals (repeat (refine Wh.mk fun hcc => ?_))
      all_goals rfl
    · cases a
      rotate_left
      · have hF : lkB G W = false := lkB_g hlt (by rw [hq]; rfl)
        rw [hF]
        have hC1 := cx [] (hcg)
        have hC2 := cx [] (hca)
        have fy := And.intro hg (And.intro hltI (And.intro hwi (hsr)))
        refine goK ?_ ?_ ?_ ?_ ?_ ?_ ?_ ?_ ?_ ?_ ?_ ?_ ?_ ?_ ?_ ?_
        any_goals (first | exact True.intro | skip)
        all_goals (repeat (refine Wh.mk fun hcc => ?_))
        all_goals rfl
      · skip
        have hC1 := cx [] (hcg)
        have hC2 := cx [] (hca)
        have fy := And.intro hg (And.intro hltI (And.intro hwi (hsr)))
        refine goR ?_ ?_ ?_ ?_ ?_ ?_ ?_ ?_ ?_ ?_ ?_ ?_ ?_ ?_ ?_ ?_
        any_goals (first | exact True.intro | skip)
        all_goals (repeat (refine Wh.mk fun hcc => ?_))
        refine ⟨N - 1, i + 1, by omega, ⟨by omega, by omega, fun j hj => ?_⟩, ?_⟩
        · rcases Nat.lt_or_ge j i with h' | h'
          · exact hp j h'
          · have : j = i := by omega
            subst this; rw [hq]; rfl
        · exact Norm.re [0, 1] (by decide) rfl (by first | (simp only [eq_self, heapFits, rowFits, obFits, List.getElem?_cons_zero, List.getElem?_cons_succ, renL_o, renL_b, true_and, and_true, and_self]; done) | simp [-List.map_set, -List.map_append, heapFits, rowFits, obFits, T.ren, renL]) (by simp [tmFits, T.ren, renL])
  have hige : i = G.length := by
    have : ¬ i < G.length := by simp at hc; omega
    omega
  subst hige
  have hpg := hp
  have fy := Nat.add_zero
  refine goR ?_ ?_ ?_ ?_ ?_ ?_ ?_ ?_ ?_ ?_ ?_ ?_ ?_ ?_ ?_ ?_
  any_goals (first | exact True.intro | skip)
  all_goals (repeat (refine Wh.mk fun hcc => ?_))
  clear hp hi hN
  refine SW.loop (fun i : Nat => ⟨[.undef, .ptr 1 0 [] 0, .undef, .undef, .undef, .undef, .undef, .undef, .undef, .undef, .undef, .undef, .undef, .undef, .undef, .undef, .undef, .undef, .undef, .undef, .undef, .undef, .undef, .undef, .undef, .undef, .undef, .undef, .undef, .undef, .undef, .undef, .undef, .undef, .undef, .undef, .undef, .undef, .sl .b (W.map Enc.b), .int .i64 W.length, .int .i64 (i : Nat), .undef, .undef, .undef, .undef, .undef, .undef, .undef, .undef, .undef, .undef, .undef, .undef, .undef, .undef, .undef, .undef], [[], [.var (.nd [.sl .b (G.map Enc.b), .sl .b (W.map Enc.b)])]]⟩)
    (fun N i => N = W.length - i ∧ i ≤ W.length ∧ ∀ j, j < i → qW W j = true) (n := W.length) (x := 0) ?_ ⟨rfl, Nat.zero_le _, fun j hj => absurd hj (Nat.not_lt_zero _)⟩ ?_
  · exact Norm.re [0, 1] (by decide) rfl (by first | (simp only [eq_self, heapFits, rowFits, obFits, List.getElem?_cons_zero, List.getElem?_cons_succ, renL_o, renL_b, true_and, and_true, and_self]; done) | simp [-List.map_set, -List.map_append, heapFits, rowFits, obFits, T.ren, renL]) (by simp [tmFits, T.ren, renL])
  rintro N i ⟨hN, hi, hp⟩
  have fy := Nat.add_zero
  refine goS ?_
  refine SW.cond rfl (fun hc => ?_) (fun hc => ?_)
  · have hlt : i < W.length := by simp at hc; omega
    have hltI : (i : Int) < (W.length : Int) := by omega
    have hg : (W.map Enc.b)[i]? = some (.nd [.int .i64 W[i].1, .int .i64 W[i].2.1, .int .i64 W[i].2.2.1]) := map_get Enc.b W i hlt
    have hq := qW_at hlt
    have hwi : IntKind.i64.wrap ((i : Int) + 1) = ((i + 1 : Nat) : Int) := by rw [wrap64 _ (by omega) (by omega)]; omega
    have hcg := iGrant_ok W[i]
    have hca := waitAt_ok G W (by omega) W[i].1
    have hwf := wait_first hlt
    generalize (W.take i).any (fun x => decide (x.1 = W[i].1)) = a at *
    generalize idxOf (fun x : GrT => decide (x.1 = W[i].1)) W = k at *
    generalize grB W[i] = b at *
    cases b
    · have hF : lkB G W = false := lkB_w hlt (by rw [hq]; rfl)
      rw [hF]
      have hC1 := cx [] (hcg)
      have fy := And.intro hg (And.intro hltI (And.intro hwi (hwf)))
      refine goK ?_ ?_ ?_ ?_ ?_ ?_ ?_ ?_ ?_ ?_ ?_ ?_ ?_ ?_ ?_ ?_
      any_goals (first | exact True.intro | skip)
      all_goals (repeat (refine Wh.mk fun hcc => ?_))
      all_goals rfl
    · cases a
      rotate_left
      · have hF : lkB G W = false := lkB_w hlt (by rw [hq]; rfl)
        rw [hF]
        have hC1 := cx [] (hcg)
        have hC2 := cx [] (hca)
        have fy := And.intro hg (And.intro hltI (And.intro hwi (hwf)))
        refine goK ?_ ?_ ?_ ?_ ?_ ?_ ?_ ?_ ?_ ?_ ?_ ?_ ?_ ?_ ?_ ?_
        any_goals (first | exact True.intro | skip)
        all_goals (repeat (refine Wh.mk fun hcc => ?_))
        all_goals rfl
      · skip
        have hC1 := cx [] (hcg)
        have hC2 := cx [] (hca)
        have fy := And.intro hg (And.intro hltI (And.intro hwi (hwf)))
        refine goR ?_ ?_ ?_ ?_ ?_ ?_ ?_ ?_ ?_ ?_ ?_ ?_ ?_ ?_ ?_ ?_
        any_goals (first | exact True.intro | skip)
        all_goals (repeat (refine Wh.mk fun hcc => ?_))
        refine ⟨N - 1, i + 1, by omega, ⟨by omega, by omega, fun j hj => ?_⟩, ?_⟩
        · rcases Nat.lt_or_ge j i with h' | h'
          · exact hp j h'
          · have : j = i := by omega
            subst this; rw [hq]; rfl
        · exact Norm.re [0, 1] (by decide) rfl (by first | (simp only [eq_self, heapFits, rowFits, obFits, List.getElem?_cons_zero, List.getElem?_cons_succ, renL_o, renL_b, true_and, and_true, and_self]; done) | simp [-List.map_set, -List.map_append, heapFits, rowFits, obFits, T.ren, renL]) (by simp [tmFits, T.ren, renL])
  have hige2 : i = W.length := by
    have : ¬ i < W.length := by simp at hc; omega
    omega
  subst hige2
  rw [lkB_y hg60 hw60 hpg hp]
  have fy := Nat.add_zero
  refine goK ?_ ?_ ?_ ?_ ?_ ?_ ?_ ?_ ?_ ?_ ?_ ?_ ?_ ?_ ?_ ?_
  any_goals (first | exact True.intro | skip)
  all_goals (repeat (refine Wh.mk fun hcc => ?_))
  all_goals rfl
end Q6

namespace Q6
open Go Go.Vm Go.Proofs
set_option maxHeartbeats 4000000
set_option synthInstance.maxSize 2000
set_option synthInstance.maxHeartbeats 400000
set_option maxRecDepth 10000
set_option linter.unusedSimpArgs false
set_option linter.unusedVariables false

open Qlk

def fitP (g : GrT) (m : Int) (x : GrT) : Bool := !(decide (x.2.1 = g.2.1) && !decide (x.1 = g.1) && !goesB m x.2.2.1)
theorem has_at {G : List GrT} {g : GrT} {i : Nat} (h : i < G.length) (h1 : isG g G[i] = true) (h2 : ∀ j (hj : j < G.length), j < i → (!isG g G[j]) = true) : hasF G g = G[i].2.2.1 := by
  unfold hasF
  have : G.find? (isG g) = some G[i] := by
    rw [List.find?_eq_some_iff_getElem]
    exact ⟨h1, i, h, rfl, fun j hj => h2 j (by omega) hj⟩
  rw [this]
theorem has_none {G : List GrT} {g : GrT} (h : G.all (fun x => !isG g x) = true) : hasF G g = 0 := by
  unfold hasF
  have : G.find? (isG g) = none := by
    rw [List.find?_eq_none]; intro x hx
    have := List.all_eq_true.1 h x hx
    simpa using this
  rw [this]
theorem would_has {G : List GrT} (hl : ∀ x ∈ G, grB x = true) (g : GrT) : wouldF G g = if hasF G g = 0 then g.2.2.1 else bothF (hasF G g) g.2.2.1 := by
  unfold wouldF hasF
  cases h : G.find? (isG g) with
  | none => rfl
  | some x =>
    have := mode_pos (grB_mode (hl x (find_of h).1))
    simp only
    rw [if_neg (by omega)]

theorem sHas_ok (G W : List GrT) (hG : G.length ≤ 1000) (g : GrT) : CallR Try.prog 139 [.nd [.sl .b (G.map Enc.b), .sl .b (W.map Enc.b)], .int .i64 g.1, .int .i64 g.2.1] [] (.int .i64 (hasF G g)) := by
  refine CallR.of_body (n := 39) (rs := [.tmp 6]) hY.ok Try.func139 rfl (by decide) rfl rfl rfl rfl (fun F => ?_)
  have fx := And.intro Y1 (And.intro Y2 (And.intro Y3 (And.intro Y4 (And.intro Y41 (And.intro Y43 (Y50))))))
  have fy := Nat.add_zero
  refine goN ?_ ?_ ?_ ?_ ?_ ?_ ?_ ?_ ?_ ?_ ?_ ?_ ?_ ?_ ?_ ?_
  any_goals (first | exact True.intro | skip)
  skip
  refine SW.loop (fun i : Nat => ⟨[.undef, .int .i64 g.1, .int .i64 g.2.1, .ptr 1 0 [] 0, .undef, .undef, .undef, .int .i64 (i : Nat), .undef, .undef, .undef, .undef, .undef, .undef, .undef, .undef, .undef, .undef, .undef, .undef, .undef, .undef, .undef, .undef, .undef, .undef, .undef, .undef, .undef, .undef, .undef, .undef, .undef, .undef, .undef, .undef, .undef, .undef, .undef], [[], [.var (.nd [.sl .b (G.map Enc.b), .sl .b (W.map Enc.b)])]]⟩)
    (fun N i => N = G.length - i ∧ i ≤ G.length ∧ ∀ j (h : j < G.length), j < i → (fun x => !isG g x) G[j] = true) (n := G.length) (x := 0) ?_ ⟨rfl, Nat.zero_le _, fun j _ h => absurd h (Nat.not_lt_zero _)⟩ ?_
  · exact Norm.re [0, 1] (by decide) rfl (by first | (simp only [eq_self, heapFits, rowFits, obFits, List.getElem?_cons_zero, List.getElem?_cons_succ, renL_o, renL_b, true_and, and_true, and_self]; done) | simp [-List.map_set, -List.map_append, heapFits, rowFits, obFits, T.ren, renL]) (by simp [tmFits, T.ren, renL])
  rintro N i ⟨hN, hi, hp⟩
  have fy := Nat.add_zero
  refine goS ?_
  refine SW.cond rfl (fun hc => ?_) (fun hc => ?_)
  · have hlt : i < G.length := by simp at hc; omega
    have hltI : (i : Int) < (G.length : Int) := by omega
    have hg : (G.map Enc.b)[i]? = some (.nd [.int .i64 G[i].1, .int .i64 G[i].2.1, .int .i64 G[i].2.2.1]) := map_get Enc.b G i hlt
    have hwi : IntKind.i64.wrap ((i : Int) + 1) = ((i + 1 : Nat) : Int) := by rw [wrap64 _ (by omega) (by omega)]; omega
    have hI : isG g G[i] = (decide (G[i].1 = g.1) && decide (G[i].2.1 = g.2.1)) := rfl
    have q1 : (G[i].1 == g.1) = decide (G[i].1 = g.1) := rfl
    have q2 : (G[i].2.1 == g.2.1) = decide (G[i].2.1 = g.2.1) := rfl
    generalize decide (G[i].1 = g.1) = b1 at *
    generalize decide (G[i].2.1 = g.2.1) = b2 at *
    cases b1
    · skip
      have fy := And.intro hg (And.intro hltI (And.intro hwi (And.intro q1 (q2))))
      refine goR ?_ ?_ ?_ ?_ ?_ ?_ ?_ ?_ ?_ ?_ ?_ ?_ ?_ ?_ ?_ ?_
      any_goals (first | exact True.intro | skip)
      all_goals (repeat (refine Wh.mk fun hcc => ?_))
      have hx : (!isG g G[i]) = true := by rw [hI]; rfl
      refine ⟨N - 1, i + 1, by omega, ⟨by omega, by omega, fun j hj hji => ?_⟩, ?_⟩
      · rcases Nat.lt_or_ge j i with h' | h'
        · exact hp j hj h'
        · have : j = i := by omega
          subst this; exact hx
      · exact Norm.re [0, 1] (by decide) rfl (by first | (simp only [eq_self, heapFits, rowFits, obFits, List.getElem?_cons_zero, List.getElem?_cons_succ, renL_o, renL_b, true_and, and_true, and_self]; done) | simp [-List.map_set, -List.map_append, heapFits, rowFits, obFits, T.ren, renL]) (by simp [tmFits, T.ren, renL])
    · skip
      cases b2
      · skip
        have fy := And.intro hg (And.intro hltI (And.intro hwi (And.intro q1 (q2))))
        refine goR ?_ ?_ ?_ ?_ ?_ ?_ ?_ ?_ ?_ ?_ ?_ ?_ ?_ ?_ ?_ ?_
        any_goals (first | exact True.intro | skip)
        all_goals (repeat (refine Wh.mk fun hcc => ?_))
        have hx : (!isG g G[i]) = true := by rw [hI]; rfl
        refine ⟨N - 1, i + 1, by omega, ⟨by omega, by omega, fun j hj hji => ?_⟩, ?_⟩
        · rcases Nat.lt_or_ge j i with h' | h'
          · exact hp j hj h'
          · have : j = i := by omega
            subst this; exact hx
        · exact Norm.re [0, 1] (by decide) rfl (by first | (simp only [eq_self, heapFits, rowFits, obFits, List.getElem?_cons_zero, List.getElem?_cons_succ, renL_o, renL_b, true_and, and_true, and_self]; done) | simp [-List.map_set, -List.map_append, heapFits, rowFits, obFits, T.ren, renL]) (by simp [tmFits, T.ren, renL])
      · skip
        have fy := And.intro hg (And.intro hltI (And.intro hwi (And.intro q1 (q2))))
        refine goK ?_ ?_ ?_ ?_ ?_ ?_ ?_ ?_ ?_ ?_ ?_ ?_ ?_ ?_ ?_ ?_
        any_goals (first | exact True.intro | skip)
        all_goals (repeat (refine Wh.mk fun hcc => ?_))
        have hx : isG g G[i] = true := hI
        rw [has_at hlt hx hp]
        rfl
  have hall : G.all (fun x => !isG g x) = true := by
    have hge : i = G.length := by
      have : ¬ i < G.length := by simp at hc; omega
      omega
    exact all_of _ _ (fun j hj => hp j hj (by omega))
  rw [has_none hall]
  have fy := Nat.add_zero
  refine goK ?_ ?_ ?_ ?_ ?_ ?_ ?_ ?_ ?_ ?_ ?_ ?_ ?_ ?_ ?_ ?_
  any_goals (first | exact True.intro | skip)
  all_goals (repeat (refine Wh.mk fun hcc => ?_))
  all_goals rfl
theorem sWould_ok (G W : List GrT) (hG : G.length ≤ 1000) (hv : ∀ x ∈ G, grB x = true) (g : GrT) : CallR Try.prog 140 [.nd [.sl .b (G.map Enc.b), .sl .b (W.map Enc.b)], .nd [.int .i64 g.1, .int .i64 g.2.1, .int .i64 g.2.2.1]] [] (.int .i64 (wouldF G g)) := by
  refine CallR.of_body (n := 20) (rs := [.tmp 4]) hY.ok Try.func140 rfl (by decide) rfl rfl rfl rfl (fun F => ?_)
  have fx := And.intro Y1 (And.intro Y2 (And.intro Y3 (And.intro Y4 (And.intro Y41 (And.intro Y43 (Y50))))))
  have hc := sHas_ok G W hG g
  rw [would_has hv g]
  have hB := sBoth_ok (hasF G g) g.2.2.1
  have he : (hasF G g == 0) = decide (hasF G g = 0) := rfl
  generalize hasF G g = k at *
  by_cases h0 : k = 0
  · rw [if_pos h0]
    rw [decide_eq_true h0] at he
    have hC1 := cx [] (hc)
    have fy := he
    refine goK ?_ ?_ ?_ ?_ ?_ ?_ ?_ ?_ ?_ ?_ ?_ ?_ ?_ ?_ ?_ ?_
    any_goals (first | exact True.intro | skip)
    all_goals (repeat (refine Wh.mk fun hcc => ?_))
    all_goals rfl
  · rw [if_neg h0]
    rw [decide_eq_false h0] at he
    have hC1 := cx [] (hc)
    have hC2 := cx [] (hB)
    have fy := he
    refine goK ?_ ?_ ?_ ?_ ?_ ?_ ?_ ?_ ?_ ?_ ?_ ?_ ?_ ?_ ?_ ?_
    any_goals (first | exact True.intro | skip)
    all_goals (repeat (refine Wh.mk fun hcc => ?_))
    all_goals rfl
theorem sWaits_ok (G W : List GrT) (hW : W.length ≤ 1000) (tx : Int) : CallR Try.prog 79 [.nd [.sl .b (G.map Enc.b), .sl .b (W.map Enc.b)], .int .i64 tx] [] (.bool (W.any fun x => decide (x.1 = tx))) := by
  refine CallR.of_body (n := 21) (rs := [.tmp 4]) hY.ok Try.func79 rfl (by decide) rfl rfl rfl rfl (fun F => ?_)
  have fx := And.intro Y1 (And.intro Y3 (And.intro Y4 (And.intro Y41 (And.intro Y43 (Y50)))))
  have fy := Nat.add_zero
  refine goN ?_ ?_ ?_ ?_ ?_ ?_ ?_ ?_ ?_ ?_ ?_ ?_ ?_ ?_ ?_ ?_
  any_goals (first | exact True.intro | skip)
  skip
  refine SW.loop (fun i : Nat => ⟨[.undef, .int .i64 tx, .ptr 1 0 [] 0, .undef, .undef, .int .i64 (i : Nat), .undef, .undef, .undef, .undef, .undef, .undef, .undef, .undef, .undef, .undef, .undef, .undef, .undef, .undef, .undef], [[], [.var (.nd [.sl .b (G.map Enc.b), .sl .b (W.map Enc.b)])]]⟩)
    (fun N i => N = W.length - i ∧ i ≤ W.length ∧ ∀ j (h : j < W.length), j < i → (fun x => !decide (x.1 = tx)) W[j] = true) (n := W.length) (x := 0) ?_ ⟨rfl, Nat.zero_le _, fun j _ h => absurd h (Nat.not_lt_zero _)⟩ ?_
  · exact Norm.re [0, 1] (by decide) rfl (by first | (simp only [eq_self, heapFits, rowFits, obFits, List.getElem?_cons_zero, List.getElem?_cons_succ, renL_o, renL_b, true_and, and_true, and_self]; done) | simp [-List.map_set, -List.map_append, heapFits, rowFits, obFits, T.ren, renL]) (by simp [tmFits, T.ren, renL])
  rintro N i ⟨hN, hi, hp⟩
  have fy := Nat.add_zero
  refine goS ?_
  refine SW.cond rfl (fun hc => ?_) (fun hc => ?_)
  · have hlt : i < W.length := by simp at hc; omega
    have hltI : (i : Int) < (W.length : Int) := by omega
    have hg : (W.map Enc.b)[i]? = some (.nd [.int .i64 W[i].1, .int .i64 W[i].2.1, .int .i64 W[i].2.2.1]) := map_get Enc.b W i hlt
    have hwi : IntKind.i64.wrap ((i : Int) + 1) = ((i + 1 : Nat) : Int) := by rw [wrap64 _ (by omega) (by omega)]; omega
    have fy := And.intro hg (And.intro hltI (hwi))
    refine goK ?_ ?_ ?_ ?_ ?_ ?_ ?_ ?_ ?_ ?_ ?_ ?_ ?_ ?_ ?_ ?_
    any_goals (first | exact True.intro | skip)
    all_goals (repeat (refine Wh.mk fun hcc => ?_))
    · have hx : W.any (fun x => decide (x.1 = tx)) = true := List.any_eq_true.2 ⟨_, List.getElem_mem hlt, by simpa using hcc⟩
      rw [hx]
      rfl
    · skip
      have hx : (!decide (W[i].1 = tx)) = true := by simpa using hcc
      refine ⟨N - 1, i + 1, by omega, ⟨by omega, by omega, fun j hj hji => ?_⟩, ?_⟩
      · rcases Nat.lt_or_ge j i with h' | h'
        · exact hp j hj h'
        · have : j = i := by omega
          subst this; exact hx
      · exact Norm.re [0, 1] (by decide) rfl (by first | (simp only [eq_self, heapFits, rowFits, obFits, List.getElem?_cons_zero, List.getElem?_cons_succ, renL_o, renL_b, true_and, and_true, and_self]; done) | simp [-List.map_set, -List.map_append, heapFits, rowFits, obFits, T.ren, renL]) (by simp [tmFits, T.ren, renL])
  have hall : W.all (fun x => !decide (x.1 = tx)) = true := by
    have hge : i = W.length := by
      have : ¬ i < W.length := by simp at hc; omega
      omega
    exact all_of _ _ (fun j hj => hp j hj (by omega))
  have hn : W.any (fun x => decide (x.1 = tx)) = false := by
    rw [List.any_eq_false]; intro x hx; have := List.all_eq_true.1 hall x hx; simpa using this
  rw [hn]
  have fy := Nat.add_zero
  refine goK ?_ ?_ ?_ ?_ ?_ ?_ ?_ ?_ ?_ ?_ ?_ ?_ ?_ ?_ ?_ ?_
  any_goals (first | exact True.intro | skip)
  all_goals (repeat (refine Wh.mk fun hcc => ?_))
  all_goals rfl
theorem sForRes_ok (W : List GrT) (hW : W.length ≤ 1000) (r : Int) : CallR Try.prog 142 [.sl .b (W.map Enc.b), .int .i64 r] [] (.bool (forRes W r)) := by
  refine CallR.of_body (n := 19) (rs := [.tmp 4]) hY.ok Try.func142 rfl (by decide) rfl rfl rfl rfl (fun F => ?_)
  have fx := And.intro Y1 (And.intro Y3 (And.intro Y4 (And.intro Y41 (Y50))))
  have fy := Nat.add_zero
  refine goN ?_ ?_ ?_ ?_ ?_ ?_ ?_ ?_ ?_ ?_ ?_ ?_ ?_ ?_ ?_ ?_
  any_goals (first | exact True.intro | skip)
  skip
  refine SW.loop (fun i : Nat => ⟨[.sl .b (W.map Enc.b), .int .i64 r, .undef, .undef, .undef, .int .i64 (i : Nat), .undef, .undef, .undef, .undef, .undef, .undef, .undef, .undef, .undef, .undef, .undef, .undef, .undef], [[]]⟩)
    (fun N i => N = W.length - i ∧ i ≤ W.length ∧ ∀ j (h : j < W.length), j < i → (fun x => !decide (x.2.1 = r)) W[j] = true) (n := W.length) (x := 0) ?_ ⟨rfl, Nat.zero_le _, fun j _ h => absurd h (Nat.not_lt_zero _)⟩ ?_
  · exact Norm.re [0] (by decide) rfl (by first | (simp only [eq_self, heapFits, rowFits, obFits, List.getElem?_cons_zero, List.getElem?_cons_succ, renL_o, renL_b, true_and, and_true, and_self]; done) | simp [-List.map_set, -List.map_append, heapFits, rowFits, obFits, T.ren, renL]) (by simp [tmFits, T.ren, renL])
  rintro N i ⟨hN, hi, hp⟩
  have fy := Nat.add_zero
  refine goS ?_
  refine SW.cond rfl (fun hc => ?_) (fun hc => ?_)
  · have hlt : i < W.length := by simp at hc; omega
    have hltI : (i : Int) < (W.length : Int) := by omega
    have hg : (W.map Enc.b)[i]? = some (.nd [.int .i64 W[i].1, .int .i64 W[i].2.1, .int .i64 W[i].2.2.1]) := map_get Enc.b W i hlt
    have hwi : IntKind.i64.wrap ((i : Int) + 1) = ((i + 1 : Nat) : Int) := by rw [wrap64 _ (by omega) (by omega)]; omega
    have fy := And.intro hg (And.intro hltI (hwi))
    refine goK ?_ ?_ ?_ ?_ ?_ ?_ ?_ ?_ ?_ ?_ ?_ ?_ ?_ ?_ ?_ ?_
    any_goals (first | exact True.intro | skip)
    all_goals (repeat (refine Wh.mk fun hcc => ?_))
    · have hx : forRes W r = true := List.any_eq_true.2 ⟨_, List.getElem_mem hlt, by simpa using hcc⟩
      rw [hx]
      rfl
    · skip
      have hx : (!decide (W[i].2.1 = r)) = true := by simpa using hcc
      refine ⟨N - 1, i + 1, by omega, ⟨by omega, by omega, fun j hj hji => ?_⟩, ?_⟩
      · rcases Nat.lt_or_ge j i with h' | h'
        · exact hp j hj h'
        · have : j = i := by omega
          subst this; exact hx
      · exact Norm.re [0] (by decide) rfl (by first | (simp only [eq_self, heapFits, rowFits, obFits, List.getElem?_cons_zero, List.getElem?_cons_succ, renL_o, renL_b, true_and, and_true, and_self]; done) | simp [-List.map_set, -List.map_append, heapFits, rowFits, obFits, T.ren, renL]) (by simp [tmFits, T.ren, renL])
  have hall : W.all (fun x => !decide (x.2.1 = r)) = true := by
    have hge : i = W.length := by
      have : ¬ i < W.length := by simp at hc; omega
      omega
    exact all_of _ _ (fun j hj => hp j hj (by omega))
  have hn : forRes W r = false := by
    unfold forRes; rw [List.any_eq_false]; intro x hx; have := List.all_eq_true.1 hall x hx; simpa using this
  rw [hn]
  have fy := Nat.add_zero
  refine goK ?_ ?_ ?_ ?_ ?_ ?_ ?_ ?_ ?_ ?_ ?_ ?_ ?_ ?_ ?_ ?_
  any_goals (first | exact True.intro | skip)
  all_goals (repeat (refine Wh.mk fun hcc => ?_))
  all_goals rfl
theorem sFits_ok (G W : List GrT) (hG : G.length ≤ 1000) (g : GrT) (m : Int) : CallR Try.prog 141 [.nd [.sl .b (G.map Enc.b), .sl .b (W.map Enc.b)], .nd [.int .i64 g.1, .int .i64 g.2.1, .int .i64 g.2.2.1], .int .i64 m] [] (.bool (fitsF G g m)) := by
  refine CallR.of_body (n := 46) (rs := [.tmp 6]) hY.ok Try.func141 rfl (by decide) rfl rfl rfl rfl (fun F => ?_)
  have fx := And.intro Y1 (And.intro Y2 (And.intro Y3 (And.intro Y4 (And.intro Y41 (And.intro Y43 (Y50))))))
  have fy := Nat.add_zero
  refine goN ?_ ?_ ?_ ?_ ?_ ?_ ?_ ?_ ?_ ?_ ?_ ?_ ?_ ?_ ?_ ?_
  any_goals (first | exact True.intro | skip)
  skip
  refine SW.loop (fun i : Nat => ⟨[.undef, .undef, .int .i64 m, .ptr 1 0 [] 0, .ptr 2 0 [] 0, .undef, .undef, .int .i64 (i : Nat), .undef, .undef, .undef, .undef, .undef, .undef, .undef, .undef, .undef, .undef, .undef, .undef, .undef, .undef, .undef, .undef, .undef, .undef, .undef, .undef, .undef, .undef, .undef, .undef, .undef, .undef, .undef, .undef, .undef, .undef, .undef, .undef, .undef, .undef, .undef, .undef, .undef, .undef], [[], [.var (.nd [.sl .b (G.map Enc.b), .sl .b (W.map Enc.b)])], [.var (.nd [.int .i64 g.1, .int .i64 g.2.1, .int .i64 g.2.2.1])]]⟩)
    (fun N i => N = G.length - i ∧ i ≤ G.length ∧ ∀ j (h : j < G.length), j < i → (fitP g m) G[j] = true) (n := G.length) (x := 0) ?_ ⟨rfl, Nat.zero_le _, fun j _ h => absurd h (Nat.not_lt_zero _)⟩ ?_
  · exact Norm.re [0, 1, 2] (by decide) rfl (by first | (simp only [eq_self, heapFits, rowFits, obFits, List.getElem?_cons_zero, List.getElem?_cons_succ, renL_o, renL_b, true_and, and_true, and_self]; done) | simp [-List.map_set, -List.map_append, heapFits, rowFits, obFits, T.ren, renL]) (by simp [tmFits, T.ren, renL])
  rintro N i ⟨hN, hi, hp⟩
  have fy := Nat.add_zero
  refine goS ?_
  refine SW.cond rfl (fun hc => ?_) (fun hc => ?_)
  · have hlt : i < G.length := by simp at hc; omega
    have hltI : (i : Int) < (G.length : Int) := by omega
    have hg : (G.map Enc.b)[i]? = some (.nd [.int .i64 G[i].1, .int .i64 G[i].2.1, .int .i64 G[i].2.2.1]) := map_get Enc.b G i hlt
    have hwi : IntKind.i64.wrap ((i : Int) + 1) = ((i + 1 : Nat) : Int) := by rw [wrap64 _ (by omega) (by omega)]; omega
    have hGo := sGoes_ok m G[i].2.2.1
    have q1 : (G[i].2.1 == g.2.1) = decide (G[i].2.1 = g.2.1) := rfl
    have q2 : (G[i].1 != g.1) = !decide (G[i].1 = g.1) := rfl
    have hI : fitP g m G[i] = (!(decide (G[i].2.1 = g.2.1) && !decide (G[i].1 = g.1) && !goesB m G[i].2.2.1)) := rfl
    have hF : (decide (G[i].2.1 = g.2.1) && !decide (G[i].1 = g.1) && !goesB m G[i].2.2.1) = true → fitsF G g m = false := fun h => by unfold fitsF; rw [List.all_eq_false]; exact ⟨_, List.getElem_mem hlt, by rw [h]; decide⟩
    generalize decide (G[i].2.1 = g.2.1) = b1 at *
    generalize decide (G[i].1 = g.1) = b2 at *
    generalize goesB m G[i].2.2.1 = b3 at *
    cases b1
    · skip
      have hC1 := cx [] (hGo)
      have fy := And.intro hg (And.intro hltI (And.intro hwi (And.intro q1 (q2))))
      refine goR ?_ ?_ ?_ ?_ ?_ ?_ ?_ ?_ ?_ ?_ ?_ ?_ ?_ ?_ ?_ ?_
      any_goals (first | exact True.intro | skip)
      all_goals (repeat (refine Wh.mk fun hcc => ?_))
      have hx : fitP g m G[i] = true := hI
      refine ⟨N - 1, i + 1, by omega, ⟨by omega, by omega, fun j hj hji => ?_⟩, ?_⟩
      · rcases Nat.lt_or_ge j i with h' | h'
        · exact hp j hj h'
        · have : j = i := by omega
          subst this; exact hx
      · exact Norm.re [0, 1, 2] (by decide) rfl (by first | (simp only [eq_self, heapFits, rowFits, obFits, List.getElem?_cons_zero, List.getElem?_cons_succ, renL_o, renL_b, true_and, and_true, and_self]; done) | simp [-List.map_set, -List.map_append, heapFits, rowFits, obFits, T.ren, renL]) (by simp [tmFits, T.ren, renL])
    · skip
      cases b2
      · skip
        cases b3
        · skip
          have hC1 := cx [] (hGo)
          have fy := And.intro hg (And.intro hltI (And.intro hwi (And.intro q1 (q2))))
          refine goK ?_ ?_ ?_ ?_ ?_ ?_ ?_ ?_ ?_ ?_ ?_ ?_ ?_ ?_ ?_ ?_
          any_goals (first | exact True.intro | skip)
          all_goals (repeat (refine Wh.mk fun hcc => ?_))
          rw [hF rfl]
          rfl
        · skip
          have hC1 := cx [] (hGo)
          have fy := And.intro hg (And.intro hltI (And.intro hwi (And.intro q1 (q2))))
          refine goR ?_ ?_ ?_ ?_ ?_ ?_ ?_ ?_ ?_ ?_ ?_ ?_ ?_ ?_ ?_ ?_
          any_goals (first | exact True.intro | skip)
          all_goals (repeat (refine Wh.mk fun hcc => ?_))
          have hx : fitP g m G[i] = true := hI
          refine ⟨N - 1, i + 1, by omega, ⟨by omega, by omega, fun j hj hji => ?_⟩, ?_⟩
          · rcases Nat.lt_or_ge j i with h' | h'
            · exact hp j hj h'
            · have : j = i := by omega
              subst this; exact hx
          · exact Norm.re [0, 1, 2] (by decide) rfl (by first | (simp only [eq_self, heapFits, rowFits, obFits, List.getElem?_cons_zero, List.getElem?_cons_succ, renL_o, renL_b, true_and, and_true, and_self]; done) | simp [-List.map_set, -List.map_append, heapFits, rowFits, obFits, T.ren, renL]) (by simp [tmFits, T.ren, renL])
      · skip
        have hC1 := cx [] (hGo)
        have fy := And.intro hg (And.intro hltI (And.intro hwi (And.intro q1 (q2))))
        refine goR ?_ ?_ ?_ ?_ ?_ ?_ ?_ ?_ ?_ ?_ ?_ ?_ ?_ ?_ ?_ ?_
        any_goals (first | exact True.intro | skip)
        all_goals (repeat (refine Wh.mk fun hcc => ?_))
        have hx : fitP g m G[i] = true := hI
        refine ⟨N - 1, i + 1, by omega, ⟨by omega, by omega, fun j hj hji => ?_⟩, ?_⟩
        · rcases Nat.lt_or_ge j i with h' | h'
          · exact hp j hj h'
          · have : j = i := by omega
            subst this; exact hx
        · exact Norm.re [0, 1, 2] (by decide) rfl (by first | (simp only [eq_self, heapFits, rowFits, obFits, List.getElem?_cons_zero, List.getElem?_cons_succ, renL_o, renL_b, true_and, and_true, and_self]; done) | simp [-List.map_set, -List.map_append, heapFits, rowFits, obFits, T.ren, renL]) (by simp [tmFits, T.ren, renL])
  have hall : G.all (fitP g m) = true := by
    have hge : i = G.length := by
      have : ¬ i < G.length := by simp at hc; omega
      omega
    exact all_of _ _ (fun j hj => hp j hj (by omega))
  have hy : fitsF G g m = true := hall
  rw [hy]
  have fy := Nat.add_zero
  refine goK ?_ ?_ ?_ ?_ ?_ ?_ ?_ ?_ ?_ ?_ ?_ ?_ ?_ ?_ ?_ ?_
  any_goals (first | exact True.intro | skip)
  all_goals (repeat (refine Wh.mk fun hcc => ?_))
  all_goals rfl
theorem filt_len (tx : Int) (l : List GrT) (i : Nat) : ((l.take i).filter (notTx tx)).length ≤ i := by
  have h1 := List.length_filter_le (notTx tx) (l.take i)
  rw [List.length_take] at h1; omega
theorem filt_get' {tx : Int} {l : List GrT} {j : Nat} (h : j < l.length) : (l.take (j + 1)).filter (notTx tx) = (l.take j).filter (notTx tx) ++ (if notTx tx l[j] = true then [l[j]] else []) := by
  rw [List.take_succ_eq_append_getElem h, List.filter_append]
  congr 1
  cases hb : notTx tx l[j] <;> simp [hb]
theorem without_ok (l : List GrT) (hl : l.length ≤ 1000) (tx : Int) : CallR Try.prog 144 [.sl .b (l.map Enc.b), .int .i64 tx] [] (.ow 3 ((l.filter (notTx tx)).map Enc.o)) := by
  refine CallR.of_body (n := 29) (rs := [.tmp 4]) hY.ok Try.func144 rfl (by decide) rfl rfl rfl rfl (fun F => ?_)
  have fx := And.intro Y1 (And.intro Y3 (And.intro Y4 (And.intro Y41 (Y50))))
  have fy := bs0_41
  refine goN ?_ ?_ ?_ ?_ ?_ ?_ ?_ ?_ ?_ ?_ ?_ ?_ ?_ ?_ ?_ ?_
  any_goals (first | exact True.intro | skip)
  skip
  refine SW.loop (fun i : Nat => ⟨[.sl .b (l.map Enc.b), .int .i64 tx, .undef, .undef, .undef, .ref 1 0 0 ((l.take i).filter (notTx tx)).length, .int .i64 (i : Nat), .undef, .undef, .undef, .undef, .undef, .undef, .undef, .undef, .undef, .undef, .undef, .undef, .undef, .undef, .undef, .undef, .undef, .undef, .undef, .undef, .undef, .undef], [[], [.arr 3 (((l.take i).filter (notTx tx)).map Enc.o) false]]⟩)
    (fun N i => N = l.length - i ∧ i ≤ l.length) (n := l.length) (x := 0) ?_ ⟨rfl, Nat.zero_le _⟩ ?_
  · exact Norm.re [0, 1] (by decide) rfl (by first | (simp only [eq_self, heapFits, rowFits, obFits, List.getElem?_cons_zero, List.getElem?_cons_succ, renL_o, renL_b, true_and, and_true, and_self]; done) | simp [-List.map_set, -List.map_append, heapFits, rowFits, obFits, T.ren, renL]) (by simp [tmFits, T.ren, renL])
  rintro N i ⟨hN, hi⟩
  have fy := Nat.add_zero
  refine goS ?_
  refine SW.cond rfl (fun hc => ?_) (fun hc => ?_)
  · have hlt : i < l.length := by simp at hc; omega
    have hltI : (i : Int) < (l.length : Int) := by omega
    have hg : (l.map Enc.b)[i]? = some (.nd [.int .i64 l[i].1, .int .i64 l[i].2.1, .int .i64 l[i].2.2.1]) := map_get Enc.b l i hlt
    have hF := filt_get' (tx := tx) hlt
    have hkl := filt_len tx l i
    have hwi : IntKind.i64.wrap ((i : Int) + 1) = ((i + 1 : Nat) : Int) := by rw [wrap64 _ (by omega) (by omega)]; omega
    generalize ((l.take i).filter (notTx tx)) = K at *
    have hq : (l[i].1 != tx) = notTx tx l[i] := rfl
    generalize hn : notTx tx l[i] = b at *
    generalize l[i] = y at *
    cases b
    · rw [if_neg (by decide), List.append_nil] at hF
      have fy := And.intro hg (And.intro hltI (And.intro hwi (hq)))
      refine goR ?_ ?_ ?_ ?_ ?_ ?_ ?_ ?_ ?_ ?_ ?_ ?_ ?_ ?_ ?_ ?_
      any_goals (first | exact True.intro | skip)
      all_goals (repeat (refine Wh.mk fun hcc => ?_))
      refine ⟨N - 1, i + 1, by omega, ⟨by omega, by omega⟩, ?_⟩
      rw [hF]
      exact Norm.re [0, 1] (by decide) rfl (by first | (simp only [eq_self, heapFits, rowFits, obFits, List.getElem?_cons_zero, List.getElem?_cons_succ, renL_o, renL_b, true_and, and_true, and_self]; done) | simp [-List.map_set, -List.map_append, heapFits, rowFits, obFits, T.ren, renL]) (by simp [tmFits, T.ren, renL])
    · rw [if_pos rfl] at hF
      have hap := fun (own e j e2 j2 : Nat) (H : Heap) (q1 : H.at e j = some (.arr 3 ((K).map Enc.o) false)) (q2 : H.at e2 j2 = some (.arr 3 [.nd [.int .i64 y.1, .int .i64 y.2.1, .int .i64 y.2.2.1]] false)) => append_runP (Y := Y) (own := own) (t := 41) (u := 41) (e := e) (j := j) (off := 0) (n := (K).length) (e2 := e2) (j2 := j2) (f := (K).map Enc.o) (l := K) (x := y) (H := H) Y41 Y41 Y50 rfl (by decide) q1 q2 (by rw [List.drop_zero]; exact take_map_len _ _) (by simp) (by omega) rfl rfl
      have fy := And.intro hg (And.intro hltI (And.intro hwi (And.intro hq (And.intro bs1_41 (hap)))))
      refine goR ?_ ?_ ?_ ?_ ?_ ?_ ?_ ?_ ?_ ?_ ?_ ?_ ?_ ?_ ?_ ?_
      any_goals (first | exact True.intro | skip)
      all_goals (repeat (refine Wh.mk fun hcc => ?_))
      refine ⟨N - 1, i + 1, by omega, ⟨by omega, by omega⟩, ?_⟩
      rw [hF]
      exact Norm.re [0, 3] (by decide) rfl (by first | (simp only [eq_self, heapFits, rowFits, obFits, List.getElem?_cons_zero, List.getElem?_cons_succ, renL_o, renL_b, true_and, and_true, and_self]; done) | simp [-List.map_set, -List.map_append, heapFits, rowFits, obFits, T.ren, renL]) (by simp [tmFits, T.ren, renL])
  · have hige : i = l.length := by
      have : ¬ i < l.length := by simp at hc; omega
      omega
    subst hige
    rw [List.take_length]
    generalize l.filter (notTx tx) = K at *
    have fy := Nat.add_zero
    refine goR ?_ ?_ ?_ ?_ ?_ ?_ ?_ ?_ ?_ ?_ ?_ ?_ ?_ ?_ ?_ ?_
    any_goals (first | exact True.intro | skip)
    all_goals (repeat (refine Wh.mk fun hcc => ?_))
    exact SW.ret (show RetQ _ _ _ _ _ _ _ from RetQ.y [3] [.ow 3 (K.map Enc.o)])
theorem sGive_ok (G W : List GrT) (hG : G.length ≤ 1000) (hW : W.length ≤ 1000) (g : GrT) (m : Int) : CallR Try.prog 143 [.io (.nd [.ow 3 (G.map Enc.o), .ow 3 (W.map Enc.o)]), .nd [.int .i64 g.1, .int .i64 g.2.1, .int .i64 g.2.2.1], .int .i64 m] [.nd [.ow 3 ((giveF G g m).map Enc.o), .ow 3 (W.map Enc.o)]] (.tup []) := by
  refine CallR.of_body (n := 63) (rs := []) hY.ok Try.func143 rfl (by decide) rfl rfl rfl rfl (fun F => ?_)
  have fx := And.intro Y1 (And.intro Y2 (And.intro Y3 (And.intro Y4 (And.intro Y41 (And.intro Y43 (And.intro Y50 (Y131)))))))
  have fy := Nat.add_zero
  have hD1 := dx 6 [11, 1, 1, 3] [(4, 1), (4, 2)]
  refine goN ?_ ?_ ?_ ?_ ?_ ?_ ?_ ?_ ?_ ?_ ?_ ?_ ?_ ?_ ?_ ?_
  any_goals (first | exact True.intro | skip)
  skip
  refine SW.loop (fun i : Nat => ⟨[.ptr 0 0 [] 0, .undef, .int .i64 m, .undef, .ptr 1 0 [] 0, .undef, .int .i64 (i : Nat), .undef, .undef, .undef, .undef, .undef, .undef, .undef, .undef, .undef, .undef, .undef, .undef, .undef, .undef, .undef, .undef, .undef, .undef, .undef, .undef, .undef, .undef, .undef, .undef, .undef, .undef, .undef, .undef, .undef, .undef, .undef, .undef, .undef, .undef, .undef, .undef, .undef, .undef, .undef, .undef, .undef, .undef, .undef, .undef, .undef, .undef, .undef, .undef, .undef, .undef, .undef, .undef, .undef, .undef, .undef, .undef], [[.var (.nd [.ref 0 1 0 G.length, .ref 0 2 0 W.length]), .arr 3 (G.map Enc.o) false, .arr 3 (W.map Enc.o) false], [.var (.nd [.int .i64 g.1, .int .i64 g.2.1, .int .i64 g.2.2.1])]]⟩)
    (fun N i => N = G.length - i ∧ i ≤ G.length ∧ ∀ j (h : j < G.length), j < i → (fun x => !isG g x) G[j] = true) (n := G.length) (x := 0) ?_ ⟨rfl, Nat.zero_le _, fun j _ h => absurd h (Nat.not_lt_zero _)⟩ ?_
  · exact Norm.re [0, 1] (by decide) rfl (by first | (simp only [eq_self, heapFits, rowFits, obFits, List.getElem?_cons_zero, List.getElem?_cons_succ, renL_o, renL_b, true_and, and_true, and_self]; done) | simp [-List.map_set, -List.map_append, heapFits, rowFits, obFits, T.ren, renL]) (by simp [tmFits, T.ren, renL])
  rintro N i ⟨hN, hi, hp⟩
  have fy := Nat.add_zero
  refine goS ?_
  refine SW.cond rfl (fun hc => ?_) (fun hc => ?_)
  · have hlt : i < G.length := by simp at hc; omega
    have hltI : (i : Int) < (G.length : Int) := by omega
    have hg : (G.map Enc.o)[i]? = some (.nd [.int .i64 G[i].1, .int .i64 G[i].2.1, .int .i64 G[i].2.2.1]) := map_get Enc.o G i hlt
    have hwi : IntKind.i64.wrap ((i : Int) + 1) = ((i + 1 : Nat) : Int) := by rw [wrap64 _ (by omega) (by omega)]; omega
    have hI : isG g G[i] = (decide (G[i].1 = g.1) && decide (G[i].2.1 = g.2.1)) := rfl
    have q1 : (G[i].1 == g.1) = decide (G[i].1 = g.1) := rfl
    have q2 : (G[i].2.1 == g.2.1) = decide (G[i].2.1 = g.2.1) := rfl
    generalize decide (G[i].1 = g.1) = b1 at *
    generalize decide (G[i].2.1 = g.2.1) = b2 at *
    have hset : (G.map Enc.o).set i (.nd [.int .i64 G[i].1, .int .i64 G[i].2.1, .int .i64 m]) = (G.set i (G[i].1, G[i].2.1, m, ())).map Enc.o := by rw [List.map_set]; rfl
    cases b1
    · skip
      have fy := And.intro hg (And.intro hltI (And.intro hwi (And.intro q1 (And.intro q2 (hset)))))
      have hD1 := dx 6 [11, 1, 1, 3] [(4, 1), (4, 2)]
      refine goR ?_ ?_ ?_ ?_ ?_ ?_ ?_ ?_ ?_ ?_ ?_ ?_ ?_ ?_ ?_ ?_
      any_goals (first | exact True.intro | skip)
      all_goals (repeat (refine Wh.mk fun hcc => ?_))
      have hx : (!isG g G[i]) = true := by rw [hI]; rfl
      refine ⟨N - 1, i + 1, by omega, ⟨by omega, by omega, fun j hj hji => ?_⟩, ?_⟩
      · rcases Nat.lt_or_ge j i with h' | h'
        · exact hp j hj h'
        · have : j = i := by omega
          subst this; exact hx
      · exact Norm.re [0, 1] (by decide) rfl (by first | (simp only [eq_self, heapFits, rowFits, obFits, List.getElem?_cons_zero, List.getElem?_cons_succ, renL_o, renL_b, true_and, and_true, and_self]; done) | simp [-List.map_set, -List.map_append, heapFits, rowFits, obFits, T.ren, renL]) (by simp [tmFits, T.ren, renL])
    · skip
      cases b2
      · skip
        have fy := And.intro hg (And.intro hltI (And.intro hwi (And.intro q1 (And.intro q2 (hset)))))
        have hD1 := dx 6 [11, 1, 1, 3] [(4, 1), (4, 2)]
        refine goR ?_ ?_ ?_ ?_ ?_ ?_ ?_ ?_ ?_ ?_ ?_ ?_ ?_ ?_ ?_ ?_
        any_goals (first | exact True.intro | skip)
        all_goals (repeat (refine Wh.mk fun hcc => ?_))
        have hx : (!isG g G[i]) = true := by rw [hI]; rfl
        refine ⟨N - 1, i + 1, by omega, ⟨by omega, by omega, fun j hj hji => ?_⟩, ?_⟩
        · rcases Nat.lt_or_ge j i with h' | h'
          · exact hp j hj h'
          · have : j = i := by omega
            subst this; exact hx
        · exact Norm.re [0, 1] (by decide) rfl (by first | (simp only [eq_self, heapFits, rowFits, obFits, List.getElem?_cons_zero, List.getElem?_cons_succ, renL_o, renL_b, true_and, and_true, and_self]; done) | simp [-List.map_set, -List.map_append, heapFits, rowFits, obFits, T.ren, renL]) (by simp [tmFits, T.ren, renL])
      · skip
        have fy := And.intro hg (And.intro hltI (And.intro hwi (And.intro q1 (And.intro q2 (hset)))))
        have hD1 := dx 6 [11, 1, 1, 3] [(4, 1), (4, 2)]
        refine goR ?_ ?_ ?_ ?_ ?_ ?_ ?_ ?_ ?_ ?_ ?_ ?_ ?_ ?_ ?_ ?_
        any_goals (first | exact True.intro | skip)
        all_goals (repeat (refine Wh.mk fun hcc => ?_))
        have hx : isG g G[i] = true := hI
        rw [give_set hlt hx (fun j hj => by have := hp j (by omega) hj; simpa using this)]
        all_goals first | exact SW.ret (show RetQ _ _ _ _ _ _ _ from RetQ.y [] []) | ((try refine SW.skip ?_); exact ⟨.inl rfl, (show RetQ _ _ _ _ _ .ret _ from RetQ.y [] []).2⟩)
  have hall : G.all (fun x => !isG g x) = true := by
    have hge : i = G.length := by
      have : ¬ i < G.length := by simp at hc; omega
      omega
    exact all_of _ _ (fun j hj => hp j hj (by omega))
  have hnf : G.find? (isG g) = none := by
    rw [List.find?_eq_none]; intro x hx; have := List.all_eq_true.1 hall x hx; simpa using this
  rw [give_app hnf]
  have hap := fun (own e j e2 j2 : Nat) (H : Heap) (q1 : H.at e j = some (.arr 3 ((G).map Enc.o) false)) (q2 : H.at e2 j2 = some (.arr 3 [.nd [.int .i64 (((((g.1, g.2.1, m, ()) : GrT))).1), .int .i64 (((((g.1, g.2.1, m, ()) : GrT))).2.1), .int .i64 (((((g.1, g.2.1, m, ()) : GrT))).2.2.1)]] false)) => append_runP (Y := Y) (own := own) (t := 41) (u := 41) (e := e) (j := j) (off := 0) (n := (G).length) (e2 := e2) (j2 := j2) (f := (G).map Enc.o) (l := G) (x := ((g.1, g.2.1, m, ()) : GrT)) (H := H) Y41 Y41 Y50 rfl (by decide) q1 q2 (by rw [List.drop_zero]; exact take_map_len _ _) (by simp) (by omega) rfl rfl
  have fy := And.intro bs1_41 (hap)
  have hD1 := dx 6 [11, 1, 1, 3] [(4, 1), (4, 2)]
  refine goR ?_ ?_ ?_ ?_ ?_ ?_ ?_ ?_ ?_ ?_ ?_ ?_ ?_ ?_ ?_ ?_
  any_goals (first | exact True.intro | skip)
  all_goals (repeat (refine Wh.mk fun hcc => ?_))
  all_goals first | exact SW.ret (show RetQ _ _ _ _ _ _ _ from RetQ.y [] []) | ((try refine SW.skip ?_); exact ⟨.inl rfl, (show RetQ _ _ _ _ _ .ret _ from RetQ.y [] []).2⟩)
end Q6

namespace Q6
open Go Go.Vm Go.Proofs
set_option maxHeartbeats 4000000
set_option synthInstance.maxSize 2000
set_option synthInstance.maxHeartbeats 400000
set_option maxRecDepth 10000
set_option linter.unusedSimpArgs false
set_option linter.unusedVariables false

open Qlk
theorem sCopy_ok (G W : List GrT) (hG : G.length ≤ 1048576) (hW : W.length ≤ 1048576) : CallR Try.prog 76 [.nd [.sl .b (G.map Enc.b), .sl .b (W.map Enc.b)]] [] (.nd [.ow 3 (G.map Enc.o), .ow 3 (W.map Enc.o)]) := by
  refine CallR.of_body (n := 12) (rs := [.cell 2 43]) hY.ok Try.func76 rfl (by decide) rfl rfl rfl rfl (fun F => ?_)
  have fx := And.intro Y1 (And.intro Y3 (And.intro Y41 (And.intro Y43 (Y50))))
  have ha := fun (own_ e_ j_ : Nat) (H_ : Heap) (q1 : H_.at e_ j_ = some (.arr 3 ((([] : List GrT)).map Enc.o) false)) => append_runB (Y := Y) (own := own_) (t := 41) (u := 41) (e := e_) (j := j_) (off := 0) (n := (([] : List GrT)).length) (g := .b) (l := ([] : List GrT)) (m := G) (H := H_) Y41 Y41 Y50 rfl (by decide) q1 (by rw [List.drop_zero]; exact List.take_of_length_le (by first | (simp; done) | (rw [List.length_map]; decide))) (by first | (simp; done) | (rw [List.length_map]; decide)) (by simp only [List.length_nil]; omega) rfl rfl
  have hb := fun (own_ e_ j_ : Nat) (H_ : Heap) (q1 : H_.at e_ j_ = some (.arr 3 ((([] : List GrT)).map Enc.o) false)) => append_runB (Y := Y) (own := own_) (t := 41) (u := 41) (e := e_) (j := j_) (off := 0) (n := (([] : List GrT)).length) (g := .b) (l := ([] : List GrT)) (m := W) (H := H_) Y41 Y41 Y50 rfl (by decide) q1 (by rw [List.drop_zero]; exact List.take_of_length_le (by first | (simp; done) | (rw [List.length_map]; decide))) (by first | (simp; done) | (rw [List.length_map]; decide)) (by simp only [List.length_nil]; omega) rfl rfl
  simp only [List.nil_append, List.map_nil, List.length_nil, Nat.zero_add] at ha hb
  have fy := And.intro bs0_41 (And.intro ha (hb))
  have hD1 := dx 1 [1, 3, 1, 3, 1, 1] [(2, 0), (6, 0), (6, 1), (6, 2)]
  refine goR ?_ ?_ ?_ ?_ ?_ ?_ ?_ ?_ ?_ ?_ ?_ ?_ ?_ ?_ ?_ ?_
  any_goals (first | exact True.intro | skip)
  all_goals (repeat (refine Wh.mk fun hcc => ?_))
  all_goals exact SW.ret (show RetQ _ _ _ _ _ _ _ from RetQ.y [0] [.nd [.ow 3 (G.map Enc.o), .ow 3 (W.map Enc.o)]])
theorem sLocksOk_ok (G W : List GrT) (hG : G.length ≤ 1048576) (hW : W.length ≤ 1048576) : CallR Try.prog 77 [.nd [.sl .b (G.map Enc.b), .sl .b (W.map Enc.b)]] [] (.bool (lkB G W)) := by
  refine CallR.of_body (n := 96) (rs := [.tmp 2]) hY.ok Try.func77 rfl (by decide) rfl rfl rfl rfl (fun F => ?_)
  have fx := And.intro Y1 (And.intro Y2 (And.intro Y3 (And.intro Y4 (And.intro Y41 (And.intro Y43 (Y50))))))
  by_cases hlen : ¬ (G.length ≤ 60 ∧ W.length ≤ 60)
  · rw [lkB_len hlen]
    by_cases h1 : G.length ≤ 60
    · have d1 : decide ((G.length : Int) > 60) = false := by simp; omega
      have d2 : decide ((W.length : Int) > 60) = true := by simp; omega
      have fy := And.intro d1 (d2)
      refine goK ?_ ?_ ?_ ?_ ?_ ?_ ?_ ?_ ?_ ?_ ?_ ?_ ?_ ?_ ?_ ?_
      any_goals (first | exact True.intro | skip)
      all_goals (repeat (refine Wh.mk fun hcc => ?_))
      all_goals rfl
    · have d1 : decide ((G.length : Int) > 60) = true := by simp; omega
      have fy := d1
      refine goK ?_ ?_ ?_ ?_ ?_ ?_ ?_ ?_ ?_ ?_ ?_ ?_ ?_ ?_ ?_ ?_
      any_goals (first | exact True.intro | skip)
      all_goals (repeat (refine Wh.mk fun hcc => ?_))
      all_goals rfl
  have hlen : G.length ≤ 60 ∧ W.length ≤ 60 := by omega
  obtain ⟨hg60, hw60⟩ := hlen
  have d1 : decide ((G.length : Int) > 60) = false := by simp; omega
  have d2 : decide ((W.length : Int) > 60) = false := by simp; omega
  have fy := And.intro d1 (d2)
  refine goR ?_ ?_ ?_ ?_ ?_ ?_ ?_ ?_ ?_ ?_ ?_ ?_ ?_ ?_ ?_ ?_
  any_goals (first | exact True.intro | skip)
  all_goals (repeat (refine Wh.mk fun hcc => ?_))
  refine SW.loop (fun i : Nat => ⟨[.undef, .ptr 1 0 [] 0, .undef, .int .i64 (i : Nat), .undef, .undef, .undef, .undef, .undef, .undef, .undef, .undef, .undef, .undef, .undef, .undef, .undef, .undef, .undef, .undef, .undef, .undef, .undef, .undef, .undef, .undef, .undef, .undef, .undef, .undef, .undef, .undef, .undef, .undef, .undef, .undef, .undef, .undef, .undef, .undef, .undef, .undef, .undef, .undef, .undef, .undef, .undef, .undef, .undef, .undef, .undef, .undef, .undef, .undef, .undef, .undef, .undef, .undef, .undef, .undef, .undef, .undef, .undef, .undef, .undef, .undef, .undef, .undef, .undef, .undef, .undef, .undef, .undef, .undef, .undef, .undef, .undef, .undef, .undef, .undef, .undef, .undef, .undef, .undef, .undef, .undef, .undef, .undef, .undef, .undef, .undef, .undef, .undef, .undef, .undef, .undef], [[], [.var (.nd [.sl .b (G.map Enc.b), .sl .b (W.map Enc.b)])]]⟩)
    (fun N i => N = G.length - i ∧ i ≤ G.length ∧ ∀ j, j < i → qG G j = true) (n := G.length) (x := 0) ?_ ⟨rfl, Nat.zero_le _, fun j hj => absurd hj (Nat.not_lt_zero _)⟩ ?_
  · exact Norm.re [0, 1] (by decide) rfl (by first | (simp only [eq_self, heapFits, rowFits, obFits, List.getElem?_cons_zero, List.getElem?_cons_succ, renL_o, renL_b, true_and, and_true, and_self]; done) | simp [-List.map_set, -List.map_append, heapFits, rowFits, obFits, T.ren, renL]) (by simp [tmFits, T.ren, renL])
  rintro N i ⟨hN, hi, hp⟩
  have fy := Nat.add_zero
  refine goS ?_
  refine SW.cond rfl (fun hc => ?_) (fun hc => ?_)
  · have hlt : i < G.length := by simp at hc; omega
    have hltI : (i : Int) < (G.length : Int) := by omega
    have hg : (G.map Enc.b)[i]? = some (.nd [.int .i64 G[i].1, .int .i64 G[i].2.1, .int .i64 G[i].2.2.1]) := map_get Enc.b G i hlt
    have hq := qG_at hlt
    have hwi : IntKind.i64.wrap ((i : Int) + 1) = ((i + 1 : Nat) : Int) := by rw [wrap64 _ (by omega) (by omega)]; omega
    have hcg := sGrant_ok G[i]
    cases hb : grB G[i]
    · rw [hb] at hcg hq
      have hF : lkB G W = false := lkB_g hlt (by rw [hq]; rfl)
      rw [hF]
      have hC1 := cx [] (hcg)
      have fy := And.intro hg (And.intro hltI (hwi))
      refine goK ?_ ?_ ?_ ?_ ?_ ?_ ?_ ?_ ?_ ?_ ?_ ?_ ?_ ?_ ?_ ?_
      any_goals (first | exact True.intro | skip)
      all_goals (repeat (refine Wh.mk fun hcc => ?_))
      all_goals rfl
    rw [hb] at hcg hq
    rw [Bool.true_and] at hq
    have hC1 := cx [] (hcg)
    have fy := And.intro hg (And.intro hltI (hwi))
    refine goR ?_ ?_ ?_ ?_ ?_ ?_ ?_ ?_ ?_ ?_ ?_ ?_ ?_ ?_ ?_ ?_
    any_goals (first | exact True.intro | skip)
    all_goals (repeat (refine Wh.mk fun hcc => ?_))
    refine SW.loop (fun k : Nat => ⟨[.undef, .ptr 1 0 [] 0, .undef, .int .i64 (i : Nat), .ptr 2 0 [] 0, .int .i64 (k : Nat), .undef, .undef, .undef, .undef, .undef, .undef, .undef, .undef, .undef, .undef, .undef, .undef, .undef, .undef, .undef, .undef, .undef, .undef, .undef, .undef, .undef, .undef, .undef, .undef, .undef, .undef, .undef, .undef, .undef, .undef, .undef, .undef, .undef, .undef, .undef, .undef, .undef, .undef, .undef, .undef, .undef, .undef, .undef, .undef, .undef, .undef, .undef, .undef, .undef, .undef, .undef, .undef, .undef, .undef, .undef, .undef, .undef, .undef, .undef, .undef, .undef, .undef, .undef, .undef, .undef, .undef, .undef, .undef, .undef, .undef, .undef, .undef, .undef, .undef, .undef, .undef, .undef, .undef, .undef, .undef, .undef, .undef, .undef, .undef, .undef, .undef, .undef, .undef, .undef, .undef], [[], [.var (.nd [.sl .b (G.map Enc.b), .sl .b (W.map Enc.b)])], [.var (.nd [.int .i64 G[i].1, .int .i64 G[i].2.1, .int .i64 G[i].2.2.1])]]⟩)
      (fun M k => M = i - k ∧ k ≤ i ∧ ∀ j (h : j < G.length), j < k → (fun x : GrT => decide (x.2.1 = G[i].2.1) && (decide (x.1 = G[i].1) || !goesB x.2.2.1 G[i].2.2.1)) G[j] = false) (n := i) (x := 0) ?_ ⟨rfl, Nat.zero_le _, fun j _ hj => absurd hj (Nat.not_lt_zero _)⟩ ?_
    · exact Norm.re [0, 1, 2] (by decide) rfl (by first | (simp only [eq_self, heapFits, rowFits, obFits, List.getElem?_cons_zero, List.getElem?_cons_succ, renL_o, renL_b, true_and, and_true, and_self]; done) | simp [-List.map_set, -List.map_append, heapFits, rowFits, obFits, T.ren, renL]) (by simp [tmFits, T.ren, renL])
    rintro M k ⟨hM, hk, hpk⟩
    have fy := Nat.add_zero
    refine goS ?_
    refine SW.cond rfl (fun hc2 => ?_) (fun hc2 => ?_)
    · have hlk : k < i := by simp at hc2; omega
      have hlk2 : k < G.length := by omega
      have hlkI : (k : Int) < (G.length : Int) := by omega
      have hgk : (G.map Enc.b)[k]? = some (.nd [.int .i64 G[k].1, .int .i64 G[k].2.1, .int .i64 G[k].2.2.1]) := map_get Enc.b G k hlk2
      have hwk : IntKind.i64.wrap ((k : Int) + 1) = ((k + 1 : Nat) : Int) := by rw [wrap64 _ (by omega) (by omega)]; omega
      have hGo := sGoes_ok G[k].2.2.1 G[i].2.2.1
      have hany : (fun x : GrT => decide (x.2.1 = G[i].2.1) && (decide (x.1 = G[i].1) || !goesB x.2.2.1 G[i].2.2.1)) G[k] = true → (G.take i).any (fun x : GrT => decide (x.2.1 = G[i].2.1) && (decide (x.1 = G[i].1) || !goesB x.2.2.1 G[i].2.2.1)) = true := fun h => List.any_eq_true.2 ⟨G[k], List.mem_iff_getElem.2 ⟨k, by rw [List.length_take]; omega, by rw [List.getElem_take]⟩, h⟩
      have hI : (fun x : GrT => decide (x.2.1 = G[i].2.1) && (decide (x.1 = G[i].1) || !goesB x.2.2.1 G[i].2.2.1)) G[k] = (decide (G[k].2.1 = G[i].2.1) && (decide (G[k].1 = G[i].1) || !goesB G[k].2.2.1 G[i].2.2.1)) := rfl
      generalize hPk : (fun x : GrT => decide (x.2.1 = G[i].2.1) && (decide (x.1 = G[i].1) || !goesB x.2.2.1 G[i].2.2.1)) G[k] = pk at *
      have q1 : (G[k].2.1 == G[i].2.1) = decide (G[k].2.1 = G[i].2.1) := rfl
      have q2 : (G[k].1 == G[i].1) = decide (G[k].1 = G[i].1) := rfl
      generalize decide (G[k].2.1 = G[i].2.1) = b1 at *
      generalize decide (G[k].1 = G[i].1) = b2 at *
      generalize goesB G[k].2.2.1 G[i].2.2.1 = b3 at *
      cases b1
      · skip
        have fy := And.intro hgk (And.intro hlkI (And.intro hwk (And.intro q1 (q2))))
        refine goR ?_ ?_ ?_ ?_ ?_ ?_ ?_ ?_ ?_ ?_ ?_ ?_ ?_ ?_ ?_ ?_
        any_goals (first | exact True.intro | skip)
        all_goals (repeat (refine Wh.mk fun hcc => ?_))
        have hx : pk = false := hI
        refine ⟨M - 1, k + 1, by omega, ⟨by omega, by omega, fun j hj hji => ?_⟩, ?_⟩
        · rcases Nat.lt_or_ge j k with h' | h'
          · exact hpk j hj h'
          · have : j = k := by omega
            subst this; exact hPk.trans hx
        · exact Norm.re [0, 1, 2] (by decide) rfl (by first | (simp only [eq_self, heapFits, rowFits, obFits, List.getElem?_cons_zero, List.getElem?_cons_succ, renL_o, renL_b, true_and, and_true, and_self]; done) | simp [-List.map_set, -List.map_append, heapFits, rowFits, obFits, T.ren, renL]) (by simp [tmFits, T.ren, renL])
      cases b2
      rotate_left
      · skip
        have hx : pk = true := hI
        have hF : lkB G W = false := lkB_g hlt (by rw [hq, hany hx]; rfl)
        rw [hF]
        have hC1 := cx [] (hGo)
        have fy := And.intro hgk (And.intro hlkI (And.intro hwk (And.intro q1 (q2))))
        refine goK ?_ ?_ ?_ ?_ ?_ ?_ ?_ ?_ ?_ ?_ ?_ ?_ ?_ ?_ ?_ ?_
        any_goals (first | exact True.intro | skip)
        all_goals (repeat (refine Wh.mk fun hcc => ?_))
        all_goals rfl
      cases b3
      · skip
        have hx : pk = true := hI
        have hF : lkB G W = false := lkB_g hlt (by rw [hq, hany hx]; rfl)
        rw [hF]
        have hC1 := cx [] (hGo)
        have fy := And.intro hgk (And.intro hlkI (And.intro hwk (And.intro q1 (q2))))
        refine goK ?_ ?_ ?_ ?_ ?_ ?_ ?_ ?_ ?_ ?_ ?_ ?_ ?_ ?_ ?_ ?_
        any_goals (first | exact True.intro | skip)
        all_goals (repeat (refine Wh.mk fun hcc => ?_))
        all_goals rfl
      · skip
        have hC1 := cx [] (hGo)
        have fy := And.intro hgk (And.intro hlkI (And.intro hwk (And.intro q1 (q2))))
        refine goR ?_ ?_ ?_ ?_ ?_ ?_ ?_ ?_ ?_ ?_ ?_ ?_ ?_ ?_ ?_ ?_
        any_goals (first | exact True.intro | skip)
        all_goals (repeat (refine Wh.mk fun hcc => ?_))
        have hx : pk = false := hI
        refine ⟨M - 1, k + 1, by omega, ⟨by omega, by omega, fun j hj hji => ?_⟩, ?_⟩
        · rcases Nat.lt_or_ge j k with h' | h'
          · exact hpk j hj h'
          · have : j = k := by omega
            subst this; exact hPk.trans hx
        · exact Norm.re [0, 1, 2] (by decide) rfl (by first | (simp only [eq_self, heapFits, rowFits, obFits, List.getElem?_cons_zero, List.getElem?_cons_succ, renL_o, renL_b, true_and, and_true, and_self]; done) | simp [-List.map_set, -List.map_append, heapFits, rowFits, obFits, T.ren, renL]) (by simp [tmFits, T.ren, renL])
    · have hki : k = i := by
        have : ¬ k < i := by simp at hc2; omega
        omega
      subst hki
      have hq1 : qG G k = true := by
        rw [hq, Bool.not_eq_true', List.any_eq_false]
        intro x hx
        obtain ⟨j, hj, rfl⟩ := List.mem_iff_getElem.1 hx
        rw [List.length_take] at hj
        rw [List.getElem_take]
        have := hpk j (by omega) (by omega)
        simpa using this
      have fy := hwi
      refine goR ?_ ?_ ?_ ?_ ?_ ?_ ?_ ?_ ?_ ?_ ?_ ?_ ?_ ?_ ?_ ?_
      any_goals (first | exact True.intro | skip)
      all_goals (repeat (refine Wh.mk fun hcc => ?_))
      refine ⟨N - 1, k + 1, by omega, ⟨by omega, by omega, fun j hj => ?_⟩, ?_⟩
      · rcases Nat.lt_or_ge j k with h' | h'
        · exact hp j h'
        · have : j = k := by omega
          subst this; exact hq1
      · exact Norm.re [0, 1] (by decide) rfl (by first | (simp only [eq_self, heapFits, rowFits, obFits, List.getElem?_cons_zero, List.getElem?_cons_succ, renL_o, renL_b, true_and, and_true, and_self]; done) | simp [-List.map_set, -List.map_append, heapFits, rowFits, obFits, T.ren, renL]) (by simp [tmFits, T.ren, renL])
  have hige : i = G.length := by
    have : ¬ i < G.length := by simp at hc; omega
    omega
  subst hige
  have hpg := hp
  have fy := Nat.add_zero
  refine goR ?_ ?_ ?_ ?_ ?_ ?_ ?_ ?_ ?_ ?_ ?_ ?_ ?_ ?_ ?_ ?_
  any_goals (first | exact True.intro | skip)
  all_goals (repeat (refine Wh.mk fun hcc => ?_))
  clear hp hi hN hc
  refine SW.loop (fun i : Nat => ⟨[.undef, .ptr 1 0 [] 0, .undef, .undef, .undef, .undef, .undef, .int .i64 (i : Nat), .undef, .undef, .undef, .undef, .undef, .undef, .undef, .undef, .undef, .undef, .undef, .undef, .undef, .undef, .undef, .undef, .undef, .undef, .undef, .undef, .undef, .undef, .undef, .undef, .undef, .undef, .undef, .undef, .undef, .undef, .undef, .undef, .undef, .undef, .undef, .undef, .undef, .undef, .undef, .undef, .undef, .undef, .undef, .undef, .undef, .undef, .undef, .undef, .undef, .undef, .undef, .undef, .undef, .undef, .undef, .undef, .undef, .undef, .undef, .undef, .undef, .undef, .undef, .undef, .undef, .undef, .undef, .undef, .undef, .undef, .undef, .undef, .undef, .undef, .undef, .undef, .undef, .undef, .undef, .undef, .undef, .undef, .undef, .undef, .undef, .undef, .undef, .undef], [[], [.var (.nd [.sl .b (G.map Enc.b), .sl .b (W.map Enc.b)])]]⟩)
    (fun N i => N = W.length - i ∧ i ≤ W.length ∧ ∀ j, j < i → qW W j = true) (n := W.length) (x := 0) ?_ ⟨rfl, Nat.zero_le _, fun j hj => absurd hj (Nat.not_lt_zero _)⟩ ?_
  · exact Norm.re [0, 1] (by decide) rfl (by first | (simp only [eq_self, heapFits, rowFits, obFits, List.getElem?_cons_zero, List.getElem?_cons_succ, renL_o, renL_b, true_and, and_true, and_self]; done) | simp [-List.map_set, -List.map_append, heapFits, rowFits, obFits, T.ren, renL]) (by simp [tmFits, T.ren, renL])
  rintro N i ⟨hN, hi, hp⟩
  have fy := Nat.add_zero
  refine goS ?_
  refine SW.cond rfl (fun hc => ?_) (fun hc => ?_)
  · have hlt : i < W.length := by simp at hc; omega
    have hltI : (i : Int) < (W.length : Int) := by omega
    have hg : (W.map Enc.b)[i]? = some (.nd [.int .i64 W[i].1, .int .i64 W[i].2.1, .int .i64 W[i].2.2.1]) := map_get Enc.b W i hlt
    have hq := qW_at hlt
    have hwi : IntKind.i64.wrap ((i : Int) + 1) = ((i + 1 : Nat) : Int) := by rw [wrap64 _ (by omega) (by omega)]; omega
    have hcg := sGrant_ok W[i]
    cases hb : grB W[i]
    · rw [hb] at hcg hq
      have hF : lkB G W = false := lkB_w hlt (by rw [hq]; rfl)
      rw [hF]
      have hC1 := cx [] (hcg)
      have fy := And.intro hg (And.intro hltI (hwi))
      refine goK ?_ ?_ ?_ ?_ ?_ ?_ ?_ ?_ ?_ ?_ ?_ ?_ ?_ ?_ ?_ ?_
      any_goals (first | exact True.intro | skip)
      all_goals (repeat (refine Wh.mk fun hcc => ?_))
      all_goals rfl
    rw [hb] at hcg hq
    rw [Bool.true_and] at hq
    have hC1 := cx [] (hcg)
    have fy := And.intro hg (And.intro hltI (hwi))
    refine goR ?_ ?_ ?_ ?_ ?_ ?_ ?_ ?_ ?_ ?_ ?_ ?_ ?_ ?_ ?_ ?_
    any_goals (first | exact True.intro | skip)
    all_goals (repeat (refine Wh.mk fun hcc => ?_))
    refine SW.loop (fun k : Nat => ⟨[.undef, .ptr 1 0 [] 0, .undef, .undef, .undef, .undef, .undef, .int .i64 (i : Nat), .int .i64 (k : Nat), .undef, .undef, .undef, .undef, .undef, .undef, .undef, .undef, .undef, .undef, .undef, .undef, .undef, .undef, .undef, .undef, .undef, .undef, .undef, .undef, .undef, .undef, .undef, .undef, .undef, .undef, .undef, .undef, .undef, .undef, .undef, .undef, .undef, .undef, .undef, .undef, .undef, .undef, .undef, .undef, .undef, .undef, .undef, .undef, .undef, .undef, .undef, .undef, .undef, .undef, .undef, .undef, .undef, .undef, .undef, .undef, .undef, .undef, .undef, .undef, .undef, .undef, .undef, .undef, .undef, .undef, .undef, .undef, .undef, .undef, .undef, .undef, .undef, .undef, .undef, .undef, .undef, .undef, .undef, .undef, .undef, .undef, .undef, .undef, .undef, .undef, .undef], [[], [.var (.nd [.sl .b (G.map Enc.b), .sl .b (W.map Enc.b)])]]⟩)
      (fun M k => M = i - k ∧ k ≤ i ∧ ∀ j (h : j < W.length), j < k → (fun x : GrT => decide (x.1 = W[i].1)) W[j] = false) (n := i) (x := 0) ?_ ⟨rfl, Nat.zero_le _, fun j _ hj => absurd hj (Nat.not_lt_zero _)⟩ ?_
    · exact Norm.re [0, 1] (by decide) rfl (by first | (simp only [eq_self, heapFits, rowFits, obFits, List.getElem?_cons_zero, List.getElem?_cons_succ, renL_o, renL_b, true_and, and_true, and_self]; done) | simp [-List.map_set, -List.map_append, heapFits, rowFits, obFits, T.ren, renL]) (by simp [tmFits, T.ren, renL])
    rintro M k ⟨hM, hk, hpk⟩
    have fy := Nat.add_zero
    refine goS ?_
    refine SW.cond rfl (fun hc2 => ?_) (fun hc2 => ?_)
    · have hlk : k < i := by simp at hc2; omega
      have hlk2 : k < W.length := by omega
      have hlkI : (k : Int) < (W.length : Int) := by omega
      have hgk : (W.map Enc.b)[k]? = some (.nd [.int .i64 W[k].1, .int .i64 W[k].2.1, .int .i64 W[k].2.2.1]) := map_get Enc.b W k hlk2
      have hwk : IntKind.i64.wrap ((k : Int) + 1) = ((k + 1 : Nat) : Int) := by rw [wrap64 _ (by omega) (by omega)]; omega
      have hany : (fun x : GrT => decide (x.1 = W[i].1)) W[k] = true → (W.take i).any (fun x : GrT => decide (x.1 = W[i].1)) = true := fun h => List.any_eq_true.2 ⟨W[k], List.mem_iff_getElem.2 ⟨k, by rw [List.length_take]; omega, by rw [List.getElem_take]⟩, h⟩
      have q1 : (W[k].1 == W[i].1) = decide (W[k].1 = W[i].1) := rfl
      have hI : (fun x : GrT => decide (x.1 = W[i].1)) W[k] = decide (W[k].1 = W[i].1) := rfl
      generalize hPk : (fun x : GrT => decide (x.1 = W[i].1)) W[k] = pk at *
      generalize decide (W[k].1 = W[i].1) = b1 at *
      cases b1
      · skip
        have fy := And.intro hg (And.intro hltI (And.intro hgk (And.intro hlkI (And.intro hwk (q1)))))
        refine goR ?_ ?_ ?_ ?_ ?_ ?_ ?_ ?_ ?_ ?_ ?_ ?_ ?_ ?_ ?_ ?_
        any_goals (first | exact True.intro | skip)
        all_goals (repeat (refine Wh.mk fun hcc => ?_))
        have hx : pk = false := hI
        refine ⟨M - 1, k + 1, by omega, ⟨by omega, by omega, fun j hj hji => ?_⟩, ?_⟩
        · rcases Nat.lt_or_ge j k with h' | h'
          · exact hpk j hj h'
          · have : j = k := by omega
            subst this; exact hPk.trans hx
        · exact Norm.re [0, 1] (by decide) rfl (by first | (simp only [eq_self, heapFits, rowFits, obFits, List.getElem?_cons_zero, List.getElem?_cons_succ, renL_o, renL_b, true_and, and_true, and_self]; done) | simp [-List.map_set, -List.map_append, heapFits, rowFits, obFits, T.ren, renL]) (by simp [tmFits, T.ren, renL])
      have hx : pk = true := hI
      have hF : lkB G W = false := lkB_w hlt (by rw [hq, hany hx]; rfl)
      rw [hF]
      have fy := And.intro hg (And.intro hltI (And.intro hgk (And.intro hlkI (And.intro hwk (q1)))))
      refine goK ?_ ?_ ?_ ?_ ?_ ?_ ?_ ?_ ?_ ?_ ?_ ?_ ?_ ?_ ?_ ?_
      any_goals (first | exact True.intro | skip)
      all_goals (repeat (refine Wh.mk fun hcc => ?_))
      all_goals rfl
    · have hki : k = i := by
        have : ¬ k < i := by simp at hc2; omega
        omega
      subst hki
      have hq1 : qW W k = true := by
        rw [hq, Bool.not_eq_true', List.any_eq_false]
        intro x hx
        obtain ⟨j, hj, rfl⟩ := List.mem_iff_getElem.1 hx
        rw [List.length_take] at hj
        rw [List.getElem_take]
        have := hpk j (by omega) (by omega)
        simpa using this
      have fy := hwi
      refine goR ?_ ?_ ?_ ?_ ?_ ?_ ?_ ?_ ?_ ?_ ?_ ?_ ?_ ?_ ?_ ?_
      any_goals (first | exact True.intro | skip)
      all_goals (repeat (refine Wh.mk fun hcc => ?_))
      refine ⟨N - 1, k + 1, by omega, ⟨by omega, by omega, fun j hj => ?_⟩, ?_⟩
      · rcases Nat.lt_or_ge j k with h' | h'
        · exact hp j h'
        · have : j = k := by omega
          subst this; exact hq1
      · exact Norm.re [0, 1] (by decide) rfl (by first | (simp only [eq_self, heapFits, rowFits, obFits, List.getElem?_cons_zero, List.getElem?_cons_succ, renL_o, renL_b, true_and, and_true, and_self]; done) | simp [-List.map_set, -List.map_append, heapFits, rowFits, obFits, T.ren, renL]) (by simp [tmFits, T.ren, renL])
  have hige2 : i = W.length := by
    have : ¬ i < W.length := by simp at hc; omega
    omega
  subst hige2
  rw [lkB_y hg60 hw60 hpg hp]
  have fy := Nat.add_zero
  refine goK ?_ ?_ ?_ ?_ ?_ ?_ ?_ ?_ ?_ ?_ ?_ ?_ ?_ ?_ ?_ ?_
  any_goals (first | exact True.intro | skip)
  all_goals (repeat (refine Wh.mk fun hcc => ?_))
  all_goals rfl
end Q6
