/- Shows what the parts of the program do that the claim reaches: a machine of values over the model, and the contracts of functions, for all arguments within the lengths that each theorem names. -/
import Derived.Test.YtalhmcbkmpggiaaPagesP1
import Derived.Test.YtalhmcbkmpggiaaPagesP3
import Derived.Test.YtalhmcbkmpggiaaVm5
import Derived.Test.YtalhmcbkmpggiaaPagesP2
import Derived.Test.YtalhmcbkmpggiaaVm4
set_option linter.all false

namespace Q6
open Go Go.Vm Go.Proofs
set_option maxHeartbeats 4000000
set_option synthInstance.maxSize 2000
set_option synthInstance.maxHeartbeats 400000
set_option maxRecDepth 10000
set_option linter.unusedSimpArgs false
set_option linter.unusedVariables false

open Go.By
theorem laws_sameBytes_ok (l m : List UInt8) (hl : Enc.lim 1048576 l) : CallR Try.prog 26 [.sl .b (l.map Enc.b), .sl .b (m.map Enc.b)] [] (.bool (decide (l = m))) := by
  refine CallR.of_body (n := 26) (rs := [.tmp 4]) hY.ok Try.func26 rfl (by decide) rfl rfl rfl rfl (fun F => ?_)
  have fx := And.intro Y3 (And.intro Y4 (And.intro Y5 (Y24)))
  have hl1 : l.length ≤ 1048576 := hl.1
  have fy := Nat.add_zero
  refine goS ?_
  refine SW.cond rfl (fun hc => ?_) (fun hc => ?_)
  · have hne : ¬ l = m := by intro e; subst e; simp at hc
    have fy := Nat.add_zero
    refine goK ?_ ?_ ?_ ?_ ?_ ?_ ?_ ?_ ?_ ?_ ?_ ?_ ?_ ?_ ?_ ?_
    any_goals (first | exact True.intro | skip)
    all_goals (repeat (refine Wh.mk fun hcc => ?_))
    simp [tupOf, fixEs, hne]
  have hlen : l.length = m.length := by have : (l.length : Int) = m.length := by simpa using hc
                                        omega
  refine SW.skip ?_
  simp only [thenS]
  have fy := Nat.add_zero
  refine goN ?_ ?_ ?_ ?_ ?_ ?_ ?_ ?_ ?_ ?_ ?_ ?_ ?_ ?_ ?_ ?_
  any_goals (first | exact True.intro | skip)
  skip
  refine SW.loop (fun i : Nat => ⟨[.sl .b (l.map Enc.b), .sl .b (m.map Enc.b), .undef, .undef, .undef, .int .i64 i, .undef, .undef, .undef, .undef, .undef, .undef, .undef, .undef, .undef, .undef, .undef, .undef, .undef, .undef, .undef, .undef, .undef, .undef, .undef, .undef], [[]]⟩)
    (fun n i => n = l.length - i ∧ i ≤ l.length ∧ ∀ j (h : j < l.length), j < i → l[j] = m[j]'(by omega)) (n := l.length) (x := 0) (Norm.to 0 rfl (by simp [weakL])) ⟨rfl, Nat.zero_le _, fun j _ h => absurd h (Nat.not_lt_zero _)⟩ ?_
  rintro n i ⟨hn, hi, hp⟩
  have fy := Nat.add_zero
  refine goS ?_
  refine SW.cond rfl (fun hc => ?_) (fun hc => ?_)
  · have hlt : i < l.length := by simpa using hc
    have hlt' : i < m.length := by omega
    have hgl : (l.map Enc.b)[i]? = some (.int .u8 (l[i].toNat : Int)) := map_get Enc.b l i hlt
    have hgm : (m.map Enc.b)[i]? = some (.int .u8 (m[i].toNat : Int)) := map_get Enc.b m i hlt'
    have fy := And.intro hgl (hgm)
    refine goK ?_ ?_ ?_ ?_ ?_ ?_ ?_ ?_ ?_ ?_ ?_ ?_ ?_ ?_ ?_ ?_
    any_goals (first | exact True.intro | skip)
    all_goals (repeat (refine Wh.mk fun hcc => ?_))
    · have hx := hcc
      have hne : ¬ l[i] = m[i] := by intro e; simp [e] at hx
      have hlm : ¬ l = m := by intro e; subst e; exact hne rfl
      simp [tupOf, fixEs, hlm]
    · have hx := hcc
      have hx' : l[i] = m[i] := by first | (simpa using hx; done) | (apply UInt8.toNat_inj.1; simp at hx; omega)
      refine ⟨n - 1, i + 1, by omega, ⟨by omega, by omega, fun j hj hji => ?_⟩, ?_⟩
      · by_cases he : j = i
        · subst he; exact hx'
        · exact hp j hj (by omega)
      · rw [wrap64 _ (by omega) (by omega)]
        first | exact Norm.to 0 rfl (by simp [weakL]) | exact Norm.to 1 rfl (by simp [weakL])
  · have hge : i = l.length := by
      have : ¬ i < l.length := by simpa using hc
      omega
    have hlm : l = m := List.ext_getElem hlen fun j h1 h2 => hp j h1 (by omega)
    have fy := Nat.add_zero
    refine goK ?_ ?_ ?_ ?_ ?_ ?_ ?_ ?_ ?_ ?_ ?_ ?_ ?_ ?_ ?_ ?_
    any_goals (first | exact True.intro | skip)
    all_goals (repeat (refine Wh.mk fun hcc => ?_))
    simp [tupOf, fixEs, hlm]
theorem big_ok (l : List UInt8) : CallR Try.prog 20 [.sl .s (l.map Enc.b)] [] (.bool (decide ((1048576 : Int) < (l.length : Int)))) := by
  refine CallR.of_body (n := 6) (rs := [.tmp 2]) hY.ok Try.func20 rfl (by decide) rfl rfl rfl rfl (fun F => ?_)
  have fx := And.intro Y3 (And.intro Y4 (And.intro Y5 (Y24)))
  have fy := Nat.add_zero
  refine goK ?_ ?_ ?_ ?_ ?_ ?_ ?_ ?_ ?_ ?_ ?_ ?_ ?_ ?_ ?_ ?_
  any_goals (first | exact True.intro | skip)
  all_goals (repeat (refine Wh.mk fun hcc => ?_))
  all_goals rfl
end Q6

namespace Q6
open Go Go.Vm Go.Proofs
set_option maxHeartbeats 4000000
set_option synthInstance.maxSize 2000
set_option synthInstance.maxHeartbeats 400000
set_option maxRecDepth 10000
set_option linter.unusedSimpArgs false
set_option linter.unusedVariables false

theorem sameObj_x (x : (Int × (List Int) × (List Int) × Unit)) (hx : Enc.lim 1048576 x) : CallR Try.prog 100 [.nd [.int .i64 x.1, .sl .b (x.2.1.map Enc.b), .sl .b (x.2.2.1.map Enc.b)], .nd [.int .i64 x.1, .sl .b (x.2.1.map Enc.b), .sl .b (x.2.2.1.map Enc.b)]] [] (.bool true) := by
  refine CallR.of_body (n := 24) (rs := [.tmp 4]) hY.ok Try.func100 rfl (by decide) rfl rfl rfl rfl (fun F => ?_)
  have fx := And.intro Y1 (And.intro Y2 (And.intro Y3 (And.intro Y4 (And.intro Y34 (Y36)))))
  have c1 := spec_l2SameInts_ok x.2.1 x.2.1 hx.2.1
  have c2 := spec_l2SameInts_ok x.2.2.1 x.2.2.1 hx.2.2.1
  rw [decide_eq_true rfl] at c1 c2
  obtain ⟨k, A, B, ⟨⟩⟩ := x
  simp only at c1 c2 ⊢
  have hk : (k == k) = true := beq_self_eq_true k
  have hC1 := cx [] (c1)
  have hC2 := cx [] (c2)
  have fy := hk
  refine goK ?_ ?_ ?_ ?_ ?_ ?_ ?_ ?_ ?_ ?_ ?_ ?_ ?_ ?_ ?_ ?_
  any_goals (first | exact True.intro | skip)
  all_goals (repeat (refine Wh.mk fun hcc => ?_))
  all_goals (first | rfl | (exfalso; simp_all))
theorem sameSlot_x (x : (Bool × ((Int × (List Int) × (List Int) × Unit)) × Unit)) (hx : Enc.lim 1048576 x) : CallR Try.prog 35 [.nd [.bool x.1, .nd [.int .i64 x.2.1.1, .sl .b (x.2.1.2.1.map Enc.b), .sl .b (x.2.1.2.2.1.map Enc.b)]], .nd [.bool x.1, .nd [.int .i64 x.2.1.1, .sl .b (x.2.1.2.1.map Enc.b), .sl .b (x.2.1.2.2.1.map Enc.b)]]] [] (.bool true) := by
  refine CallR.of_body (n := 17) (rs := [.tmp 4]) hY.ok Try.func35 rfl (by decide) rfl rfl rfl rfl (fun F => ?_)
  have fx := And.intro Y1 (And.intro Y3 (And.intro Y4 (And.intro Y34 (And.intro Y36 (Y38)))))
  have c1 := sameObj_x x.2.1 hx.2.1
  obtain ⟨p, ⟨k, A, B, ⟨⟩⟩, ⟨⟩⟩ := x
  simp only at c1 ⊢
  have hk : (p == p) = true := beq_self_eq_true p
  have hC1 := cx [] (c1)
  have fy := hk
  refine goK ?_ ?_ ?_ ?_ ?_ ?_ ?_ ?_ ?_ ?_ ?_ ?_ ?_ ?_ ?_ ?_
  any_goals (first | exact True.intro | skip)
  all_goals (repeat (refine Wh.mk fun hcc => ?_))
  all_goals (first | rfl | (exfalso; simp_all))
theorem samePage_x (x : PageT) (hx : Enc.lim 1048576 x) : CallR Try.prog 33 [.nd [.int .i64 x.1, .nd [.nd [.bool x.2.1.1.1, .nd [.int .i64 x.2.1.1.2.1.1, .sl .b (x.2.1.1.2.1.2.1.map Enc.b), .sl .b (x.2.1.1.2.1.2.2.1.map Enc.b)]], .nd [.bool x.2.1.2.1.1, .nd [.int .i64 x.2.1.2.1.2.1.1, .sl .b (x.2.1.2.1.2.1.2.1.map Enc.b), .sl .b (x.2.1.2.1.2.1.2.2.1.map Enc.b)]], .nd [.bool x.2.1.2.2.1.1, .nd [.int .i64 x.2.1.2.2.1.2.1.1, .sl .b (x.2.1.2.2.1.2.1.2.1.map Enc.b), .sl .b (x.2.1.2.2.1.2.1.2.2.1.map Enc.b)]], .nd [.bool x.2.1.2.2.2.1.1, .nd [.int .i64 x.2.1.2.2.2.1.2.1.1, .sl .b (x.2.1.2.2.2.1.2.1.2.1.map Enc.b), .sl .b (x.2.1.2.2.2.1.2.1.2.2.1.map Enc.b)]]]], .nd [.int .i64 x.1, .nd [.nd [.bool x.2.1.1.1, .nd [.int .i64 x.2.1.1.2.1.1, .sl .b (x.2.1.1.2.1.2.1.map Enc.b), .sl .b (x.2.1.1.2.1.2.2.1.map Enc.b)]], .nd [.bool x.2.1.2.1.1, .nd [.int .i64 x.2.1.2.1.2.1.1, .sl .b (x.2.1.2.1.2.1.2.1.map Enc.b), .sl .b (x.2.1.2.1.2.1.2.2.1.map Enc.b)]], .nd [.bool x.2.1.2.2.1.1, .nd [.int .i64 x.2.1.2.2.1.2.1.1, .sl .b (x.2.1.2.2.1.2.1.2.1.map Enc.b), .sl .b (x.2.1.2.2.1.2.1.2.2.1.map Enc.b)]], .nd [.bool x.2.1.2.2.2.1.1, .nd [.int .i64 x.2.1.2.2.2.1.2.1.1, .sl .b (x.2.1.2.2.2.1.2.1.2.1.map Enc.b), .sl .b (x.2.1.2.2.2.1.2.1.2.2.1.map Enc.b)]]]]] [] (.bool true) := by
  refine CallR.of_body (n := 25) (rs := [.tmp 4]) hY.ok Try.func33 rfl (by decide) rfl rfl rfl rfl (fun F => ?_)
  have fx := And.intro Y1 (And.intro Y3 (And.intro Y4 (And.intro Y34 (And.intro Y36 (And.intro Y38 (And.intro Y47 (Y49)))))))
  have c0 := sameSlot_x x.2.1.1 hx.2.1.1
  have c1 := sameSlot_x x.2.1.2.1 hx.2.1.2.1
  have c2 := sameSlot_x x.2.1.2.2.1 hx.2.1.2.2.1
  have c3 := sameSlot_x x.2.1.2.2.2.1 hx.2.1.2.2.2.1
  clear hx
  obtain ⟨n, ⟨⟨p0, ⟨k0, A0, B0, ⟨⟩⟩, ⟨⟩⟩, ⟨p1, ⟨k1, A1, B1, ⟨⟩⟩, ⟨⟩⟩, ⟨p2, ⟨k2, A2, B2, ⟨⟩⟩, ⟨⟩⟩, ⟨p3, ⟨k3, A3, B3, ⟨⟩⟩, ⟨⟩⟩, ⟨⟩⟩, ⟨⟩⟩ := x
  simp only at c0 c1 c2 c3 ⊢
  have hk : (n == n) = true := beq_self_eq_true n
  have hC1 := cx [] (c0)
  have hC2 := cx [] (c1)
  have hC3 := cx [] (c2)
  have hC4 := cx [] (c3)
  have fy := And.intro nc4 (And.intro nc8 (And.intro wa (And.intro tn (hk))))
  refine goV ?_ ?_ ?_ ?_ ?_ ?_ ?_ ?_ ?_ ?_ ?_ ?_ ?_ ?_ ?_ ?_
  any_goals (first | exact True.intro | skip)
  all_goals (repeat (refine Wh.mk fun hcc => ?_))
  all_goals (first | rfl | (exfalso; simp_all))
theorem free1_ok (x : SlotT) : CallR Try.prog 102 [.nd [.bool x.1, .nd [.int .i64 x.2.1.1, .sl .b (x.2.1.2.1.map Enc.b), .sl .b (x.2.1.2.2.1.map Enc.b)]]] [] (.bool (!x.1)) := by
  refine CallR.of_body (n := 6) (rs := [.tmp 2]) hY.ok Try.func102 rfl (by decide) rfl rfl rfl rfl (fun F => ?_)
  have fx := And.intro Y3 (And.intro Y4 (And.intro Y34 (And.intro Y36 (Y38))))
  have fy := Nat.add_zero
  refine goK ?_ ?_ ?_ ?_ ?_ ?_ ?_ ?_ ?_ ?_ ?_ ?_ ?_ ?_ ?_ ?_
  any_goals (first | exact True.intro | skip)
  all_goals (repeat (refine Wh.mk fun hcc => ?_))
  all_goals (first | rfl | ((try simp only [tupOf, fixEs]); (first | done | rfl | (simp_all []; done) | grind [])))
theorem idxFree_ok (l : List ((Bool × ((Int × (List Int) × (List Int) × Unit)) × Unit))) (hl : Enc.lim 1048576 l) : CallR Try.prog 101 [.sl .b (l.map Enc.b), .fn 102 [] []] [] (.int .i64 (idxOf (fun x => !x.1) l)) := by
  refine CallR.of_body (n := 19) (rs := [.tmp 4]) hY.ok Try.func101 rfl (by decide) rfl rfl rfl rfl (fun F => ?_)
  have fx := And.intro Y3 (And.intro Y4 (And.intro Y26 (And.intro Y34 (And.intro Y36 (And.intro Y38 (Y93))))))
  have hl1 : l.length ≤ 1048576 := hl.1
  have fy := Nat.add_zero
  refine goN ?_ ?_ ?_ ?_ ?_ ?_ ?_ ?_ ?_ ?_ ?_ ?_ ?_ ?_ ?_ ?_
  any_goals (first | exact True.intro | skip)
  skip
  refine SW.loop (fun i : Nat => ⟨[.sl .b (l.map Enc.b), .fn 102 [] [], .undef, .undef, .undef, .undef, .undef, .int .i64 l.length, .int .i64 i, .undef, .undef, .undef, .undef, .undef, .undef, .undef, .undef, .undef, .undef], [[]]⟩)
    (fun n i => n = l.length - i ∧ i ≤ l.length ∧ ∀ j (h : j < l.length), j < i → (fun x => !x.1) l[j] = false) (n := l.length) (x := 0) (Norm.to 0 rfl (by simp [weakL])) ⟨rfl, Nat.zero_le _, fun j _ h => absurd h (Nat.not_lt_zero _)⟩ ?_
  rintro n i ⟨hn, hi, hp⟩
  have fy := Nat.add_zero
  refine goS ?_
  refine SW.cond rfl (fun hc => ?_) (fun hc => ?_)
  · have hlt : i < l.length := by simpa using hc
    have hg : (l.map Enc.b)[i]? = some (.nd [.bool l[i].1, .nd [.int .i64 l[i].2.1.1, .sl .b (l[i].2.1.2.1.map Enc.b), .sl .b (l[i].2.1.2.2.1.map Enc.b)]]) := map_get Enc.b l i hlt
    have hC1 := cx [] (free1_ok l[i])
    have fy := hg
    refine goK ?_ ?_ ?_ ?_ ?_ ?_ ?_ ?_ ?_ ?_ ?_ ?_ ?_ ?_ ?_ ?_
    any_goals (first | exact True.intro | skip)
    all_goals (repeat (refine Wh.mk fun hcc => ?_))
    · have hx := hcc
      have hx' : (fun x => !x.1) l[i] = true := by simpa using hx
      simp only [tupOf, fixEs, idxOf_eq (fun x => !x.1) l hlt hx' (fun j hj => hp j (by omega) hj)]
    · have hx := hcc
      have hx' : (fun x => !x.1) l[i] = false := by simpa using hx
      refine ⟨n - 1, i + 1, by omega, ⟨by omega, by omega, fun j hj hji => ?_⟩, ?_⟩
      · by_cases he : j = i
        · subst he; exact hx'
        · exact hp j hj (by omega)
      · rw [wrap64 _ (by omega) (by omega)]
        first | exact Norm.to 0 rfl (by simp [weakL]) | exact Norm.to 1 rfl (by simp [weakL]) | exact Norm.to 2 rfl (by simp [weakL])
  · have hge : i = l.length := by
      have : ¬ i < l.length := by simpa using hc
      omega
    have fy := Nat.add_zero
    refine goK ?_ ?_ ?_ ?_ ?_ ?_ ?_ ?_ ?_ ?_ ?_ ?_ ?_ ?_ ?_ ?_
    any_goals (first | exact True.intro | skip)
    all_goals (repeat (refine Wh.mk fun hcc => ?_))
    simp only [tupOf, fixEs, idxOf_none (fun x => !x.1) l (fun j hj => hp j hj (by omega))]
theorem freeSlot_ok (x : PageT) (hx : Enc.lim 1048576 x) : CallR Try.prog 36 [.nd [.int .i64 x.1, .nd [.nd [.bool x.2.1.1.1, .nd [.int .i64 x.2.1.1.2.1.1, .sl .b (x.2.1.1.2.1.2.1.map Enc.b), .sl .b (x.2.1.1.2.1.2.2.1.map Enc.b)]], .nd [.bool x.2.1.2.1.1, .nd [.int .i64 x.2.1.2.1.2.1.1, .sl .b (x.2.1.2.1.2.1.2.1.map Enc.b), .sl .b (x.2.1.2.1.2.1.2.2.1.map Enc.b)]], .nd [.bool x.2.1.2.2.1.1, .nd [.int .i64 x.2.1.2.2.1.2.1.1, .sl .b (x.2.1.2.2.1.2.1.2.1.map Enc.b), .sl .b (x.2.1.2.2.1.2.1.2.2.1.map Enc.b)]], .nd [.bool x.2.1.2.2.2.1.1, .nd [.int .i64 x.2.1.2.2.2.1.2.1.1, .sl .b (x.2.1.2.2.2.1.2.1.2.1.map Enc.b), .sl .b (x.2.1.2.2.2.1.2.1.2.2.1.map Enc.b)]]]]] [] (.int .i64 (idxOf (fun x : SlotT => !x.1) [x.2.1.1, x.2.1.2.1, x.2.1.2.2.1, x.2.1.2.2.2.1])) := by
  refine CallR.of_body (n := 6) (rs := [.tmp 2]) hY.ok Try.func36 rfl (by decide) rfl rfl rfl rfl (fun F => ?_)
  have fx := And.intro Y1 (And.intro Y3 (And.intro Y4 (And.intro Y26 (And.intro Y34 (And.intro Y36 (And.intro Y38 (And.intro Y47 (And.intro Y49 (Y93)))))))))
  obtain ⟨lsn, ⟨a, b, c, d, ⟨⟩⟩, ⟨⟩⟩ := x
  have hL : Enc.lim 1048576 [a, b, c, d] := ⟨by simp, fun y hy => by
    simp only [List.mem_cons, List.not_mem_nil, or_false] at hy
    rcases hy with rfl | rfl | rfl | rfl
    · exact hx.2.1.1
    · exact hx.2.1.2.1
    · exact hx.2.1.2.2.1
    · exact hx.2.1.2.2.2.1⟩
  have hA0 := idxFree_ok [a, b, c, d] hL
  have hA : CallR Try.prog 101 [.sl .b [.nd [.bool a.1, .nd [.int .i64 a.2.1.1, .sl .b (a.2.1.2.1.map Enc.b), .sl .b (a.2.1.2.2.1.map Enc.b)]], .nd [.bool b.1, .nd [.int .i64 b.2.1.1, .sl .b (b.2.1.2.1.map Enc.b), .sl .b (b.2.1.2.2.1.map Enc.b)]], .nd [.bool c.1, .nd [.int .i64 c.2.1.1, .sl .b (c.2.1.2.1.map Enc.b), .sl .b (c.2.1.2.2.1.map Enc.b)]], .nd [.bool d.1, .nd [.int .i64 d.2.1.1, .sl .b (d.2.1.2.1.map Enc.b), .sl .b (d.2.1.2.2.1.map Enc.b)]]], .fn 102 [] []] [] (.int .i64 (idxOf (fun x : SlotT => !x.1) [a, b, c, d])) := hA0
  have hs4 : ∀ e j p o, sliceM Y 47 (.ptr e j p o) none none none = .pure { v := .vr e j p o 4 0 4 } := fun e j p o => by simp [sliceM, Y47, Y38]
  generalize hi : idxOf (fun x : SlotT => !x.1) [a, b, c, d] = ii at *
  simp only [hi]
  have hC1 := cx [] (hA)
  have fy := And.intro nc4 (And.intro nc8 (And.intro wa (And.intro tn (hs4))))
  refine goK ?_ ?_ ?_ ?_ ?_ ?_ ?_ ?_ ?_ ?_ ?_ ?_ ?_ ?_ ?_ ?_
  any_goals (first | exact True.intro | skip)
  all_goals (repeat (refine Wh.mk fun hcc => ?_))
  all_goals (first | rfl | ((try simp only [tupOf, fixEs]); (first | done | rfl | (simp_all []; done) | grind [])))
end Q6

namespace Q6
open Go Go.Vm Go.Proofs
set_option maxHeartbeats 4000000
set_option synthInstance.maxSize 2000
set_option synthInstance.maxHeartbeats 400000
set_option maxRecDepth 10000
set_option linter.unusedSimpArgs false
set_option linter.unusedVariables false

theorem cloneInts_ok (l : List Int) (hl : l.length ≤ 1048576) : CallR Try.prog 173 [.sl .b (l.map Enc.b)] [] (.ow 1 (l.map Enc.o)) := by
  refine CallR.of_body (n := 8) (rs := [.tmp 2]) hY.ok Try.func173 rfl (by decide) rfl rfl rfl rfl (fun F => ?_)
  have fx := And.intro Y3 (And.intro Y4 (Y34))
  have hap := @append_run Y 2 34 34 1 0 0 0 3 1 8 _ .b [] (l.map Enc.b) [[], [.arr 1 [] false], []] Y34 Y34 Y3 rfl (by decide) rfl (by simp) (by simp; omega) (nwL_b l) (fun z hz => by have := List.mem_of_mem_take hz; obtain ⟨x, _, rfl⟩ := List.mem_map.1 this; rfl)
  have hbo : l.map (Enc.b : Int → T) = l.map Enc.o := rfl
  simp only [List.drop_nil, List.take_nil, List.nil_append, List.length_map, Nat.zero_add, kill] at hap
  refine SW.ops_seq hY fun y1 hy1 => ?_
  simp only [k13, upT_g, dnT_g, nb_g, dnT_b, dnT_s, dnT_0, dnT_r, fx, wo, decide_true, decide_false, wz0, wz1, wz2, wz3, wz4, wz5, wz6, wz7, wz8, appM, Ty.isInt, capT, appendZM, buildM, setAll, plSt, plAr, mnmx, Int.reduceLT, vrec, List.drop_succ_cons, List.drop_zero, convertM, indexM, fieldM, Int.toNat_zero, Int.toNat_one, Int.le_refl, Int.zero_le_ofNat, Int.reduceEq, Int.reduceNe, ne_eq, not_false_eq_true, u8_wrap, marksG_len, marks_len, bne_self_eq_false, take_map_len, tgL_byte, T.asArr, T.tg, tgL, indexAddrM, wk, wl, eq_self, isCall, callT, opM, S.ev, S.put, entryS, thawAL, thawA, RM.run, RM.bind, RM.ofOpt, allocs, Heap.ups, Heap.put, Heap.at, List.replicate, Nat.reduceAdd, Nat.reduceSub, ofConst, nilAs, if_false, if_true, binT, binTy, unT, guardT, quietK, reduceIte, boxM, allocM, loadM, storeM, fieldAddrM, lenT, extractT, subM, setOb, T.get, T.setp, T.offs, T.nw, nwL, T.cel, T.isNd, T.size, sizeL, TyI.agg, Ty.agg, Ty.isFn, zeroT, Nat.reduceLT, Nat.reduceEqDiff, sumT, kill]
  subst hy1
  refine SW.seq ?_
  refine SW.seq ?_
  refine SW.nilq hY rfl (by rw [Y34]) (by rw [Y34]; decide) (by simp) fun b hb => ?_
  simp only [thenS, List.set_cons_succ, List.set_cons_zero]
  cases b with
  | true =>
    have hl0 : l = [] := by cases l with | nil => rfl | cons x m => exact absurd (hb (by simp)) (by decide)
    subst hl0
    have fy := Nat.add_zero
    refine goK ?_ ?_ ?_ ?_ ?_ ?_ ?_ ?_ ?_ ?_ ?_ ?_ ?_ ?_ ?_ ?_
    any_goals (first | exact True.intro | skip)
    all_goals (repeat (refine Wh.mk fun hcc => ?_))
    all_goals simp [tupOf, fixEs]
  | false =>
    have fy := And.intro bs0_34 (hap)
    refine goR ?_ ?_ ?_ ?_ ?_ ?_ ?_ ?_ ?_ ?_ ?_ ?_ ?_ ?_ ?_ ?_
    any_goals (first | exact True.intro | skip)
    all_goals (repeat (refine Wh.mk fun hcc => ?_))
    rw [hbo]
    exact SW.ret (show RetQ _ _ _ _ _ _ _ from RetQ.y [1] [.ow 1 (l.map Enc.o)])
theorem cloneObj_ok (x : (Int × (List Int) × (List Int) × Unit)) (h1 : x.2.1.length ≤ 1048576) (h2 : x.2.2.1.length ≤ 1048576) : CallR Try.prog 148 [.nd [.int .i64 x.1, .sl .b (x.2.1.map Enc.b), .sl .b (x.2.2.1.map Enc.b)]] [] (.nd [.int .i64 x.1, .ow 1 (x.2.1.map Enc.o), .ow 1 (x.2.2.1.map Enc.o)]) := by
  refine CallR.of_body (n := 12) (rs := [.cell 2 36]) hY.ok Try.func148 rfl (by decide) rfl rfl rfl rfl (fun F => ?_)
  have fx := And.intro Y1 (And.intro Y2 (And.intro Y3 (And.intro Y34 (Y36))))
  have c1 := cloneInts_ok x.2.1 h1
  have c2 := cloneInts_ok x.2.2.1 h2
  obtain ⟨k, A, B, ⟨⟩⟩ := x
  simp only at c1 c2 ⊢
  clear h1 h2
  have hC1 := cx [] (c1)
  have hC2 := cx [] (c2)
  have fy := Nat.add_zero
  have hD1 := dx 1 [3, 3, 2, 2] [(4, 0)]
  refine goR ?_ ?_ ?_ ?_ ?_ ?_ ?_ ?_ ?_ ?_ ?_ ?_ ?_ ?_ ?_ ?_
  any_goals (first | exact True.intro | skip)
  all_goals (repeat (refine Wh.mk fun hcc => ?_))
  all_goals exact SW.ret (show RetQ _ _ _ _ _ _ _ from RetQ.y [0] [.nd [.int .i64 k, .ow 1 (A.map Enc.o), .ow 1 (B.map Enc.o)]])
theorem cloneSlot_ok (x : (Bool × ((Int × (List Int) × (List Int) × Unit)) × Unit)) (h1 : x.2.1.2.1.length ≤ 1048576) (h2 : x.2.1.2.2.1.length ≤ 1048576) : CallR Try.prog 94 [.nd [.bool x.1, .nd [.int .i64 x.2.1.1, .sl .b (x.2.1.2.1.map Enc.b), .sl .b (x.2.1.2.2.1.map Enc.b)]]] [] (.nd [.bool x.1, .nd [.int .i64 x.2.1.1, .ow 1 (x.2.1.2.1.map Enc.o), .ow 1 (x.2.1.2.2.1.map Enc.o)]]) := by
  refine CallR.of_body (n := 9) (rs := [.cell 2 38]) hY.ok Try.func94 rfl (by decide) rfl rfl rfl rfl (fun F => ?_)
  have fx := And.intro Y1 (And.intro Y3 (And.intro Y4 (And.intro Y34 (And.intro Y36 (Y38)))))
  have c1 := cloneObj_ok x.2.1 h1 h2
  obtain ⟨p, ⟨k, A, B, ⟨⟩⟩, ⟨⟩⟩ := x
  simp only at c1 ⊢
  clear h1 h2
  have hC1 := cx [] (c1)
  have fy := Nat.add_zero
  have hD1 := dx 1 [5, 1, 1] [(1, 1)]
  refine goR ?_ ?_ ?_ ?_ ?_ ?_ ?_ ?_ ?_ ?_ ?_ ?_ ?_ ?_ ?_ ?_
  any_goals (first | exact True.intro | skip)
  all_goals (repeat (refine Wh.mk fun hcc => ?_))
  all_goals exact SW.ret (show RetQ _ _ _ _ _ _ _ from RetQ.y [0] [.nd [.bool p, .nd [.int .i64 k, .ow 1 (A.map Enc.o), .ow 1 (B.map Enc.o)]]])
theorem l2Copy_ok (x : (Int × (List Int) × (List Int) × Unit)) (h1 : x.2.1.length ≤ 1048576) (h2 : x.2.2.1.length ≤ 1048576) : CallR Try.prog 151 [.nd [.int .i64 x.1, .sl .b (x.2.1.map Enc.b), .sl .b (x.2.2.1.map Enc.b)]] [] (.nd [.int .i64 x.1, .ow 1 (x.2.1.map Enc.o), .ow 1 (x.2.2.1.map Enc.o)]) := by
  refine CallR.of_body (n := 14) (rs := [.cell 2 36]) hY.ok Try.func151 rfl (by decide) rfl rfl rfl rfl (fun F => ?_)
  have fx := And.intro Y1 (And.intro Y2 (And.intro Y3 (And.intro Y34 (Y36))))
  obtain ⟨k, A, B, ⟨⟩⟩ := x
  simp only at h1 h2 ⊢
  have ha := fun (own_ e_ j_ : Nat) (H_ : Heap) (q1 : H_.at e_ j_ = some (.arr 1 ((([] : List Int)).map Enc.o) false)) => append_runB (Y := Y) (own := own_) (t := 34) (u := 34) (e := e_) (j := j_) (off := 0) (n := (([] : List Int)).length) (g := .b) (l := ([] : List Int)) (m := A) (H := H_) Y34 Y34 Y3 rfl (by decide) q1 (by rw [List.drop_zero]; exact List.take_of_length_le (by first | (simp; done) | (rw [List.length_map]; decide))) (by first | (simp; done) | (rw [List.length_map]; decide)) (by simp only [List.length_nil]; omega) rfl rfl
  have hb := fun (own_ e_ j_ : Nat) (H_ : Heap) (q1 : H_.at e_ j_ = some (.arr 1 ((([] : List Int)).map Enc.o) false)) => append_runB (Y := Y) (own := own_) (t := 34) (u := 34) (e := e_) (j := j_) (off := 0) (n := (([] : List Int)).length) (g := .b) (l := ([] : List Int)) (m := B) (H := H_) Y34 Y34 Y3 rfl (by decide) q1 (by rw [List.drop_zero]; exact List.take_of_length_le (by first | (simp; done) | (rw [List.length_map]; decide))) (by first | (simp; done) | (rw [List.length_map]; decide)) (by simp only [List.length_nil]; omega) rfl rfl
  simp only [List.nil_append, List.map_nil, List.length_nil, Nat.zero_add] at ha hb
  have fy := And.intro bs0_34 (And.intro ha (hb))
  have hD1 := dx 1 [3, 3, 1, 3, 1, 1] [(1, 1), (1, 2), (1, 3), (1, 4), (4, 0), (8, 0), (8, 1), (8, 2)]
  refine goR ?_ ?_ ?_ ?_ ?_ ?_ ?_ ?_ ?_ ?_ ?_ ?_ ?_ ?_ ?_ ?_
  any_goals (first | exact True.intro | skip)
  all_goals (repeat (refine Wh.mk fun hcc => ?_))
  all_goals exact SW.ret (show RetQ _ _ _ _ _ _ _ from RetQ.y [0] [.nd [.int .i64 k, .ow 1 (A.map Enc.o), .ow 1 (B.map Enc.o)]])
theorem l3CopySlot_ok (x : (Bool × ((Int × (List Int) × (List Int) × Unit)) × Unit)) (h1 : x.2.1.2.1.length ≤ 1048576) (h2 : x.2.1.2.2.1.length ≤ 1048576) : CallR Try.prog 99 [.nd [.bool x.1, .nd [.int .i64 x.2.1.1, .sl .b (x.2.1.2.1.map Enc.b), .sl .b (x.2.1.2.2.1.map Enc.b)]]] [] (.nd [.bool x.1, .nd [.int .i64 x.2.1.1, .ow 1 (x.2.1.2.1.map Enc.o), .ow 1 (x.2.1.2.2.1.map Enc.o)]]) := by
  refine CallR.of_body (n := 9) (rs := [.cell 2 38]) hY.ok Try.func99 rfl (by decide) rfl rfl rfl rfl (fun F => ?_)
  have fx := And.intro Y1 (And.intro Y3 (And.intro Y4 (And.intro Y34 (And.intro Y36 (Y38)))))
  have c1 := l2Copy_ok x.2.1 h1 h2
  obtain ⟨p, ⟨k, A, B, ⟨⟩⟩, ⟨⟩⟩ := x
  simp only at c1 ⊢
  clear h1 h2
  have hC1 := cx [] (c1)
  have fy := Nat.add_zero
  have hD1 := dx 1 [5, 1, 1] [(1, 1)]
  refine goR ?_ ?_ ?_ ?_ ?_ ?_ ?_ ?_ ?_ ?_ ?_ ?_ ?_ ?_ ?_ ?_
  any_goals (first | exact True.intro | skip)
  all_goals (repeat (refine Wh.mk fun hcc => ?_))
  all_goals exact SW.ret (show RetQ _ _ _ _ _ _ _ from RetQ.y [0] [.nd [.bool p, .nd [.int .i64 k, .ow 1 (A.map Enc.o), .ow 1 (B.map Enc.o)]]])
theorem clonePage_ok (x : PageT) (g1 : x.2.1.1.2.1.2.1.length ≤ 1048576) (g2 : x.2.1.1.2.1.2.2.1.length ≤ 1048576) (g3 : x.2.1.2.1.2.1.2.1.length ≤ 1048576) (g4 : x.2.1.2.1.2.1.2.2.1.length ≤ 1048576) (g5 : x.2.1.2.2.1.2.1.2.1.length ≤ 1048576) (g6 : x.2.1.2.2.1.2.1.2.2.1.length ≤ 1048576) (g7 : x.2.1.2.2.2.1.2.1.2.1.length ≤ 1048576) (g8 : x.2.1.2.2.2.1.2.1.2.2.1.length ≤ 1048576) : CallR Try.prog 93 [.nd [.int .i64 x.1, .nd [.nd [.bool x.2.1.1.1, .nd [.int .i64 x.2.1.1.2.1.1, .sl .b (x.2.1.1.2.1.2.1.map Enc.b), .sl .b (x.2.1.1.2.1.2.2.1.map Enc.b)]], .nd [.bool x.2.1.2.1.1, .nd [.int .i64 x.2.1.2.1.2.1.1, .sl .b (x.2.1.2.1.2.1.2.1.map Enc.b), .sl .b (x.2.1.2.1.2.1.2.2.1.map Enc.b)]], .nd [.bool x.2.1.2.2.1.1, .nd [.int .i64 x.2.1.2.2.1.2.1.1, .sl .b (x.2.1.2.2.1.2.1.2.1.map Enc.b), .sl .b (x.2.1.2.2.1.2.1.2.2.1.map Enc.b)]], .nd [.bool x.2.1.2.2.2.1.1, .nd [.int .i64 x.2.1.2.2.2.1.2.1.1, .sl .b (x.2.1.2.2.2.1.2.1.2.1.map Enc.b), .sl .b (x.2.1.2.2.2.1.2.1.2.2.1.map Enc.b)]]]]] [] (.nd [.int .i64 x.1, .nd [.nd [.bool x.2.1.1.1, .nd [.int .i64 x.2.1.1.2.1.1, .ow 1 (x.2.1.1.2.1.2.1.map Enc.o), .ow 1 (x.2.1.1.2.1.2.2.1.map Enc.o)]], .nd [.bool x.2.1.2.1.1, .nd [.int .i64 x.2.1.2.1.2.1.1, .ow 1 (x.2.1.2.1.2.1.2.1.map Enc.o), .ow 1 (x.2.1.2.1.2.1.2.2.1.map Enc.o)]], .nd [.bool x.2.1.2.2.1.1, .nd [.int .i64 x.2.1.2.2.1.2.1.1, .ow 1 (x.2.1.2.2.1.2.1.2.1.map Enc.o), .ow 1 (x.2.1.2.2.1.2.1.2.2.1.map Enc.o)]], .nd [.bool x.2.1.2.2.2.1.1, .nd [.int .i64 x.2.1.2.2.2.1.2.1.1, .ow 1 (x.2.1.2.2.2.1.2.1.2.1.map Enc.o), .ow 1 (x.2.1.2.2.2.1.2.1.2.2.1.map Enc.o)]]]]) := by
  refine CallR.of_body (n := 18) (rs := [.cell 2 49]) hY.ok Try.func93 rfl (by decide) rfl rfl rfl rfl (fun F => ?_)
  have fx := And.intro Y1 (And.intro Y3 (And.intro Y4 (And.intro Y34 (And.intro Y36 (And.intro Y38 (And.intro Y47 (Y49)))))))
  have c0 := cloneSlot_ok x.2.1.1 g1 g2
  have c1 := cloneSlot_ok x.2.1.2.1 g3 g4
  have c2 := cloneSlot_ok x.2.1.2.2.1 g5 g6
  have c3 := cloneSlot_ok x.2.1.2.2.2.1 g7 g8
  obtain ⟨n, ⟨⟨p0, ⟨k0, A0, B0, ⟨⟩⟩, ⟨⟩⟩, ⟨p1, ⟨k1, A1, B1, ⟨⟩⟩, ⟨⟩⟩, ⟨p2, ⟨k2, A2, B2, ⟨⟩⟩, ⟨⟩⟩, ⟨p3, ⟨k3, A3, B3, ⟨⟩⟩, ⟨⟩⟩, ⟨⟩⟩, ⟨⟩⟩ := x
  simp only at c0 c1 c2 c3 ⊢
  clear g1 g2 g3 g4 g5 g6 g7 g8
  have hC1 := cx [] (c0)
  have hC2 := cx [] (c1)
  have hC3 := cx [] (c2)
  have hC4 := cx [] (c3)
  have fy := And.intro nc4 (And.intro nc8 (And.intro wa (tn)))
  refine goU ?_ ?_ ?_ ?_ ?_ ?_ ?_ ?_ ?_ ?_ ?_ ?_ ?_ ?_ ?_ ?_
  any_goals (first | exact True.intro | skip)
  all_goals (repeat (refine Wh.mk fun hcc => ?_))
  all_goals exact SW.ret (show RetQ _ _ _ _ _ _ _ from RetQ.y [0] [.nd [.int .i64 n, .nd [.nd [.bool p0, .nd [.int .i64 k0, .ow 1 (A0.map Enc.o), .ow 1 (B0.map Enc.o)]], .nd [.bool p1, .nd [.int .i64 k1, .ow 1 (A1.map Enc.o), .ow 1 (B1.map Enc.o)]], .nd [.bool p2, .nd [.int .i64 k2, .ow 1 (A2.map Enc.o), .ow 1 (B2.map Enc.o)]], .nd [.bool p3, .nd [.int .i64 k3, .ow 1 (A3.map Enc.o), .ow 1 (B3.map Enc.o)]]]]])
theorem l3Copy_ok (x : PageT) (g1 : x.2.1.1.2.1.2.1.length ≤ 1048576) (g2 : x.2.1.1.2.1.2.2.1.length ≤ 1048576) (g3 : x.2.1.2.1.2.1.2.1.length ≤ 1048576) (g4 : x.2.1.2.1.2.1.2.2.1.length ≤ 1048576) (g5 : x.2.1.2.2.1.2.1.2.1.length ≤ 1048576) (g6 : x.2.1.2.2.1.2.1.2.2.1.length ≤ 1048576) (g7 : x.2.1.2.2.2.1.2.1.2.1.length ≤ 1048576) (g8 : x.2.1.2.2.2.1.2.1.2.2.1.length ≤ 1048576) : CallR Try.prog 98 [.nd [.int .i64 x.1, .nd [.nd [.bool x.2.1.1.1, .nd [.int .i64 x.2.1.1.2.1.1, .sl .b (x.2.1.1.2.1.2.1.map Enc.b), .sl .b (x.2.1.1.2.1.2.2.1.map Enc.b)]], .nd [.bool x.2.1.2.1.1, .nd [.int .i64 x.2.1.2.1.2.1.1, .sl .b (x.2.1.2.1.2.1.2.1.map Enc.b), .sl .b (x.2.1.2.1.2.1.2.2.1.map Enc.b)]], .nd [.bool x.2.1.2.2.1.1, .nd [.int .i64 x.2.1.2.2.1.2.1.1, .sl .b (x.2.1.2.2.1.2.1.2.1.map Enc.b), .sl .b (x.2.1.2.2.1.2.1.2.2.1.map Enc.b)]], .nd [.bool x.2.1.2.2.2.1.1, .nd [.int .i64 x.2.1.2.2.2.1.2.1.1, .sl .b (x.2.1.2.2.2.1.2.1.2.1.map Enc.b), .sl .b (x.2.1.2.2.2.1.2.1.2.2.1.map Enc.b)]]]]] [] (.nd [.int .i64 x.1, .nd [.nd [.bool x.2.1.1.1, .nd [.int .i64 x.2.1.1.2.1.1, .ow 1 (x.2.1.1.2.1.2.1.map Enc.o), .ow 1 (x.2.1.1.2.1.2.2.1.map Enc.o)]], .nd [.bool x.2.1.2.1.1, .nd [.int .i64 x.2.1.2.1.2.1.1, .ow 1 (x.2.1.2.1.2.1.2.1.map Enc.o), .ow 1 (x.2.1.2.1.2.1.2.2.1.map Enc.o)]], .nd [.bool x.2.1.2.2.1.1, .nd [.int .i64 x.2.1.2.2.1.2.1.1, .ow 1 (x.2.1.2.2.1.2.1.2.1.map Enc.o), .ow 1 (x.2.1.2.2.1.2.1.2.2.1.map Enc.o)]], .nd [.bool x.2.1.2.2.2.1.1, .nd [.int .i64 x.2.1.2.2.2.1.2.1.1, .ow 1 (x.2.1.2.2.2.1.2.1.2.1.map Enc.o), .ow 1 (x.2.1.2.2.2.1.2.1.2.2.1.map Enc.o)]]]]) := by
  refine CallR.of_body (n := 21) (rs := [.cell 2 49]) hY.ok Try.func98 rfl (by decide) rfl rfl rfl rfl (fun F => ?_)
  have fx := And.intro Y1 (And.intro Y3 (And.intro Y4 (And.intro Y34 (And.intro Y36 (And.intro Y38 (And.intro Y47 (Y49)))))))
  have c0 := l3CopySlot_ok x.2.1.1 g1 g2
  have c1 := l3CopySlot_ok x.2.1.2.1 g3 g4
  have c2 := l3CopySlot_ok x.2.1.2.2.1 g5 g6
  have c3 := l3CopySlot_ok x.2.1.2.2.2.1 g7 g8
  obtain ⟨n, ⟨⟨p0, ⟨k0, A0, B0, ⟨⟩⟩, ⟨⟩⟩, ⟨p1, ⟨k1, A1, B1, ⟨⟩⟩, ⟨⟩⟩, ⟨p2, ⟨k2, A2, B2, ⟨⟩⟩, ⟨⟩⟩, ⟨p3, ⟨k3, A3, B3, ⟨⟩⟩, ⟨⟩⟩, ⟨⟩⟩, ⟨⟩⟩ := x
  simp only at c0 c1 c2 c3 ⊢
  clear g1 g2 g3 g4 g5 g6 g7 g8
  have hC1 := cx [] (c0)
  have hC2 := cx [] (c1)
  have hC3 := cx [] (c2)
  have hC4 := cx [] (c3)
  have fy := And.intro nc4 (And.intro nc8 (And.intro wa (tn)))
  refine goU ?_ ?_ ?_ ?_ ?_ ?_ ?_ ?_ ?_ ?_ ?_ ?_ ?_ ?_ ?_ ?_
  any_goals (first | exact True.intro | skip)
  all_goals (repeat (refine Wh.mk fun hcc => ?_))
  all_goals exact SW.ret (show RetQ _ _ _ _ _ _ _ from RetQ.y [0] [.nd [.int .i64 n, .nd [.nd [.bool p0, .nd [.int .i64 k0, .ow 1 (A0.map Enc.o), .ow 1 (B0.map Enc.o)]], .nd [.bool p1, .nd [.int .i64 k1, .ow 1 (A1.map Enc.o), .ow 1 (B1.map Enc.o)]], .nd [.bool p2, .nd [.int .i64 k2, .ow 1 (A2.map Enc.o), .ow 1 (B2.map Enc.o)]], .nd [.bool p3, .nd [.int .i64 k3, .ow 1 (A3.map Enc.o), .ow 1 (B3.map Enc.o)]]]]])
end Q6

namespace Q6
open Go Go.Vm Go.Proofs
set_option maxHeartbeats 4000000
set_option synthInstance.maxSize 2000
set_option synthInstance.maxHeartbeats 400000
set_option maxRecDepth 10000
set_option linter.unusedSimpArgs false
set_option linter.unusedVariables false

def okSet (p : PageT) (k : Int) (s : SlotT) (n : Int) : Bool := pageB p && (rng k 0 3 && (slotB s && rng n p.1 1000000))
theorem iSet_n (x : PageT) (k : Int) (s : SlotT) (m : Int) (hx : Enc.lim 1048576 x) (hs : Enc.lim 1048576 s) (ho : okSet x k s m = false) : CallR Try.prog 30 [.nd [.int .i64 x.1, .nd [.nd [.bool x.2.1.1.1, .nd [.int .i64 x.2.1.1.2.1.1, .sl .b (x.2.1.1.2.1.2.1.map Enc.b), .sl .b (x.2.1.1.2.1.2.2.1.map Enc.b)]], .nd [.bool x.2.1.2.1.1, .nd [.int .i64 x.2.1.2.1.2.1.1, .sl .b (x.2.1.2.1.2.1.2.1.map Enc.b), .sl .b (x.2.1.2.1.2.1.2.2.1.map Enc.b)]], .nd [.bool x.2.1.2.2.1.1, .nd [.int .i64 x.2.1.2.2.1.2.1.1, .sl .b (x.2.1.2.2.1.2.1.2.1.map Enc.b), .sl .b (x.2.1.2.2.1.2.1.2.2.1.map Enc.b)]], .nd [.bool x.2.1.2.2.2.1.1, .nd [.int .i64 x.2.1.2.2.2.1.2.1.1, .sl .b (x.2.1.2.2.2.1.2.1.2.1.map Enc.b), .sl .b (x.2.1.2.2.2.1.2.1.2.2.1.map Enc.b)]]]], .int .i64 k, .nd [.bool s.1, .nd [.int .i64 s.2.1.1, .sl .b (s.2.1.2.1.map Enc.b), .sl .b (s.2.1.2.2.1.map Enc.b)]], .int .i64 m] [] (.tup [.nd [.int .i64 x.1, .nd [.nd [.bool x.2.1.1.1, .nd [.int .i64 x.2.1.1.2.1.1, .ow 1 (x.2.1.1.2.1.2.1.map Enc.o), .ow 1 (x.2.1.1.2.1.2.2.1.map Enc.o)]], .nd [.bool x.2.1.2.1.1, .nd [.int .i64 x.2.1.2.1.2.1.1, .ow 1 (x.2.1.2.1.2.1.2.1.map Enc.o), .ow 1 (x.2.1.2.1.2.1.2.2.1.map Enc.o)]], .nd [.bool x.2.1.2.2.1.1, .nd [.int .i64 x.2.1.2.2.1.2.1.1, .ow 1 (x.2.1.2.2.1.2.1.2.1.map Enc.o), .ow 1 (x.2.1.2.2.1.2.1.2.2.1.map Enc.o)]], .nd [.bool x.2.1.2.2.2.1.1, .nd [.int .i64 x.2.1.2.2.2.1.2.1.1, .ow 1 (x.2.1.2.2.2.1.2.1.2.1.map Enc.o), .ow 1 (x.2.1.2.2.2.1.2.1.2.2.1.map Enc.o)]]]], .bool false]) := by
  refine CallR.of_body (n := 42) (rs := [.cell 8 49, .tmp 9]) hY.ok Try.func30 rfl (by decide) rfl rfl rfl rfl (fun F => ?_)
  have fx := And.intro Y1 (And.intro Y3 (And.intro Y4 (And.intro Y34 (And.intro Y36 (And.intro Y38 (And.intro Y47 (Y49)))))))
  have g1 := hx.2.1.1.2.1.2.1.1
  have g2 := hx.2.1.1.2.1.2.2.1.1
  have g3 := hx.2.1.2.1.2.1.2.1.1
  have g4 := hx.2.1.2.1.2.1.2.2.1.1
  have g5 := hx.2.1.2.2.1.2.1.2.1.1
  have g6 := hx.2.1.2.2.1.2.1.2.2.1.1
  have g7 := hx.2.1.2.2.2.1.2.1.2.1.1
  have g8 := hx.2.1.2.2.2.1.2.1.2.2.1.1
  have hC := clonePage_ok x g1 g2 g3 g4 g5 g6 g7 g8
  have hS := cloneSlot_ok s hs.2.1.2.1.1 hs.2.1.2.2.1.1
  have hP := implPageOk_ok x hx
  have hT := slotOk_ok s hs
  have hI := inR_ok m x.1 1000000
  have hK := inR_ok k 0 3
  unfold okSet at ho
  generalize pageB x = b1 at *
  generalize rng k 0 3 = b2 at *
  generalize slotB s = b3 at *
  generalize rng m x.1 1000000 = b4 at *
  obtain ⟨n, ⟨⟨p0, ⟨k0, A0, B0, ⟨⟩⟩, ⟨⟩⟩, ⟨p1, ⟨k1, A1, B1, ⟨⟩⟩, ⟨⟩⟩, ⟨p2, ⟨k2, A2, B2, ⟨⟩⟩, ⟨⟩⟩, ⟨p3, ⟨k3, A3, B3, ⟨⟩⟩, ⟨⟩⟩, ⟨⟩⟩, ⟨⟩⟩ := x
  obtain ⟨sp, ⟨sk, sA, sB, ⟨⟩⟩, ⟨⟩⟩ := s
  simp only at hC hS hP hT hI ⊢
  clear hx hs g1 g2 g3 g4 g5 g6 g7 g8
  cases b1
  · skip
    have hC1 := cx [] (hC)
    have hC2 := cx [] (hP)
    have hC3 := cx [] (hK)
    have hC4 := cx [] (hT)
    have hC5 := cx [] (hI)
    have fy := Nat.add_zero
    refine goR ?_ ?_ ?_ ?_ ?_ ?_ ?_ ?_ ?_ ?_ ?_ ?_ ?_ ?_ ?_ ?_
    any_goals (first | exact True.intro | skip)
    all_goals (repeat (refine Wh.mk fun hcc => ?_))
    all_goals exact SW.ret (show RetQ _ _ _ _ _ _ _ from RetQ.y [0, 0] [.nd [.int .i64 n, .nd [.nd [.bool p0, .nd [.int .i64 k0, .ow 1 (A0.map Enc.o), .ow 1 (B0.map Enc.o)]], .nd [.bool p1, .nd [.int .i64 k1, .ow 1 (A1.map Enc.o), .ow 1 (B1.map Enc.o)]], .nd [.bool p2, .nd [.int .i64 k2, .ow 1 (A2.map Enc.o), .ow 1 (B2.map Enc.o)]], .nd [.bool p3, .nd [.int .i64 k3, .ow 1 (A3.map Enc.o), .ow 1 (B3.map Enc.o)]]]], .bool false])
  · skip
    cases b2
    · skip
      have hC1 := cx [] (hC)
      have hC2 := cx [] (hP)
      have hC3 := cx [] (hK)
      have hC4 := cx [] (hT)
      have hC5 := cx [] (hI)
      have fy := Nat.add_zero
      refine goR ?_ ?_ ?_ ?_ ?_ ?_ ?_ ?_ ?_ ?_ ?_ ?_ ?_ ?_ ?_ ?_
      any_goals (first | exact True.intro | skip)
      all_goals (repeat (refine Wh.mk fun hcc => ?_))
      all_goals exact SW.ret (show RetQ _ _ _ _ _ _ _ from RetQ.y [0, 0] [.nd [.int .i64 n, .nd [.nd [.bool p0, .nd [.int .i64 k0, .ow 1 (A0.map Enc.o), .ow 1 (B0.map Enc.o)]], .nd [.bool p1, .nd [.int .i64 k1, .ow 1 (A1.map Enc.o), .ow 1 (B1.map Enc.o)]], .nd [.bool p2, .nd [.int .i64 k2, .ow 1 (A2.map Enc.o), .ow 1 (B2.map Enc.o)]], .nd [.bool p3, .nd [.int .i64 k3, .ow 1 (A3.map Enc.o), .ow 1 (B3.map Enc.o)]]]], .bool false])
    · skip
      cases b3
      · skip
        have hC1 := cx [] (hC)
        have hC2 := cx [] (hP)
        have hC3 := cx [] (hK)
        have hC4 := cx [] (hT)
        have hC5 := cx [] (hI)
        have fy := Nat.add_zero
        refine goR ?_ ?_ ?_ ?_ ?_ ?_ ?_ ?_ ?_ ?_ ?_ ?_ ?_ ?_ ?_ ?_
        any_goals (first | exact True.intro | skip)
        all_goals (repeat (refine Wh.mk fun hcc => ?_))
        all_goals exact SW.ret (show RetQ _ _ _ _ _ _ _ from RetQ.y [0, 0] [.nd [.int .i64 n, .nd [.nd [.bool p0, .nd [.int .i64 k0, .ow 1 (A0.map Enc.o), .ow 1 (B0.map Enc.o)]], .nd [.bool p1, .nd [.int .i64 k1, .ow 1 (A1.map Enc.o), .ow 1 (B1.map Enc.o)]], .nd [.bool p2, .nd [.int .i64 k2, .ow 1 (A2.map Enc.o), .ow 1 (B2.map Enc.o)]], .nd [.bool p3, .nd [.int .i64 k3, .ow 1 (A3.map Enc.o), .ow 1 (B3.map Enc.o)]]]], .bool false])
      · skip
        cases b4
        · skip
          have hC1 := cx [] (hC)
          have hC2 := cx [] (hP)
          have hC3 := cx [] (hK)
          have hC4 := cx [] (hT)
          have hC5 := cx [] (hI)
          have fy := Nat.add_zero
          refine goR ?_ ?_ ?_ ?_ ?_ ?_ ?_ ?_ ?_ ?_ ?_ ?_ ?_ ?_ ?_ ?_
          any_goals (first | exact True.intro | skip)
          all_goals (repeat (refine Wh.mk fun hcc => ?_))
          all_goals exact SW.ret (show RetQ _ _ _ _ _ _ _ from RetQ.y [0, 0] [.nd [.int .i64 n, .nd [.nd [.bool p0, .nd [.int .i64 k0, .ow 1 (A0.map Enc.o), .ow 1 (B0.map Enc.o)]], .nd [.bool p1, .nd [.int .i64 k1, .ow 1 (A1.map Enc.o), .ow 1 (B1.map Enc.o)]], .nd [.bool p2, .nd [.int .i64 k2, .ow 1 (A2.map Enc.o), .ow 1 (B2.map Enc.o)]], .nd [.bool p3, .nd [.int .i64 k3, .ow 1 (A3.map Enc.o), .ow 1 (B3.map Enc.o)]]]], .bool false])
        · skip
          exact absurd ho (by decide)
theorem iSet_0 (x : PageT) (s : SlotT) (m : Int) (hx : Enc.lim 1048576 x) (hs : Enc.lim 1048576 s) (ho : okSet x 0 s m = true) : CallR Try.prog 30 [.nd [.int .i64 x.1, .nd [.nd [.bool x.2.1.1.1, .nd [.int .i64 x.2.1.1.2.1.1, .sl .b (x.2.1.1.2.1.2.1.map Enc.b), .sl .b (x.2.1.1.2.1.2.2.1.map Enc.b)]], .nd [.bool x.2.1.2.1.1, .nd [.int .i64 x.2.1.2.1.2.1.1, .sl .b (x.2.1.2.1.2.1.2.1.map Enc.b), .sl .b (x.2.1.2.1.2.1.2.2.1.map Enc.b)]], .nd [.bool x.2.1.2.2.1.1, .nd [.int .i64 x.2.1.2.2.1.2.1.1, .sl .b (x.2.1.2.2.1.2.1.2.1.map Enc.b), .sl .b (x.2.1.2.2.1.2.1.2.2.1.map Enc.b)]], .nd [.bool x.2.1.2.2.2.1.1, .nd [.int .i64 x.2.1.2.2.2.1.2.1.1, .sl .b (x.2.1.2.2.2.1.2.1.2.1.map Enc.b), .sl .b (x.2.1.2.2.2.1.2.1.2.2.1.map Enc.b)]]]], .int .i64 0, .nd [.bool s.1, .nd [.int .i64 s.2.1.1, .sl .b (s.2.1.2.1.map Enc.b), .sl .b (s.2.1.2.2.1.map Enc.b)]], .int .i64 m] [] (.tup [.nd [.int .i64 ((((m, (s, x.2.1.2.1, x.2.1.2.2.1, x.2.1.2.2.2.1, ()), ()) : PageT)).1), .nd [.nd [.bool ((((((m, (s, x.2.1.2.1, x.2.1.2.2.1, x.2.1.2.2.2.1, ()), ()) : PageT)).2.1).1).1), .nd [.int .i64 (((((((m, (s, x.2.1.2.1, x.2.1.2.2.1, x.2.1.2.2.2.1, ()), ()) : PageT)).2.1).1).2.1).1), .ow 1 ((((((((m, (s, x.2.1.2.1, x.2.1.2.2.1, x.2.1.2.2.2.1, ()), ()) : PageT)).2.1).1).2.1).2.1).map Enc.o), .ow 1 ((((((((m, (s, x.2.1.2.1, x.2.1.2.2.1, x.2.1.2.2.2.1, ()), ()) : PageT)).2.1).1).2.1).2.2.1).map Enc.o)]], .nd [.bool ((((((m, (s, x.2.1.2.1, x.2.1.2.2.1, x.2.1.2.2.2.1, ()), ()) : PageT)).2.1).2.1).1), .nd [.int .i64 (((((((m, (s, x.2.1.2.1, x.2.1.2.2.1, x.2.1.2.2.2.1, ()), ()) : PageT)).2.1).2.1).2.1).1), .ow 1 ((((((((m, (s, x.2.1.2.1, x.2.1.2.2.1, x.2.1.2.2.2.1, ()), ()) : PageT)).2.1).2.1).2.1).2.1).map Enc.o), .ow 1 ((((((((m, (s, x.2.1.2.1, x.2.1.2.2.1, x.2.1.2.2.2.1, ()), ()) : PageT)).2.1).2.1).2.1).2.2.1).map Enc.o)]], .nd [.bool ((((((m, (s, x.2.1.2.1, x.2.1.2.2.1, x.2.1.2.2.2.1, ()), ()) : PageT)).2.1).2.2.1).1), .nd [.int .i64 (((((((m, (s, x.2.1.2.1, x.2.1.2.2.1, x.2.1.2.2.2.1, ()), ()) : PageT)).2.1).2.2.1).2.1).1), .ow 1 ((((((((m, (s, x.2.1.2.1, x.2.1.2.2.1, x.2.1.2.2.2.1, ()), ()) : PageT)).2.1).2.2.1).2.1).2.1).map Enc.o), .ow 1 ((((((((m, (s, x.2.1.2.1, x.2.1.2.2.1, x.2.1.2.2.2.1, ()), ()) : PageT)).2.1).2.2.1).2.1).2.2.1).map Enc.o)]], .nd [.bool ((((((m, (s, x.2.1.2.1, x.2.1.2.2.1, x.2.1.2.2.2.1, ()), ()) : PageT)).2.1).2.2.2.1).1), .nd [.int .i64 (((((((m, (s, x.2.1.2.1, x.2.1.2.2.1, x.2.1.2.2.2.1, ()), ()) : PageT)).2.1).2.2.2.1).2.1).1), .ow 1 ((((((((m, (s, x.2.1.2.1, x.2.1.2.2.1, x.2.1.2.2.2.1, ()), ()) : PageT)).2.1).2.2.2.1).2.1).2.1).map Enc.o), .ow 1 ((((((((m, (s, x.2.1.2.1, x.2.1.2.2.1, x.2.1.2.2.2.1, ()), ()) : PageT)).2.1).2.2.2.1).2.1).2.2.1).map Enc.o)]]]], .bool true]) := by
  refine CallR.of_body (n := 42) (rs := [.cell 8 49, .tmp 9]) hY.ok Try.func30 rfl (by decide) rfl rfl rfl rfl (fun F => ?_)
  have fx := And.intro Y1 (And.intro Y3 (And.intro Y4 (And.intro Y34 (And.intro Y36 (And.intro Y38 (And.intro Y47 (Y49)))))))
  have g1 := hx.2.1.1.2.1.2.1.1
  have g2 := hx.2.1.1.2.1.2.2.1.1
  have g3 := hx.2.1.2.1.2.1.2.1.1
  have g4 := hx.2.1.2.1.2.1.2.2.1.1
  have g5 := hx.2.1.2.2.1.2.1.2.1.1
  have g6 := hx.2.1.2.2.1.2.1.2.2.1.1
  have g7 := hx.2.1.2.2.2.1.2.1.2.1.1
  have g8 := hx.2.1.2.2.2.1.2.1.2.2.1.1
  have hC := clonePage_ok x g1 g2 g3 g4 g5 g6 g7 g8
  have hS := cloneSlot_ok s hs.2.1.2.1.1 hs.2.1.2.2.1.1
  have hP := implPageOk_ok x hx
  have hT := slotOk_ok s hs
  have hI := inR_ok m x.1 1000000
  have hK := inR_ok 0 0 3
  unfold okSet at ho
  simp only [Bool.and_eq_true] at ho
  obtain ⟨h1, h2, h3, h4⟩ := ho
  rw [h1] at hP
  rw [h2] at hK
  rw [h3] at hT
  rw [h4] at hI
  clear h1 h2 h3 h4
  obtain ⟨n, ⟨⟨p0, ⟨k0, A0, B0, ⟨⟩⟩, ⟨⟩⟩, ⟨p1, ⟨k1, A1, B1, ⟨⟩⟩, ⟨⟩⟩, ⟨p2, ⟨k2, A2, B2, ⟨⟩⟩, ⟨⟩⟩, ⟨p3, ⟨k3, A3, B3, ⟨⟩⟩, ⟨⟩⟩, ⟨⟩⟩, ⟨⟩⟩ := x
  obtain ⟨sp, ⟨sk, sA, sB, ⟨⟩⟩, ⟨⟩⟩ := s
  simp only at hC hS hP hT hI ⊢
  clear hx hs g1 g2 g3 g4 g5 g6 g7 g8
  have hC1 := cx [] (hC)
  have hC2 := cx [] (hP)
  have hC3 := cx [] (hK)
  have hC4 := cx [] (hT)
  have hC5 := cx [] (hI)
  have hC6 := cx [] (hS)
  have fy := And.intro nc4 (And.intro nc8 (And.intro wa (tn)))
  refine goR ?_ ?_ ?_ ?_ ?_ ?_ ?_ ?_ ?_ ?_ ?_ ?_ ?_ ?_ ?_ ?_
  any_goals (first | exact True.intro | skip)
  all_goals (repeat (refine Wh.mk fun hcc => ?_))
  all_goals exact SW.ret (show RetQ _ _ _ _ _ _ _ from RetQ.y [0, 0] [.nd [.int .i64 m, .nd [.nd [.bool sp, .nd [.int .i64 sk, .ow 1 (sA.map Enc.o), .ow 1 (sB.map Enc.o)]], .nd [.bool p1, .nd [.int .i64 k1, .ow 1 (A1.map Enc.o), .ow 1 (B1.map Enc.o)]], .nd [.bool p2, .nd [.int .i64 k2, .ow 1 (A2.map Enc.o), .ow 1 (B2.map Enc.o)]], .nd [.bool p3, .nd [.int .i64 k3, .ow 1 (A3.map Enc.o), .ow 1 (B3.map Enc.o)]]]], .bool true])
theorem iSet_1 (x : PageT) (s : SlotT) (m : Int) (hx : Enc.lim 1048576 x) (hs : Enc.lim 1048576 s) (ho : okSet x 1 s m = true) : CallR Try.prog 30 [.nd [.int .i64 x.1, .nd [.nd [.bool x.2.1.1.1, .nd [.int .i64 x.2.1.1.2.1.1, .sl .b (x.2.1.1.2.1.2.1.map Enc.b), .sl .b (x.2.1.1.2.1.2.2.1.map Enc.b)]], .nd [.bool x.2.1.2.1.1, .nd [.int .i64 x.2.1.2.1.2.1.1, .sl .b (x.2.1.2.1.2.1.2.1.map Enc.b), .sl .b (x.2.1.2.1.2.1.2.2.1.map Enc.b)]], .nd [.bool x.2.1.2.2.1.1, .nd [.int .i64 x.2.1.2.2.1.2.1.1, .sl .b (x.2.1.2.2.1.2.1.2.1.map Enc.b), .sl .b (x.2.1.2.2.1.2.1.2.2.1.map Enc.b)]], .nd [.bool x.2.1.2.2.2.1.1, .nd [.int .i64 x.2.1.2.2.2.1.2.1.1, .sl .b (x.2.1.2.2.2.1.2.1.2.1.map Enc.b), .sl .b (x.2.1.2.2.2.1.2.1.2.2.1.map Enc.b)]]]], .int .i64 1, .nd [.bool s.1, .nd [.int .i64 s.2.1.1, .sl .b (s.2.1.2.1.map Enc.b), .sl .b (s.2.1.2.2.1.map Enc.b)]], .int .i64 m] [] (.tup [.nd [.int .i64 ((((m, (x.2.1.1, s, x.2.1.2.2.1, x.2.1.2.2.2.1, ()), ()) : PageT)).1), .nd [.nd [.bool ((((((m, (x.2.1.1, s, x.2.1.2.2.1, x.2.1.2.2.2.1, ()), ()) : PageT)).2.1).1).1), .nd [.int .i64 (((((((m, (x.2.1.1, s, x.2.1.2.2.1, x.2.1.2.2.2.1, ()), ()) : PageT)).2.1).1).2.1).1), .ow 1 ((((((((m, (x.2.1.1, s, x.2.1.2.2.1, x.2.1.2.2.2.1, ()), ()) : PageT)).2.1).1).2.1).2.1).map Enc.o), .ow 1 ((((((((m, (x.2.1.1, s, x.2.1.2.2.1, x.2.1.2.2.2.1, ()), ()) : PageT)).2.1).1).2.1).2.2.1).map Enc.o)]], .nd [.bool ((((((m, (x.2.1.1, s, x.2.1.2.2.1, x.2.1.2.2.2.1, ()), ()) : PageT)).2.1).2.1).1), .nd [.int .i64 (((((((m, (x.2.1.1, s, x.2.1.2.2.1, x.2.1.2.2.2.1, ()), ()) : PageT)).2.1).2.1).2.1).1), .ow 1 ((((((((m, (x.2.1.1, s, x.2.1.2.2.1, x.2.1.2.2.2.1, ()), ()) : PageT)).2.1).2.1).2.1).2.1).map Enc.o), .ow 1 ((((((((m, (x.2.1.1, s, x.2.1.2.2.1, x.2.1.2.2.2.1, ()), ()) : PageT)).2.1).2.1).2.1).2.2.1).map Enc.o)]], .nd [.bool ((((((m, (x.2.1.1, s, x.2.1.2.2.1, x.2.1.2.2.2.1, ()), ()) : PageT)).2.1).2.2.1).1), .nd [.int .i64 (((((((m, (x.2.1.1, s, x.2.1.2.2.1, x.2.1.2.2.2.1, ()), ()) : PageT)).2.1).2.2.1).2.1).1), .ow 1 ((((((((m, (x.2.1.1, s, x.2.1.2.2.1, x.2.1.2.2.2.1, ()), ()) : PageT)).2.1).2.2.1).2.1).2.1).map Enc.o), .ow 1 ((((((((m, (x.2.1.1, s, x.2.1.2.2.1, x.2.1.2.2.2.1, ()), ()) : PageT)).2.1).2.2.1).2.1).2.2.1).map Enc.o)]], .nd [.bool ((((((m, (x.2.1.1, s, x.2.1.2.2.1, x.2.1.2.2.2.1, ()), ()) : PageT)).2.1).2.2.2.1).1), .nd [.int .i64 (((((((m, (x.2.1.1, s, x.2.1.2.2.1, x.2.1.2.2.2.1, ()), ()) : PageT)).2.1).2.2.2.1).2.1).1), .ow 1 ((((((((m, (x.2.1.1, s, x.2.1.2.2.1, x.2.1.2.2.2.1, ()), ()) : PageT)).2.1).2.2.2.1).2.1).2.1).map Enc.o), .ow 1 ((((((((m, (x.2.1.1, s, x.2.1.2.2.1, x.2.1.2.2.2.1, ()), ()) : PageT)).2.1).2.2.2.1).2.1).2.2.1).map Enc.o)]]]], .bool true]) := by
  refine CallR.of_body (n := 42) (rs := [.cell 8 49, .tmp 9]) hY.ok Try.func30 rfl (by decide) rfl rfl rfl rfl (fun F => ?_)
  have fx := And.intro Y1 (And.intro Y3 (And.intro Y4 (And.intro Y34 (And.intro Y36 (And.intro Y38 (And.intro Y47 (Y49)))))))
  have g1 := hx.2.1.1.2.1.2.1.1
  have g2 := hx.2.1.1.2.1.2.2.1.1
  have g3 := hx.2.1.2.1.2.1.2.1.1
  have g4 := hx.2.1.2.1.2.1.2.2.1.1
  have g5 := hx.2.1.2.2.1.2.1.2.1.1
  have g6 := hx.2.1.2.2.1.2.1.2.2.1.1
  have g7 := hx.2.1.2.2.2.1.2.1.2.1.1
  have g8 := hx.2.1.2.2.2.1.2.1.2.2.1.1
  have hC := clonePage_ok x g1 g2 g3 g4 g5 g6 g7 g8
  have hS := cloneSlot_ok s hs.2.1.2.1.1 hs.2.1.2.2.1.1
  have hP := implPageOk_ok x hx
  have hT := slotOk_ok s hs
  have hI := inR_ok m x.1 1000000
  have hK := inR_ok 1 0 3
  unfold okSet at ho
  simp only [Bool.and_eq_true] at ho
  obtain ⟨h1, h2, h3, h4⟩ := ho
  rw [h1] at hP
  rw [h2] at hK
  rw [h3] at hT
  rw [h4] at hI
  clear h1 h2 h3 h4
  obtain ⟨n, ⟨⟨p0, ⟨k0, A0, B0, ⟨⟩⟩, ⟨⟩⟩, ⟨p1, ⟨k1, A1, B1, ⟨⟩⟩, ⟨⟩⟩, ⟨p2, ⟨k2, A2, B2, ⟨⟩⟩, ⟨⟩⟩, ⟨p3, ⟨k3, A3, B3, ⟨⟩⟩, ⟨⟩⟩, ⟨⟩⟩, ⟨⟩⟩ := x
  obtain ⟨sp, ⟨sk, sA, sB, ⟨⟩⟩, ⟨⟩⟩ := s
  simp only at hC hS hP hT hI ⊢
  clear hx hs g1 g2 g3 g4 g5 g6 g7 g8
  have hC1 := cx [] (hC)
  have hC2 := cx [] (hP)
  have hC3 := cx [] (hK)
  have hC4 := cx [] (hT)
  have hC5 := cx [] (hI)
  have hC6 := cx [] (hS)
  have fy := And.intro nc4 (And.intro nc8 (And.intro wa (tn)))
  refine goR ?_ ?_ ?_ ?_ ?_ ?_ ?_ ?_ ?_ ?_ ?_ ?_ ?_ ?_ ?_ ?_
  any_goals (first | exact True.intro | skip)
  all_goals (repeat (refine Wh.mk fun hcc => ?_))
  all_goals exact SW.ret (show RetQ _ _ _ _ _ _ _ from RetQ.y [0, 0] [.nd [.int .i64 m, .nd [.nd [.bool p0, .nd [.int .i64 k0, .ow 1 (A0.map Enc.o), .ow 1 (B0.map Enc.o)]], .nd [.bool sp, .nd [.int .i64 sk, .ow 1 (sA.map Enc.o), .ow 1 (sB.map Enc.o)]], .nd [.bool p2, .nd [.int .i64 k2, .ow 1 (A2.map Enc.o), .ow 1 (B2.map Enc.o)]], .nd [.bool p3, .nd [.int .i64 k3, .ow 1 (A3.map Enc.o), .ow 1 (B3.map Enc.o)]]]], .bool true])
theorem iSet_2 (x : PageT) (s : SlotT) (m : Int) (hx : Enc.lim 1048576 x) (hs : Enc.lim 1048576 s) (ho : okSet x 2 s m = true) : CallR Try.prog 30 [.nd [.int .i64 x.1, .nd [.nd [.bool x.2.1.1.1, .nd [.int .i64 x.2.1.1.2.1.1, .sl .b (x.2.1.1.2.1.2.1.map Enc.b), .sl .b (x.2.1.1.2.1.2.2.1.map Enc.b)]], .nd [.bool x.2.1.2.1.1, .nd [.int .i64 x.2.1.2.1.2.1.1, .sl .b (x.2.1.2.1.2.1.2.1.map Enc.b), .sl .b (x.2.1.2.1.2.1.2.2.1.map Enc.b)]], .nd [.bool x.2.1.2.2.1.1, .nd [.int .i64 x.2.1.2.2.1.2.1.1, .sl .b (x.2.1.2.2.1.2.1.2.1.map Enc.b), .sl .b (x.2.1.2.2.1.2.1.2.2.1.map Enc.b)]], .nd [.bool x.2.1.2.2.2.1.1, .nd [.int .i64 x.2.1.2.2.2.1.2.1.1, .sl .b (x.2.1.2.2.2.1.2.1.2.1.map Enc.b), .sl .b (x.2.1.2.2.2.1.2.1.2.2.1.map Enc.b)]]]], .int .i64 2, .nd [.bool s.1, .nd [.int .i64 s.2.1.1, .sl .b (s.2.1.2.1.map Enc.b), .sl .b (s.2.1.2.2.1.map Enc.b)]], .int .i64 m] [] (.tup [.nd [.int .i64 ((((m, (x.2.1.1, x.2.1.2.1, s, x.2.1.2.2.2.1, ()), ()) : PageT)).1), .nd [.nd [.bool ((((((m, (x.2.1.1, x.2.1.2.1, s, x.2.1.2.2.2.1, ()), ()) : PageT)).2.1).1).1), .nd [.int .i64 (((((((m, (x.2.1.1, x.2.1.2.1, s, x.2.1.2.2.2.1, ()), ()) : PageT)).2.1).1).2.1).1), .ow 1 ((((((((m, (x.2.1.1, x.2.1.2.1, s, x.2.1.2.2.2.1, ()), ()) : PageT)).2.1).1).2.1).2.1).map Enc.o), .ow 1 ((((((((m, (x.2.1.1, x.2.1.2.1, s, x.2.1.2.2.2.1, ()), ()) : PageT)).2.1).1).2.1).2.2.1).map Enc.o)]], .nd [.bool ((((((m, (x.2.1.1, x.2.1.2.1, s, x.2.1.2.2.2.1, ()), ()) : PageT)).2.1).2.1).1), .nd [.int .i64 (((((((m, (x.2.1.1, x.2.1.2.1, s, x.2.1.2.2.2.1, ()), ()) : PageT)).2.1).2.1).2.1).1), .ow 1 ((((((((m, (x.2.1.1, x.2.1.2.1, s, x.2.1.2.2.2.1, ()), ()) : PageT)).2.1).2.1).2.1).2.1).map Enc.o), .ow 1 ((((((((m, (x.2.1.1, x.2.1.2.1, s, x.2.1.2.2.2.1, ()), ()) : PageT)).2.1).2.1).2.1).2.2.1).map Enc.o)]], .nd [.bool ((((((m, (x.2.1.1, x.2.1.2.1, s, x.2.1.2.2.2.1, ()), ()) : PageT)).2.1).2.2.1).1), .nd [.int .i64 (((((((m, (x.2.1.1, x.2.1.2.1, s, x.2.1.2.2.2.1, ()), ()) : PageT)).2.1).2.2.1).2.1).1), .ow 1 ((((((((m, (x.2.1.1, x.2.1.2.1, s, x.2.1.2.2.2.1, ()), ()) : PageT)).2.1).2.2.1).2.1).2.1).map Enc.o), .ow 1 ((((((((m, (x.2.1.1, x.2.1.2.1, s, x.2.1.2.2.2.1, ()), ()) : PageT)).2.1).2.2.1).2.1).2.2.1).map Enc.o)]], .nd [.bool ((((((m, (x.2.1.1, x.2.1.2.1, s, x.2.1.2.2.2.1, ()), ()) : PageT)).2.1).2.2.2.1).1), .nd [.int .i64 (((((((m, (x.2.1.1, x.2.1.2.1, s, x.2.1.2.2.2.1, ()), ()) : PageT)).2.1).2.2.2.1).2.1).1), .ow 1 ((((((((m, (x.2.1.1, x.2.1.2.1, s, x.2.1.2.2.2.1, ()), ()) : PageT)).2.1).2.2.2.1).2.1).2.1).map Enc.o), .ow 1 ((((((((m, (x.2.1.1, x.2.1.2.1, s, x.2.1.2.2.2.1, ()), ()) : PageT)).2.1).2.2.2.1).2.1).2.2.1).map Enc.o)]]]], .bool true]) := by
  refine CallR.of_body (n := 42) (rs := [.cell 8 49, .tmp 9]) hY.ok Try.func30 rfl (by decide) rfl rfl rfl rfl (fun F => ?_)
  have fx := And.intro Y1 (And.intro Y3 (And.intro Y4 (And.intro Y34 (And.intro Y36 (And.intro Y38 (And.intro Y47 (Y49)))))))
  have g1 := hx.2.1.1.2.1.2.1.1
  have g2 := hx.2.1.1.2.1.2.2.1.1
  have g3 := hx.2.1.2.1.2.1.2.1.1
  have g4 := hx.2.1.2.1.2.1.2.2.1.1
  have g5 := hx.2.1.2.2.1.2.1.2.1.1
  have g6 := hx.2.1.2.2.1.2.1.2.2.1.1
  have g7 := hx.2.1.2.2.2.1.2.1.2.1.1
  have g8 := hx.2.1.2.2.2.1.2.1.2.2.1.1
  have hC := clonePage_ok x g1 g2 g3 g4 g5 g6 g7 g8
  have hS := cloneSlot_ok s hs.2.1.2.1.1 hs.2.1.2.2.1.1
  have hP := implPageOk_ok x hx
  have hT := slotOk_ok s hs
  have hI := inR_ok m x.1 1000000
  have hK := inR_ok 2 0 3
  unfold okSet at ho
  simp only [Bool.and_eq_true] at ho
  obtain ⟨h1, h2, h3, h4⟩ := ho
  rw [h1] at hP
  rw [h2] at hK
  rw [h3] at hT
  rw [h4] at hI
  clear h1 h2 h3 h4
  obtain ⟨n, ⟨⟨p0, ⟨k0, A0, B0, ⟨⟩⟩, ⟨⟩⟩, ⟨p1, ⟨k1, A1, B1, ⟨⟩⟩, ⟨⟩⟩, ⟨p2, ⟨k2, A2, B2, ⟨⟩⟩, ⟨⟩⟩, ⟨p3, ⟨k3, A3, B3, ⟨⟩⟩, ⟨⟩⟩, ⟨⟩⟩, ⟨⟩⟩ := x
  obtain ⟨sp, ⟨sk, sA, sB, ⟨⟩⟩, ⟨⟩⟩ := s
  simp only at hC hS hP hT hI ⊢
  clear hx hs g1 g2 g3 g4 g5 g6 g7 g8
  have hC1 := cx [] (hC)
  have hC2 := cx [] (hP)
  have hC3 := cx [] (hK)
  have hC4 := cx [] (hT)
  have hC5 := cx [] (hI)
  have hC6 := cx [] (hS)
  have fy := And.intro nc4 (And.intro nc8 (And.intro wa (tn)))
  refine goR ?_ ?_ ?_ ?_ ?_ ?_ ?_ ?_ ?_ ?_ ?_ ?_ ?_ ?_ ?_ ?_
  any_goals (first | exact True.intro | skip)
  all_goals (repeat (refine Wh.mk fun hcc => ?_))
  all_goals exact SW.ret (show RetQ _ _ _ _ _ _ _ from RetQ.y [0, 0] [.nd [.int .i64 m, .nd [.nd [.bool p0, .nd [.int .i64 k0, .ow 1 (A0.map Enc.o), .ow 1 (B0.map Enc.o)]], .nd [.bool p1, .nd [.int .i64 k1, .ow 1 (A1.map Enc.o), .ow 1 (B1.map Enc.o)]], .nd [.bool sp, .nd [.int .i64 sk, .ow 1 (sA.map Enc.o), .ow 1 (sB.map Enc.o)]], .nd [.bool p3, .nd [.int .i64 k3, .ow 1 (A3.map Enc.o), .ow 1 (B3.map Enc.o)]]]], .bool true])
theorem iSet_3 (x : PageT) (s : SlotT) (m : Int) (hx : Enc.lim 1048576 x) (hs : Enc.lim 1048576 s) (ho : okSet x 3 s m = true) : CallR Try.prog 30 [.nd [.int .i64 x.1, .nd [.nd [.bool x.2.1.1.1, .nd [.int .i64 x.2.1.1.2.1.1, .sl .b (x.2.1.1.2.1.2.1.map Enc.b), .sl .b (x.2.1.1.2.1.2.2.1.map Enc.b)]], .nd [.bool x.2.1.2.1.1, .nd [.int .i64 x.2.1.2.1.2.1.1, .sl .b (x.2.1.2.1.2.1.2.1.map Enc.b), .sl .b (x.2.1.2.1.2.1.2.2.1.map Enc.b)]], .nd [.bool x.2.1.2.2.1.1, .nd [.int .i64 x.2.1.2.2.1.2.1.1, .sl .b (x.2.1.2.2.1.2.1.2.1.map Enc.b), .sl .b (x.2.1.2.2.1.2.1.2.2.1.map Enc.b)]], .nd [.bool x.2.1.2.2.2.1.1, .nd [.int .i64 x.2.1.2.2.2.1.2.1.1, .sl .b (x.2.1.2.2.2.1.2.1.2.1.map Enc.b), .sl .b (x.2.1.2.2.2.1.2.1.2.2.1.map Enc.b)]]]], .int .i64 3, .nd [.bool s.1, .nd [.int .i64 s.2.1.1, .sl .b (s.2.1.2.1.map Enc.b), .sl .b (s.2.1.2.2.1.map Enc.b)]], .int .i64 m] [] (.tup [.nd [.int .i64 ((((m, (x.2.1.1, x.2.1.2.1, x.2.1.2.2.1, s, ()), ()) : PageT)).1), .nd [.nd [.bool ((((((m, (x.2.1.1, x.2.1.2.1, x.2.1.2.2.1, s, ()), ()) : PageT)).2.1).1).1), .nd [.int .i64 (((((((m, (x.2.1.1, x.2.1.2.1, x.2.1.2.2.1, s, ()), ()) : PageT)).2.1).1).2.1).1), .ow 1 ((((((((m, (x.2.1.1, x.2.1.2.1, x.2.1.2.2.1, s, ()), ()) : PageT)).2.1).1).2.1).2.1).map Enc.o), .ow 1 ((((((((m, (x.2.1.1, x.2.1.2.1, x.2.1.2.2.1, s, ()), ()) : PageT)).2.1).1).2.1).2.2.1).map Enc.o)]], .nd [.bool ((((((m, (x.2.1.1, x.2.1.2.1, x.2.1.2.2.1, s, ()), ()) : PageT)).2.1).2.1).1), .nd [.int .i64 (((((((m, (x.2.1.1, x.2.1.2.1, x.2.1.2.2.1, s, ()), ()) : PageT)).2.1).2.1).2.1).1), .ow 1 ((((((((m, (x.2.1.1, x.2.1.2.1, x.2.1.2.2.1, s, ()), ()) : PageT)).2.1).2.1).2.1).2.1).map Enc.o), .ow 1 ((((((((m, (x.2.1.1, x.2.1.2.1, x.2.1.2.2.1, s, ()), ()) : PageT)).2.1).2.1).2.1).2.2.1).map Enc.o)]], .nd [.bool ((((((m, (x.2.1.1, x.2.1.2.1, x.2.1.2.2.1, s, ()), ()) : PageT)).2.1).2.2.1).1), .nd [.int .i64 (((((((m, (x.2.1.1, x.2.1.2.1, x.2.1.2.2.1, s, ()), ()) : PageT)).2.1).2.2.1).2.1).1), .ow 1 ((((((((m, (x.2.1.1, x.2.1.2.1, x.2.1.2.2.1, s, ()), ()) : PageT)).2.1).2.2.1).2.1).2.1).map Enc.o), .ow 1 ((((((((m, (x.2.1.1, x.2.1.2.1, x.2.1.2.2.1, s, ()), ()) : PageT)).2.1).2.2.1).2.1).2.2.1).map Enc.o)]], .nd [.bool ((((((m, (x.2.1.1, x.2.1.2.1, x.2.1.2.2.1, s, ()), ()) : PageT)).2.1).2.2.2.1).1), .nd [.int .i64 (((((((m, (x.2.1.1, x.2.1.2.1, x.2.1.2.2.1, s, ()), ()) : PageT)).2.1).2.2.2.1).2.1).1), .ow 1 ((((((((m, (x.2.1.1, x.2.1.2.1, x.2.1.2.2.1, s, ()), ()) : PageT)).2.1).2.2.2.1).2.1).2.1).map Enc.o), .ow 1 ((((((((m, (x.2.1.1, x.2.1.2.1, x.2.1.2.2.1, s, ()), ()) : PageT)).2.1).2.2.2.1).2.1).2.2.1).map Enc.o)]]]], .bool true]) := by
  refine CallR.of_body (n := 42) (rs := [.cell 8 49, .tmp 9]) hY.ok Try.func30 rfl (by decide) rfl rfl rfl rfl (fun F => ?_)
  have fx := And.intro Y1 (And.intro Y3 (And.intro Y4 (And.intro Y34 (And.intro Y36 (And.intro Y38 (And.intro Y47 (Y49)))))))
  have g1 := hx.2.1.1.2.1.2.1.1
  have g2 := hx.2.1.1.2.1.2.2.1.1
  have g3 := hx.2.1.2.1.2.1.2.1.1
  have g4 := hx.2.1.2.1.2.1.2.2.1.1
  have g5 := hx.2.1.2.2.1.2.1.2.1.1
  have g6 := hx.2.1.2.2.1.2.1.2.2.1.1
  have g7 := hx.2.1.2.2.2.1.2.1.2.1.1
  have g8 := hx.2.1.2.2.2.1.2.1.2.2.1.1
  have hC := clonePage_ok x g1 g2 g3 g4 g5 g6 g7 g8
  have hS := cloneSlot_ok s hs.2.1.2.1.1 hs.2.1.2.2.1.1
  have hP := implPageOk_ok x hx
  have hT := slotOk_ok s hs
  have hI := inR_ok m x.1 1000000
  have hK := inR_ok 3 0 3
  unfold okSet at ho
  simp only [Bool.and_eq_true] at ho
  obtain ⟨h1, h2, h3, h4⟩ := ho
  rw [h1] at hP
  rw [h2] at hK
  rw [h3] at hT
  rw [h4] at hI
  clear h1 h2 h3 h4
  obtain ⟨n, ⟨⟨p0, ⟨k0, A0, B0, ⟨⟩⟩, ⟨⟩⟩, ⟨p1, ⟨k1, A1, B1, ⟨⟩⟩, ⟨⟩⟩, ⟨p2, ⟨k2, A2, B2, ⟨⟩⟩, ⟨⟩⟩, ⟨p3, ⟨k3, A3, B3, ⟨⟩⟩, ⟨⟩⟩, ⟨⟩⟩, ⟨⟩⟩ := x
  obtain ⟨sp, ⟨sk, sA, sB, ⟨⟩⟩, ⟨⟩⟩ := s
  simp only at hC hS hP hT hI ⊢
  clear hx hs g1 g2 g3 g4 g5 g6 g7 g8
  have hC1 := cx [] (hC)
  have hC2 := cx [] (hP)
  have hC3 := cx [] (hK)
  have hC4 := cx [] (hT)
  have hC5 := cx [] (hI)
  have hC6 := cx [] (hS)
  have fy := And.intro nc4 (And.intro nc8 (And.intro wa (tn)))
  refine goR ?_ ?_ ?_ ?_ ?_ ?_ ?_ ?_ ?_ ?_ ?_ ?_ ?_ ?_ ?_ ?_
  any_goals (first | exact True.intro | skip)
  all_goals (repeat (refine Wh.mk fun hcc => ?_))
  all_goals exact SW.ret (show RetQ _ _ _ _ _ _ _ from RetQ.y [0, 0] [.nd [.int .i64 m, .nd [.nd [.bool p0, .nd [.int .i64 k0, .ow 1 (A0.map Enc.o), .ow 1 (B0.map Enc.o)]], .nd [.bool p1, .nd [.int .i64 k1, .ow 1 (A1.map Enc.o), .ow 1 (B1.map Enc.o)]], .nd [.bool p2, .nd [.int .i64 k2, .ow 1 (A2.map Enc.o), .ow 1 (B2.map Enc.o)]], .nd [.bool sp, .nd [.int .i64 sk, .ow 1 (sA.map Enc.o), .ow 1 (sB.map Enc.o)]]]], .bool true])
theorem sSet_n (x : PageT) (k : Int) (s : SlotT) (m : Int) (hx : Enc.lim 1048576 x) (hs : Enc.lim 1048576 s) (ho : okSet x k s m = false) : CallR Try.prog 34 [.nd [.int .i64 x.1, .nd [.nd [.bool x.2.1.1.1, .nd [.int .i64 x.2.1.1.2.1.1, .sl .b (x.2.1.1.2.1.2.1.map Enc.b), .sl .b (x.2.1.1.2.1.2.2.1.map Enc.b)]], .nd [.bool x.2.1.2.1.1, .nd [.int .i64 x.2.1.2.1.2.1.1, .sl .b (x.2.1.2.1.2.1.2.1.map Enc.b), .sl .b (x.2.1.2.1.2.1.2.2.1.map Enc.b)]], .nd [.bool x.2.1.2.2.1.1, .nd [.int .i64 x.2.1.2.2.1.2.1.1, .sl .b (x.2.1.2.2.1.2.1.2.1.map Enc.b), .sl .b (x.2.1.2.2.1.2.1.2.2.1.map Enc.b)]], .nd [.bool x.2.1.2.2.2.1.1, .nd [.int .i64 x.2.1.2.2.2.1.2.1.1, .sl .b (x.2.1.2.2.2.1.2.1.2.1.map Enc.b), .sl .b (x.2.1.2.2.2.1.2.1.2.2.1.map Enc.b)]]]], .int .i64 k, .nd [.bool s.1, .nd [.int .i64 s.2.1.1, .sl .b (s.2.1.2.1.map Enc.b), .sl .b (s.2.1.2.2.1.map Enc.b)]], .int .i64 m] [] (.tup [.nd [.int .i64 x.1, .nd [.nd [.bool x.2.1.1.1, .nd [.int .i64 x.2.1.1.2.1.1, .ow 1 (x.2.1.1.2.1.2.1.map Enc.o), .ow 1 (x.2.1.1.2.1.2.2.1.map Enc.o)]], .nd [.bool x.2.1.2.1.1, .nd [.int .i64 x.2.1.2.1.2.1.1, .ow 1 (x.2.1.2.1.2.1.2.1.map Enc.o), .ow 1 (x.2.1.2.1.2.1.2.2.1.map Enc.o)]], .nd [.bool x.2.1.2.2.1.1, .nd [.int .i64 x.2.1.2.2.1.2.1.1, .ow 1 (x.2.1.2.2.1.2.1.2.1.map Enc.o), .ow 1 (x.2.1.2.2.1.2.1.2.2.1.map Enc.o)]], .nd [.bool x.2.1.2.2.2.1.1, .nd [.int .i64 x.2.1.2.2.2.1.2.1.1, .ow 1 (x.2.1.2.2.2.1.2.1.2.1.map Enc.o), .ow 1 (x.2.1.2.2.2.1.2.1.2.2.1.map Enc.o)]]]], .bool false]) := by
  refine CallR.of_body (n := 42) (rs := [.cell 8 49, .tmp 9]) hY.ok Try.func34 rfl (by decide) rfl rfl rfl rfl (fun F => ?_)
  have fx := And.intro Y1 (And.intro Y3 (And.intro Y4 (And.intro Y34 (And.intro Y36 (And.intro Y38 (And.intro Y47 (Y49)))))))
  have g1 := hx.2.1.1.2.1.2.1.1
  have g2 := hx.2.1.1.2.1.2.2.1.1
  have g3 := hx.2.1.2.1.2.1.2.1.1
  have g4 := hx.2.1.2.1.2.1.2.2.1.1
  have g5 := hx.2.1.2.2.1.2.1.2.1.1
  have g6 := hx.2.1.2.2.1.2.1.2.2.1.1
  have g7 := hx.2.1.2.2.2.1.2.1.2.1.1
  have g8 := hx.2.1.2.2.2.1.2.1.2.2.1.1
  have hC := l3Copy_ok x g1 g2 g3 g4 g5 g6 g7 g8
  have hS := l3CopySlot_ok s hs.2.1.2.1.1 hs.2.1.2.2.1.1
  have hP := specPageOk_ok x hx
  have hT := l3Slot_ok s hs
  have hI := l1InR_ok m x.1 1000000
  have hK := l1InR_ok k 0 3
  unfold okSet at ho
  generalize pageB x = b1 at *
  generalize rng k 0 3 = b2 at *
  generalize slotB s = b3 at *
  generalize rng m x.1 1000000 = b4 at *
  obtain ⟨n, ⟨⟨p0, ⟨k0, A0, B0, ⟨⟩⟩, ⟨⟩⟩, ⟨p1, ⟨k1, A1, B1, ⟨⟩⟩, ⟨⟩⟩, ⟨p2, ⟨k2, A2, B2, ⟨⟩⟩, ⟨⟩⟩, ⟨p3, ⟨k3, A3, B3, ⟨⟩⟩, ⟨⟩⟩, ⟨⟩⟩, ⟨⟩⟩ := x
  obtain ⟨sp, ⟨sk, sA, sB, ⟨⟩⟩, ⟨⟩⟩ := s
  simp only at hC hS hP hT hI ⊢
  clear hx hs g1 g2 g3 g4 g5 g6 g7 g8
  cases b1
  · skip
    have hC1 := cx [] (hC)
    have hC2 := cx [] (hP)
    have hC3 := cx [] (hK)
    have hC4 := cx [] (hT)
    have hC5 := cx [] (hI)
    have fy := Nat.add_zero
    refine goR ?_ ?_ ?_ ?_ ?_ ?_ ?_ ?_ ?_ ?_ ?_ ?_ ?_ ?_ ?_ ?_
    any_goals (first | exact True.intro | skip)
    all_goals (repeat (refine Wh.mk fun hcc => ?_))
    all_goals exact SW.ret (show RetQ _ _ _ _ _ _ _ from RetQ.y [0, 0] [.nd [.int .i64 n, .nd [.nd [.bool p0, .nd [.int .i64 k0, .ow 1 (A0.map Enc.o), .ow 1 (B0.map Enc.o)]], .nd [.bool p1, .nd [.int .i64 k1, .ow 1 (A1.map Enc.o), .ow 1 (B1.map Enc.o)]], .nd [.bool p2, .nd [.int .i64 k2, .ow 1 (A2.map Enc.o), .ow 1 (B2.map Enc.o)]], .nd [.bool p3, .nd [.int .i64 k3, .ow 1 (A3.map Enc.o), .ow 1 (B3.map Enc.o)]]]], .bool false])
  · skip
    cases b2
    · skip
      have hC1 := cx [] (hC)
      have hC2 := cx [] (hP)
      have hC3 := cx [] (hK)
      have hC4 := cx [] (hT)
      have hC5 := cx [] (hI)
      have fy := Nat.add_zero
      refine goR ?_ ?_ ?_ ?_ ?_ ?_ ?_ ?_ ?_ ?_ ?_ ?_ ?_ ?_ ?_ ?_
      any_goals (first | exact True.intro | skip)
      all_goals (repeat (refine Wh.mk fun hcc => ?_))
      all_goals exact SW.ret (show RetQ _ _ _ _ _ _ _ from RetQ.y [0, 0] [.nd [.int .i64 n, .nd [.nd [.bool p0, .nd [.int .i64 k0, .ow 1 (A0.map Enc.o), .ow 1 (B0.map Enc.o)]], .nd [.bool p1, .nd [.int .i64 k1, .ow 1 (A1.map Enc.o), .ow 1 (B1.map Enc.o)]], .nd [.bool p2, .nd [.int .i64 k2, .ow 1 (A2.map Enc.o), .ow 1 (B2.map Enc.o)]], .nd [.bool p3, .nd [.int .i64 k3, .ow 1 (A3.map Enc.o), .ow 1 (B3.map Enc.o)]]]], .bool false])
    · skip
      cases b3
      · skip
        have hC1 := cx [] (hC)
        have hC2 := cx [] (hP)
        have hC3 := cx [] (hK)
        have hC4 := cx [] (hT)
        have hC5 := cx [] (hI)
        have fy := Nat.add_zero
        refine goR ?_ ?_ ?_ ?_ ?_ ?_ ?_ ?_ ?_ ?_ ?_ ?_ ?_ ?_ ?_ ?_
        any_goals (first | exact True.intro | skip)
        all_goals (repeat (refine Wh.mk fun hcc => ?_))
        all_goals exact SW.ret (show RetQ _ _ _ _ _ _ _ from RetQ.y [0, 0] [.nd [.int .i64 n, .nd [.nd [.bool p0, .nd [.int .i64 k0, .ow 1 (A0.map Enc.o), .ow 1 (B0.map Enc.o)]], .nd [.bool p1, .nd [.int .i64 k1, .ow 1 (A1.map Enc.o), .ow 1 (B1.map Enc.o)]], .nd [.bool p2, .nd [.int .i64 k2, .ow 1 (A2.map Enc.o), .ow 1 (B2.map Enc.o)]], .nd [.bool p3, .nd [.int .i64 k3, .ow 1 (A3.map Enc.o), .ow 1 (B3.map Enc.o)]]]], .bool false])
      · skip
        cases b4
        · skip
          have hC1 := cx [] (hC)
          have hC2 := cx [] (hP)
          have hC3 := cx [] (hK)
          have hC4 := cx [] (hT)
          have hC5 := cx [] (hI)
          have fy := Nat.add_zero
          refine goR ?_ ?_ ?_ ?_ ?_ ?_ ?_ ?_ ?_ ?_ ?_ ?_ ?_ ?_ ?_ ?_
          any_goals (first | exact True.intro | skip)
          all_goals (repeat (refine Wh.mk fun hcc => ?_))
          all_goals exact SW.ret (show RetQ _ _ _ _ _ _ _ from RetQ.y [0, 0] [.nd [.int .i64 n, .nd [.nd [.bool p0, .nd [.int .i64 k0, .ow 1 (A0.map Enc.o), .ow 1 (B0.map Enc.o)]], .nd [.bool p1, .nd [.int .i64 k1, .ow 1 (A1.map Enc.o), .ow 1 (B1.map Enc.o)]], .nd [.bool p2, .nd [.int .i64 k2, .ow 1 (A2.map Enc.o), .ow 1 (B2.map Enc.o)]], .nd [.bool p3, .nd [.int .i64 k3, .ow 1 (A3.map Enc.o), .ow 1 (B3.map Enc.o)]]]], .bool false])
        · skip
          exact absurd ho (by decide)
theorem sSet_0 (x : PageT) (s : SlotT) (m : Int) (hx : Enc.lim 1048576 x) (hs : Enc.lim 1048576 s) (ho : okSet x 0 s m = true) : CallR Try.prog 34 [.nd [.int .i64 x.1, .nd [.nd [.bool x.2.1.1.1, .nd [.int .i64 x.2.1.1.2.1.1, .sl .b (x.2.1.1.2.1.2.1.map Enc.b), .sl .b (x.2.1.1.2.1.2.2.1.map Enc.b)]], .nd [.bool x.2.1.2.1.1, .nd [.int .i64 x.2.1.2.1.2.1.1, .sl .b (x.2.1.2.1.2.1.2.1.map Enc.b), .sl .b (x.2.1.2.1.2.1.2.2.1.map Enc.b)]], .nd [.bool x.2.1.2.2.1.1, .nd [.int .i64 x.2.1.2.2.1.2.1.1, .sl .b (x.2.1.2.2.1.2.1.2.1.map Enc.b), .sl .b (x.2.1.2.2.1.2.1.2.2.1.map Enc.b)]], .nd [.bool x.2.1.2.2.2.1.1, .nd [.int .i64 x.2.1.2.2.2.1.2.1.1, .sl .b (x.2.1.2.2.2.1.2.1.2.1.map Enc.b), .sl .b (x.2.1.2.2.2.1.2.1.2.2.1.map Enc.b)]]]], .int .i64 0, .nd [.bool s.1, .nd [.int .i64 s.2.1.1, .sl .b (s.2.1.2.1.map Enc.b), .sl .b (s.2.1.2.2.1.map Enc.b)]], .int .i64 m] [] (.tup [.nd [.int .i64 ((((m, (s, x.2.1.2.1, x.2.1.2.2.1, x.2.1.2.2.2.1, ()), ()) : PageT)).1), .nd [.nd [.bool ((((((m, (s, x.2.1.2.1, x.2.1.2.2.1, x.2.1.2.2.2.1, ()), ()) : PageT)).2.1).1).1), .nd [.int .i64 (((((((m, (s, x.2.1.2.1, x.2.1.2.2.1, x.2.1.2.2.2.1, ()), ()) : PageT)).2.1).1).2.1).1), .ow 1 ((((((((m, (s, x.2.1.2.1, x.2.1.2.2.1, x.2.1.2.2.2.1, ()), ()) : PageT)).2.1).1).2.1).2.1).map Enc.o), .ow 1 ((((((((m, (s, x.2.1.2.1, x.2.1.2.2.1, x.2.1.2.2.2.1, ()), ()) : PageT)).2.1).1).2.1).2.2.1).map Enc.o)]], .nd [.bool ((((((m, (s, x.2.1.2.1, x.2.1.2.2.1, x.2.1.2.2.2.1, ()), ()) : PageT)).2.1).2.1).1), .nd [.int .i64 (((((((m, (s, x.2.1.2.1, x.2.1.2.2.1, x.2.1.2.2.2.1, ()), ()) : PageT)).2.1).2.1).2.1).1), .ow 1 ((((((((m, (s, x.2.1.2.1, x.2.1.2.2.1, x.2.1.2.2.2.1, ()), ()) : PageT)).2.1).2.1).2.1).2.1).map Enc.o), .ow 1 ((((((((m, (s, x.2.1.2.1, x.2.1.2.2.1, x.2.1.2.2.2.1, ()), ()) : PageT)).2.1).2.1).2.1).2.2.1).map Enc.o)]], .nd [.bool ((((((m, (s, x.2.1.2.1, x.2.1.2.2.1, x.2.1.2.2.2.1, ()), ()) : PageT)).2.1).2.2.1).1), .nd [.int .i64 (((((((m, (s, x.2.1.2.1, x.2.1.2.2.1, x.2.1.2.2.2.1, ()), ()) : PageT)).2.1).2.2.1).2.1).1), .ow 1 ((((((((m, (s, x.2.1.2.1, x.2.1.2.2.1, x.2.1.2.2.2.1, ()), ()) : PageT)).2.1).2.2.1).2.1).2.1).map Enc.o), .ow 1 ((((((((m, (s, x.2.1.2.1, x.2.1.2.2.1, x.2.1.2.2.2.1, ()), ()) : PageT)).2.1).2.2.1).2.1).2.2.1).map Enc.o)]], .nd [.bool ((((((m, (s, x.2.1.2.1, x.2.1.2.2.1, x.2.1.2.2.2.1, ()), ()) : PageT)).2.1).2.2.2.1).1), .nd [.int .i64 (((((((m, (s, x.2.1.2.1, x.2.1.2.2.1, x.2.1.2.2.2.1, ()), ()) : PageT)).2.1).2.2.2.1).2.1).1), .ow 1 ((((((((m, (s, x.2.1.2.1, x.2.1.2.2.1, x.2.1.2.2.2.1, ()), ()) : PageT)).2.1).2.2.2.1).2.1).2.1).map Enc.o), .ow 1 ((((((((m, (s, x.2.1.2.1, x.2.1.2.2.1, x.2.1.2.2.2.1, ()), ()) : PageT)).2.1).2.2.2.1).2.1).2.2.1).map Enc.o)]]]], .bool true]) := by
  refine CallR.of_body (n := 42) (rs := [.cell 8 49, .tmp 9]) hY.ok Try.func34 rfl (by decide) rfl rfl rfl rfl (fun F => ?_)
  have fx := And.intro Y1 (And.intro Y3 (And.intro Y4 (And.intro Y34 (And.intro Y36 (And.intro Y38 (And.intro Y47 (Y49)))))))
  have g1 := hx.2.1.1.2.1.2.1.1
  have g2 := hx.2.1.1.2.1.2.2.1.1
  have g3 := hx.2.1.2.1.2.1.2.1.1
  have g4 := hx.2.1.2.1.2.1.2.2.1.1
  have g5 := hx.2.1.2.2.1.2.1.2.1.1
  have g6 := hx.2.1.2.2.1.2.1.2.2.1.1
  have g7 := hx.2.1.2.2.2.1.2.1.2.1.1
  have g8 := hx.2.1.2.2.2.1.2.1.2.2.1.1
  have hC := l3Copy_ok x g1 g2 g3 g4 g5 g6 g7 g8
  have hS := l3CopySlot_ok s hs.2.1.2.1.1 hs.2.1.2.2.1.1
  have hP := specPageOk_ok x hx
  have hT := l3Slot_ok s hs
  have hI := l1InR_ok m x.1 1000000
  have hK := l1InR_ok 0 0 3
  unfold okSet at ho
  simp only [Bool.and_eq_true] at ho
  obtain ⟨h1, h2, h3, h4⟩ := ho
  rw [h1] at hP
  rw [h2] at hK
  rw [h3] at hT
  rw [h4] at hI
  clear h1 h2 h3 h4
  obtain ⟨n, ⟨⟨p0, ⟨k0, A0, B0, ⟨⟩⟩, ⟨⟩⟩, ⟨p1, ⟨k1, A1, B1, ⟨⟩⟩, ⟨⟩⟩, ⟨p2, ⟨k2, A2, B2, ⟨⟩⟩, ⟨⟩⟩, ⟨p3, ⟨k3, A3, B3, ⟨⟩⟩, ⟨⟩⟩, ⟨⟩⟩, ⟨⟩⟩ := x
  obtain ⟨sp, ⟨sk, sA, sB, ⟨⟩⟩, ⟨⟩⟩ := s
  simp only at hC hS hP hT hI ⊢
  clear hx hs g1 g2 g3 g4 g5 g6 g7 g8
  have hC1 := cx [] (hC)
  have hC2 := cx [] (hP)
  have hC3 := cx [] (hK)
  have hC4 := cx [] (hT)
  have hC5 := cx [] (hI)
  have hC6 := cx [] (hS)
  have fy := And.intro nc4 (And.intro nc8 (And.intro wa (tn)))
  refine goR ?_ ?_ ?_ ?_ ?_ ?_ ?_ ?_ ?_ ?_ ?_ ?_ ?_ ?_ ?_ ?_
  any_goals (first | exact True.intro | skip)
  all_goals (repeat (refine Wh.mk fun hcc => ?_))
  all_goals exact SW.ret (show RetQ _ _ _ _ _ _ _ from RetQ.y [0, 0] [.nd [.int .i64 m, .nd [.nd [.bool sp, .nd [.int .i64 sk, .ow 1 (sA.map Enc.o), .ow 1 (sB.map Enc.o)]], .nd [.bool p1, .nd [.int .i64 k1, .ow 1 (A1.map Enc.o), .ow 1 (B1.map Enc.o)]], .nd [.bool p2, .nd [.int .i64 k2, .ow 1 (A2.map Enc.o), .ow 1 (B2.map Enc.o)]], .nd [.bool p3, .nd [.int .i64 k3, .ow 1 (A3.map Enc.o), .ow 1 (B3.map Enc.o)]]]], .bool true])
theorem sSet_1 (x : PageT) (s : SlotT) (m : Int) (hx : Enc.lim 1048576 x) (hs : Enc.lim 1048576 s) (ho : okSet x 1 s m = true) : CallR Try.prog 34 [.nd [.int .i64 x.1, .nd [.nd [.bool x.2.1.1.1, .nd [.int .i64 x.2.1.1.2.1.1, .sl .b (x.2.1.1.2.1.2.1.map Enc.b), .sl .b (x.2.1.1.2.1.2.2.1.map Enc.b)]], .nd [.bool x.2.1.2.1.1, .nd [.int .i64 x.2.1.2.1.2.1.1, .sl .b (x.2.1.2.1.2.1.2.1.map Enc.b), .sl .b (x.2.1.2.1.2.1.2.2.1.map Enc.b)]], .nd [.bool x.2.1.2.2.1.1, .nd [.int .i64 x.2.1.2.2.1.2.1.1, .sl .b (x.2.1.2.2.1.2.1.2.1.map Enc.b), .sl .b (x.2.1.2.2.1.2.1.2.2.1.map Enc.b)]], .nd [.bool x.2.1.2.2.2.1.1, .nd [.int .i64 x.2.1.2.2.2.1.2.1.1, .sl .b (x.2.1.2.2.2.1.2.1.2.1.map Enc.b), .sl .b (x.2.1.2.2.2.1.2.1.2.2.1.map Enc.b)]]]], .int .i64 1, .nd [.bool s.1, .nd [.int .i64 s.2.1.1, .sl .b (s.2.1.2.1.map Enc.b), .sl .b (s.2.1.2.2.1.map Enc.b)]], .int .i64 m] [] (.tup [.nd [.int .i64 ((((m, (x.2.1.1, s, x.2.1.2.2.1, x.2.1.2.2.2.1, ()), ()) : PageT)).1), .nd [.nd [.bool ((((((m, (x.2.1.1, s, x.2.1.2.2.1, x.2.1.2.2.2.1, ()), ()) : PageT)).2.1).1).1), .nd [.int .i64 (((((((m, (x.2.1.1, s, x.2.1.2.2.1, x.2.1.2.2.2.1, ()), ()) : PageT)).2.1).1).2.1).1), .ow 1 ((((((((m, (x.2.1.1, s, x.2.1.2.2.1, x.2.1.2.2.2.1, ()), ()) : PageT)).2.1).1).2.1).2.1).map Enc.o), .ow 1 ((((((((m, (x.2.1.1, s, x.2.1.2.2.1, x.2.1.2.2.2.1, ()), ()) : PageT)).2.1).1).2.1).2.2.1).map Enc.o)]], .nd [.bool ((((((m, (x.2.1.1, s, x.2.1.2.2.1, x.2.1.2.2.2.1, ()), ()) : PageT)).2.1).2.1).1), .nd [.int .i64 (((((((m, (x.2.1.1, s, x.2.1.2.2.1, x.2.1.2.2.2.1, ()), ()) : PageT)).2.1).2.1).2.1).1), .ow 1 ((((((((m, (x.2.1.1, s, x.2.1.2.2.1, x.2.1.2.2.2.1, ()), ()) : PageT)).2.1).2.1).2.1).2.1).map Enc.o), .ow 1 ((((((((m, (x.2.1.1, s, x.2.1.2.2.1, x.2.1.2.2.2.1, ()), ()) : PageT)).2.1).2.1).2.1).2.2.1).map Enc.o)]], .nd [.bool ((((((m, (x.2.1.1, s, x.2.1.2.2.1, x.2.1.2.2.2.1, ()), ()) : PageT)).2.1).2.2.1).1), .nd [.int .i64 (((((((m, (x.2.1.1, s, x.2.1.2.2.1, x.2.1.2.2.2.1, ()), ()) : PageT)).2.1).2.2.1).2.1).1), .ow 1 ((((((((m, (x.2.1.1, s, x.2.1.2.2.1, x.2.1.2.2.2.1, ()), ()) : PageT)).2.1).2.2.1).2.1).2.1).map Enc.o), .ow 1 ((((((((m, (x.2.1.1, s, x.2.1.2.2.1, x.2.1.2.2.2.1, ()), ()) : PageT)).2.1).2.2.1).2.1).2.2.1).map Enc.o)]], .nd [.bool ((((((m, (x.2.1.1, s, x.2.1.2.2.1, x.2.1.2.2.2.1, ()), ()) : PageT)).2.1).2.2.2.1).1), .nd [.int .i64 (((((((m, (x.2.1.1, s, x.2.1.2.2.1, x.2.1.2.2.2.1, ()), ()) : PageT)).2.1).2.2.2.1).2.1).1), .ow 1 ((((((((m, (x.2.1.1, s, x.2.1.2.2.1, x.2.1.2.2.2.1, ()), ()) : PageT)).2.1).2.2.2.1).2.1).2.1).map Enc.o), .ow 1 ((((((((m, (x.2.1.1, s, x.2.1.2.2.1, x.2.1.2.2.2.1, ()), ()) : PageT)).2.1).2.2.2.1).2.1).2.2.1).map Enc.o)]]]], .bool true]) := by
  refine CallR.of_body (n := 42) (rs := [.cell 8 49, .tmp 9]) hY.ok Try.func34 rfl (by decide) rfl rfl rfl rfl (fun F => ?_)
  have fx := And.intro Y1 (And.intro Y3 (And.intro Y4 (And.intro Y34 (And.intro Y36 (And.intro Y38 (And.intro Y47 (Y49)))))))
  have g1 := hx.2.1.1.2.1.2.1.1
  have g2 := hx.2.1.1.2.1.2.2.1.1
  have g3 := hx.2.1.2.1.2.1.2.1.1
  have g4 := hx.2.1.2.1.2.1.2.2.1.1
  have g5 := hx.2.1.2.2.1.2.1.2.1.1
  have g6 := hx.2.1.2.2.1.2.1.2.2.1.1
  have g7 := hx.2.1.2.2.2.1.2.1.2.1.1
  have g8 := hx.2.1.2.2.2.1.2.1.2.2.1.1
  have hC := l3Copy_ok x g1 g2 g3 g4 g5 g6 g7 g8
  have hS := l3CopySlot_ok s hs.2.1.2.1.1 hs.2.1.2.2.1.1
  have hP := specPageOk_ok x hx
  have hT := l3Slot_ok s hs
  have hI := l1InR_ok m x.1 1000000
  have hK := l1InR_ok 1 0 3
  unfold okSet at ho
  simp only [Bool.and_eq_true] at ho
  obtain ⟨h1, h2, h3, h4⟩ := ho
  rw [h1] at hP
  rw [h2] at hK
  rw [h3] at hT
  rw [h4] at hI
  clear h1 h2 h3 h4
  obtain ⟨n, ⟨⟨p0, ⟨k0, A0, B0, ⟨⟩⟩, ⟨⟩⟩, ⟨p1, ⟨k1, A1, B1, ⟨⟩⟩, ⟨⟩⟩, ⟨p2, ⟨k2, A2, B2, ⟨⟩⟩, ⟨⟩⟩, ⟨p3, ⟨k3, A3, B3, ⟨⟩⟩, ⟨⟩⟩, ⟨⟩⟩, ⟨⟩⟩ := x
  obtain ⟨sp, ⟨sk, sA, sB, ⟨⟩⟩, ⟨⟩⟩ := s
  simp only at hC hS hP hT hI ⊢
  clear hx hs g1 g2 g3 g4 g5 g6 g7 g8
  have hC1 := cx [] (hC)
  have hC2 := cx [] (hP)
  have hC3 := cx [] (hK)
  have hC4 := cx [] (hT)
  have hC5 := cx [] (hI)
  have hC6 := cx [] (hS)
  have fy := And.intro nc4 (And.intro nc8 (And.intro wa (tn)))
  refine goR ?_ ?_ ?_ ?_ ?_ ?_ ?_ ?_ ?_ ?_ ?_ ?_ ?_ ?_ ?_ ?_
  any_goals (first | exact True.intro | skip)
  all_goals (repeat (refine Wh.mk fun hcc => ?_))
  all_goals exact SW.ret (show RetQ _ _ _ _ _ _ _ from RetQ.y [0, 0] [.nd [.int .i64 m, .nd [.nd [.bool p0, .nd [.int .i64 k0, .ow 1 (A0.map Enc.o), .ow 1 (B0.map Enc.o)]], .nd [.bool sp, .nd [.int .i64 sk, .ow 1 (sA.map Enc.o), .ow 1 (sB.map Enc.o)]], .nd [.bool p2, .nd [.int .i64 k2, .ow 1 (A2.map Enc.o), .ow 1 (B2.map Enc.o)]], .nd [.bool p3, .nd [.int .i64 k3, .ow 1 (A3.map Enc.o), .ow 1 (B3.map Enc.o)]]]], .bool true])
theorem sSet_2 (x : PageT) (s : SlotT) (m : Int) (hx : Enc.lim 1048576 x) (hs : Enc.lim 1048576 s) (ho : okSet x 2 s m = true) : CallR Try.prog 34 [.nd [.int .i64 x.1, .nd [.nd [.bool x.2.1.1.1, .nd [.int .i64 x.2.1.1.2.1.1, .sl .b (x.2.1.1.2.1.2.1.map Enc.b), .sl .b (x.2.1.1.2.1.2.2.1.map Enc.b)]], .nd [.bool x.2.1.2.1.1, .nd [.int .i64 x.2.1.2.1.2.1.1, .sl .b (x.2.1.2.1.2.1.2.1.map Enc.b), .sl .b (x.2.1.2.1.2.1.2.2.1.map Enc.b)]], .nd [.bool x.2.1.2.2.1.1, .nd [.int .i64 x.2.1.2.2.1.2.1.1, .sl .b (x.2.1.2.2.1.2.1.2.1.map Enc.b), .sl .b (x.2.1.2.2.1.2.1.2.2.1.map Enc.b)]], .nd [.bool x.2.1.2.2.2.1.1, .nd [.int .i64 x.2.1.2.2.2.1.2.1.1, .sl .b (x.2.1.2.2.2.1.2.1.2.1.map Enc.b), .sl .b (x.2.1.2.2.2.1.2.1.2.2.1.map Enc.b)]]]], .int .i64 2, .nd [.bool s.1, .nd [.int .i64 s.2.1.1, .sl .b (s.2.1.2.1.map Enc.b), .sl .b (s.2.1.2.2.1.map Enc.b)]], .int .i64 m] [] (.tup [.nd [.int .i64 ((((m, (x.2.1.1, x.2.1.2.1, s, x.2.1.2.2.2.1, ()), ()) : PageT)).1), .nd [.nd [.bool ((((((m, (x.2.1.1, x.2.1.2.1, s, x.2.1.2.2.2.1, ()), ()) : PageT)).2.1).1).1), .nd [.int .i64 (((((((m, (x.2.1.1, x.2.1.2.1, s, x.2.1.2.2.2.1, ()), ()) : PageT)).2.1).1).2.1).1), .ow 1 ((((((((m, (x.2.1.1, x.2.1.2.1, s, x.2.1.2.2.2.1, ()), ()) : PageT)).2.1).1).2.1).2.1).map Enc.o), .ow 1 ((((((((m, (x.2.1.1, x.2.1.2.1, s, x.2.1.2.2.2.1, ()), ()) : PageT)).2.1).1).2.1).2.2.1).map Enc.o)]], .nd [.bool ((((((m, (x.2.1.1, x.2.1.2.1, s, x.2.1.2.2.2.1, ()), ()) : PageT)).2.1).2.1).1), .nd [.int .i64 (((((((m, (x.2.1.1, x.2.1.2.1, s, x.2.1.2.2.2.1, ()), ()) : PageT)).2.1).2.1).2.1).1), .ow 1 ((((((((m, (x.2.1.1, x.2.1.2.1, s, x.2.1.2.2.2.1, ()), ()) : PageT)).2.1).2.1).2.1).2.1).map Enc.o), .ow 1 ((((((((m, (x.2.1.1, x.2.1.2.1, s, x.2.1.2.2.2.1, ()), ()) : PageT)).2.1).2.1).2.1).2.2.1).map Enc.o)]], .nd [.bool ((((((m, (x.2.1.1, x.2.1.2.1, s, x.2.1.2.2.2.1, ()), ()) : PageT)).2.1).2.2.1).1), .nd [.int .i64 (((((((m, (x.2.1.1, x.2.1.2.1, s, x.2.1.2.2.2.1, ()), ()) : PageT)).2.1).2.2.1).2.1).1), .ow 1 ((((((((m, (x.2.1.1, x.2.1.2.1, s, x.2.1.2.2.2.1, ()), ()) : PageT)).2.1).2.2.1).2.1).2.1).map Enc.o), .ow 1 ((((((((m, (x.2.1.1, x.2.1.2.1, s, x.2.1.2.2.2.1, ()), ()) : PageT)).2.1).2.2.1).2.1).2.2.1).map Enc.o)]], .nd [.bool ((((((m, (x.2.1.1, x.2.1.2.1, s, x.2.1.2.2.2.1, ()), ()) : PageT)).2.1).2.2.2.1).1), .nd [.int .i64 (((((((m, (x.2.1.1, x.2.1.2.1, s, x.2.1.2.2.2.1, ()), ()) : PageT)).2.1).2.2.2.1).2.1).1), .ow 1 ((((((((m, (x.2.1.1, x.2.1.2.1, s, x.2.1.2.2.2.1, ()), ()) : PageT)).2.1).2.2.2.1).2.1).2.1).map Enc.o), .ow 1 ((((((((m, (x.2.1.1, x.2.1.2.1, s, x.2.1.2.2.2.1, ()), ()) : PageT)).2.1).2.2.2.1).2.1).2.2.1).map Enc.o)]]]], .bool true]) := by
  refine CallR.of_body (n := 42) (rs := [.cell 8 49, .tmp 9]) hY.ok Try.func34 rfl (by decide) rfl rfl rfl rfl (fun F => ?_)
  have fx := And.intro Y1 (And.intro Y3 (And.intro Y4 (And.intro Y34 (And.intro Y36 (And.intro Y38 (And.intro Y47 (Y49)))))))
  have g1 := hx.2.1.1.2.1.2.1.1
  have g2 := hx.2.1.1.2.1.2.2.1.1
  have g3 := hx.2.1.2.1.2.1.2.1.1
  have g4 := hx.2.1.2.1.2.1.2.2.1.1
  have g5 := hx.2.1.2.2.1.2.1.2.1.1
  have g6 := hx.2.1.2.2.1.2.1.2.2.1.1
  have g7 := hx.2.1.2.2.2.1.2.1.2.1.1
  have g8 := hx.2.1.2.2.2.1.2.1.2.2.1.1
  have hC := l3Copy_ok x g1 g2 g3 g4 g5 g6 g7 g8
  have hS := l3CopySlot_ok s hs.2.1.2.1.1 hs.2.1.2.2.1.1
  have hP := specPageOk_ok x hx
  have hT := l3Slot_ok s hs
  have hI := l1InR_ok m x.1 1000000
  have hK := l1InR_ok 2 0 3
  unfold okSet at ho
  simp only [Bool.and_eq_true] at ho
  obtain ⟨h1, h2, h3, h4⟩ := ho
  rw [h1] at hP
  rw [h2] at hK
  rw [h3] at hT
  rw [h4] at hI
  clear h1 h2 h3 h4
  obtain ⟨n, ⟨⟨p0, ⟨k0, A0, B0, ⟨⟩⟩, ⟨⟩⟩, ⟨p1, ⟨k1, A1, B1, ⟨⟩⟩, ⟨⟩⟩, ⟨p2, ⟨k2, A2, B2, ⟨⟩⟩, ⟨⟩⟩, ⟨p3, ⟨k3, A3, B3, ⟨⟩⟩, ⟨⟩⟩, ⟨⟩⟩, ⟨⟩⟩ := x
  obtain ⟨sp, ⟨sk, sA, sB, ⟨⟩⟩, ⟨⟩⟩ := s
  simp only at hC hS hP hT hI ⊢
  clear hx hs g1 g2 g3 g4 g5 g6 g7 g8
  have hC1 := cx [] (hC)
  have hC2 := cx [] (hP)
  have hC3 := cx [] (hK)
  have hC4 := cx [] (hT)
  have hC5 := cx [] (hI)
  have hC6 := cx [] (hS)
  have fy := And.intro nc4 (And.intro nc8 (And.intro wa (tn)))
  refine goR ?_ ?_ ?_ ?_ ?_ ?_ ?_ ?_ ?_ ?_ ?_ ?_ ?_ ?_ ?_ ?_
  any_goals (first | exact True.intro | skip)
  all_goals (repeat (refine Wh.mk fun hcc => ?_))
  all_goals exact SW.ret (show RetQ _ _ _ _ _ _ _ from RetQ.y [0, 0] [.nd [.int .i64 m, .nd [.nd [.bool p0, .nd [.int .i64 k0, .ow 1 (A0.map Enc.o), .ow 1 (B0.map Enc.o)]], .nd [.bool p1, .nd [.int .i64 k1, .ow 1 (A1.map Enc.o), .ow 1 (B1.map Enc.o)]], .nd [.bool sp, .nd [.int .i64 sk, .ow 1 (sA.map Enc.o), .ow 1 (sB.map Enc.o)]], .nd [.bool p3, .nd [.int .i64 k3, .ow 1 (A3.map Enc.o), .ow 1 (B3.map Enc.o)]]]], .bool true])
theorem sSet_3 (x : PageT) (s : SlotT) (m : Int) (hx : Enc.lim 1048576 x) (hs : Enc.lim 1048576 s) (ho : okSet x 3 s m = true) : CallR Try.prog 34 [.nd [.int .i64 x.1, .nd [.nd [.bool x.2.1.1.1, .nd [.int .i64 x.2.1.1.2.1.1, .sl .b (x.2.1.1.2.1.2.1.map Enc.b), .sl .b (x.2.1.1.2.1.2.2.1.map Enc.b)]], .nd [.bool x.2.1.2.1.1, .nd [.int .i64 x.2.1.2.1.2.1.1, .sl .b (x.2.1.2.1.2.1.2.1.map Enc.b), .sl .b (x.2.1.2.1.2.1.2.2.1.map Enc.b)]], .nd [.bool x.2.1.2.2.1.1, .nd [.int .i64 x.2.1.2.2.1.2.1.1, .sl .b (x.2.1.2.2.1.2.1.2.1.map Enc.b), .sl .b (x.2.1.2.2.1.2.1.2.2.1.map Enc.b)]], .nd [.bool x.2.1.2.2.2.1.1, .nd [.int .i64 x.2.1.2.2.2.1.2.1.1, .sl .b (x.2.1.2.2.2.1.2.1.2.1.map Enc.b), .sl .b (x.2.1.2.2.2.1.2.1.2.2.1.map Enc.b)]]]], .int .i64 3, .nd [.bool s.1, .nd [.int .i64 s.2.1.1, .sl .b (s.2.1.2.1.map Enc.b), .sl .b (s.2.1.2.2.1.map Enc.b)]], .int .i64 m] [] (.tup [.nd [.int .i64 ((((m, (x.2.1.1, x.2.1.2.1, x.2.1.2.2.1, s, ()), ()) : PageT)).1), .nd [.nd [.bool ((((((m, (x.2.1.1, x.2.1.2.1, x.2.1.2.2.1, s, ()), ()) : PageT)).2.1).1).1), .nd [.int .i64 (((((((m, (x.2.1.1, x.2.1.2.1, x.2.1.2.2.1, s, ()), ()) : PageT)).2.1).1).2.1).1), .ow 1 ((((((((m, (x.2.1.1, x.2.1.2.1, x.2.1.2.2.1, s, ()), ()) : PageT)).2.1).1).2.1).2.1).map Enc.o), .ow 1 ((((((((m, (x.2.1.1, x.2.1.2.1, x.2.1.2.2.1, s, ()), ()) : PageT)).2.1).1).2.1).2.2.1).map Enc.o)]], .nd [.bool ((((((m, (x.2.1.1, x.2.1.2.1, x.2.1.2.2.1, s, ()), ()) : PageT)).2.1).2.1).1), .nd [.int .i64 (((((((m, (x.2.1.1, x.2.1.2.1, x.2.1.2.2.1, s, ()), ()) : PageT)).2.1).2.1).2.1).1), .ow 1 ((((((((m, (x.2.1.1, x.2.1.2.1, x.2.1.2.2.1, s, ()), ()) : PageT)).2.1).2.1).2.1).2.1).map Enc.o), .ow 1 ((((((((m, (x.2.1.1, x.2.1.2.1, x.2.1.2.2.1, s, ()), ()) : PageT)).2.1).2.1).2.1).2.2.1).map Enc.o)]], .nd [.bool ((((((m, (x.2.1.1, x.2.1.2.1, x.2.1.2.2.1, s, ()), ()) : PageT)).2.1).2.2.1).1), .nd [.int .i64 (((((((m, (x.2.1.1, x.2.1.2.1, x.2.1.2.2.1, s, ()), ()) : PageT)).2.1).2.2.1).2.1).1), .ow 1 ((((((((m, (x.2.1.1, x.2.1.2.1, x.2.1.2.2.1, s, ()), ()) : PageT)).2.1).2.2.1).2.1).2.1).map Enc.o), .ow 1 ((((((((m, (x.2.1.1, x.2.1.2.1, x.2.1.2.2.1, s, ()), ()) : PageT)).2.1).2.2.1).2.1).2.2.1).map Enc.o)]], .nd [.bool ((((((m, (x.2.1.1, x.2.1.2.1, x.2.1.2.2.1, s, ()), ()) : PageT)).2.1).2.2.2.1).1), .nd [.int .i64 (((((((m, (x.2.1.1, x.2.1.2.1, x.2.1.2.2.1, s, ()), ()) : PageT)).2.1).2.2.2.1).2.1).1), .ow 1 ((((((((m, (x.2.1.1, x.2.1.2.1, x.2.1.2.2.1, s, ()), ()) : PageT)).2.1).2.2.2.1).2.1).2.1).map Enc.o), .ow 1 ((((((((m, (x.2.1.1, x.2.1.2.1, x.2.1.2.2.1, s, ()), ()) : PageT)).2.1).2.2.2.1).2.1).2.2.1).map Enc.o)]]]], .bool true]) := by
  refine CallR.of_body (n := 42) (rs := [.cell 8 49, .tmp 9]) hY.ok Try.func34 rfl (by decide) rfl rfl rfl rfl (fun F => ?_)
  have fx := And.intro Y1 (And.intro Y3 (And.intro Y4 (And.intro Y34 (And.intro Y36 (And.intro Y38 (And.intro Y47 (Y49)))))))
  have g1 := hx.2.1.1.2.1.2.1.1
  have g2 := hx.2.1.1.2.1.2.2.1.1
  have g3 := hx.2.1.2.1.2.1.2.1.1
  have g4 := hx.2.1.2.1.2.1.2.2.1.1
  have g5 := hx.2.1.2.2.1.2.1.2.1.1
  have g6 := hx.2.1.2.2.1.2.1.2.2.1.1
  have g7 := hx.2.1.2.2.2.1.2.1.2.1.1
  have g8 := hx.2.1.2.2.2.1.2.1.2.2.1.1
  have hC := l3Copy_ok x g1 g2 g3 g4 g5 g6 g7 g8
  have hS := l3CopySlot_ok s hs.2.1.2.1.1 hs.2.1.2.2.1.1
  have hP := specPageOk_ok x hx
  have hT := l3Slot_ok s hs
  have hI := l1InR_ok m x.1 1000000
  have hK := l1InR_ok 3 0 3
  unfold okSet at ho
  simp only [Bool.and_eq_true] at ho
  obtain ⟨h1, h2, h3, h4⟩ := ho
  rw [h1] at hP
  rw [h2] at hK
  rw [h3] at hT
  rw [h4] at hI
  clear h1 h2 h3 h4
  obtain ⟨n, ⟨⟨p0, ⟨k0, A0, B0, ⟨⟩⟩, ⟨⟩⟩, ⟨p1, ⟨k1, A1, B1, ⟨⟩⟩, ⟨⟩⟩, ⟨p2, ⟨k2, A2, B2, ⟨⟩⟩, ⟨⟩⟩, ⟨p3, ⟨k3, A3, B3, ⟨⟩⟩, ⟨⟩⟩, ⟨⟩⟩, ⟨⟩⟩ := x
  obtain ⟨sp, ⟨sk, sA, sB, ⟨⟩⟩, ⟨⟩⟩ := s
  simp only at hC hS hP hT hI ⊢
  clear hx hs g1 g2 g3 g4 g5 g6 g7 g8
  have hC1 := cx [] (hC)
  have hC2 := cx [] (hP)
  have hC3 := cx [] (hK)
  have hC4 := cx [] (hT)
  have hC5 := cx [] (hI)
  have hC6 := cx [] (hS)
  have fy := And.intro nc4 (And.intro nc8 (And.intro wa (tn)))
  refine goR ?_ ?_ ?_ ?_ ?_ ?_ ?_ ?_ ?_ ?_ ?_ ?_ ?_ ?_ ?_ ?_
  any_goals (first | exact True.intro | skip)
  all_goals (repeat (refine Wh.mk fun hcc => ?_))
  all_goals exact SW.ret (show RetQ _ _ _ _ _ _ _ from RetQ.y [0, 0] [.nd [.int .i64 m, .nd [.nd [.bool p0, .nd [.int .i64 k0, .ow 1 (A0.map Enc.o), .ow 1 (B0.map Enc.o)]], .nd [.bool p1, .nd [.int .i64 k1, .ow 1 (A1.map Enc.o), .ow 1 (B1.map Enc.o)]], .nd [.bool p2, .nd [.int .i64 k2, .ow 1 (A2.map Enc.o), .ow 1 (B2.map Enc.o)]], .nd [.bool sp, .nd [.int .i64 sk, .ow 1 (sA.map Enc.o), .ow 1 (sB.map Enc.o)]]]], .bool true])
end Q6

namespace Q6
open Go Go.Vm Go.Proofs
set_option maxHeartbeats 4000000
set_option synthInstance.maxSize 2000
set_option synthInstance.maxHeartbeats 400000
set_option maxRecDepth 10000
set_option linter.unusedSimpArgs false
set_option linter.unusedVariables false

open Go.By

/-! ### draws as functions -/
noncomputable def pick {α : Type} [Inhabited α] (P : CS × α → Prop) : CS × α := by
  classical
  exact if h : ∃ x, P x then Classical.choose h else ((0, 0), default)
theorem pick_spec {α : Type} [Inhabited α] {P : CS × α → Prop} (h : ∃ x, P x) : P (pick P) := by
  unfold pick
  rw [dif_pos h]
  exact Classical.choose_spec h
noncomputable def belowF (l : List UInt8) (s : CS) (n : Int) : CS × Int := pick fun x => x.1.1 ≤ l.length ∧ (0 ≤ x.2 ∧ (0 < n → x.2 < n)) ∧ CallR Try.prog 145 [.io (.nd [.sl .s (l.map Enc.b), .int .i64 (s.1 : Nat), .int .i64 s.2]), .int .i64 n] [.nd [.sl .s (l.map Enc.b), .int .i64 (x.1.1 : Nat), .int .i64 x.1.2]] (.int .i64 x.2)
theorem belowF_ok (l : List UInt8) (s : CS) (n : Int) (hl : l.length ≤ 1048576) (hi : s.1 ≤ l.length) : (belowF l s n).1.1 ≤ l.length ∧ (0 ≤ (belowF l s n).2 ∧ (0 < n → (belowF l s n).2 < n)) ∧ CallR Try.prog 145 [.io (.nd [.sl .s (l.map Enc.b), .int .i64 (s.1 : Nat), .int .i64 s.2]), .int .i64 n] [.nd [.sl .s (l.map Enc.b), .int .i64 (((belowF l s n).1).1 : Nat), .int .i64 ((belowF l s n).1).2]] (.int .i64 (belowF l s n).2) :=
  pick_spec (P := fun x => x.1.1 ≤ l.length ∧ (0 ≤ x.2 ∧ (0 < n → x.2 < n)) ∧ CallR Try.prog 145 [.io (.nd [.sl .s (l.map Enc.b), .int .i64 (s.1 : Nat), .int .i64 s.2]), .int .i64 n] [.nd [.sl .s (l.map Enc.b), .int .i64 (x.1.1 : Nat), .int .i64 x.1.2]] (.int .i64 x.2)) (by
    obtain ⟨s', x, h1, h2, h3⟩ := below_ok l s hl hi n
    exact ⟨(s', x), h1, h2, h3⟩)
noncomputable def onceF (l : List UInt8) (s : CS) (n : Int) : CS × Bool := pick fun x => x.1.1 ≤ l.length ∧ CallR Try.prog 91 [.io (.nd [.sl .s (l.map Enc.b), .int .i64 (s.1 : Nat), .int .i64 s.2]), .int .i64 n] [.nd [.sl .s (l.map Enc.b), .int .i64 (x.1.1 : Nat), .int .i64 x.1.2]] (.bool x.2)
theorem onceF_ok (l : List UInt8) (s : CS) (n : Int) (hl : l.length ≤ 1048576) (hi : s.1 ≤ l.length) : (onceF l s n).1.1 ≤ l.length ∧ CallR Try.prog 91 [.io (.nd [.sl .s (l.map Enc.b), .int .i64 (s.1 : Nat), .int .i64 s.2]), .int .i64 n] [.nd [.sl .s (l.map Enc.b), .int .i64 (((onceF l s n).1).1 : Nat), .int .i64 ((onceF l s n).1).2]] (.bool (onceF l s n).2) :=
  pick_spec (P := fun x => x.1.1 ≤ l.length ∧ CallR Try.prog 91 [.io (.nd [.sl .s (l.map Enc.b), .int .i64 (s.1 : Nat), .int .i64 s.2]), .int .i64 n] [.nd [.sl .s (l.map Enc.b), .int .i64 (x.1.1 : Nat), .int .i64 x.1.2]] (.bool x.2)) (by
    obtain ⟨s', x, h1, h3⟩ := once_ok l s hl hi n
    exact ⟨(s', x), h1, h3⟩)
noncomputable def intF (l : List UInt8) (s : CS) (ns : List Int) : CS × Int := pick fun x => x.1.1 ≤ l.length ∧ x.2 ∈ ns ∧ CallR Try.prog 92 [.io (.nd [.sl .s (l.map Enc.b), .int .i64 (s.1 : Nat), .int .i64 s.2]), .sl .b (ns.map Enc.b)] [.nd [.sl .s (l.map Enc.b), .int .i64 (x.1.1 : Nat), .int .i64 x.1.2]] (.int .i64 x.2)
theorem intF_ok (l : List UInt8) (s : CS) (ns : List Int) (hl : l.length ≤ 1048576) (hi : s.1 ≤ l.length) (h0 : 0 < ns.length) (h1 : ns.length ≤ 1048576) : (intF l s ns).1.1 ≤ l.length ∧ (intF l s ns).2 ∈ ns ∧ CallR Try.prog 92 [.io (.nd [.sl .s (l.map Enc.b), .int .i64 (s.1 : Nat), .int .i64 s.2]), .sl .b (ns.map Enc.b)] [.nd [.sl .s (l.map Enc.b), .int .i64 (((intF l s ns).1).1 : Nat), .int .i64 ((intF l s ns).1).2]] (.int .i64 (intF l s ns).2) :=
  pick_spec (P := fun x => x.1.1 ≤ l.length ∧ x.2 ∈ ns ∧ CallR Try.prog 92 [.io (.nd [.sl .s (l.map Enc.b), .int .i64 (s.1 : Nat), .int .i64 s.2]), .sl .b (ns.map Enc.b)] [.nd [.sl .s (l.map Enc.b), .int .i64 (x.1.1 : Nat), .int .i64 x.1.2]] (.int .i64 x.2)) (by
    obtain ⟨s', x, h1, h2, h3⟩ := int_ok l s hl hi ns h0 h1
    exact ⟨(s', x), h1, h2, h3⟩)
theorem buildN {Y : TypeId → TyI} {own t el by' n : Nat} {k : Ty} {ps : List (Nat × T)} {r : List T} (h1 : Y t = ⟨.sl el, 1, 24⟩) (h2 : Y el = ⟨k, 1, by'⟩) (h3 : k.isFn = false) (hn : n * 1 ≤ 2 ^ 24)
    (hs : setAll (plAr 1) (List.replicate n (zeroT Y 9 el)) ps = some r) :
    buildSliceM Y own t n ps = .pure { v := .ref own 0 0 n, news := [.arr 1 r false] } := by
  simp only [buildSliceM, h1, h2, h3]
  rw [if_pos ⟨by decide, hn, trivial⟩, hs]
/-! objects -/
noncomputable def oIntsF (l : List UInt8) : Nat → CS → List Int → CS × List Int
  | 0, s, acc => (s, acc)
  | n + 1, s, acc => oIntsF l n (intF l (belowF l s 50).1 [0, 1, -1, 7, 1000000, -1000000, (belowF l s 50).2]).1 (acc ++ [(intF l (belowF l s 50).1 [0, 1, -1, 7, 1000000, -1000000, (belowF l s 50).2]).2])
noncomputable def oRefsF (l : List UInt8) : Nat → CS → List Int → CS × List Int
  | 0, s, acc => (s, acc)
  | n + 1, s, acc => oRefsF l n (intF l (belowF l s 32).1 [0, 1, 2, 3, 5, 8, 12, 31, (belowF l s 32).2]).1 (acc ++ [(intF l (belowF l s 32).1 [0, 1, 2, 3, 5, 8, 12, 31, (belowF l s 32).2]).2])
noncomputable def objF (l : List UInt8) (s : CS) : CS × ObjT :=
  let k := belowF l s 5; let n := belowF l k.1 3; let a := oIntsF l n.2.toNat n.1 []; let m := belowF l a.1 4; let b := oRefsF l m.2.toNat m.1 []
  (b.1, (1 + k.2, a.2, b.2, ()))
theorem oIntsF_ok (l : List UInt8) (hl : l.length ≤ 1048576) : ∀ (n : Nat) (s : CS) (acc : List Int), s.1 ≤ l.length → (∀ x ∈ acc, intB x = true) →
    (oIntsF l n s acc).1.1 ≤ l.length ∧ (∀ x ∈ (oIntsF l n s acc).2, intB x = true) ∧ (oIntsF l n s acc).2.length = acc.length + n
  | 0, s, acc, h, ha => ⟨h, ha, rfl⟩
  | n + 1, s, acc, h, ha => by
    obtain ⟨b1, b2, _⟩ := belowF_ok l s 50 hl h
    obtain ⟨c1, c2, _⟩ := intF_ok l (belowF l s 50).1 [0, 1, -1, 7, 1000000, -1000000, (belowF l s 50).2] hl b1 (by simp) (by simp)
    have ih := oIntsF_ok l hl n _ (acc ++ [(intF l (belowF l s 50).1 [0, 1, -1, 7, 1000000, -1000000, (belowF l s 50).2]).2]) c1 (by
      intro x hx
      rcases List.mem_append.1 hx with hx | hx
      · exact ha x hx
      · simp only [List.mem_singleton] at hx
        subst hx
        have h50 := b2.2 (by decide)
        simp only [List.mem_cons, List.not_mem_nil, or_false] at c2
        unfold intB
        simp only [Bool.and_eq_true, decide_eq_true_eq]
        omega)
    simp only [oIntsF]
    refine ⟨ih.1, ih.2.1, ?_⟩
    rw [ih.2.2, List.length_append]; simp; omega
theorem oRefsF_ok (l : List UInt8) (hl : l.length ≤ 1048576) : ∀ (n : Nat) (s : CS) (acc : List Int), s.1 ≤ l.length → (∀ x ∈ acc, refB x = true) →
    (oRefsF l n s acc).1.1 ≤ l.length ∧ (∀ x ∈ (oRefsF l n s acc).2, refB x = true) ∧ (oRefsF l n s acc).2.length = acc.length + n
  | 0, s, acc, h, ha => ⟨h, ha, rfl⟩
  | n + 1, s, acc, h, ha => by
    obtain ⟨b1, b2, _⟩ := belowF_ok l s 32 hl h
    obtain ⟨c1, c2, _⟩ := intF_ok l (belowF l s 32).1 [0, 1, 2, 3, 5, 8, 12, 31, (belowF l s 32).2] hl b1 (by simp) (by simp)
    have ih := oRefsF_ok l hl n _ (acc ++ [(intF l (belowF l s 32).1 [0, 1, 2, 3, 5, 8, 12, 31, (belowF l s 32).2]).2]) c1 (by
      intro x hx
      rcases List.mem_append.1 hx with hx | hx
      · exact ha x hx
      · simp only [List.mem_singleton] at hx
        subst hx
        have h50 := b2.2 (by decide)
        simp only [List.mem_cons, List.not_mem_nil, or_false] at c2
        unfold refB
        simp only [Bool.and_eq_true, decide_eq_true_eq]
        omega)
    simp only [oRefsF]
    refine ⟨ih.1, ih.2.1, ?_⟩
    rw [ih.2.2, List.length_append]; simp; omega
theorem objF_ok (l : List UInt8) (s : CS) (hl : l.length ≤ 1048576) (hi : s.1 ≤ l.length) : (objF l s).1.1 ≤ l.length ∧ objB (objF l s).2 = true := by
  unfold objF
  simp only
  obtain ⟨a1, a2, _⟩ := belowF_ok l s 5 hl hi
  obtain ⟨b1, b2, _⟩ := belowF_ok l _ 3 hl a1
  obtain ⟨c1, c2, c3⟩ := oIntsF_ok l hl (belowF l (belowF l s 5).1 3).2.toNat _ [] b1 (by simp)
  obtain ⟨d1, d2, _⟩ := belowF_ok l _ 4 hl c1
  obtain ⟨e1, e2, e3⟩ := oRefsF_ok l hl (belowF l (oIntsF l (belowF l (belowF l s 5).1 3).2.toNat (belowF l (belowF l s 5).1 3).1 []).1 4).2.toNat _ [] d1 (by simp)
  refine ⟨e1, ?_⟩
  have h5 := a2.2 (by decide)
  have h3 := b2.2 (by decide)
  have h4 := d2.2 (by decide)
  unfold objB
  simp only [Bool.and_eq_true, decide_eq_true_eq, List.all_eq_true]
  simp only [List.length_nil, Nat.zero_add] at c3 e3
  refine ⟨⟨⟨⟨⟨by omega, by omega⟩, by omega⟩, by omega⟩, c2⟩, e2⟩

end Q6

namespace Q6
open Go Go.Vm Go.Proofs
set_option maxHeartbeats 4000000
set_option synthInstance.maxSize 2000
set_option synthInstance.maxHeartbeats 400000
set_option maxRecDepth 10000
set_option linter.unusedSimpArgs false
set_option linter.unusedVariables false

open Go.By
theorem objW_ok (l : List UInt8) (s : CS) (hl : l.length ≤ 1048576) (hi : s.1 ≤ l.length) : CallR Try.prog 147 [.io (.nd [.sl .s (l.map Enc.b), .int .i64 (s.1 : Nat), .int .i64 s.2])] [.nd [.sl .s (l.map Enc.b), .int .i64 (((objF l s).1).1 : Nat), .int .i64 ((objF l s).1).2]] (.nd [.int .i64 (((objF l s).2).1), .ow 1 ((((objF l s).2).2.1).map Enc.o), .ow 1 ((((objF l s).2).2.2.1).map Enc.o)]) := by
  refine CallR.of_body (n := 43) (rs := [.cell 2 36]) hY.ok Try.func147 rfl (by decide) rfl rfl rfl rfl (fun F => ?_)
  have fx := And.intro Y1 (And.intro Y2 (And.intro Y3 (And.intro Y4 (And.intro Y5 (And.intro Y6 (And.intro Y7 (And.intro Y8 (And.intro Y9 (And.intro Y34 (And.intro Y36 (Y87)))))))))))
  unfold objF
  simp only
  obtain ⟨e1, p1, c1⟩ := belowF_ok l s 5 hl hi
  generalize belowF l s 5 = k at *
  obtain ⟨e2, p2, c2⟩ := belowF_ok l k.1 3 hl e1
  generalize belowF l k.1 3 = n at *
  obtain ⟨s2, n2⟩ := n
  simp only at e2 p2 c2 ⊢
  obtain ⟨N0, rfl⟩ : ∃ N0 : Nat, n2 = (N0 : Int) := ⟨n2.toNat, by omega⟩
  have hN0 : N0 ≤ 2 := by have := p2.2 (by decide); omega
  rw [Int.toNat_natCast]
  have hk5 := p1.2 (by decide)
  have hwk : IntKind.i64.wrap (1 + k.2) = 1 + k.2 := wrap64 _ (by omega) (by omega)
  have hA := oIntsF_ok l hl N0 s2 [] e2 (by simp)
  generalize hT1 : oIntsF l N0 s2 [] = T1 at *
  have hC1 := cx [.io] (c1)
  have hC2 := cx [.io] (c2)
  have fy := hwk
  have hD1 := dx 5 [5, 1, 1, 1, 1, 2] [(1, 1), (1, 2), (1, 3), (1, 4)]
  have hD2 := dx 9 [5, 1, 1, 1, 1, 2] [(1, 1), (1, 2), (1, 3), (1, 4)]
  refine goN ?_ ?_ ?_ ?_ ?_ ?_ ?_ ?_ ?_ ?_ ?_ ?_ ?_ ?_ ?_ ?_
  any_goals (first | exact True.intro | skip)
  skip
  refine SW.loop (fun x : Nat × CS × List Int => ⟨[.ptr 0 0 [] 0, .undef, .ptr 1 0 [] 0, .ptr 2 0 [] 0, .int .i64 (x.1 : Nat), .undef, .undef, .undef, .undef, .undef, .undef, .undef, .undef, .undef, .undef, .undef, .undef, .undef, .undef, .undef, .undef, .undef, .undef, .undef, .undef, .undef, .undef, .undef, .undef, .undef, .undef, .undef, .undef, .undef, .undef, .undef, .undef, .undef, .undef, .undef, .undef, .undef, .undef], [[.var (.nd [.sl .s (l.map Enc.b), .int .i64 (x.2.1.1 : Nat), .int .i64 x.2.1.2])], [.var (.nd [.int .i64 0, .nils 1, .nils 1])], [.var (.nd [.int .i64 (1 + k.2), .ref 3 0 0 x.2.2.length, .nils 1])], [.arr 1 (x.2.2.map Enc.o) false]]⟩)
    (fun N x => N = x.1 ∧ x.1 + x.2.2.length = N0 ∧ x.2.1.1 ≤ l.length ∧ oIntsF l x.1 x.2.1 x.2.2 = T1) (n := N0) (x := (N0, s2, [])) ?_ ⟨rfl, by simp, e2, hT1⟩ ?_
  · skip
    refine Norm.trans (Norm.forget (u := .nd [.int .i64 (1 + k.2), .ow 1 [], .nils 1]) 3 0 rfl (.inr ⟨_, rfl, ⟨_, _, rfl, rfl, ⟨_, _, rfl, .inr (.inr rfl), ⟨_, _, rfl, .inl rfl, rfl⟩⟩⟩⟩)) ?_
    simp only [Heap.put, List.getElem?_cons_zero, List.getElem?_cons_succ, List.set_cons_succ, List.set_cons_zero]
    refine Norm.trans (Norm.expelVar 3 0 rfl) ?_
    simp only [Heap.put, List.getElem?_cons_zero, List.getElem?_cons_succ, List.set_cons_succ, List.set_cons_zero, thawA, thawAL, List.length_cons, List.length_nil, Nat.reduceAdd, List.nil_append, List.append_nil, List.cons_append, Nat.zero_add]
    exact Norm.re [0, 1, 3, 5] (by decide) rfl (by first | (simp only [eq_self, heapFits, rowFits, obFits, List.getElem?_cons_zero, List.getElem?_cons_succ, renL_o, renL_b, true_and, and_true, and_self]; done) | simp [-List.map_append, heapFits, rowFits, obFits, T.ren, renL]) (by simp [tmFits, T.ren])
  rintro N ⟨r, s', acc⟩ ⟨hN, hr, hs, hT⟩
  simp only at hN hr hs hT ⊢
  have fy := Nat.add_zero
  refine goS ?_
  refine SW.cond rfl (fun hc => ?_) (fun hc => ?_)
  · have hpos : 0 < r := by simp at hc; omega
    obtain ⟨r, rfl⟩ : ∃ r', r = r' + 1 := ⟨r - 1, by omega⟩
    simp only [oIntsF] at hT
    obtain ⟨f1, q1, d1⟩ := belowF_ok l s' 50 hl hs
    generalize belowF l s' 50 = y at *
    obtain ⟨f2, q2, d2'⟩ := intF_ok l y.1 [0, 1, -1, 7, 1000000, -1000000, y.2] hl f1 (by simp) (by simp)
    have d2 : CallR Try.prog 92 [.io (.nd [.sl .s (l.map Enc.b), .int .i64 (y.1.1 : Nat), .int .i64 y.1.2]), .sl .b [.int .i64 0, .int .i64 1, .int .i64 (-1), .int .i64 7, .int .i64 1000000, .int .i64 (-1000000), .int .i64 y.2]] [.nd [.sl .s (l.map Enc.b), .int .i64 (((intF l y.1 [0, 1, -1, 7, 1000000, -1000000, y.2]).1).1 : Nat), .int .i64 ((intF l y.1 [0, 1, -1, 7, 1000000, -1000000, y.2]).1).2]] (.int .i64 (intF l y.1 [0, 1, -1, 7, 1000000, -1000000, y.2]).2) := d2'
    clear d2' q2
    generalize intF l y.1 [0, 1, -1, 7, 1000000, -1000000, y.2] = z at *
    have hwr : IntKind.i64.wrap (((r + 1 : Nat) : Int) - 1) = (r : Int) := by rw [wrap64 _ (by omega) (by omega)]; omega
    have hb7 := fun own => buildN (Y := Y) (own := own) (t := 34) (n := 7) (ps := [(0, .int .i64 0), (1, .int .i64 1), (2, .int .i64 (-1)), (3, .int .i64 7), (4, .int .i64 1000000), (5, .int .i64 (-1000000)), (6, .int .i64 y.2)]) (r := [.int .i64 0, .int .i64 1, .int .i64 (-1), .int .i64 7, .int .i64 1000000, .int .i64 (-1000000), .int .i64 y.2]) Y34 Y3 rfl (by decide) rfl
    have hap := fun (own e j e2 j2 : Nat) (H : Heap) (q1 : H.at e j = some (.arr 1 ((acc).map Enc.o) false)) (q2 : H.at e2 j2 = some (.arr 1 [.int .i64 z.2] false)) => append_runP (Y := Y) (own := own) (t := 34) (u := 34) (e := e) (j := j) (off := 0) (n := (acc).length) (e2 := e2) (j2 := j2) (f := (acc).map Enc.o) (l := acc) (x := z.2) (H := H) Y34 Y34 Y3 rfl (by decide) q1 q2 (by rw [List.drop_zero]; exact take_map_len _ _) (by simp) (by omega) rfl rfl
    have hC1 := cx [.io] (d1)
    have hC2 := cx [.io] (d2)
    have fy := And.intro hwr (And.intro hb7 (And.intro bs1_34 (hap)))
    have hD1 := dx 5 [5, 1, 1, 1, 1, 2] [(1, 1), (1, 2), (1, 3), (1, 4)]
    have hD2 := dx 9 [5, 1, 1, 1, 1, 2] [(1, 1), (1, 2), (1, 3), (1, 4)]
    refine goR ?_ ?_ ?_ ?_ ?_ ?_ ?_ ?_ ?_ ?_ ?_ ?_ ?_ ?_ ?_ ?_
    any_goals (first | exact True.intro | skip)
    all_goals (repeat (refine Wh.mk fun hcc => ?_))
    refine ⟨N - 1, (r, z.1, acc ++ [z.2]), by omega, ⟨by simp only; omega, by simp only [List.length_append, List.length_cons, List.length_nil]; omega, f2, hT⟩, ?_⟩
    exact Norm.re [0, 1, 2, 8] (by decide) rfl (by first | (simp only [eq_self, heapFits, rowFits, obFits, List.getElem?_cons_zero, List.getElem?_cons_succ, renL_o, renL_b, true_and, and_true, and_self]; done) | simp [-List.map_append, heapFits, rowFits, obFits, T.ren, renL]) (by simp [tmFits, T.ren])
  · have hr0 : r = 0 := by
      have : ¬ 0 < r := by simp at hc; omega
      omega
    subst hr0
    simp only [oIntsF] at hT
    subst hT
    simp only at hA ⊢
    obtain ⟨hA1, hA2, hA3⟩ := hA
    obtain ⟨e3, p3, c3⟩ := belowF_ok l s' 4 hl hs
    generalize belowF l s' 4 = m at *
    obtain ⟨s3, m2⟩ := m
    simp only at e3 p3 c3 ⊢
    obtain ⟨M0, rfl⟩ : ∃ M0 : Nat, m2 = (M0 : Int) := ⟨m2.toNat, by omega⟩
    have hM0 : M0 ≤ 3 := by have := p3.2 (by decide); omega
    rw [Int.toNat_natCast]
    generalize hT2 : oRefsF l M0 s3 [] = T2 at *
    have hC1 := cx [.io] (c3)
    have fy := Nat.add_zero
    have hD1 := dx 5 [5, 1, 1, 1, 1, 2] [(1, 1), (1, 2), (1, 3), (1, 4)]
    have hD2 := dx 9 [5, 1, 1, 1, 1, 2] [(1, 1), (1, 2), (1, 3), (1, 4)]
    refine goN ?_ ?_ ?_ ?_ ?_ ?_ ?_ ?_ ?_ ?_ ?_ ?_ ?_ ?_ ?_ ?_
    any_goals (first | exact True.intro | skip)
    skip
    refine SW.loop (fun x : Nat × CS × List Int => ⟨[.ptr 0 0 [] 0, .undef, .ptr 1 0 [] 0, .ptr 2 0 [] 0, .undef, .int .i64 (x.1 : Nat), .undef, .undef, .undef, .undef, .undef, .undef, .undef, .undef, .undef, .undef, .undef, .undef, .undef, .undef, .undef, .undef, .undef, .undef, .undef, .undef, .undef, .undef, .undef, .undef, .undef, .undef, .undef, .undef, .undef, .undef, .undef, .undef, .undef, .undef, .undef, .undef, .undef], [[.var (.nd [.sl .s (l.map Enc.b), .int .i64 (x.2.1.1 : Nat), .int .i64 x.2.1.2])], [.var (.nd [.int .i64 0, .nils 1, .nils 1])], [.var (.nd [.int .i64 (1 + k.2), .ref 3 0 0 acc.length, .ref 4 0 0 x.2.2.length])], [.arr 1 (acc.map Enc.o) false], [.arr 1 (x.2.2.map Enc.o) false]]⟩)
      (fun N x => N = x.1 ∧ x.1 + x.2.2.length = M0 ∧ x.2.1.1 ≤ l.length ∧ oRefsF l x.1 x.2.1 x.2.2 = T2) (n := M0) (x := (M0, s3, [])) ?_ ⟨rfl, by simp, e3, hT2⟩ ?_
    · skip
      refine Norm.trans (Norm.forget (u := .nd [.int .i64 (1 + k.2), .ref 3 0 0 acc.length, .ow 1 []]) 2 0 rfl (.inr ⟨_, rfl, ⟨_, _, rfl, rfl, ⟨_, _, rfl, .inl rfl, ⟨_, _, rfl, .inr (.inr rfl), rfl⟩⟩⟩⟩)) ?_
      simp only [Heap.put, List.getElem?_cons_zero, List.getElem?_cons_succ, List.set_cons_succ, List.set_cons_zero]
      refine Norm.trans (Norm.expelVar 2 0 rfl) ?_
      simp only [Heap.put, List.getElem?_cons_zero, List.getElem?_cons_succ, List.set_cons_succ, List.set_cons_zero, thawA, thawAL, List.length_cons, List.length_nil, Nat.reduceAdd, List.nil_append, List.append_nil, List.cons_append, Nat.zero_add]
      exact Norm.re [0, 1, 2, 3, 5] (by decide) rfl (by first | (simp only [eq_self, heapFits, rowFits, obFits, List.getElem?_cons_zero, List.getElem?_cons_succ, renL_o, renL_b, true_and, and_true, and_self]; done) | simp [-List.map_append, heapFits, rowFits, obFits, T.ren, renL]) (by simp [tmFits, T.ren])
    rename_i s0
    rintro N ⟨r, s', acc2⟩ ⟨hN, hr, hs, hT⟩
    simp only at hN hr hs hT ⊢
    have fy := Nat.add_zero
    refine goS ?_
    refine SW.cond rfl (fun hc => ?_) (fun hc => ?_)
    · have hpos : 0 < r := by simp at hc; omega
      obtain ⟨r, rfl⟩ : ∃ r', r = r' + 1 := ⟨r - 1, by omega⟩
      simp only [oRefsF] at hT
      obtain ⟨f1, q1, d1⟩ := belowF_ok l s' 32 hl hs
      generalize belowF l s' 32 = y at *
      obtain ⟨f2, q2, d2'⟩ := intF_ok l y.1 [0, 1, 2, 3, 5, 8, 12, 31, y.2] hl f1 (by simp) (by simp)
      have d2 : CallR Try.prog 92 [.io (.nd [.sl .s (l.map Enc.b), .int .i64 (y.1.1 : Nat), .int .i64 y.1.2]), .sl .b [.int .i64 0, .int .i64 1, .int .i64 2, .int .i64 3, .int .i64 5, .int .i64 8, .int .i64 12, .int .i64 31, .int .i64 y.2]] [.nd [.sl .s (l.map Enc.b), .int .i64 (((intF l y.1 [0, 1, 2, 3, 5, 8, 12, 31, y.2]).1).1 : Nat), .int .i64 ((intF l y.1 [0, 1, 2, 3, 5, 8, 12, 31, y.2]).1).2]] (.int .i64 (intF l y.1 [0, 1, 2, 3, 5, 8, 12, 31, y.2]).2) := d2'
      clear d2' q2
      generalize intF l y.1 [0, 1, 2, 3, 5, 8, 12, 31, y.2] = z at *
      have hwr : IntKind.i64.wrap (((r + 1 : Nat) : Int) - 1) = (r : Int) := by rw [wrap64 _ (by omega) (by omega)]; omega
      have hb7 := fun own => buildN (Y := Y) (own := own) (t := 34) (n := 9) (ps := [(0, .int .i64 0), (1, .int .i64 1), (2, .int .i64 2), (3, .int .i64 3), (4, .int .i64 5), (5, .int .i64 8), (6, .int .i64 12), (7, .int .i64 31), (8, .int .i64 y.2)]) (r := [.int .i64 0, .int .i64 1, .int .i64 2, .int .i64 3, .int .i64 5, .int .i64 8, .int .i64 12, .int .i64 31, .int .i64 y.2]) Y34 Y3 rfl (by decide) rfl
      have hap := fun (own e j e2 j2 : Nat) (H : Heap) (q1 : H.at e j = some (.arr 1 ((acc2).map Enc.o) false)) (q2 : H.at e2 j2 = some (.arr 1 [.int .i64 z.2] false)) => append_runP (Y := Y) (own := own) (t := 34) (u := 34) (e := e) (j := j) (off := 0) (n := (acc2).length) (e2 := e2) (j2 := j2) (f := (acc2).map Enc.o) (l := acc2) (x := z.2) (H := H) Y34 Y34 Y3 rfl (by decide) q1 q2 (by rw [List.drop_zero]; exact take_map_len _ _) (by simp) (by omega) rfl rfl
      have hC1 := cx [.io] (d1)
      have hC2 := cx [.io] (d2)
      have fy := And.intro hwr (And.intro hb7 (And.intro bs1_34 (hap)))
      have hD1 := dx 5 [5, 1, 1, 1, 1, 2] [(1, 1), (1, 2), (1, 3), (1, 4)]
      have hD2 := dx 9 [5, 1, 1, 1, 1, 2] [(1, 1), (1, 2), (1, 3), (1, 4)]
      refine goR ?_ ?_ ?_ ?_ ?_ ?_ ?_ ?_ ?_ ?_ ?_ ?_ ?_ ?_ ?_ ?_
      any_goals (first | exact True.intro | skip)
      all_goals (repeat (refine Wh.mk fun hcc => ?_))
      refine ⟨N - 1, (r, z.1, acc2 ++ [z.2]), by omega, ⟨by simp only; omega, by simp only [List.length_append, List.length_cons, List.length_nil]; omega, f2, hT⟩, ?_⟩
      exact Norm.re [0, 1, 2, 3, 9] (by decide) rfl (by first | (simp only [eq_self, heapFits, rowFits, obFits, List.getElem?_cons_zero, List.getElem?_cons_succ, renL_o, renL_b, true_and, and_true, and_self]; done) | simp [-List.map_append, heapFits, rowFits, obFits, T.ren, renL]) (by simp [tmFits, T.ren])
    · have hr0 : r = 0 := by
        have : ¬ 0 < r := by simp at hc; omega
        omega
      subst hr0
      simp only [oRefsF] at hT
      subst hT
      have fy := Nat.add_zero
      have hD1 := dx 5 [5, 1, 1, 1, 1, 2] [(1, 1), (1, 2), (1, 3), (1, 4)]
      have hD2 := dx 9 [5, 1, 1, 1, 1, 2] [(1, 1), (1, 2), (1, 3), (1, 4)]
      refine goR ?_ ?_ ?_ ?_ ?_ ?_ ?_ ?_ ?_ ?_ ?_ ?_ ?_ ?_ ?_ ?_
      any_goals (first | exact True.intro | skip)
      all_goals (repeat (refine Wh.mk fun hcc => ?_))
      all_goals exact SW.ret (show RetQ _ _ _ _ _ _ _ from RetQ.y [0] [.nd [.int .i64 (1 + k.2), .ow 1 (acc.map Enc.o), .ow 1 (acc2.map Enc.o)]])
end Q6
